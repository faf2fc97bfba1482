/- The row and the card of the law DumpRows, out of its walk: for every input the law answers true and its arguments stay; no condition of its own. The row's frame is the guide's; written by a program of this session (wip/mkrow.py). -/
import Derived.Test.YtcgbgifbajdhpaaGreatDoorZE9
import Derived.Test.YtcgbgifbajdhpaaGreatDoorZE10
import Derived.Test.YtcgbgifbajdhpaaGreatDoorZE3
import Derived.Test.YtcgbgifbajdhpaaGreatDoorRows
import Derived.Test.YtcgbgifbajdhpaaGreatDoorCards
import Derived.Test.YtcgbgifbajdhpaaGreatDoorTie
import Derived.WalkKit
import Derived.ProofKit
import Derived.OpenShut
import Derived.ShutString
import Derived.ChangeOld
import Derived.Below
import Derived.SizedLaws
import Derived.LaidSub
import Derived.Deep.DeepHandedRow
import Derived.Lib.LaidTab
import Derived.Lib.SmallJoins
import Derived.ChangeSlices
import Derived.ChangeSame
set_option linter.unusedVariables false
set_option linter.unusedSimpArgs false
set_option maxHeartbeats 4000000
set_option maxRecDepth 100000
namespace Go.Proofs.YtcgbgifbajdhpaaGreatDoor.PA
open Go.RowKit Go.Proofs.YtcgbgifbajdhpaaGreatDoor.G Go.Proofs.YtcgbgifbajdhpaaGreatDoorW.au Go.Proofs.YtcgbgifbajdhpaaGreatDoorW.aI Go.Proofs.YtcgbgifbajdhpaaGreatDoorW.aJ
def uf (xs:List (List SR)) (i:Int):List SR:=xs.getD i.toNat []
theorem Nc {w:World} {A:Option Addr} {n:Nat} {xs:List (List SR)} (h:Kd.C FR w A n xs) (i:Int) (h0:0≤i) (h1:i<n):∃ ad A0 c0,A=some ad∧w.cell? (ad.add i.toNat)=some (.slice A0 (uf xs i).length c0)∧(uf xs i).length≤c0∧Kd.C kR w A0 (uf xs i).length (uf xs i):=by
 obtain⟨ad,c,e,_,hK,hc0⟩:=Kd.ng h [] i h0 h1
 obtain⟨A0,c0,rfl,l0,g0⟩:=hK
 refine⟨ad,A0,c0,e,?_,l0,g0⟩
 have h2:=hc0 0 _ rfl
 rwa [show FR.sz=1 from rfl,Nat.mul_one,Nat.add_zero] at h2
theorem KL {l:List cB} (h:Hq l):∀ x∈iE l,x.f0.length≤1000000:=fun x hx=>by
 obtain⟨y,hy,hx⟩:=List.mem_flatMap.1 hx
 obtain⟨s,_,rfl⟩:=List.mem_map.1 hx
 exact (h y hy).2.1
end Go.Proofs.YtcgbgifbajdhpaaGreatDoor.PA
namespace Go.Proofs.YtcgbgifbajdhpaaGreatDoor.G.DumpRows
open Go.RowKit Go.Proofs.YtcgbgifbajdhpaaGreatDoor.PA Go.Proofs.YtcgbgifbajdhpaaGreatDoor.G Go.Proofs.YtcgbgifbajdhpaaGreatDoorW.au Go.Proofs.YtcgbgifbajdhpaaGreatDoorW.aI Go.Proofs.YtcgbgifbajdhpaaGreatDoorW.aJ
theorem walk (A:Option Addr) (c:Nat) (l:List cB) (q:Int) (w:World) (hr:Kd.C mK w A l.length l) (hc:l.length≤c) (hw:okW l∧l.length*48≤140737488355328) (hq:(Lit.int .i64 q).wf=true) (hT:kH w) (hQ:kg w) :
 Calls Tryz.prog 7 #[.slice A l.length c,.int .i64 q] w fun e w'=>e = .returned (.bool true)∧Below w.heap.size w w':=by
 obtain⟨r,hf,hr8,hP⟩:=Pv l (by omega) 6 50
 have hz:=L8 hw.1 50 (by decide) hP
 have HZ:=ah.mk hz
 have h60:∀ x∈r,x.f1.length≤60:=fun x hx=>Nat.le_trans (hP x hx).2.2 (by decide)
 have htt:=KZ h60
 have H8:=ah.mk hr8
 have HTT:ah (tot r≤10000):=⟨by omega⟩
 have FEW:=ah.mk (aW.calls (l.length+1) (fun k=>k<w.heap.size) A c l 6 50 r w (Kd.Bl hc (Kd.Qu J5 hr)) hf)
 have HT:=ah.mk hT
 have HQ:=ah.mk hQ
 have hqb:q<9223372036854775808:=by
  simp[Lit.wf,IntKind.min,IntKind.max,IntKind.signed,IntKind.bits] at hq
  omega
 obtain⟨eb,ee,henc⟩:∃ eb ee,pJ r q=(eb,ee):=⟨_,_,rfl⟩
 have HENC:=ah.mk henc
 have HEB:ah (eb.length≤10000∧∀ p∈eb,(1≤p.length∧(p.length:Int)≤q)∧p.length≤1000000∧∀ x∈p,x.f0.length≤1000000):=⟨by
  rw[pJ] at henc
  split at henc
  ·rename_i hcq
   cases henc
   have hlen:=kF r
   have h1:=JC q.toNat (iE r) (by omega)
   refine⟨by omega,fun p hp=>?_⟩
   have h2:=LU (by omega) p hp
   refine⟨⟨h2.1,by omega⟩,?_,fun x hx=>KL hz x (JD hp x hx)⟩
   obtain⟨j,_,rfl⟩:=List.mem_map.1 hp
   rw[sF]
   omega
  ·cases henc
   exact⟨by simp,fun p hp=>by cases hp⟩⟩
 have hee:(ee != ee)=false:=by simp
 have hle:((eb.length:Int) != (eb.length:Int))=false:=by simp
 clear hr hc hw hq hT hQ hf hr8 hP henc hz h60 htt
 go_enter Tryz.func7,Tryz.ntmps7
 go_wp2_with (first
  | (go_at_call 8;(with_reducible refine FEW.o.mono ?_);rintro e w1 ⟨v1,rfl,hn,hb⟩;obtain⟨A1,c1,rfl,hc1,hC1⟩:=Kd.jH hn;have HO1:=ah.mk hC1;have HL1:=ah.mk hc1;have HB1:=ah.mk hb;clear hn hc1 hC1 hb)
  | (go_at_call 25;(with_reducible refine (Pk.calls A1 c1 r.length r q eb ee _ rfl HO1.o HL1.o HZ.o (Nat.le_trans H8.o (by decide)) HTT.o hqb HENC.o).mono ?_);rintro e w2 ⟨v2,rfl,hn,hb⟩;obtain⟨A2,c2,rfl,hc2,hC2⟩:=Kd.jH hn;have HO2:=ah.mk hC2;have HO12:=ah.mk (Kd.aH HO1.o hb);have HB2:=ah.mk (ak HB1.o hb);clear hn hb hC2 hc2)
  | (go_at_call 26;(with_reducible refine (PL.calls A1 c1 r.length r q eb ee _ rfl HO12.o HL1.o HZ.o (Nat.le_trans H8.o (by decide)) HTT.o hqb HENC.o).mono ?_);rintro e w3 ⟨v3,rfl,hn,hb⟩;obtain⟨A3,c3,rfl,hc3,hC3⟩:=Kd.jH hn;have HO3:=ah.mk hC3;have HO23:=ah.mk (Kd.aH HO2.o hb);have HB3:=ah.mk (ak HB2.o hb);clear hn hb hC3 hc3))
 go_loopg [36] eb.length (fun kx s36 wr=>∃ k:Nat,s36 = .int .i64 k∧k≤eb.length∧eb.length-k≤kx∧ah (Below w3.heap.size w3 wr))
 case atStart=>exact⟨0,rfl,Nat.zero_le _,Nat.le_refl _,⟨Below.refl _ _⟩⟩
 case round=>
  obtain⟨k,rfl,hk,hkx,HB⟩:=hrel
  have HBW:=ah.mk (ak HB3.o HB.o)
  by_cases hlt:k<eb.length
  ·obtain⟨ad,A0,c0,rfl,x0,l0,g0⟩:=Nc (Kd.aH HO23.o HB.o) (k:Int) (by omega) (by omega)
   obtain⟨ae,B0,d0,rfl,y0,m0,h0⟩:=Nc (Kd.aH HO3.o HB.o) (k:Int) (by omega) (by omega)
   rw[Int.toNat_natCast] at x0 y0
   have hkz:(k:Int)<(eb.length:Int):=by omega
   have heb:=HEB.o.1
   have hp:=HEB.o.2 (uf eb (k:Int)) (by
    have e:uf eb (k:Int)=eb[k]:=by simp[uf,List.getD_eq_getElem?_getD,List.getElem?_eq_getElem hlt]
    rw[e]
    exact List.getElem_mem hlt)
   generalize uf eb (k:Int)=p at *
   obtain⟨n0,hn0⟩:∃ n0,p.length=n0:=⟨_,rfl⟩
   have SM:=ah.mk (fun W (hb:Below wr.heap.size wr W)=>MK.calls A0 B0 c0 d0 n0 p W hn0 (hn0 ▸ Kd.aH g0 hb) (hn0 ▸ Kd.aH h0 hb) (by have:=hp.2.1;omega) hp.2.2)
   rw[hn0] at x0 y0
   have hz0:((n0:Int)==0)=false:=beq_eq_false_iff_ne.2 (by omega)
   have hz1:¬ (n0:Int)=0:=by omega
   have hq0:¬ (n0:Int)>q:=by omega
   have hq1:decide ((n0:Int)>q)=false:=decide_eq_false hq0
   have xA:=fun (b:BW wr)=>BW.cell x0 b
   have yA:=fun (b:BW wr)=>BW.cell y0 b
   clear g0 h0 l0 m0 hp hn0
   go_wp2_with fail
   refine bT (by kernel_rfl) (by kernel_rfl) ?_
   repeat (any_goals (first | go_big_quiet_step (first|(go_at_call 27;refine bX (SM.o _ ?_);exact BW.hb _))|quiet_step (first|(go_at_call 27;refine bX (SM.o _ ?_);exact BW.hb _))))
   all_goals (refine wpQuiet_nil ?_;intro _ hw';obtain⟨⟨w5,hb⟩,hw''⟩:=hw';subst hw'';have HB5:=ah.mk (ak HB.o hb);clear hb)
   go_wp2
   go_roundg (eb.length-(k+1))
   case measure=>omega
   case rel=>exact⟨k+1,by go_num,hlt,Nat.le_refl _,HB5⟩
  ·obtain rfl:k=eb.length:=by omega
   have hkz:¬ (eb.length:Int)<(eb.length:Int):=by omega
   go_wp2_with (first|(go_at_call 12;(with_reducible refine (PA.N7.calls _ (HT.o.below HBW.o) (HQ.o.below HBW.o)).mono ?_);rintro e w7 ⟨rfl,hb⟩;have HB7:=ah.mk (ak HBW.o hb);clear hb))
   go_ret
   exact⟨rfl,HB7.o⟩
end Go.Proofs.YtcgbgifbajdhpaaGreatDoor.G.DumpRows
namespace Go.Proofs.YtcgbgifbajdhpaaGreatDoor.dumpRows
open Go.ChangeShapes Go.WideShapes Go.ChangeAt Go.RowKit
open Go.ChangeMaps (open_string shut_string)
open Go.Proofs.YtcgbgifbajdhpaaGreatDoorW
theorem own:ownKnob Tryz.prog.godebug=none:=by kernel_rfl
theorem laidOut:laidOutB Tryz.prog=true:=by kernel_rfl
def Qv (k:IntKind) (w:World) (a:Option Addr) (len cap:Nat) (zs:List Int):Prop:=
 (a=none∧len=0∧cap=0∧zs=[]) ∨
 ∃ x,a=some x∧len≤cap∧cap≤maxLen∧zs.length=cap∧(∀ i,i<zs.length→w.cell? (x.add i)=some (.int k (zs.getD i 0)))∧∀ n∈zs,(Lit.int k n).wf=true
theorem yM:Tryz.prog.globalNamed "dryrot/crc.quarter" = some 1:=by kernel_rfl
theorem Io:(Tryz.prog.globals[1]?).map (·.type)=some 193:=by kernel_rfl
theorem Gu:Tryz.prog.cellsOf 193=4:=by kernel_rfl
theorem GK:Tryz.prog.cellsOf 108=1:=by kernel_rfl
theorem nk:Tryz.prog.globalNamed "math/bits.deBruijn64tab" = some 0:=by kernel_rfl
theorem uG:(Tryz.prog.globals[0]?).map (·.type)=some 192:=by kernel_rfl
theorem um:Tryz.prog.cellsOf 192=64:=by kernel_rfl
theorem uq:Tryz.prog.cellsOf 5=1:=by kernel_rfl
theorem xX {P:Program} {W:World} {l:List (String × DataW Unit)} (n:String) {d:DataW Unit} (he:l.filter (fun x=>x.1==n)=[(n,d)]) (h:laidMetH P l W):laidMetH P [(n,d)] W:=by
 have h2:=laidMetH.filter (fun x=>x.1==n) h
 rw[he] at h2
 exact h2
theorem Dw {W:World} (h:laidMetH Tryz.prog Rows.dumpRowsRow.laid W):Lib.TabIs Tryz.prog W "dryrot/crc.quarter" .u32 [0,1098587580,2197175160,3280807620]:=
 Lib.tabIs_of_head (rest:=_) yM Io Tryz.underlying193 Tryz.underlying108 GK Gu h
theorem qZ {W:World} (h:laidMetH Tryz.prog Rows.dumpRowsRow.laid W):Lib.TabIs Tryz.prog W "math/bits.deBruijn64tab" .u8 [0,1,56,2,57,49,28,3,61,58,42,50,38,29,17,4,62,47,59,36,45,43,51,22,53,39,33,30,24,18,12,5,63,55,48,27,60,41,37,16,46,35,44,21,52,32,23,11,54,26,40,15,34,20,31,10,25,14,19,9,13,8,7,6]:=
 Lib.tabIs_of_head (rest:=_) nk uG Tryz.underlying192 Tryz.underlying5 uq um (xX "math/bits.deBruijn64tab" (d:=Lib.tabData .u8 [0,1,56,2,57,49,28,3,61,58,42,50,38,29,17,4,62,47,59,36,45,43,51,22,53,39,33,30,24,18,12,5,63,55,48,27,60,41,37,16,46,35,44,21,52,32,23,11,54,26,40,15,34,20,31,10,25,14,19,9,13,8,7,6]) (by kernel_rfl) h)
theorem N8:∀ j,j<64→([0,1,56,2,57,49,28,3,61,58,42,50,38,29,17,4,62,47,59,36,45,43,51,22,53,39,33,30,24,18,12,5,63,55,48,27,60,41,37,16,46,35,44,21,52,32,23,11,54,26,40,15,34,20,31,10,25,14,19,9,13,8,7,6]:List Int).getD j 0=((Lib.deBruijn64tab.getD j 0:Nat):Int):=by decide
def CO:Obj→Obj
 | .cells _ t frozen => .cells #[.int .u32 0,.int .u32 1098587580,.int .u32 2197175160,.int .u32 3280807620] t frozen
 | o=>o
def qJ:Obj→Obj
 | .cells _ t frozen => .cells #[.int .u8 0,.int .u8 1,.int .u8 56,.int .u8 2,.int .u8 57,.int .u8 49,.int .u8 28,.int .u8 3,.int .u8 61,.int .u8 58,.int .u8 42,.int .u8 50,.int .u8 38,.int .u8 29,.int .u8 17,.int .u8 4,.int .u8 62,.int .u8 47,.int .u8 59,.int .u8 36,.int .u8 45,.int .u8 43,.int .u8 51,.int .u8 22,.int .u8 53,.int .u8 39,.int .u8 33,.int .u8 30,.int .u8 24,.int .u8 18,.int .u8 12,.int .u8 5,.int .u8 63,.int .u8 55,.int .u8 48,.int .u8 27,.int .u8 60,.int .u8 41,.int .u8 37,.int .u8 16,.int .u8 46,.int .u8 35,.int .u8 44,.int .u8 21,.int .u8 52,.int .u8 32,.int .u8 23,.int .u8 11,.int .u8 54,.int .u8 26,.int .u8 40,.int .u8 15,.int .u8 34,.int .u8 20,.int .u8 31,.int .u8 10,.int .u8 25,.int .u8 14,.int .u8 19,.int .u8 9,.int .u8 13,.int .u8 8,.int .u8 7,.int .u8 6] t frozen
 | o=>o
noncomputable def r9 (os:Os):World:=
 { World.holding Tryz.prog os ⟨#[],#[],[]⟩ with heap:=(((World.holding Tryz.prog os ⟨#[],#[],[]⟩).heap).modify 1 CO).modify 0 qJ }
theorem J6 (os:Os):laidMet Tryz.prog Rows.dumpRowsRow.laid ((r9 os).forCall (fun _ _=>0) ⟨#[],#[.slice none 0 0,.int .i64 0],[]⟩).memory:=
 laidMet_of_run' 8 (by kernel_rfl) (by kernel_rfl)
theorem reads (os:Os) {H:Type} (enc:TypeId × Value→H):∃ places,DataW.whole enc Tryz.prog ((r9 os).forCall (fun _ _=>0) ⟨#[],#[.slice none 0 0,.int .i64 0],[]⟩).memory Tryz.f7.params.toList Rows.dumpRowsSpec.vars false #[(Value.slice none 0 0),.int .i64 0].toList 8=some ([.nil,.lit (.int .i64 0)],[],places):=
 ⟨[],by kernel_rfl⟩
theorem M6 {H:Type} {P:Program} {t:TypeId} {ts:List TypeId} {d:DataW H} {ds:List (DataW H)} (h:(DataW.weightsEach P (t::ts) (d::ds)).all (· ≤ reachBytes)=true):(DataW.weightsEach P ts ds).all (· ≤ reachBytes)=true:=by
 rw[DataW.weightsEach,List.all_append,Bool.and_eq_true] at h
 exact h.2
theorem lifted (os:Os) (started:os.Started) (H:Type) (enc:TypeId × Value→H) (F:Stop.Interp) :
 ReturnsInHanded {} Tryz.checked os 7 .any ((OpenSpec.ofChange Rows.dumpRowsSpec).preRow enc Tryz.prog Tryz.f7 Rows.dumpRowsRow.domain false Rows.dumpRowsRow.laid) (((OpenSpec.ofChange Rows.dumpRowsSpec).at F).post enc Tryz.prog Tryz.f7 false true false false):=by
 obtain⟨places,hx⟩:=reads os enc
 refine returnsInHanded_of_row (C:=Tryz.checked) (s:=(OpenSpec.ofChange Rows.dumpRowsSpec)) own started (by kernel_rfl) Tryz.func7
  (witness_row_at (enc:=enc) (C:=Tryz.checked) false (r9 os) #[.slice none 0 0,.int .i64 0] rfl (by kernel_rfl) (by kernel_rfl) (by kernel_rfl)
   (OpenSpec.preRow_of_cond 8 hx (by kernel_rfl) (fun k hk=>by cases hk) (by kernel_rfl) (J6 os))) ?_
 intro W base args ds gs before hval0 hW _ hcond hsz0 hL _ _
 have hsz:(DataW.weightsEach Tryz.prog (Tryz.f7.params.toList++Rows.dumpRowsSpec.plain.varTypes Tryz.prog) (ds++gs)).all (· ≤ reachBytes)=true:=hsz0
 have hval:∀ (j:Nat) t v,Tryz.f7.params[j]? = some t→args[j]? = some v→Value.okWide Tryz.prog W .any base t v:=hval0
 have hW':=hW
 obtain⟨p,q,hA0,hV,rfl,hfz,hnd⟩:=hW
 have hA:DataW.TrodAll enc Tryz.prog W 0 (fun _=>true) true Tryz.f7.params.toList args.toList ds p:=hA0
 rw[Tryz.params7] at hA hval hsz
 obtain⟨v0,vs0,d0,ds0,p0,q0,hargs,rfl,rfl,h0,r0⟩:=trodAll_cons hA
 obtain⟨v1,vs1,d1,ds1,p1,q1,rfl,rfl,rfl,h1,r1⟩:=trodAll_cons r0
 obtain⟨rfl,rfl,rfl⟩:=trodAll_nil r1
 obtain rfl:args = #[v0,v1]:=by cases args;simp_all
 obtain⟨rfl,rfl⟩:=trodVars_none hV
 have k0:=h0
 have lt0:∀ x∈p0,x.block<W.heap.size:=by obtain⟨m,hm⟩:=k0;exact DataW.trod_lt m _ _ _ hm
 obtain⟨a0,cap0,l0,rfl,hr0,hc0,hw0⟩:=G.Ah (okWide_slice Tryz.underlying22 (hval 0 22 v0 rfl rfl)) hsz h0
 obtain⟨a1,rfl,rfl,rfl,w1⟩:=open_int Tryz.underlying3 (hval 1 3 v1 rfl rfl) h1
 have T_quarter:=Dw hL
 have T_deBruijn64tab:=qZ hL
 clear hA0 hval0 hsz0 hsz
 refine (G.DumpRows.walk a0 cap0 l0 a1 W hr0 hc0 hw0 w1 (⟨fun j hj=>(T_deBruijn64tab.cell nk j hj).trans (congrArg (fun z:Int=>some (Value.int .u8 z)) (N8 j hj))⟩) (⟨fun j hj=>by
  have:=T_quarter.cell yM j hj
  match j,hj with
  | 0,_ | 1,_ | 2,_ | 3,_=>exact this⟩)).mono fun e W' ⟨he,bel⟩=>?_
 subst he
 exact⟨_,rfl,_,_,_,[],_,[],hW',trodAll_mk1 (shut_bool Tryz.underlying4 _),(trodAll_cons_mk (Below.trod laidOut (by kernel_rfl) (of_decide_eq_true (by kernel_rfl)) k0 bel lt0) (trodAll_cons_mk (shut_int Tryz.underlying3 w1) trodAll_mk0)),rfl,bel.frame _,fun h=>by cases h⟩
theorem said:Rows.DumpRowsSaid:=
 OpenClaim.holds_of_cond 7 Tryz.f7 rfl rfl rfl rfl rfl rfl rfl ⟨rfl,rfl,rfl,rfl,rfl⟩ rfl rfl rfl rfl rfl (by kernel_rfl) Tryz.func7 (by kernel_rfl)
  (of_decide_eq_true (by kernel_rfl)) (by unfold Func.isWrapper;first|(rw[if_pos (by decide +kernel)];kernel_rfl)|(rw[if_neg (by decide +kernel)];exact⟨rfl,rfl⟩))
  (fun os started H enc _ F=>by rw[OpenClaim.pre_eq_preRow];exact lifted os started H enc F)
theorem plain (f:FuncId) (fn:Func) (hf:Tryz.pinned.checked.prog.funcNamed "dryrot/dryrotlaw31.DumpRows" = some f) (hfn:Tryz.pinned.checked.prog.funcs[f]? = some fn) :
 false=Tryz.pinned.checked.prog.looks []∧∀ (j:Nat) t,fn.params[j]? = some t→Tryz.pinned.checked.prog.wantsStandIn t=false:=by
 obtain rfl:f=7:=Option.some.inj ((show Tryz.prog.funcNamed "dryrot/dryrotlaw31.DumpRows" = some 7 by kernel_rfl).symm.trans hf) |>.symm
 obtain rfl:fn=Tryz.f7:=(Option.some.inj (Tryz.func7.symm.trans hfn)).symm
 refine⟨by kernel_rfl,fun j t ht=>?_⟩
 rw[Tryz.params7] at ht
 have ht:=Array.mem_of_getElem? ht
 simp only[List.mem_toArray,List.mem_cons,List.not_mem_nil,or_false] at ht
 rcases ht with rfl | rfl
 all_goals first | exact (show Tryz.prog.wantsStandIn 22=false by kernel_rfl)|exact (show Tryz.prog.wantsStandIn 3=false by kernel_rfl)
theorem proved:Rows.DumpRowsCardSaid:=
 Claim7.holds_tied_plain_at .later [] _ _ _ _ said (fun _ h=>by cases h) (by kernel_rfl) (fun _ h=>by cases h) dumpRows_row_tie rfl ⟨rfl,rfl⟩ (by kernel_rfl) rfl plain (by kernel_rfl)
#print axioms proved
end Go.Proofs.YtcgbgifbajdhpaaGreatDoor.dumpRows
