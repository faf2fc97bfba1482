/- The row and the card of the law DumpReads, out of its walk: for every input the law answers true and its arguments stay; no condition of its own. The row's frame is the guide's; written by a program of this session (wip/mkrow.py). -/
import Derived.Test.YtcgbgifbajdhpaaGreatDoorZH39
import Derived.Test.YtcgbgifbajdhpaaGreatDoorZH38
import Derived.Test.YtcgbgifbajdhpaaGreatDoorCards
import Derived.Test.YtcgbgifbajdhpaaGreatDoorTie
import Derived.Deep.DeepHandedRow
import Derived.Lib.SmallJoins
set_option linter.unusedVariables false
set_option linter.unusedSimpArgs false
set_option maxHeartbeats 4000000
set_option maxRecDepth 100000
namespace Go.Proofs.Y.PA
open Go.RowKit Go.Proofs.Y.G Go.Proofs.YW.oO Go.Proofs.YW.pq Go.Proofs.YW.pz
theorem P8 {l:List ru}(h:Na l):M8 l:=fun x hx=>⟨(h x hx).2.1,(h x hx).2.2.1⟩
theorem Nr {b:List Int}(h:Na (joinL (qL b)))(hl:(joinL (qL b)).length≤1000000):(uq b).1.length≤1000000∧M8 (uq b).1:=by
 unfold uq;split
 ·exact⟨hl,P8 h⟩
 ·exact⟨by simp,fun x hx=>by cases hx⟩
end Go.Proofs.Y.PA
namespace Go.Proofs.Y.G.DumpReads
open Go.RowKit Go.Proofs.Y.PA Go.Proofs.Y.G Go.Proofs.YW.oO Go.Proofs.YW.pq Go.Proofs.YW.pz
theorem walk (A:Option Addr)(c:Nat)(l:List Int)(w:World)(hr:Kd.C (Kd.int .u8) w A l.length l)(hc:l.length≤c)(hw:∀ x∈l,(Lit.int .u8 x).wf=true)(hs:l.length*1≤140737488351232)(hT:yN w)(hQ:zZ w) :
 Calls Tryz.prog 5 #[.slice A l.length c] w fun e w'=>e = .returned (.bool true)∧Below w.heap.size w w':=by
 obtain⟨L,hL⟩:∃ L,l.take 1500=L:=⟨_,rfl⟩;have hlm:(min (l.length:Int) 1500).toNat=L.length:=by rw[← hL,aW];omega
 have akI:L.length≤1500:=by rw[← hL,aW];omega
 have hLl:L.length≤l.length:=by rw[← hL,aW];omega
 have hok:okB L=true:=qV.2 fun x hx=>by
  have h1:=hw x (bT (hL ▸ hx));simp[Lit.wf,IntKind.min,IntKind.max,IntKind.signed,IntKind.bits] at h1;omega
 have hC0:Kd.C (Kd.int .u8) w A L.length L:=by
  have h1:=Kd.wZ hr hLl;have e:l.take L.length=L:=by rw[← hL,aW];rcases Nat.le_total 1500 l.length with h | h;rw[dJ h];rw[Nat.min_eq_right h,dz,iO h]
  rwa [e] at h1
 have hLc:L.length≤c:=by omega
 have FO:=VA akI;have CL:=Y7 (R7.c A c L L.length w rfl hC0 hLc (by omega));have RD:=Y7 (fun A1 c1 W (h1:Kd.C (Kd.int .u8) W A1 L.length L) (h2:L.length≤c1) (hb:Below w.heap.size w W)=>UA.c A1 c1 L.length L W rfl h1 h2 hok (by omega) (hQ.below hb) (hT.below hb) FO);have RR:=Y7 (fun W (hb:Below w.heap.size w W)=>Uu.c A c L.length L W rfl (Kd.o9 hC0 hb) hLc hok (by omega) FO);have SD:=Y7 (fun A1 c1 W (h1:Kd.C (Kd.int .u8) W A1 L.length L) (h2:L.length≤c1) (hb:Below w.heap.size w W)=>Yw.c A1 c1 L.length L W rfl h1 h2 hok (by omega) (hQ.below hb) (hT.below hb) FO);have RS:=Y7 (fun W (hb:Below w.heap.size w W)=>XH.c A c L.length L W rfl (Kd.o9 hC0 hb) hLc hok (by omega) FO);have FC:=Y7 (fun A1 c1 W (h1:Kd.C (Kd.int .u8) W A1 L.length L) (h2:L.length≤c1) (hb:Below w.heap.size w W)=>frames.c A1 c1 L.length L W rfl h1 h2 hok (by omega) (hQ.below hb));have RF:=Y7 (fun W (hb:Below w.heap.size w W)=>Us.c A c L.length L W rfl (Kd.o9 hC0 hb) hLc hok (by omega));have C0:=Y7 (fun W (hb:Below w.heap.size w W)=>Kd.o9 hC0 hb);have OS1:=Y7 (Nr FO.2.2.2.2.1 (by have:=FO.2.2.2.2.2.1;omega));have OS2:oM ((joinL (qL L)).length≤1000000∧M8 (joinL (qL L))):=⟨by have:=FO.2.2.2.2.2.1;omega,P8 FO.2.2.2.2.1⟩;have HT:=Y7 hT;have HQ:=Y7 hQ;have HLL:oM (L.length≤1000000):=⟨by omega⟩;have HLC:=Y7 hLc;clear hr hw hs hT hQ hC0 hok hL FO;generalize (uq L).1=J1 at *;generalize (uq L).2=e1 at *;generalize joinL (qL L)=J2 at *;generalize (qL L).length=n2 at *;generalize Xu L=i2 at *;generalize (tZ L).length=nf at *;have hq1:(e1==e1)=true:=beq_iff_eq.2 rfl;have hq2:((n2:Int)==(n2:Int))=true:=beq_iff_eq.2 rfl;have hq3:(i2==i2)=true:=beq_iff_eq.2 rfl;have hq4:((nf:Int)==(nf:Int))=true:=beq_iff_eq.2 rfl
 go_enter Tryz.func5,Tryz.ntmps5
 go_wp2_with (first
  | (go_at_call 16;(with_reducible refine CL.o.mono ?_);rintro e w1 ⟨v1,rfl,hr1,hb⟩;obtain⟨A1,c1,rfl⟩:=Kd.pO hr1;have HR1:=Y7 (Kd.pE hr1);have HB1:=Y7 hb;clear hr1 hb)
  | (go_at_call 14;(with_reducible refine (RD.o A1 c1 _ HR1.o.2.2 HR1.o.2.1 HB1.o).mono ?_);rintro e w2 ⟨A2,c2,rfl,hc2,hC2,hb⟩;have HC2:=Y7 hC2;have HG2:=Y7 (Kd.o9 HR1.o.2.2 hb);have HB2:=Y7 (oP HB1.o hb);clear hc2 hC2 hb)
  | (go_at_call 17;(with_reducible refine (RR.o _ HB2.o).mono ?_);rintro e w3 ⟨A3,c3,rfl,hc3,hC3,hb⟩;have HC3:=Y7 hC3;have adY:=Y7 (Kd.o9 HC2.o hb);have HG3:=Y7 (Kd.o9 HG2.o hb);have HB3:=Y7 (oP HB2.o hb);clear hc3 hC3 hb)
  | (go_at_call 18;(with_reducible refine (SD.o A1 c1 _ HG3.o HR1.o.2.1 HB3.o).mono ?_);rintro e w4 ⟨A4,c4,rfl,hc4,hC4,hb⟩;have HC4:=Y7 hC4;have ahE:=Y7 (Kd.o9 adY.o hb);have anM:=Y7 (Kd.o9 HC3.o hb);have HG4:=Y7 (Kd.o9 HG3.o hb);have HB4:=Y7 (oP HB3.o hb);clear hc4 hC4 hb)
  | (go_at_call 19;(with_reducible refine (RS.o _ HB4.o).mono ?_);rintro e w5 ⟨A5,c5,rfl,hc5,hC5,hb⟩;have HC5:=Y7 hC5;have anN:=Y7 (Kd.o9 HC4.o hb);have anO:=Y7 (Kd.o9 ahE.o hb);have anP:=Y7 (Kd.o9 anM.o hb);have HG5:=Y7 (Kd.o9 HG4.o hb);have HB5:=Y7 (oP HB4.o hb);clear hc5 hC5 hb)
  | (go_at_call 15;(with_reducible refine (Qg.c A2 A3 c2 c3 J1.length J1 _ rfl anO.o anP.o OS1.o.1 OS1.o.2).mono ?_);rintro e w6 ⟨rfl,hb⟩;have anQ:=Y7 (Kd.o9 anN.o hb);have anR:=Y7 (Kd.o9 HC5.o hb);have HG6:=Y7 (Kd.o9 HG5.o hb);have HB6:=Y7 (oP HB5.o hb);clear hb)
  | (go_at_call 15;(with_reducible refine (Qg.c A4 A5 c4 c5 J2.length J2 _ rfl anQ.o anR.o OS2.o.1 OS2.o.2).mono ?_);rintro e w7 ⟨rfl,hb⟩;have HG7:=Y7 (Kd.o9 HG6.o hb);have HB7:=Y7 (oP HB6.o hb);clear hb)
  | (go_at_call 20;(with_reducible refine (FC.o A1 c1 _ HG7.o HR1.o.2.1 HB7.o).mono ?_);rintro e w8 ⟨rfl,hb⟩;have HG8:=Y7 (Kd.o9 HG7.o hb);have HB8:=Y7 (oP HB7.o hb);clear hb)
  | (go_at_call 21;(with_reducible refine (RF.o _ HB8.o).mono ?_);rintro e w9 ⟨rfl,hb⟩;have HG9:=Y7 (Kd.o9 HG8.o hb);have HB9:=Y7 (oP HB8.o hb);clear hb)
  | (go_at_call 11;(with_reducible refine (WK A1 c1 A c L _ HG9.o HR1.o.2.1 (C0.o _ HB9.o) HLC.o HLL.o).mono ?_);rintro e wa ⟨rfl,hb⟩;have HBa:=Y7 (oP HB9.o hb);clear hb)
  | (go_at_call 12;(with_reducible refine (PA.Xj.c _ (HT.o.below HBa.o) (HQ.o.below HBa.o)).mono ?_);rintro e wz ⟨rfl,hb⟩;have HBz:=Y7 (oP HBa.o hb);clear hb))
 go_ret;exact⟨rfl,HBz.o⟩
end Go.Proofs.Y.G.DumpReads
namespace Go.Proofs.YtcgbgifbajdhpaaGreatDoor.dumpReads
open Go.ChangeShapes Go.WideShapes Go.ChangeAt Go.RowKit
open Go.ChangeMaps (open_string shut_string)
open Go.Proofs.YW
theorem own:ownKnob Tryz.prog.godebug=none:=by kernel_rfl
theorem laidOut:laidOutB Tryz.prog=true:=by kernel_rfl
def X7 (k:IntKind)(w:World)(a:Option Addr)(len cap:Nat)(zs:List Int):Prop:=
 (a=none∧len=0∧cap=0∧zs=[]) ∨
 ∃ x,a=some x∧len≤cap∧cap≤maxLen∧zs.length=cap∧(∀ i,i<zs.length→w.cell? (x.add i)=some (.int k (zs.getD i 0)))∧∀ n∈zs,(Lit.int k n).wf=true
theorem JC:Tryz.prog.globalNamed "dryrot/crc.quarter" = some 1:=by kernel_rfl
theorem RP:(Tryz.prog.globals[1]?).map (·.type)=some 193:=by kernel_rfl
theorem QA:Tryz.prog.cellsOf 193=4:=by kernel_rfl
theorem QM:Tryz.prog.cellsOf 108=1:=by kernel_rfl
theorem AP:Tryz.prog.globalNamed "math/bits.deBruijn64tab" = some 0:=by kernel_rfl
theorem Gn:(Tryz.prog.globals[0]?).map (·.type)=some 192:=by kernel_rfl
theorem Gd:Tryz.prog.cellsOf 192=64:=by kernel_rfl
theorem Gg:Tryz.prog.cellsOf 5=1:=by kernel_rfl
theorem Je {P:Program}{W:World}{l:List (String × DataW Unit)}(n:String){d:DataW Unit}(he:l.filter (fun x=>x.1==n)=[(n,d)])(h:laidMetH P l W):laidMetH P [(n,d)] W:=by
 have h2:=laidMetH.filter (fun x=>x.1==n) h;rw[he] at h2;exact h2
theorem NQ {W:World}(h:laidMetH Tryz.prog Rows.dumpReadsRow.laid W):Lib.TabIs Tryz.prog W "dryrot/crc.quarter" .u32 [0,1098587580,2197175160,3280807620]:=
 Lib.tabIs_of_head (rest:=_) JC RP Tryz.underlying193 Tryz.underlying108 QM QA h
theorem EG {W:World}(h:laidMetH Tryz.prog Rows.dumpReadsRow.laid W):Lib.TabIs Tryz.prog W "math/bits.deBruijn64tab" .u8 [0,1,56,2,57,49,28,3,61,58,42,50,38,29,17,4,62,47,59,36,45,43,51,22,53,39,33,30,24,18,12,5,63,55,48,27,60,41,37,16,46,35,44,21,52,32,23,11,54,26,40,15,34,20,31,10,25,14,19,9,13,8,7,6]:=
 Lib.tabIs_of_head (rest:=_) AP Gn Tryz.underlying192 Tryz.underlying5 Gg Gd (Je "math/bits.deBruijn64tab" (d:=Lib.tabData .u8 [0,1,56,2,57,49,28,3,61,58,42,50,38,29,17,4,62,47,59,36,45,43,51,22,53,39,33,30,24,18,12,5,63,55,48,27,60,41,37,16,46,35,44,21,52,32,23,11,54,26,40,15,34,20,31,10,25,14,19,9,13,8,7,6]) (by kernel_rfl) h)
theorem Xk:∀ j,j<64→([0,1,56,2,57,49,28,3,61,58,42,50,38,29,17,4,62,47,59,36,45,43,51,22,53,39,33,30,24,18,12,5,63,55,48,27,60,41,37,16,46,35,44,21,52,32,23,11,54,26,40,15,34,20,31,10,25,14,19,9,13,8,7,6]:List Int).getD j 0=((Lib.deBruijn64tab.getD j 0:Nat):Int):=by decide
def MX:Obj→Obj
 | .cells _ t frozen => .cells #[.int .u32 0,.int .u32 1098587580,.int .u32 2197175160,.int .u32 3280807620] t frozen
 | o=>o
def Eo:Obj→Obj
 | .cells _ t frozen => .cells #[.int .u8 0,.int .u8 1,.int .u8 56,.int .u8 2,.int .u8 57,.int .u8 49,.int .u8 28,.int .u8 3,.int .u8 61,.int .u8 58,.int .u8 42,.int .u8 50,.int .u8 38,.int .u8 29,.int .u8 17,.int .u8 4,.int .u8 62,.int .u8 47,.int .u8 59,.int .u8 36,.int .u8 45,.int .u8 43,.int .u8 51,.int .u8 22,.int .u8 53,.int .u8 39,.int .u8 33,.int .u8 30,.int .u8 24,.int .u8 18,.int .u8 12,.int .u8 5,.int .u8 63,.int .u8 55,.int .u8 48,.int .u8 27,.int .u8 60,.int .u8 41,.int .u8 37,.int .u8 16,.int .u8 46,.int .u8 35,.int .u8 44,.int .u8 21,.int .u8 52,.int .u8 32,.int .u8 23,.int .u8 11,.int .u8 54,.int .u8 26,.int .u8 40,.int .u8 15,.int .u8 34,.int .u8 20,.int .u8 31,.int .u8 10,.int .u8 25,.int .u8 14,.int .u8 19,.int .u8 9,.int .u8 13,.int .u8 8,.int .u8 7,.int .u8 6] t frozen
 | o=>o
noncomputable def Fb (os:Os):World:=
 { World.holding Tryz.prog os ⟨#[],#[],[]⟩ with heap:=(((World.holding Tryz.prog os ⟨#[],#[],[]⟩).heap).modify 1 MX).modify 0 Eo }
theorem TR (os:Os):laidMet Tryz.prog Rows.dumpReadsRow.laid ((Fb os).forCall (fun _ _=>0) ⟨#[],#[.slice none 0 0],[]⟩).memory:=
 laidMet_of_run' 8 (by kernel_rfl) (by kernel_rfl)
theorem reads (os:Os){H:Type}(enc:TypeId × Value→H):∃ places,DataW.whole enc Tryz.prog ((Fb os).forCall (fun _ _=>0) ⟨#[],#[.slice none 0 0],[]⟩).memory Tryz.f5.params.toList Rows.dumpReadsSpec.vars false #[(Value.slice none 0 0)].toList 8=some ([.nil],[],places):=
 ⟨[],by kernel_rfl⟩
theorem lifted (os:Os)(started:os.Started)(H:Type)(enc:TypeId × Value→H)(F:Stop.Interp) :
 ReturnsInHanded {} Tryz.checked os 5 .any ((OpenSpec.ofChange Rows.dumpReadsSpec).preRow enc Tryz.prog Tryz.f5 Rows.dumpReadsRow.domain false Rows.dumpReadsRow.laid) (((OpenSpec.ofChange Rows.dumpReadsSpec).at F).post enc Tryz.prog Tryz.f5 false true false false):=by
 obtain⟨places,hx⟩:=reads os enc;refine returnsInHanded_of_row (C:=Tryz.checked) (s:=(OpenSpec.ofChange Rows.dumpReadsSpec)) own started (by kernel_rfl) Tryz.func5
  (witness_row_at (enc:=enc) (C:=Tryz.checked) false (Fb os) #[.slice none 0 0] rfl (by kernel_rfl) (by kernel_rfl) (by kernel_rfl)
   (OpenSpec.preRow_of_cond 8 hx (by kernel_rfl) (fun k hk=>by cases hk) (by kernel_rfl) (TR os))) ?_
 intro W base args ds gs before hval0 hW _ hcond hsz0 hL _ _;have hsz:(DataW.weightsEach Tryz.prog (Tryz.f5.params.toList++Rows.dumpReadsSpec.plain.varTypes Tryz.prog) (ds++gs)).all (· ≤ reachBytes)=true:=hsz0;have hval:∀ (j:Nat) t v,Tryz.f5.params[j]? = some t→args[j]? = some v→Value.okWide Tryz.prog W .any base t v:=hval0;have hW':=hW;obtain⟨p,q,hA0,hV,rfl,hfz,hnd⟩:=hW;have hA:DataW.TrodAll enc Tryz.prog W 0 (fun _=>true) true Tryz.f5.params.toList args.toList ds p:=hA0;rw[Tryz.params5] at hA hval hsz;obtain⟨v0,vs0,d0,ds0,p0,q0,hargs,rfl,rfl,h0,r0⟩:=trodAll_cons hA;obtain⟨rfl,rfl,rfl⟩:=trodAll_nil r0;obtain rfl:args = #[v0]:=by cases args;simp_all
 obtain⟨rfl,rfl⟩:=trodVars_none hV;obtain⟨a0,akJ,cap0,rfl⟩:=okWide_slice Tryz.underlying24 (hval 0 24 v0 rfl rfl);have k0:=h0;have lt0:∀ x∈p0,x.block<W.heap.size:=by obtain⟨m,hm⟩:=k0;exact DataW.trod_lt m _ _ _ hm
 obtain⟨z0,w0⟩:∃ zs,X7 .u8 W a0 akJ cap0 zs:=by
  obtain⟨fuel,hf⟩:=h0;rcases open_ints Tryz.underlying24 Tryz.underlying5 (by kernel_rfl) hf with ⟨hcs,_⟩ | ⟨x,l,c,zs,hcs,_,hl,hm,hz,_,hcell,hwz⟩
  ·simp[Value.cells] at hcs;obtain⟨rfl,rfl,rfl⟩:=hcs;exact⟨[],.inl ⟨rfl,rfl,rfl,rfl⟩⟩
  ·simp[Value.cells] at hcs;obtain⟨rfl,rfl,rfl⟩:=hcs;exact⟨zs,.inr ⟨_,rfl,hl,hm,by simpa using hz,hcell,hwz⟩⟩
 have y0:akJ*1≤140737488351232:=oO.OX hsz (j:=0) (t:=24) rfl rfl Tryz.underlying24 Tryz.underlying5 (by kernel_rfl) (by kernel_rfl) h0;obtain⟨l0,rfl,hr0,hm0,hw0,hc0⟩:=oO.uY.XB w0;have afB:=NQ hL;have abm:=EG hL;clear hA0 hval0 hsz0 hsz;refine (Y.G.DumpReads.walk a0 cap0 l0 W (oO.Kd.GN (d:=(0:Int)) (h1:=fun _=>rfl) hr0) hc0 hw0 y0 (⟨fun j hj=>(abm.cell AP j hj).trans (eU (fun z:Int=>some (Value.int .u8 z)) (Xk j hj))⟩) (⟨fun j hj=>by
  have:=afB.cell JC j hj
  match j,hj with
  | 0,_ | 1,_ | 2,_ | 3,_=>exact this⟩)).mono fun e W' ⟨he,bel⟩=>?_
 subst he;exact⟨_,rfl,_,_,_,[],_,[],hW',trodAll_mk1 (shut_bool Tryz.underlying4 _),(trodAll_cons_mk (Below.trod laidOut (by kernel_rfl) (aJ (by kernel_rfl)) k0 bel lt0) trodAll_mk0),rfl,bel.frame _,fun h=>by cases h⟩
theorem said:Rows.DumpReadsSaid:=
 OpenClaim.holds_of_cond 5 Tryz.f5 rfl rfl rfl rfl rfl rfl rfl ⟨rfl,rfl,rfl,rfl,rfl⟩ rfl rfl rfl rfl rfl (by kernel_rfl) Tryz.func5 (by kernel_rfl)
  (aJ (by kernel_rfl)) (by unfold Func.isWrapper;first|(rw[au (by decide +kernel)];kernel_rfl)|(rw[av (by decide +kernel)];exact⟨rfl,rfl⟩))
  (fun os started H enc _ F=>by rw[OpenClaim.pre_eq_preRow];exact lifted os started H enc F)
theorem plain (f:FuncId)(fn:Func)(hf:Tryz.pinned.checked.prog.funcNamed "dryrot/dryrotlaw31.DumpReads" = some f)(hfn:Tryz.pinned.checked.prog.funcs[f]? = some fn) :
 false=Tryz.pinned.checked.prog.looks []∧∀ (j:Nat) t,fn.params[j]? = some t→Tryz.pinned.checked.prog.wantsStandIn t=false:=by
 obtain rfl:f=5:=bB ((show Tryz.prog.funcNamed "dryrot/dryrotlaw31.DumpReads" = some 5 by kernel_rfl).symm.trans hf) |>.symm;obtain rfl:fn=Tryz.f5:=(bB (Tryz.func5.symm.trans hfn)).symm;refine⟨by kernel_rfl,fun j t ht=>?_⟩;rw[Tryz.params5] at ht;have ht:=oq ht;simp only[List.mem_toArray,iT,gY,lT] at ht;rcases ht with rfl
 all_goals first | exact (show Tryz.prog.wantsStandIn 24=false by kernel_rfl)
theorem proved:Rows.DumpReadsCardSaid:=
 Claim7.holds_tied_plain_at .later [] _ _ _ _ said (fun _ h=>by cases h) (by kernel_rfl) (fun _ h=>by cases h) dumpReads_row_tie rfl ⟨rfl,rfl⟩ (by kernel_rfl) rfl plain (by kernel_rfl)
#print axioms proved
end Go.Proofs.YtcgbgifbajdhpaaGreatDoor.dumpReads
