/- The row and the card of the law DumpBack, out of its walk: for every input the law answers true and its arguments stay, where the arguments hold at most 1048576 values and letters. The row's frame is the guide's; written by a program of this session (wip/mkrow.py). -/
import Derived.Test.YtcgbgifbajdhpaaGreatDoorZI50
import Derived.Test.YtcgbgifbajdhpaaGreatDoorCards
import Derived.Test.YtcgbgifbajdhpaaGreatDoorTie
import Derived.Deep.DeepHandedRow
import Derived.Lib.SmallJoins
import Derived.Test.YtcgbgifbajdhpaaGreatDoorZI40
set_option linter.unusedVariables false
set_option linter.unusedSimpArgs false
set_option maxHeartbeats 4000000
set_option maxRecDepth 100000
namespace Go.Proofs.Y.G.DumpBack
open Go.RowKit Go.Proofs.Y.PA Go.Proofs.Y.G Go.Proofs.YW.o7 Go.Proofs.YW.pJ Go.Proofs.YW.pO
theorem walk (A:Option Addr)(c:Nat)(l:List qJ)(Ab:Option Addr)(cb:Nat)(lb:List Int)(w:World)(hr:Kd.C yD w A l.length l)(hc:l.length≤c)(hw:okW l∧l.length*48≤140737488355328)(hrb:Kd.C (Kd.int .u8) w Ab lb.length lb)(hcb:lb.length≤cb)(hwb:∀ x∈lb,(Lit.int .u8 x).wf=true)(hsb:lb.length*1≤140737488351232)(hT:xZ w)(hQ:zD w)(hb2:lb.length≤1048576) :
 Calls Tryz.prog 4 #[.slice A l.length c,.slice Ab lb.length cb] w fun e w'=>e = .returned (.bool true)∧Below w.heap.size w w':=by
 obtain⟨F,⟨sZ,s8,afE,sC,sP,sJ⟩,hFC⟩:=fine.c A c l w hr hc hw;have FC:=Yu hFC;have hPn:(qz F).length≤192:=by
  have:=Qz (n:=24) afE;omega
 have hwl:=El sP;have hWF:vB F=(q9 F,0):=by rw[vB,ak sC]
 have hRF:xq (q9 F)=(F,0):=Hl sC sP sJ (by omega);have FO1:y9 (q9 F):=Cy (by omega);have agM:okB lb=true:=rT.2 fun x hx=>by
  have h1:=hwb x hx;simp[Lit.wf,IntKind.min,IntKind.max,IntKind.signed,IntKind.bits] at h1;omega
 have FO2:y9 (q9 F++lb):=Cy (by rw[bg];omega);have hok2:okB (q9 F++lb)=true:=xL hwl.1 agM;have afF:lb.length≠0→xq (q9 F++lb)=([],5):=fun hm=>QH sP (by omega) hm FO2.2.2.2.2.1 (by
  have h1:=Jq (joinL (sF (q9 F++lb)));have h2:=FO2.2.2.2.2.2.1;have h3:=FO2.2.2.2.2.2.2.1;omega)
 have htF:tot F≤1000000:=bM (Ia afE) (by omega);have hlD:(q9 F++lb).length≤1300000:=by rw[bg];omega
 have hlB:(q9 F).length≤1000000:=by omega
 obtain⟨D,hD⟩:∃ D,q9 F++lb=D:=⟨_,rfl⟩;rw[hD] at FO2 hok2 afF hlD;generalize q9 F=B at *;have RD1:=Yu (fun A1 c1 W (h1:Kd.C (Kd.int .u8) W A1 B.length B) (h2:B.length≤c1) (hb:Below w.heap.size w W)=>TK.c A1 c1 B.length B W rfl h1 h2 hwl.1 (by omega) (hQ.below hb) (hT.below hb) FO1);simp only[hRF] at RD1;have CL:=Yu (fun A1 c1 W (h1:Kd.C (Kd.int .u8) W A1 B.length B) (h2:B.length≤c1)=>Ri.c A1 c1 B B.length W rfl h1 h2 (by omega));have HWF:=Yu hWF;have HS:=Yu (And.intro sZ (And.intro s8 htF));have HSE:oZ (Tp F):=⟨fun x hx=>⟨(sZ x hx).2.1,(sZ x hx).2.2.1⟩⟩;have HT:=Yu hT;have HQ:=Yu hQ;have HLB:oZ (B.length≤1000000∧lb.length≤1048576):=⟨hlB,hb2⟩;have HRB:=Yu hrb;have HCB:=Yu hcb;have HD:=Yu hD
 by_cases hm:lb.length=0
 ·clear hr hc hw hrb hcb hwb hsb hT hQ hb2 hFC hPn hwl hWF hRF FO1 agM FO2 hok2 afF htF hlD hlB hD sZ s8 afE sC sP sJ;rw[hm] at *
  go_enter Tryz.func4,Tryz.ntmps4
  go_wp2_with (first
   | (go_at_call 13;(with_reducible refine FC.o.mono ?_);rintro e w1 ⟨A1,c1,rfl,hc1,hC1,hb⟩;have HC1:=Yu hC1;have HL1:=Yu hc1;have HB1:=Yu hb;clear hc1 hC1 hb)
   | (go_at_call 9;(with_reducible refine (Ej.c A1 c1 F.length F B 0 _ rfl HC1.o HL1.o HS.o.1 (bM HS.o.2.1 (by decide)) HS.o.2.2 (HT.o.below HB1.o) (HQ.o.below HB1.o) HWF.o).mono ?_);rintro e w2 ⟨v2,rfl,hr2,hb⟩;obtain⟨A2,c2,rfl⟩:=Kd.qo hr2;have HC2:=Yu (Kd.pR hr2);have agN:=Yu (Kd.pI HC1.o hb);have HB2:=Yu (o9 HB1.o hb);clear hr2 hb)
   | (go_at_call 14;(with_reducible refine (RD1.o A2 c2 _ HC2.o.2.2 HC2.o.2.1 HB2.o).mono ?_);rintro e w3 ⟨A3,c3,rfl,hc3,hC3,hb⟩;have HC3:=Yu hC3;have agO:=Yu (Kd.pI agN.o hb);have HB3:=Yu (o9 HB2.o hb);clear hc3 hC3 hb)
   | (go_at_call 15;(with_reducible refine (Pj.c A1 A3 c1 c3 F.length F _ rfl agO.o HC3.o (bM HS.o.2.1 (by decide)) HSE.o).mono ?_);rintro e w4 ⟨rfl,hb⟩;have HB4:=Yu (o9 HB3.o hb);clear hb)
   | (go_at_call 12;(with_reducible refine (PA.Si.c _ (HT.o.below HB4.o) (HQ.o.below HB4.o)).mono ?_);rintro e w9 ⟨rfl,hb⟩;have HB9:=Yu (o9 HB4.o hb);clear hb))
  go_ret;exact⟨rfl,HB9.o⟩
 ·have ah5:=afF hm;have RD2:=Yu (fun A1 c1 W (h1:Kd.C (Kd.int .u8) W A1 D.length D) (h2:D.length≤c1) (hb:Below w.heap.size w W)=>TK.c A1 c1 D.length D W rfl h1 h2 hok2 (by omega) (hQ.below hb) (hT.below hb) FO2);simp only[ah5] at RD2;have hmz:((lb.length:Int)==0)=false:=beq_eq_false_iff_ne.2 (by omega);have akR:¬ (lb.length:Int)=0:=by omega
  clear hr hc hw hrb hcb hwb hsb hT hQ hb2 hFC hPn hwl hWF hRF FO1 agM FO2 hok2 afF ah5 htF hlD hlB hD sZ s8 afE sC sP sJ hm
  go_enter Tryz.func4,Tryz.ntmps4
  go_wp2_with (first
   | (go_at_call 13;(with_reducible refine FC.o.mono ?_);rintro e w1 ⟨A1,c1,rfl,hc1,hC1,hb⟩;have HC1:=Yu hC1;have HL1:=Yu hc1;have HB1:=Yu hb;clear hc1 hC1 hb)
   | (go_at_call 9;(with_reducible refine (Ej.c A1 c1 F.length F B 0 _ rfl HC1.o HL1.o HS.o.1 (bM HS.o.2.1 (by decide)) HS.o.2.2 (HT.o.below HB1.o) (HQ.o.below HB1.o) HWF.o).mono ?_);rintro e w2 ⟨v2,rfl,hr2,hb⟩;obtain⟨A2,c2,rfl⟩:=Kd.qo hr2;have HC2:=Yu (Kd.pR hr2);have agN:=Yu (Kd.pI HC1.o hb);have HB2:=Yu (o9 HB1.o hb);clear hr2 hb)
   | (go_at_call 14;(with_reducible refine (RD1.o A2 c2 _ HC2.o.2.2 HC2.o.2.1 HB2.o).mono ?_);rintro e w3 ⟨A3,c3,rfl,hc3,hC3,hb⟩;have HC3:=Yu hC3;have agO:=Yu (Kd.pI agN.o hb);have aeY:=Yu (Kd.pI HC2.o.2.2 hb);have HB3:=Yu (o9 HB2.o hb);clear hc3 hC3 hb)
   | (go_at_call 15;(with_reducible refine (Pj.c A1 A3 c1 c3 F.length F _ rfl agO.o HC3.o (bM HS.o.2.1 (by decide)) HSE.o).mono ?_);rintro e w4 ⟨rfl,hb⟩;have afD:=Yu (Kd.pI aeY.o hb);have HB4:=Yu (o9 HB3.o hb);clear hb)
   | (go_at_call 16;(with_reducible refine (CL.o A2 c2 _ afD.o HC2.o.2.1).mono ?_);rintro e w5 ⟨v5,rfl,hr5,hb⟩;obtain⟨A5,c5,rfl⟩:=Kd.qo hr5;have HR5:=Yu hr5;have ah6:=Yu hb;have HB5:=Yu (o9 HB4.o hb);have ajV:=Yu (Kd.pI HRB.o HB5.o);clear hr5 hb)
   | ((with_reducible refine qK (N:=43) rfl ?_);refine Kd.uy (Kd.int .u8) (Rr:=(Kd.int .u8).K w5) (w0:=w4) w4.heap.size rfl (.tmp 41) (.tmp 42) 24 5 (.int .u8 0) 1 rfl Tryz.underlying24 uS rfl (by decide) (by omega) _ B lb Ab lb.length cb (fun _=>True) (fun _=>False) rfl rfl HR5.o ajV.o (fun _ _ h=>h) (fun _ hk=>hk.elim) (fun _ _=>dD) ah6.o ?hb ?hl ?_;(case hb=>exact pX ah6.o);(case hl=>(have:=HLB.o;omega));intro v6 w6 hR6 hB6 hg_ ho_;rw[HD.o] at hR6;obtain⟨A6,c6,rfl⟩:=Kd.qo hR6;have HR6:=Yu (Kd.pR hR6);have HB6:=Yu (o9 HB4.o hB6);clear hR6 hB6 hg_ ho_)
   | (go_at_call 14;(with_reducible refine (RD2.o A6 c6 _ HR6.o.2.2 HR6.o.2.1 HB6.o).mono ?_);rintro e w7 ⟨A7,c7,rfl,_,_,hb⟩;have HB7:=Yu (o9 HB6.o hb);clear hb)
   | (go_at_call 12;(with_reducible refine (PA.Si.c _ (HT.o.below HB7.o) (HQ.o.below HB7.o)).mono ?_);rintro e w9 ⟨rfl,hb⟩;have HB9:=Yu (o9 HB7.o hb);clear hb))
  go_ret;exact⟨rfl,HB9.o⟩
end Go.Proofs.Y.G.DumpBack
namespace Go.Proofs.YtcgbgifbajdhpaaGreatDoor.dumpBack
open Go.ChangeShapes Go.WideShapes Go.ChangeAt Go.RowKit
open Go.ChangeMaps (open_string shut_string)
open Go.Proofs.YW
theorem own:ownKnob Tryz.prog.godebug=none:=by kernel_rfl
theorem laidOut:laidOutB Tryz.prog=true:=by kernel_rfl
def Xx (k:IntKind)(w:World)(a:Option Addr)(len cap:Nat)(zs:List Int):Prop:=
 (a=none∧len=0∧cap=0∧zs=[]) ∨
 ∃ x,a=some x∧len≤cap∧cap≤maxLen∧zs.length=cap∧(∀ i,i<zs.length→w.cell? (x.add i)=some (.int k (zs.getD i 0)))∧∀ n∈zs,(Lit.int k n).wf=true
theorem Ji:Tryz.prog.globalNamed "dryrot/crc.quarter" = some 1:=by kernel_rfl
theorem QX:(Tryz.prog.globals[1]?).map (·.type)=some 193:=by kernel_rfl
theorem PU:Tryz.prog.cellsOf 193=4:=by kernel_rfl
theorem Qe:Tryz.prog.cellsOf 108=1:=by kernel_rfl
theorem zA:Tryz.prog.globalNamed "math/bits.deBruijn64tab" = some 0:=by kernel_rfl
theorem E5:(Tryz.prog.globals[0]?).map (·.type)=some 192:=by kernel_rfl
theorem EL:Tryz.prog.cellsOf 192=64:=by kernel_rfl
theorem EN:Tryz.prog.cellsOf 5=1:=by kernel_rfl
theorem Iz {P:Program}{W:World}{l:List (String × DataW Unit)}(n:String){d:DataW Unit}(he:l.filter (fun x=>x.1==n)=[(n,d)])(h:laidMetH P l W):laidMetH P [(n,d)] W:=by
 have h2:=laidMetH.filter (fun x=>x.1==n) h;rw[he] at h2;exact h2
theorem MZ {W:World}(h:laidMetH Tryz.prog Rows.dumpBackUptoRow.laid W):Lib.TabIs Tryz.prog W "dryrot/crc.quarter" .u32 [0,1098587580,2197175160,3280807620]:=
 Lib.tabIs_of_head (rest:=_) Ji QX Tryz.underlying193 Tryz.underlying108 Qe PU h
theorem Df {W:World}(h:laidMetH Tryz.prog Rows.dumpBackUptoRow.laid W):Lib.TabIs Tryz.prog W "math/bits.deBruijn64tab" .u8 [0,1,56,2,57,49,28,3,61,58,42,50,38,29,17,4,62,47,59,36,45,43,51,22,53,39,33,30,24,18,12,5,63,55,48,27,60,41,37,16,46,35,44,21,52,32,23,11,54,26,40,15,34,20,31,10,25,14,19,9,13,8,7,6]:=
 Lib.tabIs_of_head (rest:=_) zA E5 Tryz.underlying192 Tryz.underlying5 EN EL (Iz "math/bits.deBruijn64tab" (d:=Lib.tabData .u8 [0,1,56,2,57,49,28,3,61,58,42,50,38,29,17,4,62,47,59,36,45,43,51,22,53,39,33,30,24,18,12,5,63,55,48,27,60,41,37,16,46,35,44,21,52,32,23,11,54,26,40,15,34,20,31,10,25,14,19,9,13,8,7,6]) (by kernel_rfl) h)
theorem Wy:∀ j,j<64→([0,1,56,2,57,49,28,3,61,58,42,50,38,29,17,4,62,47,59,36,45,43,51,22,53,39,33,30,24,18,12,5,63,55,48,27,60,41,37,16,46,35,44,21,52,32,23,11,54,26,40,15,34,20,31,10,25,14,19,9,13,8,7,6]:List Int).getD j 0=((Lib.deBruijn64tab.getD j 0:Nat):Int):=by decide
def Mh:Obj→Obj
 | .cells _ t frozen => .cells #[.int .u32 0,.int .u32 1098587580,.int .u32 2197175160,.int .u32 3280807620] t frozen
 | o=>o
def CK:Obj→Obj
 | .cells _ t frozen => .cells #[.int .u8 0,.int .u8 1,.int .u8 56,.int .u8 2,.int .u8 57,.int .u8 49,.int .u8 28,.int .u8 3,.int .u8 61,.int .u8 58,.int .u8 42,.int .u8 50,.int .u8 38,.int .u8 29,.int .u8 17,.int .u8 4,.int .u8 62,.int .u8 47,.int .u8 59,.int .u8 36,.int .u8 45,.int .u8 43,.int .u8 51,.int .u8 22,.int .u8 53,.int .u8 39,.int .u8 33,.int .u8 30,.int .u8 24,.int .u8 18,.int .u8 12,.int .u8 5,.int .u8 63,.int .u8 55,.int .u8 48,.int .u8 27,.int .u8 60,.int .u8 41,.int .u8 37,.int .u8 16,.int .u8 46,.int .u8 35,.int .u8 44,.int .u8 21,.int .u8 52,.int .u8 32,.int .u8 23,.int .u8 11,.int .u8 54,.int .u8 26,.int .u8 40,.int .u8 15,.int .u8 34,.int .u8 20,.int .u8 31,.int .u8 10,.int .u8 25,.int .u8 14,.int .u8 19,.int .u8 9,.int .u8 13,.int .u8 8,.int .u8 7,.int .u8 6] t frozen
 | o=>o
noncomputable def DW (os:Os):World:=
 { World.holding Tryz.prog os ⟨#[],#[],[]⟩ with heap:=(((World.holding Tryz.prog os ⟨#[],#[],[]⟩).heap).modify 1 Mh).modify 0 CK }
theorem Ta (os:Os):laidMet Tryz.prog Rows.dumpBackUptoRow.laid ((DW os).forCall (fun _ _=>0) ⟨#[],#[.slice none 0 0,.slice none 0 0],[]⟩).memory:=
 laidMet_of_run' 8 (by kernel_rfl) (by kernel_rfl)
theorem reads (os:Os){H:Type}(enc:TypeId × Value→H):∃ places,DataW.whole enc Tryz.prog ((DW os).forCall (fun _ _=>0) ⟨#[],#[.slice none 0 0,.slice none 0 0],[]⟩).memory Tryz.f4.params.toList Rows.dumpBackSpec.vars false #[(Value.slice none 0 0),.slice none 0 0].toList 8=some ([.nil,.nil],[],places):=
 ⟨[],by kernel_rfl⟩
theorem VE {H:Type}{P:Program}{t:TypeId}{ts:List TypeId}{d:DataW H}{ds:List (DataW H)}(h:(DataW.weightsEach P (t::ts) (d::ds)).all (· ≤ reachBytes)=true):(DataW.weightsEach P ts ds).all (· ≤ reachBytes)=true:=by
 rw[DataW.weightsEach,List.all_append,dx] at h;exact h.2
theorem lifted (os:Os)(started:os.Started)(H:Type)(enc:TypeId × Value→H)(F:Stop.Interp) :
 ReturnsInHanded {} Tryz.checked os 4 .any ((Rows.OpenSpec.upto Rows.dumpBackSpec).preRow enc Tryz.prog Tryz.f4 Rows.dumpBackUptoRow.domain false Rows.dumpBackUptoRow.laid) (((Rows.OpenSpec.upto Rows.dumpBackSpec).at F).post enc Tryz.prog Tryz.f4 false true false false):=by
 obtain⟨places,hx⟩:=reads os enc;refine returnsInHanded_of_row (C:=Tryz.checked) (s:=(Rows.OpenSpec.upto Rows.dumpBackSpec)) own started (by kernel_rfl) Tryz.func4
  (witness_row_at (enc:=enc) (C:=Tryz.checked) false (DW os) #[.slice none 0 0,.slice none 0 0] rfl (by kernel_rfl) (by kernel_rfl) (by kernel_rfl)
   (OpenSpec.preRow_of_cond 8 hx (by kernel_rfl) (fun k hk=>by cases hk;kernel_rfl) (by kernel_rfl) (Ta os))) ?_
 intro W base args ds gs before hval0 hW _ hcond hsz0 hL _ _;have hsz:(DataW.weightsEach Tryz.prog (Tryz.f4.params.toList++Rows.dumpBackSpec.plain.varTypes Tryz.prog) (ds++gs)).all (· ≤ reachBytes)=true:=hsz0;have hval:∀ (j:Nat) t v,Tryz.f4.params[j]? = some t→args[j]? = some v→Value.okWide Tryz.prog W .any base t v:=hval0;have hW':=hW;obtain⟨p,q,hA0,hV,rfl,hfz,hnd⟩:=hW;have hA:DataW.TrodAll enc Tryz.prog W 0 (fun _=>true) true Tryz.f4.params.toList args.toList ds p:=hA0;rw[Tryz.params4] at hA hval hsz;obtain⟨v0,vs0,d0,ds0,p0,q0,hargs,rfl,rfl,h0,r0⟩:=trodAll_cons hA;obtain⟨v1,vs1,d1,ds1,p1,q1,rfl,rfl,rfl,h1,r1⟩:=trodAll_cons r0;obtain⟨rfl,rfl,rfl⟩:=trodAll_nil r1;obtain rfl:args = #[v0,v1]:=by cases args;simp_all
 obtain⟨rfl,rfl⟩:=trodVars_none hV;have hbk:Rows.uptoBulkAll [d0,d1]≤1048576:=aR (hcond _ rfl);simp only[Rows.uptoBulkAll] at hbk;have k0:=h0;have lt0:∀ x∈p0,x.block<W.heap.size:=by obtain⟨m,hm⟩:=k0;exact DataW.trod_lt m _ _ _ hm
 obtain⟨a0,cap0,l0,rfl,hr0,hc0,hw0⟩:=Y.G.Kt (okWide_slice Tryz.underlying22 (hval 0 22 v0 rfl rfl)) hsz h0;obtain⟨a1,len1,ah7,rfl⟩:=okWide_slice Tryz.underlying24 (hval 1 24 v1 rfl rfl);have k1:=h1;have lt1:∀ x∈p1,x.block<W.heap.size:=by obtain⟨m,hm⟩:=k1;exact DataW.trod_lt m _ _ _ hm
 have bk1:=Y.G.PS Tryz.underlying24 Tryz.underlying5 (by kernel_rfl) h1;obtain⟨z1,w1⟩:∃ zs,Xx .u8 W a1 len1 ah7 zs:=by
  obtain⟨fuel,hf⟩:=h1;rcases open_ints Tryz.underlying24 Tryz.underlying5 (by kernel_rfl) hf with ⟨hcs,_⟩ | ⟨x,l,c,zs,hcs,_,hl,hm,hz,_,hcell,hwz⟩
  ·simp[Value.cells] at hcs;obtain⟨rfl,rfl,rfl⟩:=hcs;exact⟨[],.inl ⟨rfl,rfl,rfl,rfl⟩⟩
  ·simp[Value.cells] at hcs;obtain⟨rfl,rfl,rfl⟩:=hcs;exact⟨zs,.inr ⟨_,rfl,hl,hm,by simpa using hz,hcell,hwz⟩⟩
 have y1:len1*1≤140737488351232:=o7.Oq hsz (j:=1) (t:=24) rfl rfl Tryz.underlying24 Tryz.underlying5 (by kernel_rfl) (by kernel_rfl) h1;obtain⟨l1,rfl,hr1,hm1,hw1,hc1⟩:=o7.uh.WQ w1;have ad9:=MZ hL;have aas:=Df hL;clear hA0 hval0 hsz0 hsz;refine (Y.G.DumpBack.walk a0 cap0 l0 a1 ah7 l1 W hr0 hc0 hw0 (o7.Kd.FH (d:=(0:Int)) (h1:=fun _=>rfl) hr1) hc1 hw1 y1 (⟨fun j hj=>(aas.cell zA j hj).trans (gG (fun z:Int=>some (Value.int .u8 z)) (Wy j hj))⟩) (⟨fun j hj=>by
  have:=ad9.cell Ji j hj
  match j,hj with
  | 0,_ | 1,_ | 2,_ | 3,_=>exact this⟩)  (by omega)).mono fun e W' ⟨he,bel⟩=>?_
 subst he;exact⟨_,rfl,_,_,_,[],_,[],hW',trodAll_mk1 (shut_bool Tryz.underlying4 _),(trodAll_cons_mk (Below.trod laidOut (by kernel_rfl) (aR (by kernel_rfl)) k0 bel lt0) (trodAll_cons_mk (Below.trod laidOut (by kernel_rfl) (aR (by kernel_rfl)) k1 bel lt1) trodAll_mk0)),rfl,bel.frame _,fun h=>by cases h⟩
theorem said:Rows.DumpBackUptoSaid:=
 OpenClaim.holds_of_cond 4 Tryz.f4 rfl rfl rfl rfl rfl rfl rfl ⟨rfl,rfl,rfl,rfl,rfl⟩ rfl rfl rfl rfl rfl (by kernel_rfl) Tryz.func4 (by kernel_rfl)
  (aR (by kernel_rfl)) (by unfold Func.isWrapper;first|(rw[ak (by decide +kernel)];kernel_rfl)|(rw[aK (by decide +kernel)];exact⟨rfl,rfl⟩))
  (fun os started H enc _ F=>by rw[OpenClaim.pre_eq_preRow];exact lifted os started H enc F)
theorem plain (f:FuncId)(fn:Func)(hf:Tryz.pinned.checked.prog.funcNamed "dryrot/dryrotlaw31.DumpBack" = some f)(hfn:Tryz.pinned.checked.prog.funcs[f]? = some fn) :
 false=Tryz.pinned.checked.prog.looks []∧∀ (j:Nat) t,fn.params[j]? = some t→Tryz.pinned.checked.prog.wantsStandIn t=false:=by
 obtain rfl:f=4:=bE ((show Tryz.prog.funcNamed "dryrot/dryrotlaw31.DumpBack" = some 4 by kernel_rfl).symm.trans hf) |>.symm;obtain rfl:fn=Tryz.f4:=(bE (Tryz.func4.symm.trans hfn)).symm;refine⟨by kernel_rfl,fun j t ht=>?_⟩;rw[Tryz.params4] at ht;have ht:=oI ht;simp only[List.mem_toArray,iU,iw,lN] at ht;rcases ht with rfl | rfl
 all_goals first | exact (show Tryz.prog.wantsStandIn 22=false by kernel_rfl)|exact (show Tryz.prog.wantsStandIn 24=false by kernel_rfl)
theorem proved:Rows.DumpBackUptoCardSaid:=
 Claim7.holds_tied_plain_at .later [] _ _ _ _ said (fun _ h=>by cases h) (by kernel_rfl) (fun _ h=>by cases h) dumpBackUpto_row_tie rfl ⟨rfl,rfl⟩ (by kernel_rfl) rfl plain (by kernel_rfl)
#print axioms proved
end Go.Proofs.YtcgbgifbajdhpaaGreatDoor.dumpBack
