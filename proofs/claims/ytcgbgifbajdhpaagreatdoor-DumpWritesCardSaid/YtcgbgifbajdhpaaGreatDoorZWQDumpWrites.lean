/- The row and the card of the law DumpWrites, out of its walk: for every input the law answers true and its arguments stay; no condition of its own. The row's frame is the guide's; written by a program of this session (wip/mkrow.py). -/
import Derived.Test.YtcgbgifbajdhpaaGreatDoorZW8
import Derived.Test.YtcgbgifbajdhpaaGreatDoorZW9
import Derived.Test.YtcgbgifbajdhpaaGreatDoorZW7
import Derived.Test.YtcgbgifbajdhpaaGreatDoorRows
import Derived.Test.YtcgbgifbajdhpaaGreatDoorCards
import Derived.Test.YtcgbgifbajdhpaaGreatDoorTie
import Derived.WalkKit
import Derived.ProofKit
import Derived.OpenShut
import Derived.ShutString
import Derived.ChangeOld
import Derived.Below
import Derived.SizedLaws
import Derived.LaidSub
import Derived.Deep.DeepHandedRow
import Derived.Lib.LaidTab
import Derived.Lib.SmallJoins
import Derived.ChangeSlices
import Derived.ChangeSame
set_option linter.unusedVariables false
set_option linter.unusedSimpArgs false
set_option maxHeartbeats 4000000
set_option maxRecDepth 100000
namespace Go.Proofs.YtcgbgifbajdhpaaGreatDoor.PA
open Go.RowKit Go.Proofs.YtcgbgifbajdhpaaGreatDoor.G Go.Proofs.YtcgbgifbajdhpaaGreatDoorW.PrintWords Go.Proofs.YtcgbgifbajdhpaaGreatDoorW.PrintLast Go.Proofs.YtcgbgifbajdhpaaGreatDoorW.PrintMore
theorem writeF_small {l:List S51} (h60:∀ x ∈ l,x.f1.length≤60) (hok:okZ l) (hl:l.length≤6):(writeF l).1.length≤1000000:=by
  unfold writeF
  split
  · rename_i h
    have h1:=(writeL_ok (partsL_ok hok (canC_all h))).2
    have h2:=parts_few (n:=3) (l:=l) (fun x hx => h60 x hx)
    simp only
    omega
  · simp
end Go.Proofs.YtcgbgifbajdhpaaGreatDoor.PA
namespace Go.Proofs.YtcgbgifbajdhpaaGreatDoor.G.DumpWrites
open Go.RowKit Go.Proofs.YtcgbgifbajdhpaaGreatDoor.PA Go.Proofs.YtcgbgifbajdhpaaGreatDoor.G Go.Proofs.YtcgbgifbajdhpaaGreatDoorW.PrintWords Go.Proofs.YtcgbgifbajdhpaaGreatDoorW.PrintLast Go.Proofs.YtcgbgifbajdhpaaGreatDoorW.PrintMore
theorem walk (A:Option Addr) (c:Nat) (l:List S51) (w:World) (hr:Kd.C k51 w A l.length l) (hc:l.length≤c) (hw:okW l∧l.length*48≤140737488355328) (hT:TabZ w) (hQ:TabQ w) :
    Calls Tryz.prog 3 #[.slice A l.length c] w fun e w' => e = .returned (.bool true)∧Below w.heap.size w w':=by
  obtain ⟨r,hf,hr8,hP⟩:=few_L l (by omega) 6 50
  have hz:=few_okZ hw.1 50 (by decide) hP
  have HZ:=Aside0.mk hz
  have h60:∀ x ∈ r,x.f1.length≤60:=fun x hx => Nat.le_trans (hP x hx).2.2 (by decide)
  have htt:=tot_le h60
  have H8:=Aside0.mk hr8
  have HTT:Aside0 (tot r≤1000000):=⟨by omega⟩
  have FEW:=Aside0.mk (dryrotplain_Few.calls (l.length+1) (fun k => k<w.heap.size) A c l 6 50 r w (Kd.V_mk hc (Kd.C_F kS_heapJ hr)) hf)
  have HT:=Aside0.mk hT
  have HQ:=Aside0.mk hQ
  obtain ⟨eb,ee,henc⟩:∃ eb ee,writeF r=(eb,ee):=⟨_,_,rfl⟩
  have HENC:=Aside0.mk henc
  have HEL:Aside0 (eb.length≤1000000):=⟨by have:=writeF_small h60 hz (by omega);rwa [henc] at this⟩
  have hee:(ee == ee)=true:=beq_iff_eq.2 rfl
  clear hr hc hw hT hQ hf hr8 hP henc hz h60 htt
  go_enter Tryz.func3,Tryz.ntmps3
  go_wp2_with (first
    | (go_at_call 8;(with_reducible refine FEW.out.mono ?_);rintro e w1 ⟨v1,rfl,hn,hb⟩;obtain ⟨A1,c1,rfl,hc1,hC1⟩:=Kd.N_reads hn;have HO1:=Aside0.mk hC1;have HL1:=Aside0.mk hc1;have HB1:=Aside0.mk hb;clear hn hc1 hC1 hb)
    | (go_at_call 9;(with_reducible refine (writeD.calls A1 c1 r.length r eb ee _ rfl HO1.out HL1.out HZ.out (Nat.le_trans H8.out (by decide)) HTT.out (HT.out.below HB1.out) (HQ.out.below HB1.out) HENC.out).mono ?_);rintro e w2 ⟨v2,rfl,hr2,hb⟩;obtain ⟨A2,c2,rfl⟩:=Kd.R_slice hr2;have HO2:=Aside0.mk (Kd.R_reads' hr2);have HO12:=Aside0.mk (Kd.C_below HO1.out hb);have HB2:=Aside0.mk (below_step HB1.out hb);clear hr2 hb)
    | (go_at_call 10;(with_reducible refine (rWriteD.calls A1 c1 r.length r eb ee _ rfl HO12.out HL1.out HZ.out (Nat.le_trans H8.out (by decide)) HTT.out HENC.out).mono ?_);rintro e w3 ⟨v3,rfl,hr3,hb⟩;obtain ⟨A3,c3,rfl⟩:=Kd.R_slice hr3;have HO3:=Aside0.mk (Kd.R_reads' hr3);have HO13:=Aside0.mk (Kd.C_below HO12.out hb);have HO23:=Aside0.mk (Kd.C_below HO2.out.2.2 hb);have HB3:=Aside0.mk (below_step HB2.out hb);clear hr3 hb)
    | (go_at_call 11;(with_reducible refine (EqualB A2 c2 A3 c3 eb _ HO23.out HO2.out.2.1 HO3.out.2.2 HO3.out.2.1 HEL.out).mono ?_);rintro e w4 ⟨rfl,hb⟩;have HB4:=Aside0.mk (below_step HB3.out hb);clear hb)
    | (go_at_call 12;(with_reducible refine (PA.dawake.calls _ (HT.out.below HB4.out) (HQ.out.below HB4.out)).mono ?_);rintro e w7 ⟨rfl,hb⟩;have HB7:=Aside0.mk (below_step HB4.out hb);clear hb))
  go_ret
  exact ⟨rfl,HB7.out⟩
end Go.Proofs.YtcgbgifbajdhpaaGreatDoor.G.DumpWrites
namespace Go.Proofs.YtcgbgifbajdhpaaGreatDoor.dumpWrites
open Go.ChangeShapes Go.WideShapes Go.ChangeAt Go.RowKit
open Go.ChangeMaps (open_string shut_string)
open Go.Proofs.YtcgbgifbajdhpaaGreatDoorW
theorem own:ownKnob Tryz.prog.godebug=none:=by kernel_rfl
theorem laidOut:laidOutB Tryz.prog=true:=by kernel_rfl
def IsRow (k:IntKind) (w:World) (a:Option Addr) (len cap:Nat) (zs:List Int):Prop :=
  (a=none∧len=0∧cap=0∧zs=[]) ∨
  ∃ x,a=some x∧len≤cap∧cap≤maxLen∧zs.length=cap∧(∀ i,i<zs.length→w.cell? (x.add i)=some (.int k (zs.getD i 0)))∧∀ n ∈ zs,(Lit.int k n).wf=true
theorem g_quarter:Tryz.prog.globalNamed "dryrot/crc.quarter" = some 1:=by kernel_rfl
theorem t_quarter:(Tryz.prog.globals[1]?).map (·.type)=some 193:=by kernel_rfl
theorem c_quarter:Tryz.prog.cellsOf 193=4:=by kernel_rfl
theorem e_quarter:Tryz.prog.cellsOf 108=1:=by kernel_rfl
theorem g_deBruijn64tab:Tryz.prog.globalNamed "math/bits.deBruijn64tab" = some 0:=by kernel_rfl
theorem t_deBruijn64tab:(Tryz.prog.globals[0]?).map (·.type)=some 192:=by kernel_rfl
theorem c_deBruijn64tab:Tryz.prog.cellsOf 192=64:=by kernel_rfl
theorem e_deBruijn64tab:Tryz.prog.cellsOf 5=1:=by kernel_rfl
theorem laidMetH_only {P:Program} {W:World} {l:List (String × DataW Unit)} (n:String) {d:DataW Unit} (he:l.filter (fun x => x.1 == n)=[(n,d)]) (h:laidMetH P l W):laidMetH P [(n,d)] W:=by
  have h2:=laidMetH.filter (fun x => x.1 == n) h
  rw [he] at h2
  exact h2
theorem tab_quarter {W:World} (h:laidMetH Tryz.prog Rows.dumpWritesRow.laid W):Lib.TabIs Tryz.prog W "dryrot/crc.quarter" .u32 [0,1098587580,2197175160,3280807620] :=
  Lib.tabIs_of_head (rest:=_) g_quarter t_quarter Tryz.underlying193 Tryz.underlying108 e_quarter c_quarter h
theorem tab_deBruijn64tab {W:World} (h:laidMetH Tryz.prog Rows.dumpWritesRow.laid W):Lib.TabIs Tryz.prog W "math/bits.deBruijn64tab" .u8 [0,1,56,2,57,49,28,3,61,58,42,50,38,29,17,4,62,47,59,36,45,43,51,22,53,39,33,30,24,18,12,5,63,55,48,27,60,41,37,16,46,35,44,21,52,32,23,11,54,26,40,15,34,20,31,10,25,14,19,9,13,8,7,6] :=
  Lib.tabIs_of_head (rest:=_) g_deBruijn64tab t_deBruijn64tab Tryz.underlying192 Tryz.underlying5 e_deBruijn64tab c_deBruijn64tab (laidMetH_only "math/bits.deBruijn64tab" (d:=Lib.tabData .u8 [0,1,56,2,57,49,28,3,61,58,42,50,38,29,17,4,62,47,59,36,45,43,51,22,53,39,33,30,24,18,12,5,63,55,48,27,60,41,37,16,46,35,44,21,52,32,23,11,54,26,40,15,34,20,31,10,25,14,19,9,13,8,7,6]) (by kernel_rfl) h)
theorem db_tab:∀ j,j<64→([0,1,56,2,57,49,28,3,61,58,42,50,38,29,17,4,62,47,59,36,45,43,51,22,53,39,33,30,24,18,12,5,63,55,48,27,60,41,37,16,46,35,44,21,52,32,23,11,54,26,40,15,34,20,31,10,25,14,19,9,13,8,7,6]:List Int).getD j 0=((Lib.deBruijn64tab.getD j 0:Nat):Int):=by decide
def lay_quarter:Obj→Obj
  | .cells _ t frozen => .cells #[.int .u32 0,.int .u32 1098587580,.int .u32 2197175160,.int .u32 3280807620] t frozen
  | o => o
def lay_deBruijn64tab:Obj→Obj
  | .cells _ t frozen => .cells #[.int .u8 0,.int .u8 1,.int .u8 56,.int .u8 2,.int .u8 57,.int .u8 49,.int .u8 28,.int .u8 3,.int .u8 61,.int .u8 58,.int .u8 42,.int .u8 50,.int .u8 38,.int .u8 29,.int .u8 17,.int .u8 4,.int .u8 62,.int .u8 47,.int .u8 59,.int .u8 36,.int .u8 45,.int .u8 43,.int .u8 51,.int .u8 22,.int .u8 53,.int .u8 39,.int .u8 33,.int .u8 30,.int .u8 24,.int .u8 18,.int .u8 12,.int .u8 5,.int .u8 63,.int .u8 55,.int .u8 48,.int .u8 27,.int .u8 60,.int .u8 41,.int .u8 37,.int .u8 16,.int .u8 46,.int .u8 35,.int .u8 44,.int .u8 21,.int .u8 52,.int .u8 32,.int .u8 23,.int .u8 11,.int .u8 54,.int .u8 26,.int .u8 40,.int .u8 15,.int .u8 34,.int .u8 20,.int .u8 31,.int .u8 10,.int .u8 25,.int .u8 14,.int .u8 19,.int .u8 9,.int .u8 13,.int .u8 8,.int .u8 7,.int .u8 6] t frozen
  | o => o
noncomputable def laidWorld (os:Os):World :=
  { World.holding Tryz.prog os ⟨#[],#[],[]⟩ with heap:=(((World.holding Tryz.prog os ⟨#[],#[],[]⟩).heap).modify 1 lay_quarter).modify 0 lay_deBruijn64tab }
theorem laid_met (os:Os):laidMet Tryz.prog Rows.dumpWritesRow.laid ((laidWorld os).forCall (fun _ _ => 0) ⟨#[],#[.slice none 0 0],[]⟩).memory :=
  laidMet_of_run' 8 (by kernel_rfl) (by kernel_rfl)
theorem reads (os:Os) {H:Type} (enc:TypeId × Value→H):∃ places,DataW.whole enc Tryz.prog ((laidWorld os).forCall (fun _ _ => 0) ⟨#[],#[.slice none 0 0],[]⟩).memory Tryz.f3.params.toList Rows.dumpWritesSpec.vars false #[(Value.slice none 0 0)].toList 8=some ([.nil],[],places) :=
  ⟨[],by kernel_rfl⟩
theorem lifted (os:Os) (started:os.Started) (H:Type) (enc:TypeId × Value→H) (F:Stop.Interp) :
    ReturnsInHanded {} Tryz.checked os 3 .any ((OpenSpec.ofChange Rows.dumpWritesSpec).preRow enc Tryz.prog Tryz.f3 Rows.dumpWritesRow.domain false Rows.dumpWritesRow.laid) (((OpenSpec.ofChange Rows.dumpWritesSpec).at F).post enc Tryz.prog Tryz.f3 false true false false):=by
  obtain ⟨places,hx⟩:=reads os enc
  refine returnsInHanded_of_row (C:=Tryz.checked) (s:=(OpenSpec.ofChange Rows.dumpWritesSpec)) own started (by kernel_rfl) Tryz.func3
    (witness_row_at (enc:=enc) (C:=Tryz.checked) false (laidWorld os) #[.slice none 0 0] rfl (by kernel_rfl) (by kernel_rfl) (by kernel_rfl)
      (OpenSpec.preRow_of_cond 8 hx (by kernel_rfl) (fun k hk => by cases hk) (by kernel_rfl) (laid_met os))) ?_
  intro W base args ds gs before hval0 hW _ hcond hsz0 hL _ _
  have hsz:(DataW.weightsEach Tryz.prog (Tryz.f3.params.toList++Rows.dumpWritesSpec.plain.varTypes Tryz.prog) (ds++gs)).all (· ≤ reachBytes)=true:=hsz0
  have hval:∀ (j:Nat) t v,Tryz.f3.params[j]? = some t→args[j]? = some v→Value.okWide Tryz.prog W .any base t v:=hval0
  have hW':=hW
  obtain ⟨p,q,hA0,hV,rfl,hfz,hnd⟩:=hW
  have hA:DataW.TrodAll enc Tryz.prog W 0 (fun _ => true) true Tryz.f3.params.toList args.toList ds p:=hA0
  rw [Tryz.params3] at hA hval hsz
  obtain ⟨v0,vs0,d0,ds0,p0,q0,hargs,rfl,rfl,h0,r0⟩:=trodAll_cons hA
  obtain ⟨rfl,rfl,rfl⟩:=trodAll_nil r0
  obtain rfl:args = #[v0]:=by cases args;simp_all
  obtain ⟨rfl,rfl⟩:=trodVars_none hV
  have k0:=h0
  have lt0:∀ x ∈ p0,x.block<W.heap.size:=by obtain ⟨m,hm⟩:=k0;exact DataW.trod_lt m _ _ _ hm
  obtain ⟨a0,cap0,l0,rfl,hr0,hc0,hw0⟩:=G.open_rowsS22 (okWide_slice Tryz.underlying22 (hval 0 22 v0 rfl rfl)) hsz h0
  have T_quarter:=tab_quarter hL
  have T_deBruijn64tab:=tab_deBruijn64tab hL
  clear hA0 hval0 hsz0 hsz
  refine (G.DumpWrites.walk a0 cap0 l0 W hr0 hc0 hw0 (⟨fun j hj => (T_deBruijn64tab.cell g_deBruijn64tab j hj).trans (congrArg (fun z:Int => some (Value.int .u8 z)) (db_tab j hj))⟩) (⟨fun j hj => by
      have:=T_quarter.cell g_quarter j hj
      match j,hj with
      | 0,_ | 1,_ | 2,_ | 3,_ => exact this⟩)).mono fun e W' ⟨he,bel⟩ => ?_
  subst he
  exact ⟨_,rfl,_,_,_,[],_,[],hW',trodAll_mk1 (shut_bool Tryz.underlying4 _),(trodAll_cons_mk (Below.trod laidOut (by kernel_rfl) (of_decide_eq_true (by kernel_rfl)) k0 bel lt0) trodAll_mk0),rfl,bel.frame _,fun h => by cases h⟩
theorem said:Rows.DumpWritesSaid :=
  OpenClaim.holds_of_cond 3 Tryz.f3 rfl rfl rfl rfl rfl rfl rfl ⟨rfl,rfl,rfl,rfl,rfl⟩ rfl rfl rfl rfl rfl (by kernel_rfl) Tryz.func3 (by kernel_rfl)
    (of_decide_eq_true (by kernel_rfl)) (by unfold Func.isWrapper;first | (rw [if_pos (by decide +kernel)];kernel_rfl) | (rw [if_neg (by decide +kernel)];exact ⟨rfl,rfl⟩))
    (fun os started H enc _ F => by rw [OpenClaim.pre_eq_preRow];exact lifted os started H enc F)
theorem plain (f:FuncId) (fn:Func) (hf:Tryz.pinned.checked.prog.funcNamed "dryrot/dryrotlaw31.DumpWrites" = some f) (hfn:Tryz.pinned.checked.prog.funcs[f]? = some fn) :
    false=Tryz.pinned.checked.prog.looks [] ∧ ∀ (j:Nat) t,fn.params[j]? = some t→Tryz.pinned.checked.prog.wantsStandIn t=false:=by
  obtain rfl:f=3:=Option.some.inj ((show Tryz.prog.funcNamed "dryrot/dryrotlaw31.DumpWrites" = some 3 by kernel_rfl).symm.trans hf) |>.symm
  obtain rfl:fn=Tryz.f3:=(Option.some.inj (Tryz.func3.symm.trans hfn)).symm
  refine ⟨by kernel_rfl,fun j t ht => ?_⟩
  rw [Tryz.params3] at ht
  have ht:=Array.mem_of_getElem? ht
  simp only [List.mem_toArray,List.mem_cons,List.not_mem_nil,or_false] at ht
  rcases ht with rfl
  all_goals first | exact (show Tryz.prog.wantsStandIn 22=false by kernel_rfl)
theorem proved:Rows.DumpWritesCardSaid :=
  Claim7.holds_tied_plain_at .later [] _ _ _ _ said (fun _ h => by cases h) (by kernel_rfl) (fun _ h => by cases h) dumpWrites_row_tie rfl ⟨rfl,rfl⟩ (by kernel_rfl) rfl plain (by kernel_rfl)
#print axioms proved
end Go.Proofs.YtcgbgifbajdhpaaGreatDoor.dumpWrites
