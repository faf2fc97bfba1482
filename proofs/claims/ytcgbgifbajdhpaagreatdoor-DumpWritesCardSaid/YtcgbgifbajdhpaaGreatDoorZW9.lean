/- Lemmas and contracts that the law DumpWrites leans on (packed by a program of this session out of its texts and the print's words). -/
import Derived.Test.YtcgbgifbajdhpaaGreatDoorZW2
import Derived.Test.YtcgbgifbajdhpaaGreatDoorZW6
import Derived.SizedLaws
import Derived.ChangeSlices
set_option linter.unusedVariables false
set_option linter.unusedSimpArgs false
set_option maxHeartbeats 8000000
set_option maxRecDepth 100000
namespace Go.Proofs.YtcgbgifbajdhpaaGreatDoor.PA
open Go.RowKit Go.Proofs.YtcgbgifbajdhpaaGreatDoorW.PrintWords Go.Proofs.YtcgbgifbajdhpaaGreatDoorW.PrintLast Go.Proofs.YtcgbgifbajdhpaaGreatDoorW.PrintMore
attribute [local go_sem] max2_int min2_int max_two min_two max_three min_three max_four min_four   -- for this text's walks alone
abbrev q1:=@blk_drewN
abbrev q2:=@blk_drew
abbrev q3:=@blk_alloc
abbrev q4:=@below_alloc
abbrev q5:=@pw_below_drewN
abbrev q6:=@below_drew1
abbrev q7:=@below_set
abbrev qb:=@List.setIfInBounds_toArray
abbrev qc:=@List.set_cons_zero
abbrev qd:=@List.set_cons_succ
theorem cz0 {w:World} {g:Nat} {t:TypeId} {a b:Value} (h:w.heap[g]? = some (.cells #[a,b] t (0,0))):w.cell? ⟨g,0,none⟩=some a:=(blk_cell h 0).trans rfl
theorem cz1 {w:World} {g:Nat} {t:TypeId} {a b:Value} (h:w.heap[g]? = some (.cells #[a,b] t (0,0))):w.cell? ⟨g,1,none⟩=some b:=(blk_cell h 1).trans rfl
def dryrotplain_Few.l0:Nat→Int→Int→List (S51)→List (S51)→Int→Int→Option ((List (S51)))
 | 0,_,_,_,_,_,_ => none
 | k+1,x1,x2,x7,x10,x11,x12 => if x12<x11 then (if 0≤x12 then (if x12<(x10.length:Int) then (if x12<x1 then (if (((rd_T51 x10 x12).f0).length:Int)≤10 then (if 0≤(mn (((rd_T51 x10 x12).f1).length:Int) x2) then (if (mn (((rd_T51 x10 x12).f1).length:Int) x2)≤(((rd_T51 x10 x12).f1).length:Int) then (if x7.length<2932031007402 then (dryrotplain_Few.l0 k x1 x2 (x7 ++ [(⟨(rd_T51 x10 x12).f0,(((rd_T51 x10 x12).f1).take ((mn (((rd_T51 x10 x12).f1).length:Int) x2):Int).toNat)⟩:S51)]) x10 x11 (wrap64 (x12+1))) else (none)) else (none)) else (none)) else (dryrotplain_Few.l0 k x1 x2 x7 x10 x11 (wrap64 (x12+1)))) else (dryrotplain_Few.l0 k x1 x2 x7 x10 x11 (wrap64 (x12+1)))) else (none)) else (none)) else (some x7)
def dryrotplain_Few.f (k:Nat) (l0:List (S51)) (a1:Int) (a2:Int):Option ((List (S51))):=dryrotplain_Few.l0 k a1 a2 ([]:List (S51)) l0 (l0.length:Int) 0
theorem dryrotplain_Few.mono_l:∀ k,(∀ y0 y1 y2 y3 y4 y5,LeO (dryrotplain_Few.l0 k y0 y1 y2 y3 y4 y5) (dryrotplain_Few.l0 (k+1) y0 y1 y2 y3 y4 y5))
 | 0 => fun _ _ _ _ _ _ r h => by simp [dryrotplain_Few.l0] at h
 | k+1 => by
  have ih0:=dryrotplain_Few.mono_l k
  ·
   intro y0 y1 y2 y3 y4 y5
   unfold dryrotplain_Few.l0
   repeat' first
   | (with_reducible exact ih0 _ _ _ _ _ _)
   | (with_reducible exact LeO.refl _)
   | (with_reducible exact LeO.none _)
   | (with_reducible refine LeO.ite ?_ ?_)
   | (with_reducible refine LeO.bind ?_ (fun _ => ?_))
   | exact ih0 _ _ _ _ _ _
   | exact LeO.none _
   | refine LeO.ite ?_ ?_
   | refine LeO.bind ?_ (fun _ => ?_)
theorem dryrotplain_Few.mono:∀ a0 a1 a2 k,LeO (dryrotplain_Few.f k a0 a1 a2) (dryrotplain_Few.f (k+1) a0 a1 a2):=by
 intro a0 a1 a2 k
 have ih0:=dryrotplain_Few.mono_l k
 unfold dryrotplain_Few.f
 repeat' first
   | (with_reducible exact ih0 _ _ _ _ _ _)
   | (with_reducible exact LeO.refl _)
   | (with_reducible exact LeO.none _)
   | (with_reducible refine LeO.ite ?_ ?_)
   | (with_reducible refine LeO.bind ?_ (fun _ => ?_))
   | exact ih0 _ _ _ _ _ _
   | exact LeO.none _
   | refine LeO.ite ?_ ?_
   | refine LeO.bind ?_ (fun _ => ?_)
def dryrotplain_Few.T6:Bool × List (List Nat × List Nat):=(true,[([],[]),([],[]),([1],[1]),([],[]),([3],[3]),([],[]),([5],[5]),([6],[6]),([],[]),([7,8],[7,8]),([4,9],[4,9]),([2,10],[2,10]),([11],[11]),([0,12],[0,12]),([13,13,0,1,2,3,4,5,6,7,8,9,10,11,12,13],[0,13])])
def dryrotplain_Few.B6:List Nat:=[0,0,2,0,8,0,32,96,0,480,1016,2046,4094,8191,16383]
theorem dryrotplain_Few.tab6:rtab .any (opsOf Tryz.f8 6)=dryrotplain_Few.T6:=by kernel_rfl
theorem dryrotplain_Few.bits6:waitsOk dryrotplain_Few.T6.2 dryrotplain_Few.B6=true:=by kernel_rfl
theorem dryrotplain_Few.calls (k:Nat) (P0_:Nat→Prop) (A0:Option Addr) (c0:Nat) (l0:List (S51)) (a1:Int) (a2:Int) (r:List (S51)) (w:World) (hs0:Kd.V k51 51 w w.heap.size (fun k_ => P0_ k_) (.slice A0 l0.length c0) l0) (h:dryrotplain_Few.f k l0 a1 a2=some r) :
  Calls Tryz.prog 8 #[.slice A0 l0.length c0,.int .i64 a1,.int .i64 a2] w fun e w' => ∃ v0_:Value,e = .returned (v0_)∧Kd.N k51 51 w' w.heap.size (fun k_ => (P0_ k_∨w.heap.size≤k_)) v0_ r∧Below w.heap.size w w':=by
 have hu51:=Tryz.underlying51
 have HO0:=Aside0.mk (show Kd.V k51 51 w w.heap.size (fun k_ => (P0_ k_∨w.heap.size≤k_)) (.slice A0 l0.length c0) l0 from Kd.V_mono hs0 (fun k_ hk => .inl hk))
 have HB:=Aside0.mk (Below.refl w.heap.size w)
 have H:(dryrotplain_Few.l0 k a1 a2 ([]:List (S51)) l0 (l0.length:Int) 0)=some r:=h
 clear h
 have H':=Aside0.mk H
 clear H
 go_enter Tryz.func8,Tryz.ntmps8
 go_wp2
 go_loopg [7,12] k (fun kq v7 v12 w' => ∃ (x7_1:List (S51)) (x12_1:Int),v12 = .int .i64 x12_1∧Aside0 (dryrotplain_Few.l0 kq a1 a2 x7_1 l0 (l0.length:Int) x12_1=some r)∧Aside0 (kq≤k)∧Aside0 (Kd.N k51 51 w' w.heap.size (fun k_ => (P0_ k_∨w.heap.size≤k_)) v7 x7_1)∧Aside0 (Kd.V k51 51 w' w.heap.size (fun k_ => (P0_ k_∨w.heap.size≤k_)∧some k_ ≠ (v7:Value).ownBlock) (.slice A0 l0.length c0) l0)∧Aside0 (Below w.heap.size w w'))
 case atStart => exact ⟨(([]:List (S51))),(0),(by first | rfl | (simp;done) | (simp [*];done)),H',⟨Nat.le_refl _⟩,⟨by first | exact Kd.S_nil _ _ _ _ _ | exact Kd.N_nil _ _ _ _ _ | exact Kd.V_nil _ _ _ _ _ | exact Kd.Q_nil _ _ _ _ _ | exact Kd.R_nil _ _ _ _ _⟩,⟨by (with_reducible repeat (first | apply Kd.V_alloc | apply Kd.V_drewN | apply Kd.V_drew));exact Kd.V_mono HO0.out (fun _ hk => ⟨hk,(by simp [Value.ownBlock])⟩)⟩,⟨by repeat (first | (with_reducible first | exact HB.out | apply q4 | apply q5 | apply q6) | exact HB.out)⟩⟩
 case round =>
  clear H'
  try clear p2
  obtain ⟨x7_1,x12_1,rfl,HA,HK1,HO_7,HO_10,HB⟩:=hrel
  cases gk with
  | zero => exact absurd HA.out (by simp [dryrotplain_Few.l0])
  | succ k1 =>
   have H:=HA.out
   clear HA
   simp only [dryrotplain_Few.l0] at H
   by_cases c4:x12_1<(l0.length:Int)
   ·
    rw [if_pos c4] at H
    have c4b0:decide (x12_1<(l0.length:Int))=true:=decide_eq_true c4
    clear c4
    by_cases c5:0≤x12_1
    ·
     rw [if_pos c5] at H
     have c5b0:decide (0≤x12_1)=true:=decide_eq_true c5
     clear c5
     by_cases c6:x12_1<(l0.length:Int)
     ·
      rw [if_pos c6] at H
      have c6b0:decide (x12_1<(l0.length:Int))=true:=decide_eq_true c6
      clear c6
      by_cases c7:x12_1<a1
      ·
       rw [if_pos c7] at H
       have c7b0:decide (x12_1<a1)=true:=decide_eq_true c7
       clear c7
       by_cases c8:(((rd_T51 l0 x12_1).f0).length:Int)≤10
       ·
        rw [if_pos c8] at H
        have c8b0:decide ((((rd_T51 l0 x12_1).f0).length:Int)≤10)=true:=decide_eq_true c8
        have c8b1:decide (((rd_T51 l0 x12_1).f0).length≤10)=true:=decide_eq_true (by omega)
        clear c8
        obtain ⟨ji9,hji9⟩:∃ j_:Int,(mn (((rd_T51 l0 x12_1).f1).length:Int) a2)=j_:=⟨_,rfl⟩
        replace H:(if 0≤(ji9) then (if (ji9)≤(((rd_T51 l0 x12_1).f1).length:Int) then (if x7_1.length<2932031007402 then (dryrotplain_Few.l0 k1 a1 a2 (x7_1 ++ [(⟨(rd_T51 l0 x12_1).f0,(((rd_T51 l0 x12_1).f1).take ((ji9):Int).toNat)⟩:S51)]) l0 (l0.length:Int) (wrap64 (x12_1+1))) else (none)) else (none)) else (none))=some r:=by first | (rw [hji9] at H;exact H) | (simp only [hji9] at H ⊢;exact H)
        have hji9_:(if a2<(((rd_T51 l0 x12_1).f1).length:Int) then a2 else (((rd_T51 l0 x12_1).f1).length:Int))=ji9:=hji9
        by_cases c10:0≤(ji9)
        ·
         rw [if_pos c10] at H
         have c10b0:=eq_true c10
         have c10b1:decide (0≤(ji9))=true:=decide_eq_true c10
         clear c10
         by_cases c11:(ji9)≤(((rd_T51 l0 x12_1).f1).length:Int)
         ·
          rw [if_pos c11] at H
          have c11b0:=eq_true c11
          have c11b1:decide ((ji9)≤(((rd_T51 l0 x12_1).f1).length:Int))=true:=decide_eq_true c11
          clear c11
          obtain ⟨y103,hy103⟩:∃ y_:List (S70),y_=(((rd_T51 l0 x12_1).f1).take ((ji9):Int).toNat):=⟨_,rfl⟩
          replace H:(if x7_1.length<2932031007402 then (dryrotplain_Few.l0 k1 a1 a2 (x7_1 ++ [(⟨(rd_T51 l0 x12_1).f0,y103⟩:S51)]) l0 (l0.length:Int) (wrap64 (x12_1+1))) else (none))=some r:=by first | (rw [hy103];with_reducible exact H) | (have H2_:=(Option.bind_some _ _).symm.trans H;rw [hy103];with_reducible exact H2_) | (have H2_:=(Option.bind_some _ _).symm.trans H;with_reducible exact H2_) | with_reducible exact H | (rw [hy103];exact H) | exact H
          have Ny103:=Aside0.mk hy103
          clear hy103
          by_cases c12:x7_1.length<2932031007402
          ·
           rw [if_pos c12] at H
           have LMc12:=Aside0.mk c12
           clear c12
           obtain ⟨y108,hy108⟩:∃ y_:List (S51),y_=(x7_1 ++ [(⟨(rd_T51 l0 x12_1).f0,y103⟩:S51)]):=⟨_,rfl⟩
           replace H:(dryrotplain_Few.l0 k1 a1 a2 y108 l0 (l0.length:Int) (wrap64 (x12_1+1)))=some r:=by first | (rw [hy108];with_reducible exact H) | (have H2_:=(Option.bind_some _ _).symm.trans H;rw [hy108];with_reducible exact H2_) | (have H2_:=(Option.bind_some _ _).symm.trans H;with_reducible exact H2_) | with_reducible exact H | (rw [hy108];exact H) | exact H
           have Ny108:=Aside0.mk hy108
           clear hy108
           have H':=Aside0.mk H
           clear H
           have p101:0≤(x12_1:Int):=of_decide_eq_true (by first | (with_reducible assumption) | assumption)
           have q101:x12_1<(l0.length:Int):=of_decide_eq_true (by first | (with_reducible assumption) | assumption)
           obtain ⟨ad101,A101_0,c101_0,A101_1,c101_1,e101,hx101_0,hx101_1,hl101_0,hi101_0,hl101_1,hi101_1⟩:=at_T51 (Kd.V_reads' HO_10.out).2.2 x12_1 p101 q101
           cases e101
           obtain ⟨ce101,hce101,hMe101,hcc101⟩:=Kd.V_get HO_10.out z51 x12_1 p101 (by first | exact q101 | exact of_decide_eq_true (by first | (with_reducible assumption) | assumption) | (have e_:=(Kd.V_reads' HO_10.out).1;omega))
           obtain ⟨ua101_0,uc101_0,ua101_1,uc101_1,rfl,ul101_0,ge101_0,ul101_1,ge101_1⟩:=k51_openF hMe101
           have hv101_0:=hcc101 0 _ rfl
           rw [Nat.add_zero] at hv101_0
           replace hv101_0:=Option.some.inj (hv101_0.symm.trans hx101_0)
           injection hv101_0 with hva_ hvn_ hvc_
           rw [hva_] at ge101_0
           rw [hvc_] at ul101_0
           have HL101_0:=Aside0.mk (show Kd.V k68 68 _ w.heap.size _ _ ((rd_T51 l0 x12_1).f0) from Kd.V_mk ul101_0 ge101_0)
           clear hva_ hvn_ hvc_ ge101_0 ul101_0
           have hv101_1:=hcc101 1 _ rfl
           rw [add_field _ _ 1 (by omega)] at hv101_1
           replace hv101_1:=Option.some.inj (hv101_1.symm.trans hx101_1)
           injection hv101_1 with hva_ hvn_ hvc_
           rw [hva_] at ge101_1
           rw [hvc_] at ul101_1
           have HL101_1:=Aside0.mk (show Kd.V k70 70 _ w.heap.size _ _ ((rd_T51 l0 x12_1).f1) from Kd.V_mk ul101_1 ge101_1)
           clear hva_ hvn_ hvc_ ge101_1 ul101_1
           clear hcc101 hce101
           have HR101_0:=Aside0.mk hi101_0
           have HC101_0:=Aside0.mk hl101_0
           clear hi101_0 hl101_0
           have HR101_1:=Aside0.mk hi101_1
           have HC101_1:=Aside0.mk hl101_1
           clear hi101_1 hl101_1
           replace p101:=eq_true p101
           replace q101:=eq_true q101
           try go_wp2_with (first | ((with_reducible refine gate_dst (N:=9) rfl ?_);(try (refine gate_guard (by rfl) ?_;dsimp only));refine box_event ?hg (N:=9) ?hd (cs:=#[.slice none 0 0,.slice none 0 0]) (t:=51) ?hr ?_;(case hd => rfl);(case hg => rfl);(case hr => first | (go_simp;done) | (go_simp;rfl));intro gb102 hg w13 hbox hb;have n0_:=Aside0.mk (Kd.N_below (Kd.N_elderB (by (with_reducible repeat (first | apply Kd.N_alloc | apply Kd.N_drewN | apply Kd.N_drew));exact HO_7.out) gb102 (Nat.le_of_eq hg.symm)) hb);have n1_:=Aside0.mk (Kd.V_below (Kd.V_elderB (by (with_reducible repeat (first | apply Kd.V_alloc | apply Kd.V_drewN | apply Kd.V_drew));exact HO_10.out) gb102 (Nat.le_of_eq hg.symm)) hb);have n2_:=Aside0.mk (Kd.V_below (Kd.V_elderB (by (with_reducible repeat (first | apply Kd.V_alloc | apply Kd.V_drewN | apply Kd.V_drew));exact HL101_0.out) gb102 (Nat.le_of_eq hg.symm)) hb);have n3_:=Aside0.mk (Kd.V_below (Kd.V_elderB (by (with_reducible repeat (first | apply Kd.V_alloc | apply Kd.V_drewN | apply Kd.V_drew));exact HL101_1.out) gb102 (Nat.le_of_eq hg.symm)) hb);have n4_:=Aside0.mk (Kd.C_below (by repeat (first | (with_reducible exact HR101_0.out) | (with_reducible refine Kd.C_alloc ?_ _) | (with_reducible refine Kd.C_drewN ?_ _) | (with_reducible refine Kd.C_drew ?_) | exact HR101_0.out)) hb);have n5_:=Aside0.mk (Kd.C_below (by repeat (first | (with_reducible exact HR101_1.out) | (with_reducible refine Kd.C_alloc ?_ _) | (with_reducible refine Kd.C_drewN ?_ _) | (with_reducible refine Kd.C_drew ?_) | exact HR101_1.out)) hb);have n6_:=Aside0.mk (below_step (by repeat (first | (with_reducible first | exact HB.out | apply q4 | apply q5 | apply q6) | exact HB.out)) hb);have n7_:=Aside0.mk (hbox);have n8_:=Aside0.mk ((by rw [hg];exact (below_size (by repeat (first | (with_reducible first | exact HB.out | apply q4 | apply q5 | apply q6) | exact HB.out))):w.heap.size≤gb102));have n9_:=Aside0.mk ((by rw [hg];exact (below_size (by repeat (first | (with_reducible first | exact HB.out | apply q4 | apply q5 | apply q6) | exact HB.out))):w.heap.size≤gb102));clear HO_7;clear HO_10;clear HL101_0;clear HL101_1;clear HR101_0;clear HR101_1;clear HB;have HO_7:=n0_;have HO_10:=n1_;have HL101_0:=n2_;have HL101_1:=n3_;have HR101_0:=n4_;have HR101_1:=n5_;have HB:=n6_;have BK102:=n7_;have GW102:=n8_;have GE102:=n9_;clear n0_ n1_ n2_ n3_ n4_ n5_ n6_ n7_ n8_ n9_;clear hb hbox hg;have hcz14_0:=cz0 BK102.out;have hcz14_1:=cz1 BK102.out;have hfz14_0:=blk_frozen BK102.out 0;have hfz14_1:=blk_frozen BK102.out 1))
           have n0_:Aside0 (Kd.N k51 51 ((w13.setCell ⟨gb102,0,none⟩ (.slice A101_0 ((rd_T51 l0 x12_1).f0).length c101_0)).setCell ⟨gb102,1,none⟩ (.slice A101_1 ((rd_T51 l0 x12_1).f1).length c101_1)) w.heap.size (fun k_ => (P0_ k_∨w.heap.size≤k_)∧k_ ≠ gb102) u7 x7_1):=⟨by (with_reducible repeat (first | apply Kd.N_alloc | apply Kd.N_drewN | apply Kd.N_drew));exact Kd.N_mono (Kd.N_far (p:=⟨gb102,1,none⟩) (Kd.N_far (p:=⟨gb102,0,none⟩) (Kd.N_mono HO_7.out (fun k_ hk => (⟨hk,hk.2⟩:_∧k_ ≠ gb102))) (fun _ hk => hk.2) (.slice A101_0 ((rd_T51 l0 x12_1).f0).length c101_0)) (fun _ hk => hk.2) (.slice A101_1 ((rd_T51 l0 x12_1).f1).length c101_1)) (fun _ hk => ⟨hk.1.1,hk.1.2⟩)⟩
           have n1_:Aside0 (Kd.V k51 51 ((w13.setCell ⟨gb102,0,none⟩ (.slice A101_0 ((rd_T51 l0 x12_1).f0).length c101_0)).setCell ⟨gb102,1,none⟩ (.slice A101_1 ((rd_T51 l0 x12_1).f1).length c101_1)) w.heap.size (fun k_ => (P0_ k_∨w.heap.size≤k_)∧some k_ ≠ (u7:Value).ownBlock∧k_ ≠ gb102) (.slice (some ad101) l0.length c0) l0):=⟨by (with_reducible repeat (first | apply Kd.V_alloc | apply Kd.V_drewN | apply Kd.V_drew));exact Kd.V_mono (Kd.V_far (p:=⟨gb102,1,none⟩) (Kd.V_far (p:=⟨gb102,0,none⟩) (Kd.V_mono HO_10.out (fun k_ hk => (⟨hk,hk.2⟩:_∧k_ ≠ gb102))) (fun _ hk => hk.2) (.slice A101_0 ((rd_T51 l0 x12_1).f0).length c101_0)) (fun _ hk => hk.2) (.slice A101_1 ((rd_T51 l0 x12_1).f1).length c101_1)) (fun _ hk => ⟨hk.1.1.1,⟨hk.1.1.2,hk.1.2⟩⟩)⟩
           have n2_:Aside0 (Kd.V k68 68 ((w13.setCell ⟨gb102,0,none⟩ (.slice A101_0 ((rd_T51 l0 x12_1).f0).length c101_0)).setCell ⟨gb102,1,none⟩ (.slice A101_1 ((rd_T51 l0 x12_1).f1).length c101_1)) w.heap.size (fun k_ => (P0_ k_∨w.heap.size≤k_)∧some k_ ≠ (u7:Value).ownBlock∧k_ ≠ gb102) (.slice A101_0 ((rd_T51 l0 x12_1).f0).length c101_0) ((rd_T51 l0 x12_1).f0)):=⟨by (with_reducible repeat (first | apply Kd.V_alloc | apply Kd.V_drewN | apply Kd.V_drew));exact Kd.V_mono (Kd.V_far (p:=⟨gb102,1,none⟩) (Kd.V_far (p:=⟨gb102,0,none⟩) (Kd.V_mono HL101_0.out (fun k_ hk => (⟨hk,hk.2⟩:_∧k_ ≠ gb102))) (fun _ hk => hk.2) (.slice A101_0 ((rd_T51 l0 x12_1).f0).length c101_0)) (fun _ hk => hk.2) (.slice A101_1 ((rd_T51 l0 x12_1).f1).length c101_1)) (fun _ hk => ⟨hk.1.1.1,⟨hk.1.1.2,hk.1.2⟩⟩)⟩
           have n3_:Aside0 (Kd.V k70 70 ((w13.setCell ⟨gb102,0,none⟩ (.slice A101_0 ((rd_T51 l0 x12_1).f0).length c101_0)).setCell ⟨gb102,1,none⟩ (.slice A101_1 ((rd_T51 l0 x12_1).f1).length c101_1)) w.heap.size (fun k_ => (P0_ k_∨w.heap.size≤k_)∧some k_ ≠ (u7:Value).ownBlock∧k_ ≠ gb102) (.slice A101_1 ((rd_T51 l0 x12_1).f1).length c101_1) ((rd_T51 l0 x12_1).f1)):=⟨by (with_reducible repeat (first | apply Kd.V_alloc | apply Kd.V_drewN | apply Kd.V_drew));exact Kd.V_mono (Kd.V_far (p:=⟨gb102,1,none⟩) (Kd.V_far (p:=⟨gb102,0,none⟩) (Kd.V_mono HL101_1.out (fun k_ hk => (⟨hk,hk.2⟩:_∧k_ ≠ gb102))) (fun _ hk => hk.2) (.slice A101_0 ((rd_T51 l0 x12_1).f0).length c101_0)) (fun _ hk => hk.2) (.slice A101_1 ((rd_T51 l0 x12_1).f1).length c101_1)) (fun _ hk => ⟨hk.1.1.1,⟨hk.1.1.2,hk.1.2⟩⟩)⟩
           have n4_:Aside0 (((w13.setCell ⟨gb102,0,none⟩ (.slice A101_0 ((rd_T51 l0 x12_1).f0).length c101_0)).setCell ⟨gb102,1,none⟩ (.slice A101_1 ((rd_T51 l0 x12_1).f1).length c101_1)).heap[gb102]? = some (.cells #[.slice A101_0 ((rd_T51 l0 x12_1).f0).length c101_0,.slice A101_1 ((rd_T51 l0 x12_1).f1).length c101_1] 51 (0,0))):=⟨by (with_reducible repeat (first | refine q1 ?_ _ | refine q2 ?_ | refine q3 ?_ _));refine blk_put (cs:=#[.slice A101_0 ((rd_T51 l0 x12_1).f0).length c101_0,.slice none 0 0]) ?_ 1 _ rfl;(with_reducible repeat (first | refine q1 ?_ _ | refine q2 ?_ | refine q3 ?_ _));refine blk_put (cs:=#[.slice none 0 0,.slice none 0 0]) ?_ 0 _ rfl;(with_reducible repeat (first | refine q1 ?_ _ | refine q2 ?_ | refine q3 ?_ _));exact BK102.out⟩
           have n5_:Aside0 (Below w.heap.size w ((w13.setCell ⟨gb102,0,none⟩ (.slice A101_0 ((rd_T51 l0 x12_1).f0).length c101_0)).setCell ⟨gb102,1,none⟩ (.slice A101_1 ((rd_T51 l0 x12_1).f1).length c101_1))):=⟨by repeat (first | (with_reducible first | exact HB.out | apply q4 | apply q5 | apply q6 | refine q7 ?_ GE102.out) | exact HB.out)⟩
           (try clear HO_7)
           (try clear HO_10)
           (try clear HL101_0)
           (try clear HL101_1)
           (try clear BK102)
           (try clear HB)
           generalize ((w13.setCell ⟨gb102,0,none⟩ (.slice A101_0 ((rd_T51 l0 x12_1).f0).length c101_0)).setCell ⟨gb102,1,none⟩ (.slice A101_1 ((rd_T51 l0 x12_1).f1).length c101_1))=w15 at n0_ n1_ n2_ n3_ n4_ n5_ ⊢
           have HO_7:=n0_
           have HO_10:=n1_
           have HL101_0:=n2_
           have HL101_1:=n3_
           have BK102:=n4_
           have HB:=n5_
           clear n0_ n1_ n2_ n3_ n4_ n5_
           have n0_:=Aside0.mk (Kd.N_drew HO_7.out)
           have n1_:=Aside0.mk (Kd.V_drew HO_10.out)
           have n2_:=Aside0.mk (Kd.V_drew HL101_0.out)
           have n3_:=Aside0.mk (Kd.V_drew HL101_1.out)
           have n4_:=Aside0.mk (q2 BK102.out)
           have n5_:=Aside0.mk (q6 HB.out)
           clear HO_7
           clear HO_10
           clear HL101_0
           clear HL101_1
           clear BK102
           clear HB
           have HO_7:=n0_
           have HO_10:=n1_
           have HL101_0:=n2_
           have HL101_1:=n3_
           have BK102:=n4_
           have HB:=n5_
           clear n0_ n1_ n2_ n3_ n4_ n5_
           have q17:((ji9):Int)≤((((rd_T51 l0 x12_1).f1).length:Int):Int):=of_decide_eq_true (by first | (with_reducible assumption) | assumption)
           obtain ⟨i017,hi017,_,hsz17,_⟩:=info_parts info70
           have hroom17:((rd_T51 l0 x12_1).f1).length≤c101_1:=HC101_1.out
           have hC17:Kd.F k70 _ _ A101_1 ((rd_T51 l0 x12_1).f1).length ((rd_T51 l0 x12_1).f1):=(Kd.V_at (base:=w.heap.size) HL101_1.out).2.2
           have hcut17:=cut_to (P:=Tryz.prog) 49 70 .i64 Tryz.underlying49 hi017 A101_1 ((rd_T51 l0 x12_1).f1).length c101_1 (ji9) (of_decide_eq_true (by first | (with_reducible assumption) | assumption)) q17 hroom17
           have hr17:=Kd.F_take (m:=((ji9):Int).toNat) hC17 (by omega)
           have hy17:y103.length=((ji9):Int).toNat:=(by rw [Ny103.out,List.length_take];omega)
           rw [← Ny103.out] at hr17
           rw [← hy17] at hcut17
           have HO107:=Aside0.mk (show Kd.V k70 70 _ w.heap.size _ (.slice A101_1 y103.length c101_1) y103 from Kd.V_mk (by omega) hr17)
           have HC107:=Aside0.mk (show y103.length≤c101_1 from by omega)
           clear hr17 hC17 hroom17 hi017 hsz17
           have KY17:=Aside0.mk hy17
           clear hy17
           replace q17:=eq_true q17
           refine start_ (n:=15) (S:=fun w' => w'.cell? ⟨gb102,0,none⟩=some (.slice A101_0 ((rd_T51 l0 x12_1).f0).length c101_0)∧w'.cell? ⟨gb102,1,none⟩=some (.slice A101_1 ((rd_T51 l0 x12_1).f1).length c101_1)) (ds:=[]) #[false,false,false,false,false,false,false,false,false,false,false,false,false,false,false] (by kernel_rfl) rfl rfl ⟨(blk_cell BK102.out 0).trans rfl,(blk_cell BK102.out 1).trans rfl⟩ (fun hHeld => ?_);refine with_tabW dryrotplain_Few.tab6 dryrotplain_Few.bits6 (fun HT_ HW_ => ?_)
           generalize w15.drew=w16 at HO_7 HO_10 HL101_0 HL101_1 BK102 HB HO107 hHeld ⊢
           refine pure_ (i:=0) (N:=some 26) (v:=?_) (a':=?_) #[true,false,false,false,false,false,false,false,false,false,false,false,false,false,false] rfl rfl (any_of HT_.out (by kernel_rfl)) (fun _ _ _ h => h) (Or.inl ⟨by rfl,?_⟩) ?_ ?_
           rotate_left
           ·
            intro w'
            go_simp
            with_reducible rfl
           rotate_left
           ·
            simp only [Act.put,qb,qc,qd,i64_w,i32_w]
            rfl
           refine pure_ (i:=1) (N:=some 27) (v:=?_) (a':=?_) #[true,true,false,false,false,false,false,false,false,false,false,false,false,false,false] rfl rfl (any_of HT_.out (by kernel_rfl)) (fun _ _ _ h => h) (Or.inl ⟨by rfl,?_⟩) ?_ ?_
           rotate_left
           ·
            intro w'
            go_simp
            with_reducible rfl
           rotate_left
           ·
            simp only [Act.put,qb,qc,qd,i64_w,i32_w]
            rfl
           refine pure_ (i:=3) (N:=some 29) (v:=?_) (a':=?_) #[true,true,false,true,false,false,false,false,false,false,false,false,false,false,false] rfl rfl (any_of HT_.out (by kernel_rfl)) (fun _ _ _ h => h) (Or.inl ⟨by rfl,?_⟩) ?_ ?_
           rotate_left
           ·
            intro w'
            go_simp
            with_reducible rfl
           rotate_left
           ·
            simp only [Act.put,qb,qc,qd,i64_w,i32_w]
            rfl
           refine pure_ (i:=5) (N:=some 31) (v:=?_) (a':=?_) #[true,true,false,true,false,true,false,false,false,false,false,false,false,false,false] rfl rfl (any_of HT_.out (by kernel_rfl)) (fun _ _ _ h => h) (Or.inl ⟨by rfl,?_⟩) ?_ ?_
           rotate_left
           ·
            intro w'
            go_simp
            with_reducible rfl
           rotate_left
           ·
            simp only [Act.put,qb,qc,qd,i64_w,i32_w]
            rfl
           refine pure_ (i:=8) (N:=some 34) (v:=?_) (a':=?_) #[true,true,false,true,false,true,false,false,true,false,false,false,false,false,false] rfl rfl (any_of HT_.out (by kernel_rfl)) (fun _ _ _ h => h) (Or.inl ⟨by rfl,?_⟩) ?_ ?_
           rotate_left
           ·
            intro w'
            go_simp
            with_reducible rfl
           rotate_left
           ·
            simp only [Act.put,qb,qc,qd,i64_w,i32_w]
            rfl
           refine take_ (i:=2) (N:=some 28) (v:=?_) (a':=?_) #[true,true,true,true,false,true,false,false,true,false,false,false,false,false,false] rfl rfl (take_ofW HT_.out HW_.out (by kernel_rfl)) (fun _ _ _ h => h) (Or.inl ⟨by rfl,?_⟩) hHeld ?_ ?_
           rotate_left
           ·
            rintro w' ⟨s0,s1⟩
            go_simp
            with_reducible rfl
           rotate_left
           ·
            simp only [Act.put,qb,qc,qd,i64_w,i32_w]
            rfl
           refine take_ (i:=4) (N:=some 30) (v:=?_) (a':=?_) #[true,true,true,true,true,true,false,false,true,false,false,false,false,false,false] rfl rfl (take_ofW HT_.out HW_.out (by kernel_rfl)) (fun _ _ _ h => h) (Or.inl ⟨by rfl,?_⟩) hHeld ?_ ?_
           rotate_left
           ·
            rintro w' ⟨s0,s1⟩
            go_simp
            with_reducible rfl
           rotate_left
           ·
            simp only [Act.put,qb,qc,qd,i64_w,i32_w]
            rfl
           refine take_ (i:=6) (N:=some 32) (v:=?_) (a':=?_) #[true,true,true,true,true,true,true,false,true,false,false,false,false,false,false] rfl rfl (take_ofW HT_.out HW_.out (by kernel_rfl)) (fun _ _ _ h => h) (Or.inl ⟨by rfl,?_⟩) hHeld ?_ ?_
           rotate_left
           ·
            rintro w' ⟨s0,s1⟩
            go_simp
            with_reducible rfl
           rotate_left
           ·
            simp only [Act.put,qb,qc,qd,i64_w,i32_w]
            rfl
           refine pure_ (i:=7) (N:=some 33) (v:=?_) (a':=?_) #[true,true,true,true,true,true,true,true,true,false,false,false,false,false,false] rfl rfl (any_of HT_.out (by kernel_rfl)) (fun _ _ _ h => h) (Or.inl ⟨by rfl,?_⟩) ?_ ?_
           rotate_left
           ·
            intro w'
            go_simp
            with_reducible rfl
           rotate_left
           ·
            simp only [Act.put,qb,qc,qd,i64_w,i32_w]
            rfl
           refine pure_ (i:=9) (N:=some 35) (v:=?_) (a':=?_) #[true,true,true,true,true,true,true,true,true,true,false,false,false,false,false] rfl rfl (any_of HT_.out (by kernel_rfl)) (fun _ _ _ h => h) (Or.inl ⟨by rfl,?_⟩) ?_ ?_
           rotate_left
           ·
            intro w'
            go_simp
            with_reducible rfl
           rotate_left
           ·
            simp only [Act.put,qb,qc,qd,i64_w,i32_w]
            rfl
           refine pure_ (i:=10) (N:=some 36) (v:=?_) (a':=?_) #[true,true,true,true,true,true,true,true,true,true,true,false,false,false,false] rfl rfl (any_of HT_.out (by kernel_rfl)) (fun _ _ _ h => h) (Or.inl ⟨by rfl,?_⟩) ?_ ?_
           rotate_left
           ·
            intro w'
            go_simp
            with_reducible rfl
           rotate_left
           ·
            simp only [Act.put,qb,qc,qd,i64_w,i32_w]
            rfl
           refine pure_ (i:=11) (N:=some 37) (v:=?_) (a':=?_) #[true,true,true,true,true,true,true,true,true,true,true,true,false,false,false] rfl rfl (any_of HT_.out (by kernel_rfl)) (fun _ _ _ h => h) (Or.inl ⟨by rfl,?_⟩) ?_ ?_
           rotate_left
           ·
            intro w'
            go_simp
            with_reducible rfl
           rotate_left
           ·
            simp only [Act.put,qb,qc,qd,i64_w,i32_w]
            rfl
           refine one_ (i:=12) (N:=some 38) #[true,true,true,true,true,true,true,true,true,true,true,true,true,false,false] rfl rfl (one_of HT_.out (by kernel_rfl)) (by decide) (fun K hK => ?_)
           refine value_ (w1:=?_) (v:=?_) (by rfl) rfl ?_ ?_
           rotate_left 2
           ·
            go_simp
            constructor
            ·
             rfl
            ·
             rfl
           refine hK.out _ _ ⟨(blk_cell (q3 BK102.out _) 0).trans rfl,(blk_cell (q3 BK102.out _) 1).trans rfl⟩ (fun hHeld => ?_)
           clear hK K
           refine norm_ (a':=?_) ?_ ?_
           rotate_left
           ·
            show Act.put _ (some 38) _=_
            simp only [Act.put,qb,qc,qd,i64_w,i32_w]
            rfl
           refine one_ (i:=13) (N:=some 39) #[true,true,true,true,true,true,true,true,true,true,true,true,true,true,false] rfl rfl (one_of HT_.out (by kernel_rfl)) (by decide) (fun K hK => ?_)
           refine Kd.N_append_step k51 (w0:=w) w.heap.size (by rfl) (.tmp 26) (.tmp 38) 22 51 (.agg #[(.slice none 0 0),(.slice none 0 0)]) 48 rfl Tryz.underlying22 info51 rfl (by decide) (by omega) u7 x7_1 (⟨(rd_T51 l0 x12_1).f0,y103⟩:S51) [.slice A101_0 ((rd_T51 l0 x12_1).f0).length c101_0,.slice A101_1 y103.length c101_1] (fun k_ => (P0_ k_∨w.heap.size≤k_)∧k_ ≠ gb102) (fun k_ => ((fun k_ => (P0_ k_∨w.heap.size≤k_)∧k_ ≠ gb102)) k_∧some k_ ≠ (u7:Value).ownBlock) rfl rfl ?aP (fun _ hk => hk) ?aF ?aO ?aB ?aS ?aL ?_
           (case aP => exact (k51_mkF _ _ (⟨(rd_T51 l0 x12_1).f0,y103⟩:S51) (Kd.V_reads' (Kd.V_mono (ok':=(fun k_ => ((fun k_ => (P0_ k_∨w.heap.size≤k_)∧k_ ≠ gb102)) k_∧some k_ ≠ (u7:Value).ownBlock)) (HL101_0.out) (fun k_ hk => ⟨⟨hk.1,hk.2.2⟩,hk.2.1⟩))).2.1 (Kd.V_F (Kd.V_mono (ok':=(fun k_ => ((fun k_ => (P0_ k_∨w.heap.size≤k_)∧k_ ≠ gb102)) k_∧some k_ ≠ (u7:Value).ownBlock)) (HL101_0.out) (fun k_ hk => ⟨⟨hk.1,hk.2.2⟩,hk.2.1⟩))) (Kd.V_reads' (Kd.V_mono (ok':=(fun k_ => ((fun k_ => (P0_ k_∨w.heap.size≤k_)∧k_ ≠ gb102)) k_∧some k_ ≠ (u7:Value).ownBlock)) (HO107.out) (fun k_ hk => ⟨⟨hk.1,hk.2.2⟩,hk.2.1⟩))).2.1 (Kd.V_F (Kd.V_mono (ok':=(fun k_ => ((fun k_ => (P0_ k_∨w.heap.size≤k_)∧k_ ≠ gb102)) k_∧some k_ ≠ (u7:Value).ownBlock)) (HO107.out) (fun k_ hk => ⟨⟨hk.1,hk.2.2⟩,hk.2.1⟩)))))
           (case aB => exact (by repeat (first | (with_reducible first | exact HB.out | apply q4 | apply q5 | apply q6 | refine q7 ?_ GE102.out) | exact HB.out)))
           (case aF => exact (fun k_ hk => ⟨(.inr (Nat.le_trans (below_size (by repeat (first | (with_reducible first | exact HB.out | apply q4 | apply q5 | apply q6 | refine q7 ?_ GE102.out) | exact HB.out))) hk)),Kd.freshB (g:=gb102) (o:=.cells #[.slice A101_0 ((rd_T51 l0 x12_1).f0).length c101_0,.slice A101_1 ((rd_T51 l0 x12_1).f1).length c101_1] 51 (0,0)) (by (with_reducible repeat (first | refine q1 ?_ _ | refine q2 ?_ | refine q3 ?_ _));exact BK102.out) k_ hk⟩))
           (case aO => exact (by (with_reducible repeat (first | apply Kd.N_alloc | apply Kd.N_drewN | apply Kd.N_drew));exact HO_7.out))
           (case aS => exact (below_size (by repeat (first | (with_reducible first | exact HB.out | apply q4 | apply q5 | apply q6 | refine q7 ?_ GE102.out) | exact HB.out))))
           (case aL => have:=LMc12.out;omega)
           intro v109 w18 ho hb hg hat
           rw [← Ny108.out] at ho
           have n0_:=Aside0.mk (Kd.V_afterv (ok:=(fun k_ => (P0_ k_∨w.heap.size≤k_)∧k_ ≠ gb102)) (by (with_reducible repeat (first | apply Kd.V_alloc | apply Kd.V_drewN | apply Kd.V_drew));exact Kd.V_mono HO_10.out (fun _ hk => ⟨⟨hk.1,hk.2.2⟩,hk.2.1⟩)) hg hat)
           have n1_:=Aside0.mk (Kd.V_afterv (ok:=(fun k_ => (P0_ k_∨w.heap.size≤k_)∧k_ ≠ gb102)) (by (with_reducible repeat (first | apply Kd.V_alloc | apply Kd.V_drewN | apply Kd.V_drew));exact Kd.V_mono HL101_0.out (fun _ hk => ⟨⟨hk.1,hk.2.2⟩,hk.2.1⟩)) hg hat)
           have n2_:=Aside0.mk (Kd.V_afterv (ok:=(fun k_ => (P0_ k_∨w.heap.size≤k_)∧k_ ≠ gb102)) (by (with_reducible repeat (first | apply Kd.V_alloc | apply Kd.V_drewN | apply Kd.V_drew));exact Kd.V_mono HL101_1.out (fun _ hk => ⟨⟨hk.1,hk.2.2⟩,hk.2.1⟩)) hg hat)
           have n3_:=Aside0.mk (blk_grown (g:=gb102) (o:=.cells #[.slice A101_0 ((rd_T51 l0 x12_1).f0).length c101_0,.slice A101_1 ((rd_T51 l0 x12_1).f1).length c101_1] 51 (0,0)) (by (with_reducible repeat (first | refine q1 ?_ _ | refine q2 ?_ | refine q3 ?_ _));exact BK102.out) hg (Kd.N_away HO_7.out (fun _ hk => hk.2)))
           have n4_:=Aside0.mk (Kd.V_afterv (ok:=(fun k_ => (P0_ k_∨w.heap.size≤k_)∧k_ ≠ gb102)) (by (with_reducible repeat (first | apply Kd.V_alloc | apply Kd.V_drewN | apply Kd.V_drew));exact Kd.V_mono HO107.out (fun _ hk => ⟨⟨hk.1,hk.2.2⟩,hk.2.1⟩)) hg hat)
           have n5_:=Aside0.mk (hb)
           have n6_:=Aside0.mk (ho)
           clear HO_10
           clear HL101_0
           clear HL101_1
           clear BK102
           clear HO107
           clear HB
           clear HO_7
           have HO_10:=n0_
           have HL101_0:=n1_
           have HL101_1:=n2_
           have BK102:=n3_
           have HO107:=n4_
           have HB:=n5_
           have HO110:=n6_
           clear n0_ n1_ n2_ n3_ n4_ n5_ n6_
           clear ho hb hg hat
           refine hK.out _ _ ⟨(blk_cell BK102.out 0).trans rfl,(blk_cell BK102.out 1).trans rfl⟩ (fun hHeld => ?_)
           clear hK K
           refine norm_ (a':=?_) ?_ ?_
           rotate_left
           ·
            show Act.put _ (some 39) _=_
            simp only [Act.put,qb,qc,qd,i64_w,i32_w]
            rfl
           refine pure_ (i:=14) (N:=some 7) (v:=?_) (a':=?_) #[true,true,true,true,true,true,true,true,true,true,true,true,true,true,true] rfl rfl (any_of HT_.out (by kernel_rfl)) (fun _ _ _ h => h) (Or.inl ⟨by rfl,?_⟩) ?_ ?_
           rotate_left
           ·
            intro w'
            go_simp
            with_reducible rfl
           rotate_left
           ·
            simp only [Act.put,qb,qc,qd,i64_w,i32_w]
            rfl
           refine done_ (done_of HT_.out (by kernel_rfl)) ?_
           try go_wp2
           go_roundg k1
           case measure => have:=HK1.out;omega
           case rel => exact ⟨(y108),(wrap64 (x12_1+1)),(by first | rfl | (simp;done) | (simp [*];done)),H',⟨by have:=HK1.out;omega⟩,⟨by (with_reducible repeat (first | apply Kd.N_alloc | apply Kd.N_drewN | apply Kd.N_drew));exact Kd.N_mono HO110.out (fun _ hk => hk.1)⟩,⟨by (with_reducible repeat (first | apply Kd.V_alloc | apply Kd.V_drewN | apply Kd.V_drew));exact Kd.V_mono HO_10.out (fun _ hk => ⟨hk.1.1,hk.2⟩)⟩,⟨by repeat (first | (with_reducible first | exact HB.out | apply q4 | apply q5 | apply q6 | refine q7 ?_ GE102.out) | exact HB.out)⟩⟩
          ·
           rw [if_neg c12] at H
           exact absurd H (by simp)
         ·
          rw [if_neg c11] at H
          exact absurd H (by simp)
        ·
         rw [if_neg c10] at H
         exact absurd H (by simp)
       ·
        rw [if_neg c8] at H
        have c8b0:decide ((((rd_T51 l0 x12_1).f0).length:Int)≤10)=false:=decide_eq_false c8
        have c8b1:decide (((rd_T51 l0 x12_1).f0).length≤10)=false:=decide_eq_false (by omega)
        clear c8
        have H':=Aside0.mk H
        clear H
        have p101:0≤(x12_1:Int):=of_decide_eq_true (by first | (with_reducible assumption) | assumption)
        have q101:x12_1<(l0.length:Int):=of_decide_eq_true (by first | (with_reducible assumption) | assumption)
        obtain ⟨ad101,A101_0,c101_0,A101_1,c101_1,e101,hx101_0,hx101_1,hl101_0,hi101_0,hl101_1,hi101_1⟩:=at_T51 (Kd.V_reads' HO_10.out).2.2 x12_1 p101 q101
        cases e101
        obtain ⟨ce101,hce101,hMe101,hcc101⟩:=Kd.V_get HO_10.out z51 x12_1 p101 (by first | exact q101 | exact of_decide_eq_true (by first | (with_reducible assumption) | assumption) | (have e_:=(Kd.V_reads' HO_10.out).1;omega))
        obtain ⟨ua101_0,uc101_0,ua101_1,uc101_1,rfl,ul101_0,ge101_0,ul101_1,ge101_1⟩:=k51_openF hMe101
        have hv101_0:=hcc101 0 _ rfl
        rw [Nat.add_zero] at hv101_0
        replace hv101_0:=Option.some.inj (hv101_0.symm.trans hx101_0)
        injection hv101_0 with hva_ hvn_ hvc_
        rw [hva_] at ge101_0
        rw [hvc_] at ul101_0
        have HL101_0:=Aside0.mk (show Kd.V k68 68 _ w.heap.size _ _ ((rd_T51 l0 x12_1).f0) from Kd.V_mk ul101_0 ge101_0)
        clear hva_ hvn_ hvc_ ge101_0 ul101_0
        have hv101_1:=hcc101 1 _ rfl
        rw [add_field _ _ 1 (by omega)] at hv101_1
        replace hv101_1:=Option.some.inj (hv101_1.symm.trans hx101_1)
        injection hv101_1 with hva_ hvn_ hvc_
        rw [hva_] at ge101_1
        rw [hvc_] at ul101_1
        have HL101_1:=Aside0.mk (show Kd.V k70 70 _ w.heap.size _ _ ((rd_T51 l0 x12_1).f1) from Kd.V_mk ul101_1 ge101_1)
        clear hva_ hvn_ hvc_ ge101_1 ul101_1
        clear hcc101 hce101
        have HR101_0:=Aside0.mk hi101_0
        have HC101_0:=Aside0.mk hl101_0
        clear hi101_0 hl101_0
        have HR101_1:=Aside0.mk hi101_1
        have HC101_1:=Aside0.mk hl101_1
        clear hi101_1 hl101_1
        replace p101:=eq_true p101
        replace q101:=eq_true q101
        go_wp2_with (first | ((with_reducible refine gate_dst (N:=9) rfl ?_);(try (refine gate_guard (by rfl) ?_;dsimp only));refine box_event ?hg (N:=9) ?hd (cs:=#[.slice none 0 0,.slice none 0 0]) (t:=51) ?hr ?_;(case hd => rfl);(case hg => rfl);(case hr => first | (go_simp;done) | (go_simp;rfl));intro gb102 hg w19 hbox hb;have n0_:=Aside0.mk (Kd.N_below (Kd.N_elderB (by (with_reducible repeat (first | apply Kd.N_alloc | apply Kd.N_drewN | apply Kd.N_drew));exact HO_7.out) gb102 (Nat.le_of_eq hg.symm)) hb);have n1_:=Aside0.mk (Kd.V_below (Kd.V_elderB (by (with_reducible repeat (first | apply Kd.V_alloc | apply Kd.V_drewN | apply Kd.V_drew));exact HO_10.out) gb102 (Nat.le_of_eq hg.symm)) hb);have n2_:=Aside0.mk (Kd.V_below (Kd.V_elderB (by (with_reducible repeat (first | apply Kd.V_alloc | apply Kd.V_drewN | apply Kd.V_drew));exact HL101_0.out) gb102 (Nat.le_of_eq hg.symm)) hb);have n3_:=Aside0.mk (Kd.V_below (Kd.V_elderB (by (with_reducible repeat (first | apply Kd.V_alloc | apply Kd.V_drewN | apply Kd.V_drew));exact HL101_1.out) gb102 (Nat.le_of_eq hg.symm)) hb);have n4_:=Aside0.mk (Kd.C_below (by repeat (first | (with_reducible exact HR101_0.out) | (with_reducible refine Kd.C_alloc ?_ _) | (with_reducible refine Kd.C_drewN ?_ _) | (with_reducible refine Kd.C_drew ?_) | exact HR101_0.out)) hb);have n5_:=Aside0.mk (Kd.C_below (by repeat (first | (with_reducible exact HR101_1.out) | (with_reducible refine Kd.C_alloc ?_ _) | (with_reducible refine Kd.C_drewN ?_ _) | (with_reducible refine Kd.C_drew ?_) | exact HR101_1.out)) hb);have n6_:=Aside0.mk (below_step (by repeat (first | (with_reducible first | exact HB.out | apply q4 | apply q5 | apply q6) | exact HB.out)) hb);have n7_:=Aside0.mk (hbox);have n8_:=Aside0.mk ((by rw [hg];exact (below_size (by repeat (first | (with_reducible first | exact HB.out | apply q4 | apply q5 | apply q6) | exact HB.out))):w.heap.size≤gb102));have n9_:=Aside0.mk ((by rw [hg];exact (below_size (by repeat (first | (with_reducible first | exact HB.out | apply q4 | apply q5 | apply q6) | exact HB.out))):w.heap.size≤gb102));clear HO_7;clear HO_10;clear HL101_0;clear HL101_1;clear HR101_0;clear HR101_1;clear HB;have HO_7:=n0_;have HO_10:=n1_;have HL101_0:=n2_;have HL101_1:=n3_;have HR101_0:=n4_;have HR101_1:=n5_;have HB:=n6_;have BK102:=n7_;have GW102:=n8_;have GE102:=n9_;clear n0_ n1_ n2_ n3_ n4_ n5_ n6_ n7_ n8_ n9_;clear hb hbox hg;have hcz20_0:=cz0 BK102.out;have hcz20_1:=cz1 BK102.out;have hfz20_0:=blk_frozen BK102.out 0;have hfz20_1:=blk_frozen BK102.out 1))
        go_roundg k1
        case measure => have:=HK1.out;omega
        case rel => exact ⟨(x7_1),(wrap64 (x12_1+1)),(by first | rfl | (simp;done) | (simp [*];done)),H',⟨by have:=HK1.out;omega⟩,⟨by (with_reducible repeat (first | apply Kd.N_alloc | apply Kd.N_drewN | apply Kd.N_drew));exact Kd.N_mono (Kd.N_far (p:=⟨gb102,1,none⟩) (Kd.N_far (p:=⟨gb102,0,none⟩) (Kd.N_mono HO_7.out (fun k_ hk => (⟨hk,hk.2⟩:_∧k_ ≠ gb102))) (fun _ hk => hk.2) (.slice A101_0 ((rd_T51 l0 x12_1).f0).length c101_0)) (fun _ hk => hk.2) (.slice A101_1 ((rd_T51 l0 x12_1).f1).length c101_1)) (fun _ hk => hk.1.1)⟩,⟨by (with_reducible repeat (first | apply Kd.V_alloc | apply Kd.V_drewN | apply Kd.V_drew));exact Kd.V_mono (Kd.V_far (p:=⟨gb102,1,none⟩) (Kd.V_far (p:=⟨gb102,0,none⟩) (Kd.V_mono HO_10.out (fun k_ hk => (⟨hk,hk.2⟩:_∧k_ ≠ gb102))) (fun _ hk => hk.2) (.slice A101_0 ((rd_T51 l0 x12_1).f0).length c101_0)) (fun _ hk => hk.2) (.slice A101_1 ((rd_T51 l0 x12_1).f1).length c101_1)) (fun _ hk => ⟨hk.1.1.1,hk.1.1.2⟩)⟩,⟨by repeat (first | (with_reducible first | exact HB.out | apply q4 | apply q5 | apply q6 | refine q7 ?_ GE102.out) | exact HB.out)⟩⟩
      ·
       rw [if_neg c7] at H
       have c7b0:decide (x12_1<a1)=false:=decide_eq_false c7
       clear c7
       have H':=Aside0.mk H
       clear H
       have p101:0≤(x12_1:Int):=of_decide_eq_true (by first | (with_reducible assumption) | assumption)
       have q101:x12_1<(l0.length:Int):=of_decide_eq_true (by first | (with_reducible assumption) | assumption)
       obtain ⟨ad101,A101_0,c101_0,A101_1,c101_1,e101,hx101_0,hx101_1,hl101_0,hi101_0,hl101_1,hi101_1⟩:=at_T51 (Kd.V_reads' HO_10.out).2.2 x12_1 p101 q101
       cases e101
       obtain ⟨ce101,hce101,hMe101,hcc101⟩:=Kd.V_get HO_10.out z51 x12_1 p101 (by first | exact q101 | exact of_decide_eq_true (by first | (with_reducible assumption) | assumption) | (have e_:=(Kd.V_reads' HO_10.out).1;omega))
       obtain ⟨ua101_0,uc101_0,ua101_1,uc101_1,rfl,ul101_0,ge101_0,ul101_1,ge101_1⟩:=k51_openF hMe101
       have hv101_0:=hcc101 0 _ rfl
       rw [Nat.add_zero] at hv101_0
       replace hv101_0:=Option.some.inj (hv101_0.symm.trans hx101_0)
       injection hv101_0 with hva_ hvn_ hvc_
       rw [hva_] at ge101_0
       rw [hvc_] at ul101_0
       have HL101_0:=Aside0.mk (show Kd.V k68 68 _ w.heap.size _ _ ((rd_T51 l0 x12_1).f0) from Kd.V_mk ul101_0 ge101_0)
       clear hva_ hvn_ hvc_ ge101_0 ul101_0
       have hv101_1:=hcc101 1 _ rfl
       rw [add_field _ _ 1 (by omega)] at hv101_1
       replace hv101_1:=Option.some.inj (hv101_1.symm.trans hx101_1)
       injection hv101_1 with hva_ hvn_ hvc_
       rw [hva_] at ge101_1
       rw [hvc_] at ul101_1
       have HL101_1:=Aside0.mk (show Kd.V k70 70 _ w.heap.size _ _ ((rd_T51 l0 x12_1).f1) from Kd.V_mk ul101_1 ge101_1)
       clear hva_ hvn_ hvc_ ge101_1 ul101_1
       clear hcc101 hce101
       have HR101_0:=Aside0.mk hi101_0
       have HC101_0:=Aside0.mk hl101_0
       clear hi101_0 hl101_0
       have HR101_1:=Aside0.mk hi101_1
       have HC101_1:=Aside0.mk hl101_1
       clear hi101_1 hl101_1
       replace p101:=eq_true p101
       replace q101:=eq_true q101
       go_wp2_with (first | ((with_reducible refine gate_dst (N:=9) rfl ?_);(try (refine gate_guard (by rfl) ?_;dsimp only));refine box_event ?hg (N:=9) ?hd (cs:=#[.slice none 0 0,.slice none 0 0]) (t:=51) ?hr ?_;(case hd => rfl);(case hg => rfl);(case hr => first | (go_simp;done) | (go_simp;rfl));intro gb102 hg w21 hbox hb;have n0_:=Aside0.mk (Kd.N_below (Kd.N_elderB (by (with_reducible repeat (first | apply Kd.N_alloc | apply Kd.N_drewN | apply Kd.N_drew));exact HO_7.out) gb102 (Nat.le_of_eq hg.symm)) hb);have n1_:=Aside0.mk (Kd.V_below (Kd.V_elderB (by (with_reducible repeat (first | apply Kd.V_alloc | apply Kd.V_drewN | apply Kd.V_drew));exact HO_10.out) gb102 (Nat.le_of_eq hg.symm)) hb);have n2_:=Aside0.mk (Kd.V_below (Kd.V_elderB (by (with_reducible repeat (first | apply Kd.V_alloc | apply Kd.V_drewN | apply Kd.V_drew));exact HL101_0.out) gb102 (Nat.le_of_eq hg.symm)) hb);have n3_:=Aside0.mk (Kd.V_below (Kd.V_elderB (by (with_reducible repeat (first | apply Kd.V_alloc | apply Kd.V_drewN | apply Kd.V_drew));exact HL101_1.out) gb102 (Nat.le_of_eq hg.symm)) hb);have n4_:=Aside0.mk (Kd.C_below (by repeat (first | (with_reducible exact HR101_0.out) | (with_reducible refine Kd.C_alloc ?_ _) | (with_reducible refine Kd.C_drewN ?_ _) | (with_reducible refine Kd.C_drew ?_) | exact HR101_0.out)) hb);have n5_:=Aside0.mk (Kd.C_below (by repeat (first | (with_reducible exact HR101_1.out) | (with_reducible refine Kd.C_alloc ?_ _) | (with_reducible refine Kd.C_drewN ?_ _) | (with_reducible refine Kd.C_drew ?_) | exact HR101_1.out)) hb);have n6_:=Aside0.mk (below_step (by repeat (first | (with_reducible first | exact HB.out | apply q4 | apply q5 | apply q6) | exact HB.out)) hb);have n7_:=Aside0.mk (hbox);have n8_:=Aside0.mk ((by rw [hg];exact (below_size (by repeat (first | (with_reducible first | exact HB.out | apply q4 | apply q5 | apply q6) | exact HB.out))):w.heap.size≤gb102));have n9_:=Aside0.mk ((by rw [hg];exact (below_size (by repeat (first | (with_reducible first | exact HB.out | apply q4 | apply q5 | apply q6) | exact HB.out))):w.heap.size≤gb102));clear HO_7;clear HO_10;clear HL101_0;clear HL101_1;clear HR101_0;clear HR101_1;clear HB;have HO_7:=n0_;have HO_10:=n1_;have HL101_0:=n2_;have HL101_1:=n3_;have HR101_0:=n4_;have HR101_1:=n5_;have HB:=n6_;have BK102:=n7_;have GW102:=n8_;have GE102:=n9_;clear n0_ n1_ n2_ n3_ n4_ n5_ n6_ n7_ n8_ n9_;clear hb hbox hg;have hcz22_0:=cz0 BK102.out;have hcz22_1:=cz1 BK102.out;have hfz22_0:=blk_frozen BK102.out 0;have hfz22_1:=blk_frozen BK102.out 1))
       go_roundg k1
       case measure => have:=HK1.out;omega
       case rel => exact ⟨(x7_1),(wrap64 (x12_1+1)),(by first | rfl | (simp;done) | (simp [*];done)),H',⟨by have:=HK1.out;omega⟩,⟨by (with_reducible repeat (first | apply Kd.N_alloc | apply Kd.N_drewN | apply Kd.N_drew));exact Kd.N_mono (Kd.N_far (p:=⟨gb102,1,none⟩) (Kd.N_far (p:=⟨gb102,0,none⟩) (Kd.N_mono HO_7.out (fun k_ hk => (⟨hk,hk.2⟩:_∧k_ ≠ gb102))) (fun _ hk => hk.2) (.slice A101_0 ((rd_T51 l0 x12_1).f0).length c101_0)) (fun _ hk => hk.2) (.slice A101_1 ((rd_T51 l0 x12_1).f1).length c101_1)) (fun _ hk => hk.1.1)⟩,⟨by (with_reducible repeat (first | apply Kd.V_alloc | apply Kd.V_drewN | apply Kd.V_drew));exact Kd.V_mono (Kd.V_far (p:=⟨gb102,1,none⟩) (Kd.V_far (p:=⟨gb102,0,none⟩) (Kd.V_mono HO_10.out (fun k_ hk => (⟨hk,hk.2⟩:_∧k_ ≠ gb102))) (fun _ hk => hk.2) (.slice A101_0 ((rd_T51 l0 x12_1).f0).length c101_0)) (fun _ hk => hk.2) (.slice A101_1 ((rd_T51 l0 x12_1).f1).length c101_1)) (fun _ hk => ⟨hk.1.1.1,hk.1.1.2⟩)⟩,⟨by repeat (first | (with_reducible first | exact HB.out | apply q4 | apply q5 | apply q6 | refine q7 ?_ GE102.out) | exact HB.out)⟩⟩
     ·
      rw [if_neg c6] at H
      exact absurd H (by simp)
    ·
     rw [if_neg c5] at H
     exact absurd H (by simp)
   ·
    rw [if_neg c4] at H
    have c4b0:decide (x12_1<(l0.length:Int))=false:=decide_eq_false c4
    clear c4
    obtain rfl:=Option.some.inj H
    go_wp2
    go_ret
    exact ⟨_,by first | rfl | (simp [errW_none,errW_some] <;> rfl) | (simp [*,errW_none,errW_some] <;> rfl),by (with_reducible repeat (first | apply Kd.N_alloc | apply Kd.N_drewN | apply Kd.N_drew));exact HO_7.out,by repeat (first | (with_reducible first | exact HB.out | apply q4 | apply q5 | apply q6) | exact HB.out)⟩
end Go.Proofs.YtcgbgifbajdhpaaGreatDoor.PA
namespace Go.Proofs.YtcgbgifbajdhpaaGreatDoor.PA
open Go.RowKit Go.Proofs.YtcgbgifbajdhpaaGreatDoor.G Go.Proofs.YtcgbgifbajdhpaaGreatDoorW.PrintWords Go.Proofs.YtcgbgifbajdhpaaGreatDoorW.PrintLast Go.Proofs.YtcgbgifbajdhpaaGreatDoorW.PrintMore
def FewP (l:List S51) (m2:Nat) (x:S51):Prop:=(∃ y ∈ l,x.f0=y.f0∧∀ s ∈ x.f1,s ∈ y.f1)∧x.f0.length≤10∧x.f1.length≤m2
theorem few_from (l:List S51) (hl:l.length≤2932031007402) (m1 m2:Nat):∀ d i,i+d=l.length→∀ (out:List S51),out.length≤i→out.length≤m1→(∀ x ∈ out,FewP l m2 x)→∃ r,(∀ k,d<k→dryrotplain_Few.l0 k (m1:Int) (m2:Int) out l (l.length:Int) (i:Int)=some r)∧r.length≤m1∧∀ x ∈ r,FewP l m2 x
  | 0,i,h,out,h1,h2,h3 => by
    refine ⟨out,fun k hk => ?_,h2,h3⟩
    cases k with
    | zero => omega
    | succ k => rw [dryrotplain_Few.l0,if_neg (by omega)]
  | d + 1, i, h, out, h1, h2, h3 => by
    have hi:i<l.length:=by omega
    have hw:wrap64 ((i:Int)+1)=((i+1:Nat):Int):=by unfold wrap64;omega
    have hm:=rd_memZ l i hi
    have hmn:0≤mn ((rd_T51 l (i:Int)).f1.length:Int) (m2:Int)∧mn ((rd_T51 l (i:Int)).f1.length:Int) (m2:Int)≤((rd_T51 l (i:Int)).f1.length:Int)∧mn ((rd_T51 l (i:Int)).f1.length:Int) (m2:Int)≤(m2:Int):=by
      unfold mn
      split <;> omega
    by_cases hc:(i:Int)<(m1:Int)∧((rd_T51 l (i:Int)).f0.length:Int)≤10
    · obtain ⟨r,h4,h5,h6⟩:=few_from l hl m1 m2 d (i+1) (by omega) (out ++ [⟨(rd_T51 l (i:Int)).f0,(rd_T51 l (i:Int)).f1.take (mn ((rd_T51 l (i:Int)).f1.length:Int) (m2:Int)).toNat⟩]) (by rw [List.length_append];simp;omega) (by rw [List.length_append];simp;omega) (fun x hx => by
        rcases List.mem_append.1 hx with hx | hx
        · exact h3 x hx
        · simp only [List.mem_cons,List.not_mem_nil,or_false] at hx
          subst hx
          refine ⟨⟨_,hm,rfl,fun s hs => List.mem_of_mem_take hs⟩,by simp only;omega,?_⟩
          simp only [List.length_take]
          omega)
      refine ⟨r,fun k hk => ?_,h5,h6⟩
      cases k with
      | zero => omega
      | succ k => rw [dryrotplain_Few.l0,if_pos (by omega),if_pos (by omega),if_pos (by omega),if_pos hc.1,if_pos hc.2,if_pos hmn.1,if_pos hmn.2.1,if_pos (by omega),hw];exact h4 k (by omega)
    · obtain ⟨r,h4,h5,h6⟩:=few_from l hl m1 m2 d (i+1) (by omega) out (by omega) h2 h3
      refine ⟨r,fun k hk => ?_,h5,h6⟩
      cases k with
      | zero => omega
      | succ k =>
        rw [dryrotplain_Few.l0,if_pos (by omega),if_pos (by omega),if_pos (by omega),hw]
        by_cases hc1:(i:Int)<(m1:Int)
        · rw [if_pos hc1,if_neg (fun h => hc ⟨hc1,h⟩)];exact h4 k (by omega)
        · rw [if_neg hc1];exact h4 k (by omega)
theorem few_L (l:List S51) (hl:l.length≤2932031007402) (m1 m2:Nat):∃ r,dryrotplain_Few.f (l.length+1) l (m1:Int) (m2:Int)=some r∧r.length≤m1∧∀ x ∈ r,FewP l m2 x:=by
  obtain ⟨r,h1,h2,h3⟩:=few_from l hl m1 m2 l.length 0 (by omega) [] (Nat.zero_le _) (Nat.zero_le _) (fun x hx => by cases hx)
  exact ⟨r,h1 _ (by omega),h2,h3⟩
def okW (l:List S51):Prop:=∀ x ∈ l,okLs x.f0∧∀ s ∈ x.f1,okS s
theorem few_okZ {l r:List S51} (hw:okW l) (m2:Nat) (h2:m2≤1000000) (h:∀ x ∈ r,FewP l m2 x):okZ r:=fun x hx => by
  obtain ⟨⟨y,hy,e0,e1⟩,h0,h1⟩:=h x hx
  refine ⟨by rw [e0];exact (hw y hy).1,by omega,by omega,fun s hs => (hw y hy).2 s (e1 s hs)⟩
end Go.Proofs.YtcgbgifbajdhpaaGreatDoor.PA
namespace Go.Proofs.YtcgbgifbajdhpaaGreatDoor.G
open Go.ChangeShapes Go.WideShapes Go.Deep Go.RowKit Go.Proofs.YtcgbgifbajdhpaaGreatDoor.PA Go.Proofs.YtcgbgifbajdhpaaGreatDoorW.PrintWords
theorem mem_weightsAll {H:Type} {P:Program} {e:TypeId} {n:Nat} {x:DataW H}:∀ {l:List (DataW H)},x ∈ l→n ∈ DataW.weights P e x→n ∈ DataW.weightsAll P e l
  | y :: r,hx,hn => by
    rw [DataW.weightsAll,List.mem_append]
    rcases List.mem_cons.1 hx with h | h
    · subst h;exact .inl hn
    · exact .inr (mem_weightsAll h hn)
section
variable {H:Type} {enc:TypeId × Value→H} {w:World}
theorem okLs_nil:okLs ([]:List S68):=fun x h => by cases h
theorem ser_labels {n:Nat} {v:Value} {y:DataW H × List MemPlace} (hsz:∀ m ∈ DataW.weights Tryz.prog 46 y.1,m≤reachBytes) (h:DataW.trod enc Tryz.prog w 0 (fun _ => true) true n 46 [v] = some y) :
    ∃ (A:Option Addr) (c:Nat) (l:List S68),v = .slice A l.length c∧l.length≤c∧k68.C w A l.length l∧okLs l:=by
  rcases open_slice_fields Tryz.underlying46 Tryz.underlying68 (by kernel_rfl) (by kernel_rfl) h with ⟨hcs,_⟩ | ⟨x,l,c,m,D,Pl,hcs,_,hl,hm,hmm,hdx,hi⟩
  · simp only [List.cons.injEq,and_true] at hcs
    exact ⟨none,0,[],hcs,Nat.le_refl _,⟨rfl,by simp,fun h => by simp at h⟩,okLs_nil⟩
  · simp only [List.cons.injEq,and_true] at hcs
    subst hcs
    simp only [if_true] at hmm
    subst hmm
    have hd:y.1 = .slice ((List.range l).map D) ((List.range (m - l)).map fun j => D (l+j)):=by rw [hdx]
    obtain ⟨xs,hxl,hxs⟩:=choose_list (fun i (s:S68) => (s.f0.size≤140737488355328∧s.f1.size≤140737488355328)∧∃ cs,cs.length=2∧k68.K w s cs∧∀ j u,cs[j]? = some u→w.cell? (x.add (i*2+j))=some u) l (fun i hil => by
      obtain ⟨ys,n,hDi,_,_,hfld⟩:=hi i (by omega)
      obtain ⟨v0,y0,c0,hy0,t0⟩:=hfld 0 _ rfl
      obtain ⟨v1,y1,c1,hy1,t1⟩:=hfld 1 _ rfl
      obtain ⟨s0,e0,d0,_⟩:=DataW.trod_string Tryz.underlying9 t0
      obtain ⟨s1,e1,d1,_⟩:=DataW.trod_string Tryz.underlying9 t1
      obtain rfl:v0 = .string s0:=by simpa using e0
      obtain rfl:v1 = .string s1:=by simpa using e1
      have hw:(DataW.weightsEach Tryz.prog [9,9] (ys.map (·.1))).all (· ≤ reachBytes)=true:=by
        rw [List.all_eq_true]
        intro k hk
        have:=hsz k (by
          rw [hd,DataW.weights,Tryz.underlying46]
          exact List.mem_cons_of_mem _ (List.mem_append_left _ (mem_weightsAll (List.mem_map.2 ⟨i,List.mem_range.2 hil,rfl⟩) (by rw [hDi,DataW.weights,Tryz.underlying68];exact hk))))
        exact decide_eq_true this
      have z0:=sized_string (j:=0) hw rfl (bytes:=s0.data.toList) (by rw [List.getElem?_map,hy0,d0];rfl)
      have z1:=sized_string (j:=1) hw rfl (bytes:=s1.data.toList) (by rw [List.getElem?_map,hy1,d1];rfl)
      rw [Array.length_toList] at z0 z1
      have hrb:reachBytes≤140737488355328:=by decide
      refine ⟨⟨s0,s1⟩,⟨Nat.le_trans z0 hrb,Nat.le_trans z1 hrb⟩,_,rfl,k68_mk w ⟨s0,s1⟩,fun j u hj => ?_⟩
      match j,hj with
      | 0,hj => injection hj with hj;subst hj;exact c0
      | 1,hj => injection hj with hj;subst hj;exact c1
      | n+2,hj => simp at hj)
    have hmx:maxLen≤9223372036854775807:=by decide
    refine ⟨some x,m,xs,by rw [hxl],by omega,⟨rfl,by rw [hxl];omega,fun _ => ⟨x,rfl,fun j p hj => ?_⟩⟩,fun s hs => ?_⟩
    · obtain ⟨_,cs,h1,h2,h3⟩:=hxs j p hj
      exact ⟨cs,h1,h2,h3⟩
    · obtain ⟨j,hj⟩:=List.getElem?_of_mem hs
      exact (hxs j s hj).1
theorem ser_samples {n:Nat} {v:Value} {y:DataW H × List MemPlace} (h:DataW.trod enc Tryz.prog w 0 (fun _ => true) true n 49 [v] = some y) :
    ∃ (A:Option Addr) (c:Nat) (l:List S70),v = .slice A l.length c∧l.length≤c∧k70.C w A l.length l∧∀ x ∈ l,okS x:=by
  have hv:∃ a len cap,v = .slice a len cap:=by
    rcases open_slice_fields Tryz.underlying49 Tryz.underlying70 (by kernel_rfl) (by kernel_rfl) h with ⟨hcs,_⟩ | ⟨x,l,c,m,D,Pl,hcs,_⟩
    · simp only [List.cons.injEq,and_true] at hcs
      exact ⟨_,_,_,hcs⟩
    · simp only [List.cons.injEq,and_true] at hcs
      exact ⟨_,_,_,hcs⟩
  have hT:DataW.Trod enc Tryz.prog w 0 (fun _ => true) true 49 v y.1 y.2:=by
    obtain ⟨a,len,cap,rfl⟩:=hv
    exact ⟨n,h⟩
  obtain ⟨A,c,l,h1,h2,h3,h4⟩:=open_rows49 hv hT
  exact ⟨A,c,l,h1,h3,h2,h4⟩
theorem open_rowsS22 {v:Value} {d:DataW H} {p:List MemPlace} (hv:∃ a len cap,v = .slice a len cap) {ts:List TypeId} {ds:List (DataW H)} (hsz:(DataW.weightsEach Tryz.prog (22 :: ts) (d :: ds)).all (· ≤ reachBytes)=true) (h:DataW.Trod enc Tryz.prog w 0 (fun _ => true) true 22 v d p) :
    ∃ (A:Option Addr) (c:Nat) (l:List S51),v = .slice A l.length c∧k51.C w A l.length l∧l.length≤c∧okW l∧l.length*48≤140737488355328:=by
  obtain ⟨a,len,cap,rfl⟩:=hv
  obtain ⟨fuel,hf⟩:=h
  rcases open_slice_fields Tryz.underlying22 Tryz.underlying51 (by kernel_rfl) (by kernel_rfl) hf with ⟨hcs,_⟩ | ⟨x,l,c,m,D,Pl,hcs,_,hl,hm,hmm,hdx,hi⟩
  · simp [Value.cells] at hcs
    obtain ⟨rfl,rfl,rfl⟩:=hcs
    exact ⟨none,0,[],rfl,⟨rfl,by simp,fun h => by simp at h⟩,Nat.le_refl _,(fun x hx => by cases hx),by simp⟩
  · simp [Value.cells] at hcs
    obtain ⟨rfl,rfl,rfl⟩:=hcs
    simp only [if_true] at hmm
    subst hmm
    have hd:d = .slice ((List.range len).map D) ((List.range (m - len)).map fun j => D (len+j)):=(Prod.mk.inj hdx).1
    have hall:∀ k ∈ DataW.weights Tryz.prog 22 d,k≤reachBytes:=fun k hk => by
      have:=List.all_eq_true.1 hsz k (by rw [DataW.weightsEach,List.mem_append];exact .inl hk)
      exact of_decide_eq_true this
    have h48:=hall ((((List.range len).map D).length+((List.range (m - len)).map fun j => D (len+j)).length)*Tryz.prog.bytesOf 51) (by rw [hd,DataW.weights,Tryz.underlying22];exact List.mem_cons_self ..)
    obtain ⟨xs,hxl,hxs⟩:=choose_list (fun i (s:S51) => (okLs s.f0∧∀ q ∈ s.f1,okS q)∧∃ cs,cs.length=2∧k51.K w s cs∧∀ j u,cs[j]? = some u→w.cell? (x.add (i*2+j))=some u) len (fun i hil => by
      obtain ⟨ys,n,hDi,_,_,hfld⟩:=hi i (by omega)
      obtain ⟨v0,y0,c0,hy0,t0⟩:=hfld 0 _ rfl
      obtain ⟨v1,y1,c1,hy1,t1⟩:=hfld 1 _ rfl
      obtain ⟨A0,q0,l0,rfl,hq0,hC0,hw0⟩:=ser_labels (fun k hk => hall k (by
        rw [hd,DataW.weights,Tryz.underlying22]
        refine List.mem_cons_of_mem _ (List.mem_append_left _ (mem_weightsAll (List.mem_map.2 ⟨i,List.mem_range.2 hil,rfl⟩) ?_))
        rw [hDi,DataW.weights,Tryz.underlying51]
        exact DataW.weights_mem_each (j:=0) (ts:=[46,49]) rfl (by rw [List.getElem?_map,hy0];rfl) k hk)) t0
      obtain ⟨A1,q1,l1,rfl,hq1,hC1,hw1⟩:=ser_samples t1
      refine ⟨⟨l0,l1⟩,⟨hw0,hw1⟩,_,rfl,k51_mk w ⟨l0,l1⟩ hq0 hC0 hq1 hC1,fun j u hj => ?_⟩
      match j,hj with
      | 0,hj => injection hj with hj;subst hj;exact c0
      | 1,hj => injection hj with hj;subst hj;exact c1
      | n+2,hj => simp at hj)
    have hmx:maxLen≤9223372036854775807:=by decide
    have hbo:Tryz.prog.bytesOf 51=48:=by kernel_rfl
    have hrb:reachBytes≤140737488355328:=by decide
    refine ⟨some x,m,xs,by rw [hxl],⟨rfl,by rw [hxl];omega,fun _ => ⟨x,rfl,fun j p hj => ?_⟩⟩,by omega,fun s hs => ?_,?_⟩
    · obtain ⟨_,cs,h1,h2,h3⟩:=hxs j p hj
      exact ⟨cs,h1,h2,h3⟩
    · obtain ⟨j,hj⟩:=List.getElem?_of_mem hs
      exact (hxs j s hj).1
    · rw [hbo] at h48
      simp only [List.length_map,List.length_range] at h48
      rw [hxl]
      omega
end
end Go.Proofs.YtcgbgifbajdhpaaGreatDoor.G
