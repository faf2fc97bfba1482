/- Lemmas and contracts that the law DumpWrites leans on (packed by a program of this session out of its texts and the print's words). -/
import Derived.Test.YtcgbgifbajdhpaaGreatDoorZW4
import Derived.Deep.DeepCutAuto
import Derived.Test.YtcgbgifbajdhpaaGreatDoorZW2
import Derived.Deep.DeepMust
import Derived.Laws.RangeAny
import Derived.RangeFuncNested
import Derived.RangeFuncBound
import Derived.RangeFuncCalls
import Derived.RangeFuncLeaves
import Derived.Shelf.Abstract
import Derived.Shelf.RegionOpen
import Derived.WalkKit
import Derived.OwnWalkIn
import Derived.TacticsInMore
import Derived.LoopNIn
import Derived.LoopIn
import Derived.Lib.QuietBelowIn
import Derived.OrdersHeld
import Derived.StillTailTactics
import Derived.OrdersIn
import Derived.RangeFuncKeeps
import Derived.Tactics2
import Derived.RegionTactic
import Derived.Laws.Cover1
import Derived.Test.YtcgbgifbajdhpaaGreatDoorZW3
import Derived.Deep.RegionLaw
set_option linter.unusedVariables false
set_option linter.unusedSimpArgs false
set_option maxHeartbeats 16000000
set_option maxRecDepth 1000000
namespace Go.Proofs.YtcgbgifbajdhpaaGreatDoor.PA
open Go.RowKit Go.Proofs.YtcgbgifbajdhpaaGreatDoor.G Go.Proofs.YtcgbgifbajdhpaaGreatDoorW.PrintWords Go.Proofs.YtcgbgifbajdhpaaGreatDoorW.PrintLast Go.Proofs.YtcgbgifbajdhpaaGreatDoorW.PrintMore
theorem k70_JKM {w w':World} {base:Nat} {ok:Nat→Prop} {x:S70} {cs:List Value} (h:k70.K w x cs):k70.M w' base ok x cs:=by
  rw [k70_open h]
  exact k70_mkM _ _ _ x
theorem groups_take (l:List S51) (k:Nat) (hk:k<l.length):groupsL (l.take (k+1))=stepG (groupsL (l.take k)) (rd_T51 l (k:Int)):=by
  rw [List.take_succ_eq_append_getElem hk,groupsL_snoc,rd_getElem hk]
theorem reps_smp:∀ {w:World} {base:Nat} {ok:Nat→Prop} (l:List S70) (inner:List Value),Reps (k70.M w base ok) 2 l inner→inner=flatP l
  | _,_,_,[],inner,h => List.eq_nil_of_length_eq_zero (by simpa using h.1)
  | w,base,ok,x :: l,inner,h => by
    have h0:=h.2 0 x rfl
    rw [Nat.zero_mul,List.drop_zero] at h0
    have ih:=reps_smp (w:=w) (base:=base) (ok:=ok) l (inner.drop 2) ⟨by rw [List.length_drop,h.1,List.length_cons];omega,fun j p hj => by
      have:=h.2 (j+1) p (by simpa using hj)
      rw [List.drop_drop]
      rwa [show (j+1)*2=2+j*2 from by omega] at this⟩
    rw [flatP_cons,← ih,← List.take_append_drop 2 inner,k70_openM h0]
    rfl
theorem smp_reps {w:World} {base:Nat} {ok:Nat→Prop}:∀ (l:List S70),Reps (k70.M w base ok) 2 l (flatP l)
  | [] => Reps.none _ _
  | x :: l => Reps.front (R:=k70.M w base ok) (c:=[.int .i64 x.f0,.int .u64 x.f1]) (k70_mkM w base ok x) rfl (smp_reps l) rfl
theorem rs_own {w:World} {base:Nat} {v:Value} {l:List S70} (h:RS w base v l):w.ownsRow base 70 2 v l.length (flatP l):=by
  obtain ⟨_,inner,ho,hr⟩:=h
  rw [← reps_smp l inner hr]
  exact ho
theorem own_rs {w:World} {base:Nat} {v:Value} {l:List S70} (h:w.ownsRow base 70 2 v l.length (flatP l)):RS w base v l:=⟨fun _ _ => trivial,flatP l,h,smp_reps l⟩
def ris (x:S51):S51:=⟨x.f0,risenL x.f1⟩
def mixJ (G:List S51) (j:Nat):List S51:=(G.take j).map ris++G.drop j
theorem mixJ_at (G:List S51) (j:Nat) (h:j<G.length):(mixJ G j)[j]? = some G[j]:=by
  unfold mixJ
  rw [List.getElem?_append_right (by simp;omega)]
  simp
  rw [Nat.min_eq_left (by omega),Nat.sub_self,Nat.add_zero,List.getElem?_eq_getElem h]
theorem mixJ_set (G:List S51) (j:Nat) (h:j<G.length):(mixJ G j).set j (ris G[j])=mixJ G (j+1):=by
  unfold mixJ
  rw [List.set_append_right _ _ (by simp;omega),List.take_succ_eq_append_getElem h,List.map_append]
  simp [Nat.min_eq_left (Nat.le_of_lt h)]
  rw [List.drop_eq_getElem_cons h]
  rfl
theorem join.calls (A:Option Addr) (c n:Nat) (l:List S51) (w:World) (hn:l.length=n) (hr:Kd.C k51 w A n l) (hlen:n≤100000) (htot:tot l≤1000000) (hlab:∀ x ∈ l,x.f0.length≤1000000) :
    Calls Tryz.prog 36 #[.slice A n c] w fun e w' => ∃ (A':Option Addr) (c':Nat),e = .returned (.slice A' (joinL l).length c')∧(joinL l).length≤c'∧Kd.C k51 w' A' (joinL l).length (joinL l)∧Below w.heap.size w w':=by
  subst hn
  have mixed:Tryz.prog.follows .mixedOrders=true:=by kernel_rfl
  have HR:=Aside0.mk hr
  have HT:=Aside0.mk htot
  have HLAB:=Aside0.mk hlab
  clear hr htot hlab
  go_enter Tryz.func36,Tryz.ntmps36
  go_wp2
  go_loopg [3,11] l.length (fun kx s3 s11 wr => ∃ (k:Nat) (v:Value) (rs:List Rec),s11 = .int .i64 k∧s3=v∧k≤l.length∧l.length - k≤kx∧Aside0 (Lay wr w.heap.size v rs)∧Aside0 (rs.map (·.x)=groupsL (l.take k))∧Aside0 (Below w.heap.size w wr))
  case atStart => exact ⟨0,_,[],rfl,rfl,Nat.zero_le _,by omega,⟨Lay.nil _ _⟩,⟨rfl⟩,⟨Below.refl _ _⟩⟩
  case round =>
    obtain ⟨k,v,rs,rfl,rfl,hk,hkx,HL,HM,HB⟩:=hrel
    by_cases hlt:k<l.length
    · obtain ⟨ad,A0,c0,A1,c1,rfl,x0,x1,l0,g0,l1,g1⟩:=at_T51 HR.out (k:Int) (by omega) (by omega)
      rw [Int.toNat_natCast] at x0 x1
      replace x0:=pw_cell_below HB.out x0
      replace x1:=pw_cell_below HB.out x1
      have hkz:(k:Int)<(l.length:Int):=by omega
      have HGT:=Aside0.mk (groups_take l k hlt)
      have HSL:Aside0 ((rd_T51 l (k:Int)).f0.length≤1000000∧tot (l.take k)+(rd_T51 l (k:Int)).f1.length≤1000000):=⟨by
        rw [rd_getElem hlt]
        refine ⟨HLAB.out _ (List.getElem_mem hlt),?_⟩
        have h1:=tot_le_take l (k+1)
        rw [List.take_succ_eq_append_getElem hlt,tot_snoc] at h1
        exact Nat.le_trans h1 HT.out⟩
      have HGL:=Aside0.mk (groups_len l k hk)
      have G0:=Aside0.mk g0
      have G1:=Aside0.mk g1
      have L0C:=Aside0.mk l0
      clear l0 g0 l1 g1
      generalize hs:rd_T51 l (k:Int)=s at *
      have HS:=Aside0.mk hs
      clear hs
      by_cases hz:s.f1.length=0
      · have HZ:=Aside0.mk hz
        have hzb:((s.f1.length:Int) == 0)=true:=by rw [hz];rfl
        have hzz:(s.f1.length:Int)=0:=by omega
        clear hz
        have HL1:=Aside0.mk (HL.out.below (below_alloc (Below.refl _ _) (.cells #[.slice A0 s.f0.length c0,.slice A1 s.f1.length c1] 51 (0,0))))
        have HB1:=Aside0.mk (below_alloc HB.out (.cells #[.slice A0 s.f0.length c0,.slice A1 s.f1.length c1] 51 (0,0)))
        generalize s.f0.length=L0 at x0 HL1 HB1
        generalize s.f1.length=L1 at x1 HL1 HB1 hzb hzz
        go_wp2
        go_roundg (l.length - (k+1))
        case measure => omega
        case rel => exact ⟨k+1,_,rs,by go_num,rfl,by omega,Nat.le_refl _,HL1,⟨by rw [HM.out,HGT.out,stepG,if_pos HZ.out]⟩,HB1⟩
      · have HZ:=Aside0.mk hz
        have hzb:((s.f1.length:Int) == 0)=false:=beq_eq_false_iff_ne.2 (by omega)
        have hzz:¬ (s.f1.length:Int)=0:=by omega
        clear hz
        have HL1:=Aside0.mk (HL.out.below (below_alloc (Below.refl _ _) (.cells #[.slice A0 s.f0.length c0,.slice A1 s.f1.length c1] 51 (0,0))))
        have HB1:=Aside0.mk (below_alloc HB.out (.cells #[.slice A0 s.f0.length c0,.slice A1 s.f1.length c1] 51 (0,0)))
        have HX1:=Aside0.mk (blk_new wr (.cells #[.slice A0 s.f0.length c0,.slice A1 s.f1.length c1] 51 (0,0)))
        have HNB:Aside0 (some wr.heap.size ≠ u3.ownBlock):=⟨fun e => by have:=Kd.R_lt HL.out.1 _ e.symm;omega⟩
        have HBX:=Aside0.mk (show w.heap.size≤wr.heap.size from HB.out.size)
        have HF0:Aside0 (s.f0.length=s.f0.length):=⟨rfl⟩
        generalize hL0:s.f0.length=L0 at x0 HL1 HB1 HX1 G0
        generalize hL1:s.f1.length=L1 at x1 HL1 HB1 HX1 G1 hzb hzz
        have HL0:=Aside0.mk hL0
        have HLL1:=Aside0.mk hL1
        clear hL0 hL1
        go_upto_region 6 with (fail)
        clear HL HB x0 x1
        generalize wr.alloc (.cells #[.slice A0 L0 c0,.slice A1 L1 c1] 51 (0,0))=W1 at HL1 HB1 HX1 ⊢
        generalize wr.heap.size=bx at *
        have y0:=blk_cell HX1.out 0
        have y1:=blk_cell HX1.out 1
        obtain ⟨Av,cv,rfl,hcv,hC⟩:=HL1.out.reads
        have HBS:=Aside0.mk (binSearch.calls Av A0 cv c0 rs.length L0 (rs.map (·.x)) s.f0 W1 (by rw [List.length_map]) HL0.out hC (Kd.C_below G0.out HB1.out) (by rw [HM.out];exact SrtL_groups _) (fun x hx => by
          rw [HM.out] at hx
          obtain ⟨q,hq,he⟩:=groups_lab _ x hx
          rw [he]
          exact HLAB.out q (List.mem_of_mem_take hq)) (by have:=HGL.out.1;rw [← HM.out,List.length_map] at this;omega))
        have HFB:Aside0 ((decide (posB (rs.map (·.x)) s.f0<rs.length) && decide (cmpL (rd_T51 (rs.map (·.x)) (posB (rs.map (·.x)) s.f0:Int)).f0 s.f0=0))=hasG (rs.map (·.x)) s.f0):=⟨by unfold hasG;rw [List.length_map]⟩
        have HIL:Aside0 (posB (rs.map (·.x)) s.f0≤rs.length):=⟨by have:=posB_le (rs.map (·.x)) s.f0;rwa [List.length_map] at this⟩
        rw [HFB.out] at HBS
        generalize hi:posB (rs.map (·.x)) s.f0=i at HBS HIL
        generalize hfb:hasG (rs.map (·.x)) s.f0=fb at HBS
        have HI:=Aside0.mk hi
        have HFBV:=Aside0.mk hfb
        clear hi hfb hC hcv HFB
        go_upto_if 27 with (first | (go_at_call 69;(with_reducible refine HBS.out.mono ?_);rintro e w2 ⟨rfl,hb⟩;have HB2:=Aside0.mk hb;clear hb))
        have HL2:=Aside0.mk (HL1.out.below HB2.out)
        have HX2:=Aside0.mk (blk_below HX1.out HB2.out)
        have HB2':=Aside0.mk (below_step HB1.out HB2.out)
        clear HL1 HX1 HBS y0 y1
        have y0:=blk_cell HX2.out 0
        have y1:=blk_cell HX2.out 1
        go_cut [3] (fun v3 wx => ∃ rs3:List Rec,Aside0 (Lay wx w.heap.size v3 rs3)∧Aside0 (rs3.map (·.x)=putG (rs.map (·.x)) s.f0)∧Aside0 (Below w.heap.size w wx)∧Aside0 (wx.heap[bx]? = some (.cells #[.slice A0 L0 c0,.slice A1 L1 c1] 51 (0,0))))
        case first =>
          cases fb with
          | true =>
            go_wp2_with fail
            go_meet
            exact ⟨rs,HL2,⟨by rw [putG,if_pos HFBV.out]⟩,HB2',HX2⟩
          | false =>
            have CL:=Aside0.mk (CloneL.calls A0 c0 s.f0 L0 w2 HL0.out (by rw [HL0.out];exact Kd.C_below G0.out HB2'.out) L0C.out HSL.out.1)
            have HRB:Aside0 (rs.length≤1000000):=⟨by have:=HGL.out.1;rw [← HM.out,List.length_map] at this;omega⟩
            go_wp2_with (first | (go_at_call 54;(with_reducible refine CL.out.mono ?_);rintro e w3 ⟨lv,rfl,hR,hb⟩;obtain ⟨Al,cl,rfl⟩:=Kd.R_slice hR;have HRL:=Aside0.mk hR;have HB3:=Aside0.mk hb;clear hR hb;have HL3:=Aside0.mk (HL2.out.below HB3.out);have HL4:=Aside0.mk (HL3.out.below (below_alloc (Below.refl _ _) (.cells #[.slice Al s.f0.length cl,.slice none 0 0] 51 (0,0))));have HB3':=Aside0.mk (below_alloc (below_step HB2'.out HB3.out) (.cells #[.slice Al s.f0.length cl,.slice none 0 0] 51 (0,0)));have HN4:Aside0 (some w3.heap.size ≠ (Value.slice Av rs.length cv).ownBlock):=⟨fun e => by have:=Kd.R_lt HL3.out.1 _ e.symm;omega⟩;have HIN:=Aside0.mk (insert.calls w.heap.size rs.length i w3.heap.size (.slice Av rs.length cv) (rs.map cellsR) (.slice Al s.f0.length cl) (.slice none 0 0) (w3.alloc (.cells #[.slice Al s.f0.length cl,.slice none 0 0] 51 (0,0))) (by rw [List.length_map]) HL4.out.1 HIL.out HRB.out (blk_new w3 _) HN4.out rfl rfl HB3'.out.size)) | (go_at_call 72;(with_reducible refine HIN.out.mono ?_);rintro e w5 ⟨v5,rfl,hR,hg,hat⟩;have HR5:=Aside0.mk hR;have HG5:=Aside0.mk hg;clear hR hg hat))
            go_meet
            have HRL4:RL (w3.alloc (.cells #[.slice Al s.f0.length cl,.slice none 0 0] 51 (0,0))) w.heap.size (.slice Al s.f0.length cl) s.f0:=Kd.R_alloc (Kd.R_lower HRL.out HB2'.out.size) _
            have hX3:=blk_alloc (blk_below HX2.out HB3.out) (.cells #[.slice Al s.f0.length cl,.slice none 0 0] 51 (0,0))
            refine ⟨rs.take i ++ [⟨⟨s.f0,[]⟩,.slice Al s.f0.length cl,.slice none 0 0⟩] ++ rs.drop i,⟨Lay.insert HL4.out HG5.out i ⟨⟨s.f0,[]⟩,.slice Al s.f0.length cl,.slice none 0 0⟩ HR5.out (keep_of rfl HRL4 HG5.out (ne_type (by decide) HRL4 HL4.out.1)) (Kd.R_nil _ _ _ _ _) rfl⟩,⟨?_⟩,⟨pw_below_grown HB3'.out _ HB3'.out.size HG5.out (fun k hk => HL4.out.base_row k hk)⟩,⟨blk_grown hX3 HG5.out HNB.out⟩⟩
            rw [putG,if_neg (by rw [HFBV.out];simp),HI.out,insG,List.map_append,List.map_append,List.map_take,List.map_drop]
            rfl
        case rest =>
          obtain ⟨rs3,HL3,HM3,HB3,HX3⟩:=hcut
          clear HL2 HX2 HB2' HB2 y0 y1
          have hil:i<rs3.length:=by
            have:=(putG_lt (rs.map (·.x)) s.f0).1
            rw [HI.out,← HM3.out,List.length_map] at this
            exact this
          obtain ⟨gv,capv,hv3,hgv⟩:=lay_form HL3.out (by omega)
          subst hv3
          obtain ⟨r,hri⟩:∃ r,rs3[i]? = some r:=⟨_,List.getElem?_eq_getElem hil⟩
          have HRI:=Aside0.mk hri
          have HGV:=Aside0.mk hgv
          have hRS:=(HL3.out.2.1 r (List.mem_of_getElem? hri)).2
          obtain ⟨As,cs,hsv⟩:=Kd.R_slice hRS
          obtain ⟨_,x2,_,_⟩:=lay_cell HL3.out i r hri
          have x3:=blk_cell HX3.out 1
          have HSV:=Aside0.mk hsv
          rw [hsv] at x2 hRS
          have HRS:=Aside0.mk hRS
          have HBB:Aside0 (w.heap.size≤wc.heap.size):=⟨HB3.out.size⟩
          have HLT:Aside0 ((r.x.f1.length+L1)*16≤140737488355328):=⟨by
            have h1:r.x ∈ putG (rs.map (·.x)) s.f0:=by rw [← HM3.out];exact List.mem_map.2 ⟨r,List.mem_of_getElem? hri,rfl⟩
            have h2:=HSL.out.2
            rw [HLL1.out] at h2
            rcases putG_mem h1 with h1 | h1
            · rw [HM.out] at h1
              have:=HGL.out.2 _ h1
              omega
            · rw [h1]
              show ((0:Nat)+L1)*16≤_
              omega⟩
          have HSM:Aside0 (Kd.C k70 wc.drew A1 L1 s.f1):=⟨Kd.C_below G1.out (below_drew1 HB3.out)⟩
          have HST:Aside0 (groupsL (l.take (k+1))=addG (putG (rs.map (·.x)) s.f0) i s.f1):=⟨by
            rw [HGT.out,stepG,if_neg HZ.out,← HM.out,HI.out]⟩
          have hiz:(i:Int)<(rs3.length:Int):=by omega
          generalize hns:r.x.f1.length=ns at x2 HRS
          have HNS:=Aside0.mk hns
          clear hri hgv hsv hRS hns
          replace x2:wc.drew.cell? ⟨gv,i*2+1,none⟩=some (.slice As ns cs):=x2
          replace x3:wc.drew.cell? ⟨bx,1,none⟩=some (.slice A1 L1 c1):=x3
          go_upto_region 9 with (fail)
          refine start_ (n:=13) (ds:=[9,12]) (S:=fun w' => w'.cell? ⟨gv,i*2+1,none⟩=some (.slice As ns cs)∧w'.cell? ⟨bx,1,none⟩=some (.slice A1 L1 c1)) #[false,false,false,false,false,false,false,false,false,false,false,false,false] mixed rfl rfl ⟨x2,x3⟩ (fun hS => ?_)
          refine pure_ (i:=0) (N:=some 36) (v:=?_) (a':=?_) #[true,false,false,false,false,false,false,false,false,false,false,false,false] rfl rfl (by kernel_rfl) (fun _ _ _ h => h) (Or.inl ⟨by rfl,?_⟩) ?_ ?_
          rotate_left
          · intro w'
            go_simp
            try (with_reducible rfl)
          rotate_left
          · simp only [Act.put,List.setIfInBounds_toArray,List.set_cons_zero,List.set_cons_succ]
            rfl
          refine pure_ (i:=1) (N:=some 37) (v:=?_) (a':=?_) #[true,true,false,false,false,false,false,false,false,false,false,false,false] rfl rfl (by kernel_rfl) (fun _ _ _ h => h) (Or.inl ⟨by rfl,?_⟩) ?_ ?_
          rotate_left
          · intro w'
            go_simp
            try (with_reducible rfl)
          rotate_left
          · simp only [Act.put,List.setIfInBounds_toArray,List.set_cons_zero,List.set_cons_succ]
            rfl
          refine pure_ (i:=2) (N:=some 38) (v:=?_) (a':=?_) #[true,true,true,false,false,false,false,false,false,false,false,false,false] rfl rfl (by kernel_rfl) (fun _ _ _ h => h) (Or.inl ⟨by rfl,?_⟩) ?_ ?_
          rotate_left
          · intro w'
            go_simp
            try (with_reducible rfl)
          rotate_left
          · simp only [Act.put,List.setIfInBounds_toArray,List.set_cons_zero,List.set_cons_succ]
            rfl
          refine pure_ (i:=3) (N:=some 39) (v:=?_) (a':=?_) #[true,true,true,true,false,false,false,false,false,false,false,false,false] rfl rfl (by kernel_rfl) (fun _ _ _ h => h) (Or.inl ⟨by rfl,?_⟩) ?_ ?_
          rotate_left
          · intro w'
            go_simp
            try (with_reducible rfl)
          rotate_left
          · simp only [Act.put,List.setIfInBounds_toArray,List.set_cons_zero,List.set_cons_succ]
            rfl
          refine pure_ (i:=4) (N:=some 40) (v:=?_) (a':=?_) #[true,true,true,true,true,false,false,false,false,false,false,false,false] rfl rfl (by kernel_rfl) (fun _ _ _ h => h) (Or.inl ⟨by rfl,?_⟩) ?_ ?_
          rotate_left
          · intro w'
            go_simp
            try (with_reducible rfl)
          rotate_left
          · simp only [Act.put,List.setIfInBounds_toArray,List.set_cons_zero,List.set_cons_succ]
            rfl
          refine pure_ (i:=5) (N:=some 41) (v:=?_) (a':=?_) #[true,true,true,true,true,true,false,false,false,false,false,false,false] rfl rfl (by kernel_rfl) (fun _ _ _ h => h) (Or.inl ⟨by rfl,?_⟩) ?_ ?_
          rotate_left
          · intro w'
            go_simp
            try (with_reducible rfl)
          rotate_left
          · simp only [Act.put,List.setIfInBounds_toArray,List.set_cons_zero,List.set_cons_succ]
            rfl
          refine take_ (i:=6) (N:=some 42) (v:=?_) (a':=?_) #[true,true,true,true,true,true,true,false,false,false,false,false,false] rfl rfl (by kernel_rfl) (fun _ _ _ h => h) (Or.inl ⟨by rfl,?_⟩) hS ?_ ?_
          rotate_left
          · rintro w' ⟨hc1,hc2⟩
            go_simp
            try (with_reducible rfl)
          rotate_left
          · simp only [Act.put,List.setIfInBounds_toArray,List.set_cons_zero,List.set_cons_succ]
            rfl
          refine pure_ (i:=7) (N:=some 43) (v:=?_) (a':=?_) #[true,true,true,true,true,true,true,true,false,false,false,false,false] rfl rfl (by kernel_rfl) (fun _ _ _ h => h) (Or.inl ⟨by rfl,?_⟩) ?_ ?_
          rotate_left
          · intro w'
            go_simp
            try (with_reducible rfl)
          rotate_left
          · simp only [Act.put,List.setIfInBounds_toArray,List.set_cons_zero,List.set_cons_succ]
            rfl
          refine take_ (i:=8) (N:=some 44) (v:=?_) (a':=?_) #[true,true,true,true,true,true,true,true,true,false,false,false,false] rfl rfl (by kernel_rfl) (fun _ _ _ h => h) (Or.inl ⟨by rfl,?_⟩) hS ?_ ?_
          rotate_left
          · rintro w' ⟨hc1,hc2⟩
            go_simp
            try (with_reducible rfl)
          rotate_left
          · simp only [Act.put,List.setIfInBounds_toArray,List.set_cons_zero,List.set_cons_succ]
            rfl
          refine last_ (i:=9) (N:=some 45) #[true,true,true,true,true,true,true,true,true,true,false,false,false] rfl rfl (by kernel_rfl) (by decide) (fun K hK => ?_)
          refine Kd.R_append_rows_step k70 (w0:=w) w.heap.size (by rfl) (.tmp 42) (.tmp 44) 49 70 (.agg #[.int .i64 0,.int .u64 0]) 16 rfl Tryz.underlying49 info70 rfl (by decide) (by omega) (.slice As ns cs) r.x.f1 s.f1 A1 L1 c1 (fun _ => True) (fun _ => False) rfl rfl (Kd.R_drew HRS.out) HSM.out (fun x cs hx => k70_JKM hx) (fun _ hk => hk.elim) (fun _ _ => trivial) (below_drew1 HB3.out) ?hb ?hl ?_
          case hb => exact HBB.out
          case hl => exact HLT.out
          intro v1 w1 hR1 hB1 hg1 hat1
          have HR1:Aside0 (RS w1 w.heap.size v1 (r.x.f1++s.f1)):=⟨hR1⟩
          have HB4:=Aside0.mk hB1
          have HG1:Aside0 (wc.grownBy w1 r.sv.ownBlock):=⟨by rw [HSV.out,HNS.out];exact ⟨hg1.os,hg1.tape,hg1.output,hg1.size,hg1.block⟩⟩
          have HAT:Aside0 (v1.ownBlock=r.sv.ownBlock∨∃ b,v1.ownBlock=some b∧wc.heap.size≤b):=⟨by rw [HSV.out,HNS.out];exact hat1⟩
          clear hR1 hB1 hg1 hat1
          refine hK.out _ _ ?_
          clear hK K
          obtain ⟨A9,c9,hv9⟩:=Kd.R_slice HR1.out
          generalize (r.x.f1++s.f1).length=n9 at hv9
          subst hv9
          refine norm_ (a':=?_) ?_ ?_
          rotate_left
          · show Act.put _ (some 45) _=_
            simp only [Act.put,List.setIfInBounds_toArray,List.set_cons_zero,List.set_cons_succ]
            rfl
          have HRR:Aside0 (RR w1 w.heap.size (.slice (some ⟨gv,0,none⟩) rs3.length capv) (rs3.map cellsR)):=⟨keep_of rfl HL3.out.1 HG1.out (ne_type (by decide) HL3.out.1 (HL3.out.2.1 r (List.mem_of_getElem? HRI.out)).2)⟩
          obtain ⟨_,z1,_,z3⟩:=rr_cell HRR.out i r.lv r.sv (by rw [List.getElem?_map,HRI.out];rfl)
          have HL5:=Aside0.mk (Lay.samples HL3.out i r HRI.out HG1.out HR1.out HAT.out)
          have HB5:=Aside0.mk (below_set (j:=i*2+1) (v:=.slice A9 n9 c9) HB4.out HGV.out)
          refine pure_ (i:=10) (N:=some 46) (v:=?_) (a':=?_) #[true,true,true,true,true,true,true,true,true,true,true,false,false] rfl rfl (by kernel_rfl) (fun _ _ _ h => h) (Or.inl ⟨by rfl,?_⟩) ?_ ?_
          rotate_left
          · intro w'
            go_simp
            try (with_reducible rfl)
          rotate_left
          · simp only [Act.put,List.setIfInBounds_toArray,List.set_cons_zero,List.set_cons_succ]
            rfl
          refine pure_ (i:=11) (N:=some 47) (v:=?_) (a':=?_) #[true,true,true,true,true,true,true,true,true,true,true,true,false] rfl rfl (by kernel_rfl) (fun _ _ _ h => h) (Or.inl ⟨by rfl,?_⟩) ?_ ?_
          rotate_left
          · intro w'
            go_simp
            try (with_reducible rfl)
          rotate_left
          · simp only [Act.put,List.setIfInBounds_toArray,List.set_cons_zero,List.set_cons_succ]
            rfl
          refine last_ (i:=12) (N:=none) #[true,true,true,true,true,true,true,true,true,true,true,true,true] rfl rfl (by kernel_rfl) (by decide) (fun K hK => ?_)
          refine skip_ (w1:=?_) (by rfl) rfl ?_ ?_
          rotate_left
          · go_simp
            rfl
          refine hK.out _ _ ?_
          clear hK K
          refine done_ (by kernel_rfl) ?_
          try go_wp2
          go_roundg (l.length - (k+1))
          case measure => omega
          case rel => exact ⟨k+1,.slice (some ⟨gv,0,none⟩) rs3.length capv,_,by first | rfl | go_num,by first | rfl | go_num,by omega,Nat.le_refl _,HL5,⟨by
            rw [HST.out]
            have hil:i<rs3.length:=(List.getElem?_eq_some_iff.1 HRI.out).1
            unfold addG
            rw [← HM3.out,List.map_set]
            have hri:rd_T51 (rs3.map (·.x)) (i:Int)=r.x:=by
              rw [rd_getElem (by rw [List.length_map];exact hil),List.getElem_map,(List.getElem?_eq_some_iff.1 HRI.out).2]
            rw [hri]⟩,HB5⟩
    · obtain rfl:k=l.length:=by omega
      have hkz:¬ (l.length:Int)<(l.length:Int):=by omega
      rw [List.take_length] at HM
      have HGL:=Aside0.mk (groups_len' l)
      have HGP:=Aside0.mk (groups_pos l)
      have HRB:Aside0 (rs.length=(groupsL l).length):=⟨by rw [← HM.out,List.length_map]⟩
      obtain ⟨Av,cv,hu,_,_⟩:=HL.out.reads
      subst hu
      have hrl:rs.length≤100000:=by rw [HRB.out];exact Nat.le_trans HGL.out.1 hlen
      go_wp2
      go_loopg [51] rs.length (fun kx s51 wr => ∃ (j:Nat) (rs2:List Rec),s51 = .int .i64 j∧j≤rs.length∧rs.length - j≤kx∧Aside0 (rs2.length=rs.length)∧Aside0 (Lay wr w.heap.size (.slice Av rs.length cv) rs2)∧Aside0 (rs2.map (·.x)=mixJ (groupsL l) j)∧Aside0 (Below w.heap.size w wr))
      case atStart => exact ⟨0,rs,rfl,Nat.zero_le _,Nat.le_refl _,⟨rfl⟩,HL,⟨by rw [HM.out];rfl⟩,HB⟩
      case round =>
        clear HL HM HB
        obtain ⟨j,rs2,rfl,hj,hkx2,HLE,HL,HM,HB⟩:=hrel
        by_cases hjl:j<rs.length
        · have hjz:(j:Int)<(rs.length:Int):=by omega
          have hjG:j<(groupsL l).length:=by rw [← HRB.out];exact hjl
          obtain ⟨gv,capv,he,hgv⟩:=lay_form HL.out (by rw [HLE.out];omega)
          simp only [Value.slice.injEq] at he
          obtain ⟨rfl,hxx,rfl⟩:=he
          clear hxx
          have hj2:j<rs2.length:=by rw [HLE.out];exact hjl
          obtain ⟨r,hri⟩:∃ r,rs2[j]? = some r:=⟨_,List.getElem?_eq_getElem hj2⟩
          have hrx:r.x=(groupsL l)[j]:=by
            have h1:=mixJ_at (groupsL l) j hjG
            rw [← HM.out,List.getElem?_map,hri] at h1
            simpa using h1
          have hm:r.x ∈ groupsL l:=by rw [hrx];exact List.getElem_mem hjG
          have hp:=HGP.out _ hm
          have hpl:=HGL.out.2 _ hm
          have hRS:=(HL.out.2.1 r (List.mem_of_getElem? hri)).2
          obtain ⟨gs,caps,hsv,hbs,hgs,_⟩:=Kd.R_form hRS (by omega)
          have hown:=rs_own hRS
          rw [hsv] at hown
          have HC:=Aside0.mk (chunkRisen.calls w.heap.size gs caps r.x.f1 wr hown (by omega) (by have:=HT.out;omega))
          obtain ⟨_,x2,_,_⟩:=lay_cell HL.out j r hri
          rw [hsv] at x2
          have HSV:=Aside0.mk hsv
          have HRI:=Aside0.mk hri
          have HRX:=Aside0.mk hrx
          have HGV:=Aside0.mk hgv
          have HBS:Aside0 (w.heap.size≤gs):=⟨hbs⟩
          have HJG:=Aside0.mk hjG
          clear hri hgv hsv hRS hown hbs hgs hrx hm hp hpl
          generalize hns:r.x.f1.length=ns at x2 HC
          generalize hnr:(risenL r.x.f1).length=nr at HC
          have HNS:=Aside0.mk hns
          have HNR:=Aside0.mk hnr
          clear hns hnr
          go_wp2_with (first | (go_at_call 73;(with_reducible refine HC.out.mono ?_);rintro e w2 ⟨rfl,hO,hG⟩;have HO:=Aside0.mk hO;have HG:=Aside0.mk hG;clear hO hG;have HG1:Aside0 (wr.grownBy w2 r.sv.ownBlock):=⟨by rw [HSV.out];exact HG.out⟩;have HRR:Aside0 (RR w2 w.heap.size (.slice (some ⟨gv,0,none⟩) rs.length cv) (rs2.map cellsR)):=⟨keep_of rfl HL.out.1 HG1.out (ne_type (by decide) HL.out.1 (HL.out.2.1 r (List.mem_of_getElem? HRI.out)).2)⟩;obtain ⟨_,z1,_,z3⟩:=rr_cell HRR.out j r.lv r.sv (by rw [List.getElem?_map,HRI.out];rfl)))
          have HR1:Aside0 (RS w2 w.heap.size (.slice (some ⟨gs,0,none⟩) nr caps) (risenL r.x.f1)):=⟨own_rs (by rw [HNR.out];exact HO.out)⟩
          have HL5:=Aside0.mk (Lay.samples HL.out j r HRI.out HG1.out HR1.out (.inl (by rw [HSV.out];rfl)))
          have HB5:=Aside0.mk (below_set (j:=j*2+1) (v:=.slice (some ⟨gs,0,none⟩) nr caps) (pw_below_grown HB.out _ HB.out.size HG.out (fun k hk => by cases hk;exact HBS.out)) HGV.out)
          go_roundg (rs.length - (j+1))
          case measure => omega
          case rel => exact ⟨j+1,_,by go_num,by omega,Nat.le_refl _,⟨by rw [List.length_set];exact HLE.out⟩,HL5,⟨by
            rw [List.map_set,HM.out,← mixJ_set (groupsL l) j HJG.out]
            unfold ris
            rw [HRX.out]⟩,HB5⟩
        · obtain rfl:j=rs.length:=by omega
          have hjz:¬ (rs.length:Int)<(rs.length:Int):=by omega
          have HJ:Aside0 (rs2.map (·.x)=joinL l):=⟨by
            rw [HM.out,mixJ,HRB.out,List.take_length,List.drop_length,List.append_nil]
            rfl⟩
          go_wp2
          go_ret
          obtain ⟨A2,c2,he,hc2,hC⟩:=HL.out.reads
          have hlen2:(joinL l).length=rs2.length:=by rw [← HJ.out,List.length_map]
          refine ⟨A2,c2,?_,by rw [hlen2];exact hc2,by rw [hlen2,← HJ.out];exact hC,HB.out⟩
          rw [hlen2,← he]
          rfl
def letB (c:Int):Bool:=decide (c=95) || (decide (97≤Go.bits .or .u8 c 32) && decide (Go.bits .or .u8 c 32≤122))
def digB (c:Int):Bool:=decide (48≤c) && decide (c≤57)
def badB (c:Int):Bool:=!letB c && !digB c
theorem letB.calls (c:Int) (w:World):Calls Tryz.prog 136 #[.int .u8 c] w fun e w' => e = .returned (.bool (letB c))∧w'=w:=by
  by_cases h1:c=95
  · have HV:Aside0 (letB c=true):=⟨by rw [letB,decide_eq_true h1];rfl⟩
    have d1:(c == 95)=true:=beq_iff_eq.2 h1
    clear h1
    go_enter Tryz.func136,Tryz.ntmps136
    go_wp2
    go_ret
    exact ⟨by rw [HV.out];rfl,rfl⟩
  · have d1:(c == 95)=false:=beq_eq_false_iff_ne.2 h1
    have HV:Aside0 (letB c=(decide (97≤Go.bits .or .u8 c 32) && decide (Go.bits .or .u8 c 32≤122))):=⟨by rw [letB,decide_eq_false h1];rfl⟩
    clear h1
    by_cases h2:97≤Go.bits .or .u8 c 32
    · have HW:Aside0 (letB c=decide (Go.bits .or .u8 c 32≤122)):=⟨by rw [HV.out,decide_eq_true h2];rfl⟩
      go_enter Tryz.func136,Tryz.ntmps136
      go_wp2
      go_ret
      exact ⟨by rw [HW.out];rfl,rfl⟩
    · have HW:Aside0 (letB c=false):=⟨by rw [HV.out,decide_eq_false h2];rfl⟩
      go_enter Tryz.func136,Tryz.ntmps136
      go_wp2
      go_ret
      exact ⟨by rw [HW.out];rfl,rfl⟩
theorem digB.calls (c:Int) (w:World):Calls Tryz.prog 139 #[.int .u8 c] w fun e w' => e = .returned (.bool (digB c))∧w'=w:=by
  by_cases h2:48≤c
  · have HW:Aside0 (digB c=decide (c≤57)):=⟨by rw [digB,decide_eq_true h2];rfl⟩
    go_enter Tryz.func139,Tryz.ntmps139
    go_wp2
    go_ret
    exact ⟨by rw [HW.out];rfl,rfl⟩
  · have HW:Aside0 (digB c=false):=⟨by rw [digB,decide_eq_false h2];rfl⟩
    go_enter Tryz.func139,Tryz.ntmps139
    go_wp2
    go_ret
    exact ⟨by rw [HW.out];rfl,rfl⟩
theorem badB.calls (c:Int) (w:World):Calls Tryz.prog 138 #[.int .u8 c] w fun e w' => e = .returned (.bool (badB c))∧w'=w:=by
  cases h1:letB c with
  | true =>
    have HL:Aside0 (∀ W,Calls Tryz.prog 136 #[.int .u8 c] W fun e w' => e = .returned (.bool true)∧w'=W):=⟨fun W => h1 ▸ letB.calls c W⟩
    have HV:Aside0 (badB c=false):=⟨by rw [badB,h1];rfl⟩
    clear h1
    go_enter Tryz.func138,Tryz.ntmps138
    go_wp2_with (first | (go_at_call 136;(with_reducible refine (HL.out _).mono ?_);rintro e w1 ⟨rfl,rfl⟩))
    go_ret
    exact ⟨by rw [HV.out];rfl,rfl⟩
  | false =>
    have HL:Aside0 (∀ W,Calls Tryz.prog 136 #[.int .u8 c] W fun e w' => e = .returned (.bool false)∧w'=W):=⟨fun W => h1 ▸ letB.calls c W⟩
    have HD:Aside0 (∀ W,Calls Tryz.prog 139 #[.int .u8 c] W fun e w' => e = .returned (.bool (digB c))∧w'=W):=⟨digB.calls c⟩
    have HV:Aside0 (badB c = !digB c):=⟨by rw [badB,h1];rfl⟩
    clear h1
    go_enter Tryz.func138,Tryz.ntmps138
    go_wp2_with (first | (go_at_call 136;(with_reducible refine (HL.out _).mono ?_);rintro e w1 ⟨rfl,rfl⟩) | (go_at_call 139;(with_reducible refine (HD.out _).mono ?_);rintro e w1 ⟨rfl,rfl⟩))
    go_ret
    exact ⟨by rw [HV.out];rfl,rfl⟩
def idxBad:List Int→Nat→Int
  | [],_ => -1
  | a :: r,k => if badB a=true then (k:Int) else idxBad r (k+1)
theorem idxBad_step (l:List Int) (k:Nat) (hk:k<l.length):idxBad (l.drop k) k=if badB (rd l (k:Int))=true then (k:Int) else idxBad (l.drop (k+1)) (k+1):=by
  rw [rd_drop l k hk]
  rfl
theorem idxBad_any:∀ (l:List Int) (k:Nat),decide (0≤idxBad l k)=l.any badB
  | [],_ => rfl
  | a :: r,k => by
    rw [idxBad,List.any_cons]
    cases h:badB a with
    | true => rw [if_pos rfl];simp
    | false => rw [if_neg (by simp),idxBad_any r (k+1)];rfl
theorem idxBad.calls (A0:Option Addr) (c0 n:Nat) (l:List Int) (w:World) (hn:l.length=n) (hr:Kd.C (Kd.int .u8) w A0 n l) (hlen:n≤1000000) :
    Calls Tryz.prog 154 #[.slice A0 n c0,.func (.func 138) #[] #[]] w fun e w' => e = .returned (.int .i64 (idxBad l 0))∧Below w.heap.size w w':=by
  subst hn
  have HR:=Aside0.mk hr
  clear hr
  go_enter Tryz.func154,Tryz.ntmps154
  go_wp2
  go_loopw [8] (fun i wr => ∃ k:Nat,k≤l.length∧i = .int .i64 k∧Aside0 (idxBad l 0=idxBad (l.drop k) k)∧Aside0 (Below w.heap.size w wr)) (fun i _ => l.length - (intOf i).toNat)
  case atStart => exact ⟨0,Nat.zero_le _,rfl,⟨rfl⟩,⟨Below.refl _ _⟩⟩
  case round =>
    obtain ⟨k,hk,rfl,HE,HB⟩:=hrel
    by_cases hlt:k<l.length
    · have hC:=Kd.C_below HR.out HB.out
      obtain ⟨bd,cb,rfl,_,hKb,hcb⟩:=Kd.C_get hC (0:Int) (k:Int) (by omega) (by omega)
      have hb0:wr.cell? (bd.add k)=some (.int .u8 (rd l (k:Int))):=by
        have:=hcb 0 (.int .u8 (rd l (k:Int))) (by rw [show cb=[Value.int .u8 (rd l (k:Int))] from hKb];rfl)
        simpa [show (Kd.int .u8).sz=1 from rfl] using this
      have HST:=Aside0.mk (idxBad_step l k hlt)
      clear hcb hKb hC
      generalize rd l (k:Int)=y at hb0 HST
      cases hq:badB y with
      | true =>
        have HN:Aside0 (idxBad l 0=(k:Int)):=⟨by rw [HE.out,HST.out,if_pos hq]⟩
        have HC:Aside0 (∀ W,Calls Tryz.prog 138 #[.int .u8 y] W fun e w' => e = .returned (.bool true)∧w'=W):=⟨fun W => hq ▸ badB.calls y W⟩
        clear hq
        go_wp2_with (first | (go_at_call 138;(with_reducible refine (HC.out _).mono ?_);rintro e w1 ⟨rfl,rfl⟩))
        go_ret
        exact ⟨by rw [HN.out];rfl,HB.out⟩
      | false =>
        have HN:Aside0 (idxBad l 0=idxBad (l.drop (k+1)) (k+1)):=⟨by rw [HE.out,HST.out,if_neg (by rw [hq];simp)]⟩
        have HC:Aside0 (∀ W,Calls Tryz.prog 138 #[.int .u8 y] W fun e w' => e = .returned (.bool false)∧w'=W):=⟨fun W => hq ▸ badB.calls y W⟩
        clear hq
        go_wp2_with (first | (go_at_call 138;(with_reducible refine (HC.out _).mono ?_);rintro e w1 ⟨rfl,rfl⟩))
        go_roundw
        case rel => exact ⟨k+1,by omega,by go_num,HN,HB⟩
        case measure => simp [intOf];omega
    · obtain rfl:k=l.length:=by omega
      go_wp2
      go_ret
      exact ⟨by rw [HE.out,List.drop_length];rfl,HB.out⟩
theorem anyBad.calls (A0:Option Addr) (c0 n:Nat) (l:List Int) (w:World) (hn:l.length=n) (hr:Kd.C (Kd.int .u8) w A0 n l) (hlen:n≤1000000) :
    Calls Tryz.prog 137 #[.slice A0 n c0,.func (.func 138) #[] #[]] w fun e w' => e = .returned (.bool (l.any badB))∧Below w.heap.size w w':=by
  have HI:=Aside0.mk (idxBad.calls A0 c0 n l w hn hr hlen)
  have HV:=Aside0.mk (idxBad_any l 0)
  clear hr hlen hn
  go_enter Tryz.func137,Tryz.ntmps137
  go_wp2_with (first | (go_at_call 154;(with_reducible refine HI.out.mono ?_);rintro e w1 ⟨rfl,hb⟩;have HB:=Aside0.mk hb;clear hb))
  go_ret
  exact ⟨ret_bool HV.out,HB.out⟩
def nameB (s:ByteArray):Bool:=decide (1≤s.size) && decide (s.size≤24) && letB (bt s 0) && !(bytesOf s).any badB
theorem size_ne' (s:ByteArray):s.toList.isEmpty=decide (s.size=0):=by
  have h:s.toList.length=s.size:=by rw [ByteArray.toList_eq];simp
  generalize s.toList=l at h
  rw [← h]
  cases l with
  | nil => rfl
  | cons a l => rw [decide_eq_false (by simp)];rfl
theorem nameB.calls (s:ByteArray) (w:World):Calls Tryz.prog 121 #[.string s] w fun e w' => e = .returned (.bool (nameB s))∧Below w.heap.size w w':=by
  have he:=size_ne' s
  have kb:=fun W => print_bytes (P:=Tryz.prog) 9 24 5 Tryz.underlying9 Tryz.underlying24 Tryz.underlying5 s W
  by_cases h0:s.size=0
  · rw [decide_eq_true h0] at he
    have HV:Aside0 (nameB s=false):=⟨by rw [nameB,decide_eq_false (by omega)];rfl⟩
    clear h0
    go_enter Tryz.func121,Tryz.ntmps121
    go_wp2
    go_ret
    exact ⟨by rw [HV.out];rfl,Below.refl _ _⟩
  · rw [decide_eq_false h0] at he
    by_cases h1:s.size≤24
    · have hp:0<s.size:=by omega
      have hb:((s[0]'hp).toNat:Int)=bt s 0:=bt_at s 0 hp
      cases h2:letB (bt s 0) with
      | false =>
        have HV:Aside0 (nameB s=false):=⟨by rw [nameB,h2];simp⟩
        have HL:Aside0 (∀ W,Calls Tryz.prog 136 #[.int .u8 (bt s 0)] W fun e w' => e = .returned (.bool false)∧w'=W):=⟨fun W => h2 ▸ letB.calls _ W⟩
        clear h2
        go_enter Tryz.func121,Tryz.ntmps121
        go_wp2_with (first | (go_at_call 136;(with_reducible refine (HL.out _).mono ?_);rintro e w1 ⟨rfl,rfl⟩))
        go_ret
        exact ⟨by rw [HV.out];rfl,Below.refl _ _⟩
      | true =>
        have HV:Aside0 (nameB s = !(bytesOf s).any badB):=⟨by rw [nameB,h2,decide_eq_true (by omega),decide_eq_true h1];rfl⟩
        have HL:Aside0 (∀ W,Calls Tryz.prog 136 #[.int .u8 (bt s 0)] W fun e w' => e = .returned (.bool true)∧w'=W):=⟨fun W => h2 ▸ letB.calls _ W⟩
        have HC:Aside0 (∀ c,Calls Tryz.prog 137 #[.slice (some ⟨w.heap.size,0,none⟩) s.size c,.func (.func 138) #[] #[]] (Lib.bytesWorld w 5 s) fun e w' => e = .returned (.bool ((bytesOf s).any badB))∧Below (Lib.bytesWorld w 5 s).heap.size (Lib.bytesWorld w 5 s) w'):=⟨fun c => anyBad.calls _ c _ (bytesOf s) _ (bytesOf_length s) (Kd.C_of_reads (d:=(0:Int)) (h1:=fun _ => rfl) (bytes_reads w 5 s (by omega))) (by omega)⟩
        have HB0:=Aside0.mk (bytes_below (Below.refl w.heap.size w) (Nat.le_refl _) 5 s)
        clear h2
        go_enter Tryz.func121,Tryz.ntmps121
        go_wp2_with (first | (go_at_call 136;(with_reducible refine (HL.out _).mono ?_);rintro e w1 ⟨rfl,rfl⟩) | (go_at_call 137;(with_reducible refine (HC.out _).mono ?_);rintro e w1 ⟨rfl,hb⟩;have HB:=Aside0.mk (below_step HB0.out hb);clear hb))
        go_ret
        exact ⟨by rw [HV.out];rfl,HB.out⟩
    · have HV:Aside0 (nameB s=false):=⟨by rw [nameB,decide_eq_false h1];simp⟩
      go_enter Tryz.func121,Tryz.ntmps121
      go_wp2
      go_ret
      exact ⟨by rw [HV.out];rfl,Below.refl _ _⟩
def labels_Name.f (a:ByteArray):Option Bool:=some (nameB a)
theorem labels_Name.calls (a0:ByteArray) (r:Bool) (w:World) (h:labels_Name.f a0=some r) :
    Calls Tryz.prog 121 #[.string a0] w fun e w' => e = .returned (.bool r)∧Below w.heap.size w w':=by
  obtain rfl:=Option.some.inj h
  exact nameB.calls a0 w
def ptB (r:Int):Bool:=decide (32≤r) && !decide (r=127) && !decide (r=65533)
def ptsB (s:ByteArray):Nat→Nat→Bool
  | 0,_ => true
  | b+1,pos => if pos<s.size then ptB (Utf8.decode s pos).1 && ptsB s b (pos+(Utf8.decode s pos).2) else true
def plainB (s:ByteArray):Bool:=ptsB s s.size 0
theorem width_pos (s:ByteArray) (pos:Nat) (h:pos<s.size):1≤(Utf8.decode s pos).2:=by
  by_cases ha:(s[pos]'h).toNat<128
  · rw [decode_ascii s pos h ha]
    exact Nat.le_refl _
  · exact (decode_high s pos h (by omega)).2
theorem ptsB_end (s:ByteArray) (b pos:Nat) (h:¬ pos<s.size):ptsB s b pos=true:=by
  cases b with
  | zero => rfl
  | succ b => rw [ptsB,if_neg h]
theorem below_iter (w:World) (s:ByteArray) (pos:Nat):Below w.heap.size w (w.iter s pos):=below_alloc (Below.refl _ _) _
theorem plainB.calls (s:ByteArray) (w:World):Calls Tryz.prog 128 #[.string s] w fun e w' => e = .returned (.bool (plainB s))∧Below w.heap.size w w':=by
  go_enter Tryz.func128,Tryz.ntmps128
  go_wp2
  go_loopw [] (fun w' => ∃ (pos b:Nat),w'=w.iter s pos∧Aside0 (plainB s=ptsB s b pos)∧s.size≤pos+b) (fun w' => s.size - w'.iterPos w.heap.size)
  case atStart => exact ⟨0,s.size,rfl,⟨rfl⟩,by omega⟩
  case round =>
    obtain ⟨pos,b,rfl,HC,hb⟩:=hrel
    by_cases hp:pos<s.size
    · have hnx:∀ ty,(Instr.next (.pointer (some ⟨w.heap.size,0,none⟩)) true ty).run Tryz.prog (w.iter s pos)=_:=fun ty => run_next_any w s pos ty hp
      have hwd:=width_pos s pos hp
      cases b with
      | zero => omega
      | succ b =>
        have HS:Aside0 (plainB s=(ptB ((Utf8.decode s pos).1:Int) && ptsB s b (pos+(Utf8.decode s pos).2))):=⟨by rw [HC.out,ptsB,if_pos hp]⟩
        generalize (((Utf8.decode s pos).1:Nat):Int)=r at hnx HS
        by_cases h1:r<32
        · have HF:Aside0 (plainB s=false):=⟨by rw [HS.out,ptB,decide_eq_false (by omega)];rfl⟩
          go_wp2
          go_ret
          exact ⟨by rw [HF.out];rfl,below_iter _ _ _⟩
        · by_cases h2:r=127
          · have HF:Aside0 (plainB s=false):=⟨by rw [HS.out,ptB,decide_eq_true h2];simp⟩
            go_wp2
            go_ret
            exact ⟨by rw [HF.out];rfl,below_iter _ _ _⟩
          · by_cases h3:r=65533
            · have HF:Aside0 (plainB s=false):=⟨by rw [HS.out,ptB,decide_eq_true h3];simp⟩
              go_wp2
              go_ret
              exact ⟨by rw [HF.out];rfl,below_iter _ _ _⟩
            · have HF:Aside0 (plainB s=ptsB s b (pos+(Utf8.decode s pos).2)):=⟨by rw [HS.out,ptB,decide_eq_true (by omega),decide_eq_false h2,decide_eq_false h3];rfl⟩
              have d1:decide (r<32)=false:=decide_eq_false h1
              have d2:(r == 127)=false:=beq_eq_false_iff_ne.2 h2
              have d3:(r == 65533)=false:=beq_eq_false_iff_ne.2 h3
              clear h1 h2 h3
              go_wp2
              refine ⟨⟨pos+(Utf8.decode s pos).2,b,rfl,HF,by omega⟩,?_⟩
              simp
              omega
    · have hnx:∀ ty,(Instr.next (.pointer (some ⟨w.heap.size,0,none⟩)) true ty).run Tryz.prog (w.iter s pos)=_:=fun ty => run_next_end w s pos ty hp
      go_wp2
      go_ret
      exact ⟨by rw [HC.out,ptsB_end s b pos hp];rfl,below_iter _ _ _⟩
def dryrotref07_Plain.f (a:ByteArray):Option Bool:=some (plainB a)
theorem dryrotref07_Plain.calls (a0:ByteArray) (r:Bool) (w:World) (h:dryrotref07_Plain.f a0=some r) :
    Calls Tryz.prog 128 #[.string a0] w fun e w' => e = .returned (.bool r)∧Below w.heap.size w w':=by
  obtain rfl:=Option.some.inj h
  exact plainB.calls a0 w
theorem ptB.calls (r:Int) (w:World):Calls Tryz.prog 140 #[.int .i32 r] w fun e w' => e = .returned (.bool (ptB r))∧w'=w:=by
  by_cases h1:32≤r
  · cases h2:(r == 127) with
    | true =>
      have HV:Aside0 (ptB r=false):=⟨by rw [ptB,decide_eq_true (beq_iff_eq.1 h2)];simp⟩
      have h2':(r != 127)=false:=bne_eq_false_iff_eq.2 (beq_iff_eq.1 h2)
      go_enter Tryz.func140,Tryz.ntmps140
      go_wp2
      go_ret
      exact ⟨by rw [HV.out];rfl,rfl⟩
    | false =>
      have h2':(r != 127)=true:=bne_iff_ne.2 (beq_eq_false_iff_ne.1 h2)
      have HV:Aside0 (ptB r=(r != 65533)):=⟨by
        rw [ptB,decide_eq_true h1,decide_eq_false (beq_eq_false_iff_ne.1 h2)]
        by_cases h3:r=65533
        · rw [decide_eq_true h3,bne_eq_false_iff_eq.2 h3];rfl
        · rw [decide_eq_false h3,bne_iff_ne.2 h3];rfl⟩
      go_enter Tryz.func140,Tryz.ntmps140
      go_wp2
      go_ret
      exact ⟨by rw [HV.out];rfl,rfl⟩
  · have HV:Aside0 (ptB r=false):=⟨by rw [ptB,decide_eq_false h1];rfl⟩
    go_enter Tryz.func140,Tryz.ntmps140
    go_wp2
    go_ret
    exact ⟨by rw [HV.out];rfl,rfl⟩
theorem size_ne (s:ByteArray):(!s.toList.isEmpty)=decide (1≤s.size):=by
  have h:s.toList.length=s.size:=by rw [ByteArray.toList_eq];simp
  generalize s.toList=l at h
  rw [← h]
  cases l with
  | nil => rfl
  | cons a l => rw [decide_eq_true (by simp)];rfl
def valueB (s:ByteArray):Bool:=decide (1≤s.size) && decide (s.size≤40) && plainB s
theorem valueB.calls (s:ByteArray) (w:World):Calls Tryz.prog 122 #[.string s] w fun e w' => e = .returned (.bool (valueB s))∧Below w.heap.size w w':=by
  go_enter Tryz.func122,Tryz.ntmps122
  go_wp2
  go_loopw [] (fun w' => ∃ (pos b:Nat),w'=w.iter s pos∧Aside0 (plainB s=ptsB s b pos)∧s.size≤pos+b) (fun w' => s.size - w'.iterPos w.heap.size)
  case atStart => exact ⟨0,s.size,rfl,⟨rfl⟩,by omega⟩
  case round =>
    obtain ⟨pos,b,rfl,HC,hb⟩:=hrel
    by_cases hp:pos<s.size
    · have hnx:∀ ty,(Instr.next (.pointer (some ⟨w.heap.size,0,none⟩)) true ty).run Tryz.prog (w.iter s pos)=_:=fun ty => run_next_any w s pos ty hp
      have hwd:=width_pos s pos hp
      cases b with
      | zero => omega
      | succ b =>
        have HS:Aside0 (plainB s=(ptB ((Utf8.decode s pos).1:Int) && ptsB s b (pos+(Utf8.decode s pos).2))):=⟨by rw [HC.out,ptsB,if_pos hp]⟩
        generalize (((Utf8.decode s pos).1:Nat):Int)=r at hnx HS
        have HB:=Aside0.mk (below_iter w s (pos+(Utf8.decode s pos).2))
        cases hr:ptB r with
        | false =>
          have PTfalse:Aside0 (∀ W,Calls Tryz.prog 140 #[.int .i32 r] W fun e w' => e = .returned (.bool false)∧w'=W):=⟨fun W => hr ▸ ptB.calls r W⟩
          have HF:Aside0 (plainB s=false):=⟨by rw [HS.out,hr];rfl⟩
          clear hr
          go_wp2_with (first | (go_at_call 140;(with_reducible refine (PTfalse.out _).mono ?_);rintro e w1 ⟨rfl,rfl⟩))
          go_ret
          exact ⟨by rw [valueB,HF.out,Bool.and_false];rfl,HB.out⟩
        | true =>
          have PTtrue:Aside0 (∀ W,Calls Tryz.prog 140 #[.int .i32 r] W fun e w' => e = .returned (.bool true)∧w'=W):=⟨fun W => hr ▸ ptB.calls r W⟩
          have HF:Aside0 (plainB s=ptsB s b (pos+(Utf8.decode s pos).2)):=⟨by rw [HS.out,hr];rfl⟩
          clear hr
          go_wp2_with (first | (go_at_call 140;(with_reducible refine (PTtrue.out _).mono ?_);rintro e w1 ⟨rfl,rfl⟩))
          refine ⟨⟨pos+(Utf8.decode s pos).2,b,rfl,HF,by omega⟩,?_⟩
          simp
          omega
    · have hnx:∀ ty,(Instr.next (.pointer (some ⟨w.heap.size,0,none⟩)) true ty).run Tryz.prog (w.iter s pos)=_:=fun ty => run_next_end w s pos ty hp
      have HV:Aside0 (plainB s=true):=⟨by rw [HC.out,ptsB_end s b pos hp]⟩
      have he:=size_ne s
      by_cases h1:1≤s.size
      · rw [decide_eq_true h1] at he
        go_wp2
        go_ret
        exact ⟨by rw [valueB,HV.out,decide_eq_true h1];simp;omega,below_iter _ _ _⟩
      · rw [decide_eq_false h1] at he
        go_wp2
        go_ret
        exact ⟨by rw [valueB,decide_eq_false h1];rfl,below_iter _ _ _⟩
def labels_Value.f (a:ByteArray):Option Bool:=some (valueB a)
theorem labels_Value.calls (a0:ByteArray) (r:Bool) (w:World) (h:labels_Value.f a0=some r) :
    Calls Tryz.prog 122 #[.string a0] w fun e w' => e = .returned (.bool r)∧Below w.heap.size w w':=by
  obtain rfl:=Option.some.inj h
  exact valueB.calls a0 w
theorem tri:∀ (a b:List UInt8),Op.bytesLess a b = !(Op.bytesLess b a || b == a)
  | [],[] => by simp [Op.bytesLess]
  | [],b :: br => by simp [Op.bytesLess]
  | a :: ar,[] => by simp [Op.bytesLess]
  | a :: ar,b :: br => by
    have ih:=tri ar br
    simp only [Op.bytesLess,ih]
    have hab:(a<b)=(a.toNat<b.toNat):=propext UInt8.lt_iff_toNat_lt
    have hba:(b<a)=(b.toNat<a.toNat):=propext UInt8.lt_iff_toNat_lt
    rcases Nat.lt_trichotomy a.toNat b.toNat with h | h | h
    · have h2:a ≠ b:=fun e => by rw [e] at h;omega
      have h1:¬ b<a:=by rw [hba];omega
      have h3:a<b:=by rw [hab];exact h
      simp [h3,h1,h2,Ne.symm h2]
    · obtain rfl:a=b:=UInt8.toNat_inj.1 h
      have h1:¬ a<a:=by rw [hab];omega
      simp [h1]
    · have h2:b ≠ a:=fun e => by rw [e] at h;omega
      have h1:¬ a<b:=by rw [hab];omega
      have h3:b<a:=by rw [hba];exact h
      simp [h3,h1,h2,Ne.symm h2]
def less (a b:ByteArray):Bool:=Op.bytesLess a.toList b.toList
def okAt (l:List S68) (k:Nat):Bool:=nameB (rd_T68 l (k:Int)).f0 && valueB (rd_T68 l (k:Int)).f1 && (decide (k=0) || less (rd_T68 l ((k - 1:Nat):Int)).f0 (rd_T68 l (k:Int)).f0)
def canL (l:List S68):Bool:=decide (1≤l.length) && decide (l.length≤8) && (List.range l.length).all (okAt l)
def lastN (l:List S68):Nat→ByteArray
  | 0 => ⟨#[]⟩
  | k+1 => (rd_T68 l (k:Int)).f0
theorem nameB_size {s:ByteArray} (h:nameB s=true):1≤s.size∧s.size≤24:=by
  simp only [nameB,Bool.and_eq_true,decide_eq_true_eq] at h
  exact ⟨h.1.1.1,h.1.1.2⟩
theorem valueB_size {s:ByteArray} (h:valueB s=true):1≤s.size∧s.size≤40:=by
  simp only [valueB,Bool.and_eq_true,decide_eq_true_eq] at h
  exact ⟨h.1.1,h.1.2⟩
theorem toList_len (s:ByteArray):s.toList.length=s.size:=by rw [ByteArray.toList_eq];simp
theorem okAt_last {l:List S68} {k:Nat} (h1:nameB (rd_T68 l (k:Int)).f0=true) (h2:valueB (rd_T68 l (k:Int)).f1=true) :
    okAt l k = !(Op.bytesLess (rd_T68 l (k:Int)).f0.toList (lastN l k).toList || (rd_T68 l (k:Int)).f0.toList == (lastN l k).toList):=by
  rw [okAt,h1,h2]
  cases k with
  | zero =>
    have hz:=(nameB_size h1).1
    rw [← toList_len] at hz
    have e:(lastN l 0).toList=[]:=by show (⟨#[]⟩:ByteArray).toList=[];rw [ByteArray.toList_eq]
    rw [e]
    generalize (rd_T68 l ((0:Nat):Int)).f0.toList=x at hz
    cases x with
    | nil => simp at hz
    | cons a x => simp [Op.bytesLess]
  | succ k =>
    rw [← tri]
    simp [less,lastN]
theorem okAt_geq {l:List S68} {k:Nat} (h1:nameB (rd_T68 l ((k+1:Nat):Int)).f0=true) (h2:valueB (rd_T68 l ((k+1:Nat):Int)).f1=true) :
    okAt l (k+1)=Op.bytesLess (rd_T68 l (k:Int)).f0.toList (rd_T68 l ((k+1:Nat):Int)).f0.toList:=by
  rw [okAt,h1,h2]
  simp [less]
theorem okAt_zero {l:List S68} (h1:nameB (rd_T68 l ((0:Nat):Int)).f0=true) (h2:valueB (rd_T68 l ((0:Nat):Int)).f1=true):okAt l 0=true:=by
  rw [okAt,h1,h2]
  rfl
theorem okAt_name {l:List S68} {k:Nat} (h1:nameB (rd_T68 l (k:Int)).f0=false):okAt l k=false:=by rw [okAt,h1];rfl
theorem okAt_value {l:List S68} {k:Nat} (h1:valueB (rd_T68 l (k:Int)).f1=false):okAt l k=false:=by rw [okAt,h1,Bool.and_false];rfl
theorem canL_bad {l:List S68} {k:Nat} (hk:k<l.length) (h:okAt l k=false):canL l=false:=by
  rw [canL,Bool.and_eq_false_iff]
  right
  rw [List.all_eq_false]
  exact ⟨k,List.mem_range.2 hk,by rw [h];simp⟩
theorem canL_ok {l:List S68} (h0:1≤l.length) (h8:l.length≤8) (h:∀ j,j<l.length→okAt l j=true):canL l=true:=by
  rw [canL,decide_eq_true h0,decide_eq_true h8]
  simp only [Bool.true_and,List.all_eq_true,List.mem_range]
  exact h
theorem canL_len {l:List S68} (h:¬ (1≤l.length∧l.length≤8)):canL l=false:=by
  rw [canL]
  by_cases h1:1≤l.length
  · rw [decide_eq_false (show ¬ l.length≤8 from fun h2 => h ⟨h1,h2⟩),Bool.and_false];rfl
  · rw [decide_eq_false h1];rfl
theorem canL_parts {l:List S68} (h:canL l=true):1≤l.length∧l.length≤8∧∀ j,j<l.length→okAt l j=true:=by
  simp only [canL,Bool.and_eq_true,decide_eq_true_eq,List.all_eq_true,List.mem_range] at h
  exact ⟨h.1.1,h.1.2,h.2⟩
theorem upto_step {l:List S68} {k:Nat} (h:∀ j,j<k→okAt l j=true) (hk:okAt l k=true):∀ j,j<k+1→okAt l j=true:=fun j hj => by
  rcases Nat.lt_or_ge j k with h1 | h1
  · exact h j h1
  · obtain rfl:j=k:=by omega
    exact hk
theorem nameB.calls_at (s:ByteArray) (b:Bool) (h:nameB s=b) (w:World):Calls Tryz.prog 121 #[.string s] w fun e w' => e = .returned (.bool b)∧Below w.heap.size w w':=h ▸ nameB.calls s w
theorem valueB.calls_at (s:ByteArray) (b:Bool) (h:valueB s=b) (w:World):Calls Tryz.prog 122 #[.string s] w fun e w' => e = .returned (.bool b)∧Below w.heap.size w w':=h ▸ valueB.calls s w
theorem canL.calls (A:Option Addr) (c n:Nat) (l:List S68) (w:World) (hn:l.length=n) (hr:Kd.C k68 w A n l) (hc:n≤c) :
    Calls Tryz.prog 87 #[.slice A n c] w fun e w' => e = .returned (.bool (canL l))∧Below w.heap.size w w':=by
  subst hn
  by_cases hlen:1≤l.length∧l.length≤8
  · have h0 : ((l.length : Int) == 0) = false := beq_eq_false_iff_ne.2 (by omega)
    have h8:decide ((8:Int)<(l.length:Int))=false:=decide_eq_false (by omega)
    have HR:=Aside0.mk hr
    have HL:=Aside0.mk hlen
    have hl8:=hlen.2
    clear hr hc hlen
    go_enter Tryz.func87,Tryz.ntmps87
    go_wp2
    go_loopw [3,16] (fun p i wr => ∃ (k:Nat) (q:ByteArray),k≤l.length∧i = .int .i64 k∧p = .string q∧Aside0 (q=lastN l k)∧Aside0 (∀ j,j<k→okAt l j=true)∧Aside0 (Below w.heap.size w wr)) (fun _ i _ => l.length - (intOf i).toNat)
    case atStart => exact ⟨0,_,Nat.zero_le _,rfl,rfl,⟨rfl⟩,⟨fun j hj => by omega⟩,⟨Below.refl _ _⟩⟩
    case round =>
      obtain ⟨k,q,hk,rfl,rfl,HQ,HO,HB⟩:=hrel
      by_cases hlt:k<l.length
      · obtain ⟨ad,rfl,c0,c1⟩:=at_T68 (Kd.C_below HR.out HB.out) (k:Int) (by omega) (by omega)
        rw [Int.toNat_natCast] at c0 c1
        have HBAD:=Aside0.mk (fun h => canL_bad (l:=l) (k:=k) hlt h)
        have HN:=Aside0.mk (fun h => okAt_name (l:=l) (k:=k) h)
        have HV:=Aside0.mk (fun h => okAt_value (l:=l) (k:=k) h)
        have HA:=Aside0.mk (fun h1 h2 => okAt_last (l:=l) (k:=k) h1 h2)
        have HS:=Aside0.mk (fun h => upto_step (l:=l) (k:=k) HO.out h)
        have HX:Aside0 ((rd_T68 l (k:Int)).f0=lastN l (k+1)):=⟨rfl⟩
        generalize rd_T68 l (k:Int)=x at c0 c1 HN HV HA HX
        rw [← HQ.out] at HA
        have HB0:=Aside0.mk (below_alloc HB.out (.cells #[.string x.f0,.string x.f1] 68 (0,0)))
        have HBK:=Aside0.mk (blk_new wr (.cells #[.string x.f0,.string x.f1] 68 (0,0)))
        cases h1:nameB x.f0 with
        | false =>
          have HF:Aside0 (canL l=false):=⟨HBAD.out (HN.out h1)⟩
          have C1:=Aside0.mk (nameB.calls_at x.f0 false h1)
          clear h1
          go_wp2_with (first | (go_at_call 121;(with_reducible refine (C1.out _).mono ?_);rintro e w1 ⟨rfl,hb⟩;have HB1:=Aside0.mk (below_step HB0.out hb);clear hb))
          go_ret
          exact ⟨by rw [HF.out];rfl,HB1.out⟩
        | true =>
          have C1:=Aside0.mk (nameB.calls_at x.f0 true h1)
          cases h2:valueB x.f1 with
          | false =>
            have HF:Aside0 (canL l=false):=⟨HBAD.out (HV.out h2)⟩
            have C2:=Aside0.mk (valueB.calls_at x.f1 false h2)
            clear h1 h2
            go_wp2_with (first | (go_at_call 121;(with_reducible refine (C1.out _).mono ?_);rintro e w1 ⟨rfl,hb⟩;have HB1:=Aside0.mk (below_step HB0.out hb);have HBK1:=Aside0.mk (blk_below HBK.out hb);have b1:=(blk_cell HBK1.out 1).trans rfl;clear hb) | (go_at_call 122;(with_reducible refine (C2.out _).mono ?_);rintro e w2 ⟨rfl,hb⟩;have HB2:=Aside0.mk (below_step HB1.out hb);clear hb))
            go_ret
            exact ⟨by rw [HF.out];rfl,HB2.out⟩
          | true =>
            have C2:=Aside0.mk (valueB.calls_at x.f1 true h2)
            have HOK:=HA.out h1 h2
            clear h1 h2
            cases d1:Op.bytesLess x.f0.toList q.toList with
            | true =>
              have HF:Aside0 (canL l=false):=⟨HBAD.out (by rw [HOK,d1];rfl)⟩
              clear HOK
              go_wp2_with (first | (go_at_call 121;(with_reducible refine (C1.out _).mono ?_);rintro e w1 ⟨rfl,hb⟩;have HB1:=Aside0.mk (below_step HB0.out hb);have HBK1:=Aside0.mk (blk_below HBK.out hb);have b1:=(blk_cell HBK1.out 1).trans rfl;clear hb) | (go_at_call 122;(with_reducible refine (C2.out _).mono ?_);rintro e w2 ⟨rfl,hb⟩;have HB2:=Aside0.mk (below_step HB1.out hb);have HBK2:=Aside0.mk (blk_below HBK1.out hb);have b2:=(blk_cell HBK2.out 0).trans rfl;clear hb))
              go_ret
              exact ⟨by rw [HF.out];rfl,HB2.out⟩
            | false =>
              cases d2:x.f0.toList == q.toList with
              | true =>
                have HF:Aside0 (canL l=false):=⟨HBAD.out (by rw [HOK,d1,d2];rfl)⟩
                clear HOK
                go_wp2_with (first | (go_at_call 121;(with_reducible refine (C1.out _).mono ?_);rintro e w1 ⟨rfl,hb⟩;have HB1:=Aside0.mk (below_step HB0.out hb);have HBK1:=Aside0.mk (blk_below HBK.out hb);have b1:=(blk_cell HBK1.out 1).trans rfl;clear hb) | (go_at_call 122;(with_reducible refine (C2.out _).mono ?_);rintro e w2 ⟨rfl,hb⟩;have HB2:=Aside0.mk (below_step HB1.out hb);have HBK2:=Aside0.mk (blk_below HBK1.out hb);have b2:=(blk_cell HBK2.out 0).trans rfl;clear hb))
                go_ret
                exact ⟨by rw [HF.out];rfl,HB2.out⟩
              | false =>
                have HG:=Aside0.mk (HS.out (by rw [HOK,d1,d2];rfl))
                clear HOK
                go_wp2_with (first | (go_at_call 121;(with_reducible refine (C1.out _).mono ?_);rintro e w1 ⟨rfl,hb⟩;have HB1:=Aside0.mk (below_step HB0.out hb);have HBK1:=Aside0.mk (blk_below HBK.out hb);have b1:=(blk_cell HBK1.out 1).trans rfl;clear hb) | (go_at_call 122;(with_reducible refine (C2.out _).mono ?_);rintro e w2 ⟨rfl,hb⟩;have HB2:=Aside0.mk (below_step HB1.out hb);have HBK2:=Aside0.mk (blk_below HBK1.out hb);have b2:=(blk_cell HBK2.out 0).trans rfl;clear hb))
                go_roundw
                case rel => exact ⟨k+1,x.f0,by omega,by go_num,rfl,HX,HG,HB2⟩
                case measure => simp [intOf];omega
      · obtain rfl:k=l.length:=by omega
        have HF:Aside0 (canL l=true):=⟨canL_ok HL.out.1 HL.out.2 HO.out⟩
        go_wp2
        go_ret
        exact ⟨by rw [HF.out];rfl,HB.out⟩
  · have HF:Aside0 (canL l=false):=⟨canL_len hlen⟩
    by_cases h0:(l.length:Int)=0
    · have h1:((l.length:Int) == 0)=true:=beq_iff_eq.2 h0
      clear h0 hlen
      go_enter Tryz.func87,Tryz.ntmps87
      go_wp2
      go_ret
      exact ⟨by rw [HF.out];rfl,Below.refl _ _⟩
    · have h1:((l.length:Int) == 0)=false:=beq_eq_false_iff_ne.2 h0
      have h2:decide ((8:Int)<(l.length:Int))=true:=decide_eq_true (by omega)
      clear h0 hlen
      go_enter Tryz.func87,Tryz.ntmps87
      go_wp2
      go_ret
      exact ⟨by rw [HF.out];rfl,Below.refl _ _⟩
end Go.Proofs.YtcgbgifbajdhpaaGreatDoor.PA
namespace Go.Proofs.YtcgbgifbajdhpaaGreatDoor.G
open Go.RowKit Go.Proofs.YtcgbgifbajdhpaaGreatDoorW.PrintWords Go.Proofs.YtcgbgifbajdhpaaGreatDoorW.PrintLast Go.Proofs.YtcgbgifbajdhpaaGreatDoorW.PrintMore
section
variable {P:Program} {ops:Array Oper} {rest:List Oper} {o:Oper} {a:Act} {Q:Exit→Act→World→Prop}
theorem R_append_str {w0 W:World} (base:Nat) (hgd:o.guard=none) (s x:Operand) (t u e:TypeId)
    (ho:o.op = .call { callee:=.builtin .append,args:=#[s,x],argTypes:=#[t,u] })
    (ht:P.underlying t=some (.slice e)) (hu:P.underlying u=some .string) (hinfo:(P.info? e).map (fun i => (i.zero,i.size,i.bytes))=some (some (.int .u8 0),1,1))
    (v:Value) (xs:List Int) (y:ByteArray) (hs:a.eval s=v) (hx:a.eval x = .string y)
    (HO:(Kd.int .u8).R e W base (fun _ => True) v xs) (HB:Below base w0 W) (hbase:base≤W.heap.size) (hl:xs.length+y.size≤140737488355328)
    (h:∀ v1 w1,(Kd.int .u8).R e w1 base (fun _ => True) v1 (xs++bytesOf y)→Below base w0 w1→wpList P ops Q rest (a.put o.dst v1) w1) :
    wpList P ops Q (o :: rest) a W:=by
  refine print_append_str base hgd s x t u e ho ht hu hinfo v xs y hs hx (Kd.own_of_R HO) HB hbase hl ?_
  intro v1 w1 hown hb hg
  exact h v1 w1 (Kd.R_of_own hown (fun _ _ => trivial)) hb
theorem R_append_byte {w0 W:World} (base:Nat) (hgd:o.guard=none) (s x:Operand) (t e:TypeId)
    (ho:o.op = .call { callee:=.builtin .append,args:=#[s,x],argTypes:=#[t,t] })
    (ht:P.underlying t=some (.slice e)) (hinfo:(P.info? e).map (fun i => (i.zero,i.size,i.bytes))=some (some (.int .u8 0),1,1))
    (v:Value) (xs:List Int) (p q:Int) (hpq:p=q) (hs:a.eval s=v) (hx:a.eval x = .slice (some ⟨W.heap.size,0,none⟩) 1 1)
    (HO:(Kd.int .u8).R e W base (fun _ => True) v xs) (HB:Below base w0 W) (hbase:base≤W.heap.size) (hl:xs.length+1≤140737488355328)
    (h:∀ v1 w1,(Kd.int .u8).R e w1 base (fun _ => True) v1 (xs ++ [q])→Below base w0 w1→wpList P ops Q rest (a.put o.dst v1) w1) :
    wpList P ops Q (o :: rest) a (W.alloc (.cells #[.int .u8 p] e)):=by
  subst hpq
  refine Kd.R_append (Kd.int .u8) (w0:=w0) base hgd s x t e (.int .u8 0) 1 ho ht hinfo rfl (by decide) (by decide) v xs p [.int .u8 p] (fun _ => True) (fun _ => False) hs hx rfl (fun _ hk => hk.elim) (fun _ _ => trivial) HO HB hbase (by omega) ?_
  intro v1 w1 hr hb _ _
  exact h v1 w1 hr hb
end
section
variable {P:Program} {ops:Array Oper} {o:Oper} {a:Act} {Q:Exit→Act→World→Prop} {Kc:Act→World→Prop}
theorem byte_step {w0 W:World} (base:Nat) (hw:Region.wanted o (yielded ops a.tmps)=true) (s x:Operand) (t e:TypeId)
    (ho:o.op = .call { callee:=.builtin .append,args:=#[s,x],argTypes:=#[t,t] })
    (ht:P.underlying t=some (.slice e)) (hinfo:(P.info? e).map (fun i => (i.zero,i.size,i.bytes))=some (some (.int .u8 0),1,1))
    (v:Value) (xs:List Int) (g:Nat) (p:Int) (hs:a.eval s=v) (hx:a.eval x = .slice (some ⟨g,0,none⟩) 1 1)
    (HO:(Kd.int .u8).R e W base (fun _ => True) v xs) (hc:W.cell? ⟨g,0,none⟩=some (.int .u8 p)) (HB:Below base w0 W) (hbase:base≤W.heap.size) (hl:xs.length+1≤140737488355328)
    (h:∀ v1 w1,(Kd.int .u8).R e w1 base (fun _ => True) v1 (xs ++ [p])→Below base w0 w1→W.grownBy w1 v.ownBlock→Kc (a.put o.dst v1) w1) :
    if Region.wanted o (yielded ops a.tmps)=true then Oper.wp P o a W Kc Q else Kc (a.put o.dst undef) W:=by
  refine Kd.R_append_rows_step (Kd.int .u8) (Rr:=fun x cs => cs=[.int .u8 x]) (w0:=w0) base hw s x t e (.int .u8 0) 1 ho ht hinfo rfl (by decide) (by decide) v xs [p] (some ⟨g,0,none⟩) 1 1 (fun _ => True) (fun _ => False) hs hx HO
    ⟨rfl,by decide,fun _ => ⟨_,rfl,fun j q hj => ?_⟩⟩ (fun x cs hx => hx) (fun _ hk => hk.elim) (fun _ _ => trivial) HB hbase (by omega) ?_
  · match j,hj with
    | 0,hj =>
      injection hj with hj
      subst hj
      refine ⟨_,rfl,rfl,fun i u hu => ?_⟩
      match i,hu with
      | 0,hu =>
        injection hu with hu
        subst hu
        exact hc
      | n+1,hu => simp at hu
    | n+1,hj => simp at hj
  · intro v1 w1 hr hb hg _
    exact h v1 w1 hr hb hg
theorem str_step {w0 W:World} (base:Nat) (hw:Region.wanted o (yielded ops a.tmps)=true) (s x:Operand) (t u e:TypeId)
    (ho:o.op = .call { callee:=.builtin .append,args:=#[s,x],argTypes:=#[t,u] })
    (ht:P.underlying t=some (.slice e)) (hu:P.underlying u=some .string) (hinfo:(P.info? e).map (fun i => (i.zero,i.size,i.bytes))=some (some (.int .u8 0),1,1))
    (v:Value) (xs:List Int) (y:ByteArray) (hs:a.eval s=v) (hx:a.eval x = .string y)
    (HO:(Kd.int .u8).R e W base (fun _ => True) v xs) (HB:Below base w0 W) (hbase:base≤W.heap.size) (hl:xs.length+y.size≤140737488355328)
    (h:∀ v1 w1,(Kd.int .u8).R e w1 base (fun _ => True) v1 (xs++bytesOf y)→Below base w0 w1→W.grownBy w1 v.ownBlock→Kc (a.put o.dst v1) w1) :
    if Region.wanted o (yielded ops a.tmps)=true then Oper.wp P o a W Kc Q else Kc (a.put o.dst undef) W:=by
  obtain ⟨i0,hi,hzz⟩:=Option.map_eq_some_iff.1 hinfo
  simp only [Prod.mk.injEq] at hzz
  obtain ⟨hz0,hz1,hz2⟩:=hzz
  have hown:=Kd.own_of_R HO
  obtain ⟨v1,w1,hr,h2,h3,_⟩:=Lib.run_append_own_string (P:=P) W base t u o.type e i0 ht hu hi hz0 hz1 hz2 v xs.length (nums .u8 xs) hown y (by simp only [maxLen];omega) hl hbase
  have hl2:(xs++bytesOf y).length=xs.length+y.size:=by rw [List.length_append,bytesOf_length]
  have hc:nums .u8 (xs++bytesOf y)=nums .u8 xs++Lib.strCells y:=by
    rw [nums_append]
    congr 1
    simp [nums,bytesOf,Lib.strCells]
  refine event_step hw (v:=v1) (w1:=w1) ?_ (h v1 w1 (Kd.R_of_own (by rw [hl2];show w1.ownsRow base e 1 v1 (xs.length+y.size) (nums .u8 (xs++bytesOf y));rw [hc];exact h2) (fun _ _ => trivial)) (HB.grown h3 hbase (own_base hown)) h3)
  unfold execOp
  simp only [ho,resolve,invoke,builtin,Sem.run_bind,Sem.run_pure,Result.andThen_ok,List.map_toArray,List.map_cons,List.map_nil,hs,hx,hr]
theorem byte_step2 {w0 W0 W:World} (hW:Below W0.heap.size W0 W) (hw:Region.wanted o (yielded ops a.tmps)=true) (s x:Operand) (t e tb:TypeId) (gb:Nat) (cb:Array Value)
    (ho:o.op = .call { callee:=.builtin .append,args:=#[s,x],argTypes:=#[t,t] })
    (ht:P.underlying t=some (.slice e)) (hinfo:(P.info? e).map (fun i => (i.zero,i.size,i.bytes))=some (some (.int .u8 0),1,1))
    (v:Value) (xs:List Int) (g:Nat) (p:Int) (hs:a.eval s=v) (hx:a.eval x = .slice (some ⟨g,0,none⟩) 1 1)
    (HO:(Kd.int .u8).R e W0 w0.heap.size (fun _ => True) v xs) (HB:Below w0.heap.size w0 W0) (HBK:W0.heap[gb]? = some (.cells cb tb (0,0))) (hne:e ≠ tb) (hl:xs.length+1≤140737488355328) (hc:W.cell? ⟨g,0,none⟩=some (.int .u8 p))
    (h:∀ v1 w1,(Kd.int .u8).R e w1 w0.heap.size (fun _ => True) v1 (xs ++ [p])→Below w0.heap.size w0 w1→w1.heap[gb]? = some (.cells cb tb (0,0))→Kc (a.put o.dst v1) w1) :
    if Region.wanted o (yielded ops a.tmps)=true then Oper.wp P o a W Kc Q else Kc (a.put o.dst undef) W:=by
  have HO1:=Kd.R_below HO hW
  have HB1:=below_step HB hW
  have HK1:=blk_below HBK hW
  refine byte_step w0.heap.size hw s x t e ho ht hinfo v xs g p hs hx HO1 hc HB1 HB1.size hl ?_
  intro v1 w1 hr hb hg
  exact h v1 w1 hr hb (blk_grown HK1 hg (Kd.R_ne HO1 HK1 hne))
theorem str_step2 {w0 W0 W:World} (hW:Below W0.heap.size W0 W) (hw:Region.wanted o (yielded ops a.tmps)=true) (s x:Operand) (t u e tb:TypeId) (gb:Nat) (cb:Array Value)
    (ho:o.op = .call { callee:=.builtin .append,args:=#[s,x],argTypes:=#[t,u] })
    (ht:P.underlying t=some (.slice e)) (hu:P.underlying u=some .string) (hinfo:(P.info? e).map (fun i => (i.zero,i.size,i.bytes))=some (some (.int .u8 0),1,1))
    (v:Value) (xs:List Int) (y:ByteArray) (hs:a.eval s=v) (hx:a.eval x = .string y)
    (HO:(Kd.int .u8).R e W0 w0.heap.size (fun _ => True) v xs) (HB:Below w0.heap.size w0 W0) (HBK:W0.heap[gb]? = some (.cells cb tb (0,0))) (hne:e ≠ tb) (hl:xs.length+y.size≤140737488355328)
    (h:∀ v1 w1,(Kd.int .u8).R e w1 w0.heap.size (fun _ => True) v1 (xs++bytesOf y)→Below w0.heap.size w0 w1→w1.heap[gb]? = some (.cells cb tb (0,0))→Kc (a.put o.dst v1) w1) :
    if Region.wanted o (yielded ops a.tmps)=true then Oper.wp P o a W Kc Q else Kc (a.put o.dst undef) W:=by
  have HO1:=Kd.R_below HO hW
  have HB1:=below_step HB hW
  have HK1:=blk_below HBK hW
  refine str_step w0.heap.size hw s x t u e ho ht hu hinfo v xs y hs hx HO1 HB1 HB1.size hl ?_
  intro v1 w1 hr hb hg
  exact h v1 w1 hr hb (blk_grown HK1 hg (Kd.R_ne HO1 HK1 hne))
end
end Go.Proofs.YtcgbgifbajdhpaaGreatDoor.G
namespace Go.Proofs.YtcgbgifbajdhpaaGreatDoor.PA
open Go.RowKit Go.Proofs.YtcgbgifbajdhpaaGreatDoor.G Go.Proofs.YtcgbgifbajdhpaaGreatDoorW.PrintWords Go.Proofs.YtcgbgifbajdhpaaGreatDoorW.PrintLast Go.Proofs.YtcgbgifbajdhpaaGreatDoorW.PrintMore
def encT (s:ByteArray):List Int:=(s.size:Int) :: bytesOf s
def encX (x:S68):List Int:=encT x.f0++encT x.f1
def encK (l:List S68) (k:Nat):List Int:=(l.length:Int) :: (l.take k).flatMap encX
def encLb (l:List S68):List Int:=(l.length:Int) :: l.flatMap encX
theorem take_T68 (l:List S68) (k:Nat) (h:k<l.length):l.take (k+1)=l.take k ++ [rd_T68 l (k:Int)]:=by
  rw [List.take_succ_eq_append_getElem h]
  simp [rd_T68,List.getD_eq_getElem?_getD,List.getElem?_eq_getElem h]
theorem encK_step (l:List S68) (k:Nat) (h:k<l.length):encK l (k+1)=encK l k++encX (rd_T68 l (k:Int)):=by
  rw [encK,take_T68 l k h,List.flatMap_append,encK]
  simp
theorem encK_all (l:List S68):encK l l.length=encLb l:=by rw [encK,List.take_length,encLb]
theorem okAt_sizes {l:List S68} {k:Nat} (h:okAt l k=true):(rd_T68 l (k:Int)).f0.size≤24∧(rd_T68 l (k:Int)).f1.size≤40:=by
  simp only [okAt,Bool.and_eq_true] at h
  exact ⟨(nameB_size h.1.1).2,(valueB_size h.1.2).2⟩
theorem encT_len (s:ByteArray):(encT s).length=s.size+1:=by rw [encT,List.length_cons,bytesOf_length]
theorem encX_len (x:S68):(encX x).length=x.f0.size+x.f1.size+2:=by rw [encX,List.length_append,encT_len,encT_len];omega
theorem encK_len {l:List S68} (h:canL l=true):∀ k,k≤l.length→(encK l k).length≤1+66*k
  | 0,_ => by simp [encK]
  | k+1,hk => by
    have ih:=encK_len h k (by omega)
    have hs:=okAt_sizes ((canL_parts h).2.2 k (by omega))
    rw [encK_step l k (by omega),List.length_append,encX_len]
    omega
theorem u8w {n:Nat} (h:n<256):IntKind.u8.wrap (n:Int)=(n:Int):=by simp [IntKind.wrap,IntKind.bits,IntKind.signed];omega
theorem idx_two {P:Program} (t e:TypeId) (h:P.underlying t=some (.array 2 e)) (hs:∀ W,(Go.sizeOf e).run P W = .ok 1 W) (ha:∀ W,(isAgg e).run P W = .ok false W) (a b:Value) (i:Int) (v:Value) (hv:(i=0∧v=a)∨(i=1∧v=b)) (W:World):(Instr.index t (.agg #[a,b]) (.int .i64 i)).run P W = .ok v W:=by
  rcases hv with ⟨rfl,rfl⟩ | ⟨rfl,rfl⟩ <;> simp [Instr.index,run_underlying h,asIntOf,go_sem,hs,ha]
theorem encLb.calls (A:Option Addr) (c n:Nat) (l:List S68) (w:World) (hn:l.length=n) (hr:Kd.C k68 w A n l) (hc:n≤c) (h:canL l=true) :
    Calls Tryz.prog 59 #[.slice A n c] w fun e w' => ∃ v:Value,e = .returned (.tuple #[v,.int .i64 0])∧Kd.R (Kd.int .u8) 5 w' w.heap.size (fun _ => True) v (encLb l)∧Below w.heap.size w w':=by
  subst hn
  have hp:=canL_parts h
  have HR:=Aside0.mk hr
  have HP:=Aside0.mk hp
  have HL:=Aside0.mk (encK_len h)
  have HC:Aside0 (Calls Tryz.prog 87 #[.slice A l.length c] w fun e w' => e = .returned (.bool true)∧Below w.heap.size w w'):=⟨h ▸ canL.calls A c l.length l w rfl hr hc⟩
  have hl8:=hp.2.1
  clear hr hc hp h
  go_enter Tryz.func59,Tryz.ntmps59
  go_wp2_with (first | (go_at_call 87;(with_reducible refine HC.out.mono ?_);rintro e w1 ⟨rfl,hb⟩;have HB1:=Aside0.mk hb;clear hb))
  have HR0:Aside0 (Kd.R (Kd.int .u8) 5 (w1.alloc (.cells #[.int .u8 (l.length:Int)] 5)) w.heap.size (fun _ => True) (.slice (some ⟨w1.heap.size,0,none⟩) 1 1) (encK l 0)):=⟨Kd.R_of_own (own_lit w1 w.heap.size 5 .u8 [(l.length:Int)] HB1.out.size (by simp)) (fun _ _ => trivial)⟩
  have HB0:=Aside0.mk (below_alloc HB1.out (.cells #[.int .u8 (l.length:Int)] 5))
  go_loopw [4,18] (fun v i wr => ∃ k:Nat,k≤l.length∧i = .int .i64 k∧Aside0 (Kd.R (Kd.int .u8) 5 wr w.heap.size (fun _ => True) v (encK l k))∧Aside0 (Below w.heap.size w wr)) (fun _ i _ => l.length - (intOf i).toNat)
  case atStart => exact ⟨0,Nat.zero_le _,rfl,HR0,HB0⟩
  case round =>
    clear HR0 HB0
    obtain ⟨k,hk,rfl,HV,HB⟩:=hrel
    by_cases hlt:k<l.length
    · obtain ⟨ad,rfl,c0,c1⟩:=at_T68 (Kd.C_below HR.out HB.out) (k:Int) (by omega) (by omega)
      rw [Int.toNat_natCast] at c0 c1
      have hsz:=okAt_sizes (HP.out.2.2 k hlt)
      have HST:=Aside0.mk (encK_step l k hlt)
      have HKL:Aside0 ((encK l k).length≤600):=⟨by have:=HL.out k hk;omega⟩
      generalize rd_T68 l (k:Int)=x at *
      obtain ⟨hz0,hz1⟩:=hsz
      have HB0:=Aside0.mk (below_alloc HB.out (.cells #[.string x.f0,.string x.f1] 68 (0,0)))
      have HV0:=Aside0.mk (Kd.R_below HV.out (below_alloc (Below.refl _ _) (.cells #[.string x.f0,.string x.f1] 68 (0,0))))
      clear HV
      have HV:=HV0
      have hi0:=fun W => idx_two 147 9 Tryz.underlying147 (fun W => by kernel_rfl) (fun W => by kernel_rfl) (.string x.f0) (.string x.f1) 0 _ (.inl ⟨rfl,rfl⟩) W
      have hi1:=fun W => idx_two 147 9 Tryz.underlying147 (fun W => by kernel_rfl) (fun W => by kernel_rfl) (.string x.f0) (.string x.f1) 1 _ (.inr ⟨rfl,rfl⟩) W
      go_wp2
      refine wp_loop_rounds 3 ?_
      rw [rounds_succ]
      go_wp2_with (first | ((with_reducible refine gate_builtin (b:=.append) (xs:=#[.tmp 30,.tmp 34]) rfl ?_);at_builtin;go_must (refine R_append_byte (w0:=w) w.heap.size rfl (.tmp 30) (.tmp 34) 24 5 rfl Tryz.underlying24 infoU8 _ _ _ ((x.f0.size:Nat):Int) ?hq rfl ?hx HV.out HB0.out HB0.out.size ?hl ?_;(case hq => first | rfl | exact u8w (by omega));(case hx => first | rfl | (go_simp;done));(case hl => (have hk_:=HKL.out;(try simp only [List.length_append,List.length_cons,List.length_nil,bytesOf_length]);omega));intro va1 wa1 hr hb;have HRa1:=Aside0.mk hr;have HBa1:=Aside0.mk hb;clear hr hb)) | ((with_reducible refine gate_builtin (b:=.append) (xs:=#[.tmp 35,.tmp 36]) rfl ?_);at_builtin;go_must (refine R_append_str (w0:=w) w.heap.size rfl (.tmp 35) (.tmp 36) 24 9 5 rfl Tryz.underlying24 Tryz.underlying9 infoU8 _ _ x.f0 rfl rfl HRa1.out HBa1.out HBa1.out.size ?hl ?_;(case hl => (have hk_:=HKL.out;(try simp only [List.length_append,List.length_cons,List.length_nil,bytesOf_length]);omega));intro vb1 wb1 hr hb;have HRb1:=Aside0.mk hr;have HBb1:=Aside0.mk hb;clear hr hb)))
      rw [rounds_succ]
      go_wp2_with (first | ((with_reducible refine gate_builtin (b:=.append) (xs:=#[.tmp 30,.tmp 34]) rfl ?_);at_builtin;go_must (refine R_append_byte (w0:=w) w.heap.size rfl (.tmp 30) (.tmp 34) 24 5 rfl Tryz.underlying24 infoU8 _ _ _ ((x.f1.size:Nat):Int) ?hq rfl ?hx HRb1.out HBb1.out HBb1.out.size ?hl ?_;(case hq => first | rfl | exact u8w (by omega));(case hx => first | rfl | (go_simp;done));(case hl => (have hk_:=HKL.out;(try simp only [List.length_append,List.length_cons,List.length_nil,bytesOf_length]);omega));intro va2 wa2 hr hb;have HRa2:=Aside0.mk hr;have HBa2:=Aside0.mk hb;clear hr hb)) | ((with_reducible refine gate_builtin (b:=.append) (xs:=#[.tmp 35,.tmp 36]) rfl ?_);at_builtin;go_must (refine R_append_str (w0:=w) w.heap.size rfl (.tmp 35) (.tmp 36) 24 9 5 rfl Tryz.underlying24 Tryz.underlying9 infoU8 _ _ x.f1 rfl rfl HRa2.out HBa2.out HBa2.out.size ?hl ?_;(case hl => (have hk_:=HKL.out;(try simp only [List.length_append,List.length_cons,List.length_nil,bytesOf_length]);omega));intro vb2 wb2 hr hb;have HRb2:=Aside0.mk hr;have HBb2:=Aside0.mk hb;clear hr hb)))
      rw [rounds_succ]
      go_wp2
      go_roundw
      case rel => exact ⟨k+1,by omega,by go_num,⟨by have h_:=HRb2.out;rw [HST.out];simpa [encX,encT] using h_⟩,HBb2⟩
      case measure => simp [intOf];omega
    · obtain rfl:k=l.length:=by omega
      rw [encK_all] at HV
      go_wp2
      refine bodyPost_ret (results_tmp2 rfl _ _ _) rfl ?_
      exact ⟨_,rfl,HV.out,HB.out⟩
theorem encLb.bad (A:Option Addr) (c n:Nat) (l:List S68) (w:World) (hn:l.length=n) (hr:Kd.C k68 w A n l) (hc:n≤c) (h:canL l=false) :
    Calls Tryz.prog 59 #[.slice A n c] w fun e w' => e = .returned (.tuple #[.slice none 0 0,.int .i64 1])∧Below w.heap.size w w':=by
  have HC:Aside0 (Calls Tryz.prog 87 #[.slice A n c] w fun e w' => e = .returned (.bool false)∧Below w.heap.size w w'):=⟨h ▸ canL.calls A c n l w hn hr hc⟩
  clear hr hc h hn
  go_enter Tryz.func59,Tryz.ntmps59
  go_wp2_with (first | (go_at_call 87;(with_reducible refine HC.out.mono ?_);rintro e w1 ⟨rfl,hb⟩;have HB1:=Aside0.mk hb;clear hb))
  refine bodyPost_ret (results_tmp2 rfl _ _ _) rfl ?_
  exact ⟨rfl,HB1.out⟩
def pieceD:List Int→Option (ByteArray × List Int)
  | [] => none
  | x :: r => if r.length<x.toNat then none else some (strOfNums (r.take x.toNat),r.drop x.toNat)
def decLN (b:List Int):Nat→Option (List S68 × List Int)
  | 0 => some ([],b)
  | k+1 => (decLN b k).bind fun p => (pieceD p.2).bind fun s => (pieceD s.2).bind fun t => some (p.1 ++ [⟨s.1,t.1⟩],t.2)
def decLb:List Int→List S68 × List Int × Int
  | [] => ([],[],3)
  | x :: r => match decLN r x.toNat with
    | none => ([],[],3)
    | some p => if canL p.1=true then (p.1,p.2,0) else ([],[],5)
theorem decLN_stop {b:List Int} {k:Nat} (h:decLN b k=none):∀ d,decLN b (k+d)=none
  | 0 => h
  | d+1 => by rw [← Nat.add_assoc,decLN,decLN_stop h d];rfl
theorem decLN_none {b:List Int} {k n:Nat} (hk:k<n) (h:decLN b (k+1)=none):decLN b n=none:=by
  have:=decLN_stop h (n - (k+1))
  rwa [show k+1+(n - (k+1))=n by omega] at this
theorem decLN_len {b:List Int}:∀ {k:Nat} {l:List S68} {r:List Int},decLN b k=some (l,r)→l.length=k∧r.length≤b.length
  | 0,l,r,h => by
    simp only [decLN,Option.some.injEq,Prod.mk.injEq] at h
    obtain ⟨rfl,rfl⟩:=h
    exact ⟨rfl,Nat.le_refl _⟩
  | k + 1, l, r, h => by
    simp only [decLN,Option.bind_eq_some_iff] at h
    obtain ⟨⟨l1,r1⟩,h1,⟨s,r2⟩,h2,⟨t,r3⟩,h3,h4⟩:=h
    simp only [Option.some.injEq,Prod.mk.injEq] at h4
    obtain ⟨rfl,rfl⟩:=h4
    have ih:=decLN_len h1
    have hp:∀ {x:List Int} {s:ByteArray} {y:List Int},pieceD x=some (s,y)→y.length≤x.length:=by
      intro x s y hx
      cases x with
      | nil => cases hx
      | cons a x =>
        simp only [pieceD] at hx
        split at hx
        · cases hx
        · simp only [Option.some.injEq,Prod.mk.injEq] at hx
          rw [← hx.2,List.length_drop,List.length_cons]
          omega
    have e2:=hp h2
    have e3:=hp h3
    simp only at e2 e3
    rw [List.length_append,ih.1]
    exact ⟨rfl,by have:=ih.2;omega⟩
theorem pieceD_nil {r:List Int} (h:r.length=0):pieceD r=none:=by
  rw [List.eq_nil_of_length_eq_zero h]
  rfl
theorem pieceD_short {r:List Int} (h0:0<r.length) (hp:0≤rd r 0) (h:(r.length:Int) - 1<rd r 0):pieceD r=none:=by
  cases r with
  | nil => simp at h0
  | cons x r =>
    have e:rd (x :: r) 0=x:=rfl
    rw [e] at h hp
    rw [pieceD,if_pos]
    rw [List.length_cons] at h
    omega
theorem pieceD_ok {r:List Int} {n:Nat} (h0:0<r.length) (hn:rd r 0=(n:Int)) (h:n<r.length):pieceD r=some (strOfNums ((r.take (1+n)).drop 1),r.drop (1+n)):=by
  cases r with
  | nil => simp at h0
  | cons x r =>
    have e:rd (x :: r) 0=x:=rfl
    rw [e] at hn
    subst hn
    rw [List.length_cons] at h
    rw [pieceD,if_neg (by rw [Int.toNat_natCast];omega),Int.toNat_natCast,Nat.add_comm 1 n,List.take_succ_cons,List.drop_succ_cons,List.drop_succ_cons,List.drop_zero]
theorem decLN_step {b r r1 r2:List Int} {l:List S68} {k:Nat} {s t:ByteArray} (h:decLN b k=some (l,r)) (h1:pieceD r=some (s,r1)) (h2:pieceD r1=some (t,r2)):decLN b (k+1)=some (l ++ [⟨s,t⟩],r2):=by
  simp only [decLN,h,Option.bind_some,h1,h2]
theorem decLN_bad1 {b r:List Int} {l:List S68} {k:Nat} (h:decLN b k=some (l,r)) (h1:pieceD r=none):decLN b (k+1)=none:=by
  simp only [decLN,h,Option.bind_some,h1,Option.bind_none]
theorem decLN_bad2 {b r r1:List Int} {l:List S68} {k:Nat} {s:ByteArray} (h:decLN b k=some (l,r)) (h1:pieceD r=some (s,r1)) (h2:pieceD r1=none):decLN b (k+1)=none:=by
  simp only [decLN,h,Option.bind_some,h1,h2,Option.bind_none]
theorem decLb_short {b:List Int} (h0:0<b.length) {n:Nat} (hn:rd b 0=(n:Int)) (h:decLN (b.drop 1) n=none):decLb b=([],[],3):=by
  cases b with
  | nil => simp at h0
  | cons x r =>
    have e:rd (x :: r) 0=x:=rfl
    rw [e] at hn
    subst hn
    simp only [List.drop_succ_cons,List.drop_zero] at h
    simp only [decLb,Int.toNat_natCast,h]
theorem decLb_form {b r':List Int} {l:List S68} (h0:0<b.length) {n:Nat} (hn:rd b 0=(n:Int)) (h:decLN (b.drop 1) n=some (l,r')) (hc:canL l=false):decLb b=([],[],5):=by
  cases b with
  | nil => simp at h0
  | cons x r =>
    have e:rd (x :: r) 0=x:=rfl
    rw [e] at hn
    subst hn
    simp only [List.drop_succ_cons,List.drop_zero] at h
    simp [decLb,Int.toNat_natCast,h,hc]
theorem decLb_ok {b r':List Int} {l:List S68} (h0:0<b.length) {n:Nat} (hn:rd b 0=(n:Int)) (h:decLN (b.drop 1) n=some (l,r')) (hc:canL l=true):decLb b=(l,r',0):=by
  cases b with
  | nil => simp at h0
  | cons x r =>
    have e:rd (x :: r) 0=x:=rfl
    rw [e] at hn
    subst hn
    simp only [List.drop_succ_cons,List.drop_zero] at h
    simp [decLb,Int.toNat_natCast,h,hc]
theorem decLN_mem {b:List Int} {k:Nat} {l:List S68} {r:List Int} (h:decLN b k=some (l,r)):∀ x ∈ r,x ∈ b:=by
  induction k generalizing l r with
  | zero =>
    simp only [decLN,Option.some.injEq,Prod.mk.injEq] at h
    obtain ⟨rfl,rfl⟩:=h
    exact fun x hx => hx
  | succ k ih =>
    simp only [decLN,Option.bind_eq_some_iff] at h
    obtain ⟨⟨l1,r1⟩,h1,⟨s,r2⟩,h2,⟨t,r3⟩,h3,h4⟩:=h
    simp only [Option.some.injEq,Prod.mk.injEq] at h4
    obtain ⟨rfl,rfl⟩:=h4
    have hp:∀ {x:List Int} {s:ByteArray} {y:List Int},pieceD x=some (s,y)→∀ z ∈ y,z ∈ x:=by
      intro x s y hx z hz
      cases x with
      | nil => cases hx
      | cons a x =>
        simp only [pieceD] at hx
        split at hx
        · cases hx
        · simp only [Option.some.injEq,Prod.mk.injEq] at hx
          rw [← hx.2] at hz
          exact List.mem_cons_of_mem _ (List.mem_of_mem_drop hz)
    intro x hx
    exact ih h1 x (hp h2 x (hp h3 x hx))
theorem pieceD_mem {b r:List Int} {s:ByteArray} (h:pieceD b=some (s,r)):∀ x ∈ r,x ∈ b:=by
  cases b with
  | nil => cases h
  | cons a b =>
    simp only [pieceD] at h
    split at h
    · cases h
    · simp only [Option.some.injEq,Prod.mk.injEq] at h
      intro x hx
      rw [← h.2] at hx
      exact List.mem_cons_of_mem _ (List.mem_of_mem_drop hx)
theorem decLN_in {b:List Int}:∀ {k:Nat} {l:List S68} {r:List Int},decLN b k=some (l,r)→∀ x ∈ r,x ∈ b
  | 0,l,r,h => by
    simp only [decLN,Option.some.injEq,Prod.mk.injEq] at h
    obtain ⟨rfl,rfl⟩:=h
    exact fun x hx => hx
  | k+1,l,r,h => by
    simp only [decLN,Option.bind_eq_some_iff] at h
    obtain ⟨⟨l1,r1⟩,h1,⟨s,r2⟩,h2,⟨t,r3⟩,h3,h4⟩:=h
    simp only [Option.some.injEq,Prod.mk.injEq] at h4
    obtain ⟨rfl,rfl⟩:=h4
    exact fun x hx => decLN_in h1 x (pieceD_mem h2 x (pieceD_mem h3 x hx))
theorem decLb_rest (b:List Int):(∀ x ∈ (decLb b).2.1,x ∈ b)∧(decLb b).2.1.length≤b.length:=by
  cases b with
  | nil => simp [decLb]
  | cons a r =>
    simp only [decLb]
    split
    · simp
    · rename_i p hp
      obtain ⟨l,q⟩:=p
      split
      · exact ⟨fun x hx => List.mem_cons_of_mem _ (decLN_in hp x hx),by have:=(decLN_len hp).2;simp;omega⟩
      · simp
theorem okB_sub {a b:List Int} (h:okB b=true) (hs:∀ x ∈ a,x ∈ b):okB a=true:=okB_iff.2 fun x hx => okB_iff.1 h x (hs x hx)
attribute [local go_sem] Oper.semAt_some
abbrev Part (len:Nat):={ j:Nat // j*20<len }
def plen (len j:Nat):Nat:=min 20 (len - j*20)
def partsN {len:Nat} (ys:List (Part len)):List Nat:=ys.map fun y => y.1
theorem partsN_snoc {len:Nat} (ys:List (Part len)) (x:Part len):partsN (ys ++ [x])=partsN ys ++ [x.1]:=by simp [partsN]
theorem partsN_length {len:Nat} (ys:List (Part len)):(partsN ys).length=ys.length:=by simp [partsN]
def KeepB (B1 B2:Nat) (W W':World):Prop:=W'.heap[B1]? = W.heap[B1]? ∧ W'.heap[B2]? = W.heap[B2]?
theorem KeepB.refl (B1 B2:Nat) (W:World):KeepB B1 B2 W W:=⟨rfl,rfl⟩
theorem KeepB.trans {B1 B2:Nat} {a b c:World} (h:KeepB B1 B2 a b) (k:KeepB B1 B2 b c):KeepB B1 B2 a c:=⟨k.1.trans h.1,k.2.trans h.2⟩
theorem KeepB.cell1 {B1 B2:Nat} {a b:World} (h:KeepB B1 B2 a b):b.cell? ⟨B1,0,none⟩=a.cell? ⟨B1,0,none⟩:=World.cell?_of_block h.1
theorem KeepB.cell2 {B1 B2:Nat} {a b:World} (h:KeepB B1 B2 a b):b.cell? ⟨B2,0,none⟩=a.cell? ⟨B2,0,none⟩:=World.cell?_of_block h.2
theorem keepB_b {B1 B2:Nat} {w:World} (h1:B1<w.heap.size) (h2:B2<w.heap.size) (W:World) (l:Nat) (o o':Obj) (hl:w.heap.size≤l) (h:W.heap[l]? = some o) (_:o.isCells=false) (_:o.isWalk=false):KeepB B1 B2 W (W.putObj l o') :=
  ⟨World.putObj_heap_other (by omega),World.putObj_heap_other (by omega)⟩
def ItPost (len:Nat) (J Jx:List (Part len)→World→Prop) (e:Ending) (W':World):Prop:=(∃ v,e = .returned v)∧((∃ ys:List (Part len),partsN ys=List.range ((len+19) / 20)∧J ys W')∨(∃ pre,True∧Jx pre W'))
def encPt (ad:Addr) (len:Nat) (x:Part len):Array Value:=#[.slice (some (ad.add (x.1*20*2))) (plen len x.1) (plen len x.1)]
theorem infoN70:∃ i,Tryz.prog.info? 70=some i∧i.size=2:=by
  obtain ⟨i,hi,hz⟩:=Option.map_eq_some_iff.1 info70
  simp only [Prod.mk.injEq] at hz
  exact ⟨i,hi,hz.2.1⟩
theorem cut3S (ad:Addr) (len c lo hi:Nat) (h1:lo<hi) (h2:hi≤len) (hc:len≤c) (i j:Int) (hi':i=(lo:Int)) (hj':j=(hi:Int)) (W:World) :
    (Instr.slice 49 (.slice (some ad) len c) (some (.int .i64 i)) (some (.int .i64 j)) (some (.int .i64 j))).run Tryz.prog W = .ok (.slice (some (ad.add (lo*2))) (hi - lo) (hi - lo)) W:=by
  subst hi' hj'
  obtain ⟨i0,hi0,hsz⟩:=infoN70
  have hu:=Tryz.underlying49
  have hel:Tryz.prog.elem 49=70:=by simp [Program.elem,hu]
  have hu':Tryz.prog.underlying 49=some (.slice (Tryz.prog.elem 49)):=by rw [hel];exact hu
  rw [run_slice_lhm W 49 (some ad) len c hu' .i64 .i64 .i64 (lo:Int) (hi:Int) (hi:Int) (by omega) (by omega) (by omega) (by omega),hel]
  simp [sizeOf,typeInfo,hi0,hsz,sliced,Result.andThen]
  omega
theorem tailS (ad:Addr) (len c lo:Nat) (h1:lo≤len) (i:Int) (hi':i=(lo:Int)) :
    ∃ (A:Option Addr) (c':Nat),∀ W:World,(Instr.slice 49 (.slice (some ad) len c) (some (.int .i64 i)) none none).run Tryz.prog W = .ok (.slice A (len - lo) c') W:=by
  subst hi'
  refine ⟨if c=lo then some ad else some (ad.add (lo*2)),c - lo,fun W => ?_⟩
  obtain ⟨i0,hi0,hsz⟩:=infoN70
  have hu:=Tryz.underlying49
  have hel:Tryz.prog.elem 49=70:=by simp [Program.elem,hu]
  have hu':Tryz.prog.underlying 49=some (.slice (Tryz.prog.elem 49)):=by rw [hel];exact hu
  rw [run_slice_l W 49 (some ad) len c hu' .i64 (lo:Int) (by omega) (by omega),hel]
  simp [sizeOf,typeInfo,hi0,hsz,sliced,Result.andThen]
theorem chunkIt_in (n:Nat) (hn:1≤n) (l B1 B2:Nat) (ad:Addr) (len c:Nat) (hlen:len≤1000000) (hc:len≤c) (J Jx:List (Part len)→World→Prop) (hJ:∀ pre W (q:Nat),J pre W→J pre (W.drewN q))
    (hY:∀ pre x W,J pre W→pre.length<(len+19) / 20→YieldAt Fence.wide (n - 1) Tryz.prog l (encPt ad len x) W fun e W' =>
      (e = .returned (.bool true)∧J (pre ++ [x]) W'∧KeepB B1 B2 W W')∨(e = .returned (.bool false)∧Jx (pre ++ [x]) W'))
    (W:World) (hB1:W.cell? ⟨B1,0,none⟩=some (.slice (some ad) len c)) (hB2:W.cell? ⟨B2,0,none⟩=some (.int .i64 20)) (h0:J [] W) :
    CallsIn Fence.wide n Tryz.prog 90 #[.func (.yield l) #[] #[],.pointer (some ⟨B1,0,none⟩),.pointer (some ⟨B2,0,none⟩)] W (ItPost len J Jx):=by
  refine callsIn_of_wp Tryz.func90 rfl trivial ?_ rfl
  simp only [Tryz.ntmps90,List.size_toArray,List.length_cons,List.length_nil,Nat.reduceAdd,Nat.reduceSub,Array.replicate_succ,Array.replicate_zero,List.push_toArray,List.append_toArray,List.nil_append,List.cons_append]
  gi_wp2
  gi_loopw [4] (fun i wr => ∃ (k:Nat) (pre:List (Part len)),k≤(len+19) / 20∧i = .int .i64 ((20*k:Nat):Int)∧partsN pre=List.range k∧J pre wr∧KeepB B1 B2 W wr)
    (fun i _ => len+20 - (intOf i).toNat)
  case atStart => exact ⟨0,[],Nat.zero_le _,rfl,rfl,h0,KeepB.refl _ _ _⟩
  case round =>
    obtain ⟨k,pre,hk,rfl,hpre,hJs,hnx⟩:=hrel
    have b1:=hnx.cell1.trans hB1
    have b2:=hnx.cell2.trans hB2
    by_cases hlt:20*k<len
    · have hlen1:pre.length<(len+19) / 20:=by
        have:=partsN_length pre
        rw [hpre,List.length_range] at this
        omega
      obtain ⟨q,hq⟩:∃ q,plen len k=q:=⟨_,rfl⟩
      have hq1:1≤q∧q≤20∧20*k+q≤len:=by unfold plen at hq;omega
      have hqm:min (20:Int) ((len - k*20:Nat):Int)=(q:Int):=by unfold plen at hq;omega
      obtain ⟨AT,cT,hT⟩:=tailS ad len c (20*k) (by omega) ((20*k:Nat):Int) rfl
      have hmid:=fun W => cut3S ad len c (20*k) (20*k+q) (by omega) (by omega) hc ((20*k:Nat):Int) (((20*k:Nat):Int)+(q:Int)) rfl (by omega) W
      rw [Nat.add_sub_cancel_left,Nat.mul_comm 20 k] at hmid
      rw [Nat.mul_comm 20 k] at hT
      have hq0:=hq1.1
      have hq2:=hq1.2.1
      have hq3:=hq1.2.2
      have hw1:IntKind.i64.wrap (((k*20:Nat):Int)+(q:Int))=((k*20:Nat):Int)+(q:Int):=by rw [IntKind.wrap_i64];omega
      have hw2:IntKind.i64.wrap (((k*20:Nat):Int)+20)=((k*20:Nat):Int)+20:=by rw [IntKind.wrap_i64];omega
      rw [Nat.mul_comm 20 k] at *
      have hkl:((k*20:Nat):Int)<(len:Int):=by omega
      have HN:=Aside0.mk hnx
      have HQ:=Aside0.mk hq
      have HP:=Aside0.mk hpre
      have HJ:=Aside0.mk hJs
      have HQI:=Aside0.mk hq1
      have HL1:=Aside0.mk hlen1
      clear hnx hq1 hJs hpre hq hlen1
      gi_wp2
      refine wpIn_wide.2 ?_
      by_cases hm:len - k*20<20
      · obtain rfl:q=len - k*20:=by have:=HQ.out;unfold plen at this;omega
        go_quiet (fail)
        generalize hwq:wr.drewN nq=wq
        have HJq:Aside0 (J pre wq):=⟨hwq ▸ hJ _ _ _ HJ.out⟩
        have HNq:Aside0 (KeepB B1 B2 W wq):=⟨hwq ▸ HN.out⟩
        have b1q:wq.cell? ⟨B1,0,none⟩=some (.slice (some ad) len c):=hwq ▸ b1
        have b2q:wq.cell? ⟨B2,0,none⟩=some (.int .i64 20):=hwq ▸ b2
        clear hwq b1 b2 hm
        obtain ⟨fn,tmps,assign,body,hy,hR⟩:=hY pre ⟨k,by omega⟩ wq HJq.out HL1.out
        dsimp only [encPt] at hy
        rw [HQ.out] at hy
        gi_wp2
        refine hR.mono ?_
        rintro e W3 (⟨rfl,hJ3,hk3⟩ | ⟨rfl,hJx3⟩)
        · have b2r:=hk3.cell2.trans b2q
          have HJ3:=Aside0.mk hJ3
          have HN3:=Aside0.mk (HNq.out.trans hk3)
          clear hJ3 hk3
          gi_wp2
          go_roundw
          case rel => exact ⟨k+1,pre ++ [⟨k,by omega⟩],by omega,by first | (congr 1;omega) | (simp;omega),by rw [partsN_snoc,HP.out,List.range_succ],HJ3.out,HN3.out⟩
          case measure => simp [intOf];omega
        · gi_wp2
          refine bodyPost_ret (results_none rfl _ _ _) rfl ?_
          exact ⟨⟨_,rfl⟩,.inr ⟨_,trivial,hJx3⟩⟩
      · obtain rfl:q=20:=by have:=HQ.out;unfold plen at this;omega
        go_quiet (fail)
        generalize hwq:wr.drewN nq=wq
        have HJq:Aside0 (J pre wq):=⟨hwq ▸ hJ _ _ _ HJ.out⟩
        have HNq:Aside0 (KeepB B1 B2 W wq):=⟨hwq ▸ HN.out⟩
        have b1q:wq.cell? ⟨B1,0,none⟩=some (.slice (some ad) len c):=hwq ▸ b1
        have b2q:wq.cell? ⟨B2,0,none⟩=some (.int .i64 20):=hwq ▸ b2
        clear hwq b1 b2 hm
        obtain ⟨fn,tmps,assign,body,hy,hR⟩:=hY pre ⟨k,by omega⟩ wq HJq.out HL1.out
        dsimp only [encPt] at hy
        rw [HQ.out] at hy
        gi_wp2
        refine hR.mono ?_
        rintro e W3 (⟨rfl,hJ3,hk3⟩ | ⟨rfl,hJx3⟩)
        · have b2r:=hk3.cell2.trans b2q
          have HJ3:=Aside0.mk hJ3
          have HN3:=Aside0.mk (HNq.out.trans hk3)
          clear hJ3 hk3
          gi_wp2
          go_roundw
          case rel => exact ⟨k+1,pre ++ [⟨k,by omega⟩],by omega,by first | (congr 1;omega) | (simp;omega),by rw [partsN_snoc,HP.out,List.range_succ],HJ3.out,HN3.out⟩
          case measure => simp [intOf];omega
        · gi_wp2
          refine bodyPost_ret (results_none rfl _ _ _) rfl ?_
          exact ⟨⟨_,rfl⟩,.inr ⟨_,trivial,hJx3⟩⟩
    · have hlt':¬ ((20*k:Nat):Int)<(len:Int):=by omega
      have HN:=Aside0.mk hnx
      have HJ:=Aside0.mk hJs
      have HP:Aside0 (partsN pre=List.range ((len+19) / 20)):=⟨by rw [hpre];congr 1;omega⟩
      clear hnx hJs hpre
      gi_wp2
      go_end0
      exact ⟨⟨_,rfl⟩,.inl ⟨pre,HP.out,HJ.out⟩⟩
theorem chunkIt_stops (n:Nat) (hn:1≤n) (B1 B2:Nat) (ad:Addr) (len c:Nat) (hlen:len≤1000000) (hc:len≤c) (w:World) (h1:B1<w.heap.size) (h2:B2<w.heap.size) (hB1:w.cell? ⟨B1,0,none⟩=some (.slice (some ad) len c)) (hB2:w.cell? ⟨B2,0,none⟩=some (.int .i64 20)) :
    SeqStopsK Fence.wide n Tryz.prog 90 #[.pointer (some ⟨B1,0,none⟩),.pointer (some ⟨B2,0,none⟩)] (encPt ad len) (KeepB B1 B2) (fun ys => partsN ys=List.range ((len+19) / 20)) (fun _ => True) ((len+19) / 20) w:=by
  intro l J Jx W hb hJ _ hY h0
  exact chunkIt_in n hn l B1 B2 ad len c hlen hc J Jx (fun pre W' q h => hJ pre W' _ none h ⟨rfl,rfl,rfl,Nat.le_refl _,fun _ _ _ => rfl⟩ (fun _ e => by cases e)) hY W ((hb.cell (p:=⟨B1,0,none⟩) h1).trans hB1) ((hb.cell (p:=⟨B2,0,none⟩) h2).trans hB2) h0
end Go.Proofs.YtcgbgifbajdhpaaGreatDoor.PA
namespace Go
section
variable {P:Program} {ops:Array Oper} {Q:Exit→Act→World→Prop} {md:Region.Mode} {S:World→Prop}
def wpAnyG (P:Program) (md:Region.Mode) (ops:Array Oper) (Q:Exit→Act→World→Prop) (S:World→Prop) (n:Nat) (L:Array Bool→Act→World→Prop):Nat→Array Bool→Act→World→Prop
  | 0,listed,a,w => L listed a w
  | f+1,listed,a,w =>
    Region.ready md ops listed ≠ [] ∧ ∀ i ∈ Region.ready md ops listed,i<n∧wpOp P ops Q i (fun a' w' => S w'∧wpAnyG P md ops Q S n L f (listed.setIfInBounds i true) a' w') a w
theorem wpAny_of_G {n g:Nat} {L:Array Bool→Act→World→Prop} (hL:∀ listed a w,L listed a w→wpAny P md ops Q g listed a w) :
    ∀ (f:Nat) (listed:Array Bool) (a:Act) (w:World),wpAnyG P md ops Q S n L f listed a w→wpAny P md ops Q (f+g) listed a w
  | 0,listed,a,w,h => by rw [Nat.zero_add];exact hL _ _ _ h
  | f+1,listed,a,w,h => by
    rw [show f+1+g=(f+g)+1 by omega]
    exact ⟨fun h0 => absurd h0 h.1,fun i hi => wpOp_mono (fun a' w' h' => wpAny_of_G hL f _ a' w' h'.2) (h.2 i hi).2⟩
theorem wpAnyG_first {n i:Nat} {oi:Oper} {v:Value} {L:Array Bool→Act→World→Prop} (hi:ops[i]? = some oi) (hsel:∀ (j:Nat) (o:Oper) cs b,ops[j]? = some o→o.op ≠ .select cs b)
    (hs:Region.sinkB md ops n=true) (hc:Region.chainB md ops n=true) (hn:n<ops.size) (hin:i<n) (hQ:∀ c a w,Q (.panic c) (a.put oi.dst v) w→Q (.panic c) a w)
    (hdone:∀ listed a w,L listed a w→∀ j ∈ Region.ready md ops listed,n≤j) :
    ∀ (f:Nat) (listed:Array Bool) (a:Act) (w:World),HeadInv md ops n listed →
      (∀ j oj,ops[j]? = some oj→j ≠ i→listed.getD j true=false→(∀ e ∈ oj.after,Region.binds md e=true→e.on ≠ i)→oi.apart ops oj=true) →
      i ∈ Region.ready md ops listed→YieldsIf P ops S oi v a→S w →
      wpAnyG P md ops Q S n L f (listed.setIfInBounds i true) (a.put oi.dst v) w→wpAnyG P md ops Q S n L (f+1) listed a w:=by
  intro f
  induction f with
  | zero =>
    intro listed a w inv _ hr hy hS H
    have hun:=(mem_ready.1 hr).1
    refine ⟨fun h => (by rw [h] at hr;cases hr),fun j hj => ?_⟩
    have hjn:j<n:=by
      rcases Nat.lt_or_ge j n with h | h
      · exact h
      · exact absurd hj (tail_waits hs hc hn inv _ i rfl hin hun j h)
    refine ⟨hjn,?_⟩
    by_cases hji:j=i
    · subst hji;exact hy.wpOp hi hS ⟨hS,H⟩
    · have:=hdone _ _ _ H j (ready_mono hj hji)
      omega
  | succ f ih =>
    intro listed a w inv hfree hr hy hS H
    have hun:=(mem_ready.1 hr).1
    refine ⟨fun h => (by rw [h] at hr;cases hr),fun j hj => ?_⟩
    have hjn:j<n:=by
      rcases Nat.lt_or_ge j n with h | h
      · exact h
      · exact absurd hj (tail_waits hs hc hn inv _ i rfl hin hun j h)
    refine ⟨hjn,?_⟩
    by_cases hji:j=i
    · subst hji;exact hy.wpOp hi hS ⟨hS,H⟩
    · have h1:=(H.2 j (ready_mono hj hji)).2
      obtain ⟨hjun,oj,hoj,hall⟩:=mem_ready.1 hj
      have hnot:∀ e ∈ oj.after,Region.binds md e=true→e.on ≠ i:=fun e he hb heq => by
        have h1:=hall e he hb
        rw [heq,getD_both hun] at h1
        cases h1
      have h2:=wpOp_putIf hoj (hfree j oj hoj hji hjun hnot) (fun cs b => hsel i oi cs b hi) (fun cs b => hsel j oj cs b hoj) hQ hy h1
      have hfree':∀ k ok,ops[k]? = some ok→k ≠ i→(listed.setIfInBounds j true).getD k true=false →
          (∀ e ∈ ok.after,Region.binds md e=true→e.on ≠ i)→oi.apart ops ok=true:=fun k ok hk hki hun hno => by
        refine hfree k ok hk hki ?_ hno
        by_cases hjk:j=k
        · subst hjk;exact hjun
        · rw [getD_set_ne true hjk] at hun;exact hun
      refine wpOp_mono (fun a' w' h3 => ⟨h3.2.1,ih (listed.setIfInBounds j true) a' w' (inv.set hj hjn) hfree' (ready_mono hr (Ne.symm hji)) h3.1 h3.2.1 ?_⟩) h2
      rw [Array.setIfInBounds_comm _ _ hji]
      exact h3.2.2
def GEnd (P:Program) (ops:Array Oper) (Q:Exit→Act→World→Prop) (n:Nat) (listed:Array Bool) (a:Act) (w:World):Prop :=
  Region.seqB .any ops (ops.size - n) n listed=true∧wpList P ops Q (ops.toList.drop n) a w
def GHead (P:Program) (ops:Array Oper) (Q:Exit→Act→World→Prop) (S:World→Prop) (n f:Nat) (listed:Array Bool) (a:Act) (w:World):Prop :=
  HeadInv .any ops n listed→wpAnyG P .any ops Q S n (GEnd P ops Q n) f listed a w
theorem GHead.take {n f i:Nat} {oi:Oper} {v:Value} {listed:Array Bool} {a:Act} {w:World} (hi:ops[i]? = some oi)
    (hB:(Region.noSelect ops && decide (n<ops.size) && Region.sinkB .any ops n && Region.chainB .any ops n && decide (i<n) && Region.free .any ops listed i && (Region.ready .any ops listed).contains i)=true)
    (hQ:∀ c a w,Q (.panic c) (a.put oi.dst v) w→Q (.panic c) a w) (hy:YieldsIf P ops S oi v a) (hS:S w)
    (h:GHead P ops Q S n f (listed.setIfInBounds i true) (a.put oi.dst v) w):GHead P ops Q S n (f+1) listed a w:=fun inv => by
  simp only [Bool.and_eq_true,decide_eq_true_eq] at hB
  obtain ⟨⟨⟨⟨⟨⟨hsel,hn⟩,hs⟩,hc⟩,hin⟩,hf⟩,hr⟩:=hB
  have hr':i ∈ Region.ready .any ops listed:=by simpa using hr
  exact wpAnyG_first hi (Region.noSelect_spec hsel) hs hc hn hin hQ (fun listed' a' w' hL => seqB_ready hL.1) f listed a w inv (Region.free_spec hi hf) hr' hy hS (h (inv.set hr' hin))
theorem GHead.take' {n f i d:Nat} {oi:Oper} {v:Value} {listed:Array Bool} {a:Act} {w:World} (hi:ops[i]? = some oi) (hd:oi.dst=some d)
    (hB:(Region.noSelect ops && decide (n<ops.size) && Region.sinkB .any ops n && Region.chainB .any ops n && decide (i<n) && Region.free .any ops listed i && (Region.ready .any ops listed).contains i)=true)
    (hQ:∀ c a w,Q (.panic c) (a.put oi.dst v) w→Q (.panic c) a w) (hy:YieldsIf P ops S oi v a) (hS:S w)
    (h:GHead P ops Q S n f (listed.setIfInBounds i true) { a with tmps:=a.tmps.setIfInBounds d v } w):GHead P ops Q S n (f+1) listed a w :=
  GHead.take hi hB hQ hy hS (by rw [hd];exact h)
theorem GHead.one {n f i:Nat} {oi:Oper} {listed:Array Bool} {a:Act} {w:World} (hi:ops[i]? = some oi)
    (hB:(decide (Region.ready .any ops listed=[i]) && decide (i<n))=true) (hw:Region.wanted oi (yielded ops a.tmps)=true)
    (h:∀ K:Act→World→Prop,(∀ a' w',S w'→GHead P ops Q S n f (listed.setIfInBounds i true) a' w'→K a' w')→Oper.wp P oi a w K Q):GHead P ops Q S n (f+1) listed a w:=fun inv => by
  simp only [Bool.and_eq_true,decide_eq_true_eq] at hB
  obtain ⟨hr,hin⟩:=hB
  refine ⟨fun h0 => (by rw [hr] at h0;cases h0),fun j hj => ?_⟩
  have hji:j=i:=by rw [hr] at hj;simpa using hj
  subst hji
  refine ⟨hin,?_⟩
  refine wpOp_step hi fun K hK => ?_
  rw [if_pos hw]
  exact h K fun a' w' hS' hG => hK a' w' ⟨hS',hG (inv.set hj hin)⟩
theorem GHead.nil {n:Nat} {listed:Array Bool} {a:Act} {w:World} (hB:Region.seqB .any ops (ops.size - n) n listed=true) (h:wpList P ops Q (ops.toList.drop n) a w):GHead P ops Q S n 0 listed a w:=fun _ => ⟨hB,h⟩
theorem GHead.last {n:Nat} {oi:Oper} {listed:Array Bool} {a:Act} {w:World} (hi:ops[n]? = some oi) (hB:(Region.seqB .any ops (ops.size - n) n listed && decide (ops.size=n+1))=true) (hw:Region.wanted oi (yielded ops a.tmps)=true)
    (h:∀ K:Act→World→Prop,(∀ a' w',Q .normal a' w'→K a' w')→Oper.wp P oi a w K Q):GHead P ops Q S n 0 listed a w:=by
  simp only [Bool.and_eq_true,decide_eq_true_eq] at hB
  refine GHead.nil hB.1 ?_
  have hl:ops.toList.drop n=[oi]:=by
    obtain ⟨hlt,he⟩:=Array.getElem?_eq_some_iff.1 hi
    rw [List.drop_eq_getElem_cons (by simpa using hlt),List.drop_eq_nil_of_le (by simp [hB.2])]
    simp [he]
  rw [hl]
  simp only [wpList,if_pos hw]
  exact .inl (h _ (fun _ _ h => h))
theorem GHead.start {n:Nat} {a:Act} {w:World} (hn:n≤ops.size) (h:GHead P ops Q S n n (Array.replicate ops.size false) a w):wpAny P .any ops Q ops.size (Array.replicate ops.size false) a w:=by
  have inv0:HeadInv .any ops n (Array.replicate ops.size false) :=
    ⟨by simp,fun j oj _ hl => (by rw [getD_replicate_false] at hl;cases hl),fun t _ ht => getD_in (by simpa using ht) (getD_replicate_false _ _)⟩
  have H:=wpAny_of_G (Q:=Q) (g:=ops.size - n) (fun listed a' w' (hL:GEnd P ops Q n listed a' w') => by
    have hlen:(ops.toList.drop n).length=ops.size - n:=by simp
    have:=wpAny_of_seq (md:=.any) (Q':=Q) (ops.toList.drop n) n listed a' w' (fun j => by simp [List.getElem?_drop]) (by rw [hlen];exact hL.1) hL.2
    rwa [hlen] at this) n _ a w (h inv0)
  rwa [Nat.add_sub_cancel' hn] at H
end
section
variable {P:Program} {ops:Array Oper} {Q:Exit→Act→World→Prop} {md:Region.Mode}
theorem wpOpIn_of_wide (l n:Nat) (hnl:¬ LetsOut Q) (hnd:∀ (j:Nat) (o:Oper) c,ops[j]? = some o→o.op ≠ .defer c) {i:Nat} {K K':Act→World→Prop} {a:Act} {w:World} (hK:∀ a w,K a w→K' a w) (h:wpOp P ops Q i K a w):wpOpIn (Fence.wide.inRound l) n P ops Q i K' a w:=by
  unfold wpOp at h
  unfold wpOpIn
  split
  · rename_i ho;simp only [ho] at h;exact hK _ _ h
  · rename_i o ho
    simp only [ho] at h
    split
    · rename_i hw
      simp only [hw,if_true] at h
      rcases h with h | ⟨_,h⟩
      · refine ⟨fun _ _ => trivial,?_⟩
        rw [Oper.semAt_eq _ _ _ (fun c => hnd i o c ho)]
        unfold Oper.wp at h
        generalize (execOp a.eval o).run P w=r at *
        cases r with
        | ok x w' =>
          cases x <;> simp only [Oper.upon] at h <;> simp only [Oper.uponIn]
          case value v => exact hK _ _ h
          case skip => exact hK _ _ h
          case defer d => exact hK _ _ h
          case enter f args =>
            refine ⟨fun hd => by simp [Fence.wide] at hd,(CallsIn.inRound l (callsIn_wide.2 h)).mono fun e w'' he => ?_⟩
            cases e with
            | returned u => exact hK _ _ he
            | panicked c => exact he
            | outgrown => exact he
          case row row args =>
            refine ⟨fun hd => by simp [Fence.wide] at hd,?_⟩
            intro c cs _
            obtain ⟨v,w'',hR,hs⟩:=h c cs
            exact ⟨v,w'',hK _ _ hR,stepsIn_wide.2 hs⟩
        | halt x w' => cases x <;> simp only [Oper.upon] at h <;> simp only [Oper.uponIn] <;> exact h
      · exact absurd h hnl
    · rename_i hw
      simp only [hw] at h
      exact ⟨fun _ _ => trivial,hK _ _ h⟩
theorem wpAnyIn_of_wide (l n:Nat) (hnl:¬ LetsOut Q) (hnd:∀ (j:Nat) (o:Oper) c,ops[j]? = some o→o.op ≠ .defer c):∀ (fuel:Nat) (listed:Array Bool) (a:Act) (w:World),
    wpAny P md ops Q fuel listed a w→wpAnyIn (Fence.wide.inRound l) n P md ops Q fuel listed a w
  | 0,_,_,_,h => h
  | fuel+1,_,_,_,h => ⟨h.1,fun i hi => wpOpIn_of_wide l n hnl hnd (fun a' w' h' => wpAnyIn_of_wide l n hnl hnd fuel _ a' w' h') (h.2 i hi)⟩
def noDefer (ops:Array Oper):Bool:=ops.all fun o => match o.op with | .defer _ => false | _ => true
theorem noDefer_spec (h:noDefer ops=true) (j:Nat) (o:Oper) (c:Call) (ho:ops[j]? = some o):o.op ≠ .defer c:=by
  intro hc
  have:=Array.all_eq_true'.1 h o (Array.mem_of_getElem? ho)
  rw [hc] at this
  cases this
theorem wpIn_region_wide {id:Nat} (l n:Nat) {a:Act} {w:World} (hnl:¬ LetsOut Q) (hm:P.follows .mixedOrders=true) (hd:noDefer ops=true)
    (h:wpAny P .any ops Q ops.size (Array.replicate ops.size false) a w.drew):(Code.region id ops true).wpIn (Fence.wide.inRound l) n P Q a w :=
  wpIn_region_any hm (wpAnyIn_of_wide l n hnl (noDefer_spec hd) _ _ _ _ h)
theorem wpIn_region_wide0 {id:Nat} (l n:Nat) {a:Act} {w:World} (hm:P.follows .mixedOrders=true) (hd:noDefer ops=true)
    (h:wpAny P .any ops (fun e a w => e = .normal∧Q .normal a w) ops.size (Array.replicate ops.size false) a w.drew):(Code.region id ops true).wpIn (Fence.wide.inRound l) n P Q a w :=
  wpIn_mono (Q:=fun e a w => e = .normal∧Q .normal a w) (wpIn_region_wide l n (fun hl => by obtain ⟨_,_,h,_⟩:=hl;cases h) hm hd h) (fun e a w he => by obtain ⟨h1,h2⟩:=he;subst h1;exact h2)
end
end Go
namespace Go.Proofs.YtcgbgifbajdhpaaGreatDoor.PA
open Go.RowKit Go.Proofs.YtcgbgifbajdhpaaGreatDoor.G Go.Proofs.YtcgbgifbajdhpaaGreatDoorW.PrintWords Go.Proofs.YtcgbgifbajdhpaaGreatDoorW.PrintLast Go.Proofs.YtcgbgifbajdhpaaGreatDoorW.PrintMore
def rd_LB (xs:List (List Int)) (i:Int):List Int:=xs.getD i.toNat []
theorem at_LB {w:World} {A:Option Addr} {n:Nat} {xs:List (List Int)} (h:Kd.C (Kd.slice 5 (Kd.int .u8)) w A n xs) (i:Int) (h0:0≤i) (h1:i<n):∃ ad A0 c0,A=some ad∧w.cell? (ad.add i.toNat)=some (.slice A0 (rd_LB xs i).length c0)∧(rd_LB xs i).length≤c0∧(Kd.int .u8).C w A0 (rd_LB xs i).length (rd_LB xs i):=by
  obtain ⟨ad,c,e,_,hK,hc0⟩:=Kd.C_get h ([]:List Int) i h0 h1
  have hc:∀ j u,c[j]? = some u→w.cell? (ad.add (i.toNat*1+j))=some u:=hc0
  obtain ⟨A0,c0,rfl,l0,g0⟩:=hK
  exact ⟨ad,A0,c0,e,by have hq:=hc 0 _ rfl;rwa [Nat.mul_one,Nat.add_zero] at hq,l0,g0⟩
theorem growB.calls (n:Int) (w:World) (h0:0≤n) (h1:n≤1000000000) :
    Calls Tryz.prog 94 #[.slice none 0 0,.int .i64 n] w fun e w' => ∃ v:Value,e = .returned v∧Kd.R (Kd.int .u8) 5 w' w.heap.size (fun _ => True) v [] ∧ Below w.heap.size w w':=by
  have hneg:decide (n<0)=false:=decide_eq_false (by omega)
  have hw:IntKind.i64.wrap n=n:=by rw [IntKind.wrap_i64];omega
  have HB0:Aside0 (Below w.heap.size w w):=⟨Below.refl _ _⟩
  obtain ⟨i05,hi05,_,hsz5,_⟩:=info_parts infoU8
  have hcut0:=cut_to (P:=Tryz.prog) 24 5 .i64 Tryz.underlying24 hi05 none 0 0 0 (by omega) (by omega) (by omega)
  have HN0:Aside0 (0≤n∧n≤1000000000):=⟨h0,h1⟩
  clear h0 h1
  go_enter Tryz.func94,Tryz.ntmps94
  by_cases hp:0<n
  · have hd:decide (0<n)=true:=decide_eq_true hp
    have HP:=Aside0.mk hp
    clear hp
    go_wp2_with (first | ((with_reducible refine gate_dst (N:=22) rfl ?_);go_must (refine Kd.R_append_zeros (Kd.int .u8) (w0:=w) w.heap.size rfl (.tmp 20) (.tmp 21) 24 3 5 (.int .u8 0) 1 rfl Tryz.underlying24 Tryz.underlying3 infoU8 rfl (by decide) (by omega) (.slice none 0 0) [] 0 n (fun _ => True) rfl rfl rfl (fun _ _ => trivial) (Kd.R_nil _ _ _ _ _) HN0.out.1 (Below.refl _ _) (Nat.le_refl _) ?h6 ?_);(case h6 => (have:=HN0.out;simp only [List.length_nil];omega));intro v4 w4 hR4 hB4 hg4 ho4;obtain ⟨g4,c4,rfl,hb4,hl4,_⟩:=Kd.R_form hR4 (by have:=HP.out;simp only [List.nil_append,List.length_replicate];omega);have hcc:=(Kd.R_reads' hR4).2.1;have hcut4:=cut_to (P:=Tryz.prog) 24 5 .i64 Tryz.underlying24 hi05 (some ⟨g4,0,none⟩) _ c4 0 (by omega) (by omega) hcc;have HR4:=Aside0.mk (Kd.R_take hR4 (Nat.zero_le _));have HB4:=Aside0.mk hB4;clear hR4 hB4 hg4 ho4))
    go_ret
    exact ⟨_,rfl,HR4.out,HB4.out⟩
  · obtain rfl:n=0:=by have:=HN0.out;omega
    go_wp2
    go_ret
    exact ⟨_,rfl,Kd.R_nil _ _ _ _ _,Below.refl _ _⟩
theorem flatB_step (Ls:List (List Int)) (k:Nat) (hk:k<Ls.length):(Ls.take (k+1)).flatten=(Ls.take k).flatten++rd_LB Ls (k:Int):=by
  have e:rd_LB Ls (k:Int)=Ls[k]:=by simp [rd_LB,List.getD_eq_getElem?_getD,List.getElem?_eq_getElem hk]
  rw [List.take_succ_eq_append_getElem hk,List.flatten_append,e]
  simp
theorem flatB_le (Ls:List (List Int)) (k:Nat):(Ls.take k).flatten.length≤Ls.flatten.length:=by
  have:Ls.flatten.length=(Ls.take k).flatten.length+(Ls.drop k).flatten.length:=by rw [← List.length_append,← List.flatten_append,List.take_append_drop]
  omega
theorem concatB.calls (A0:Option Addr) (c0 n:Nat) (Ls:List (List Int)) (w:World) (hn:Ls.length=n) (hr0:Kd.C (Kd.slice 5 (Kd.int .u8)) w A0 n Ls) (hlen:n≤1000000) (hflat:Ls.flatten.length≤1000000000) :
    Calls Tryz.prog 62 #[.slice A0 n c0] w fun e w' => ∃ v:Value,e = .returned v∧Kd.R (Kd.int .u8) 5 w' w.heap.size (fun _ => True) v Ls.flatten∧Below w.heap.size w w':=by
  subst hn
  have HR:=Aside0.mk hr0
  have HL:=Aside0.mk hflat
  clear hr0 hflat
  go_enter Tryz.func62,Tryz.ntmps62
  go_wp2
  go_loopw [3,11] (fun s i wr => ∃ k:Nat,k≤Ls.length∧i = .int .i64 k∧s = .int .i64 (((Ls.take k).flatten.length:Nat):Int)∧Aside0 (Below w.heap.size w wr)) (fun _ i _ => Ls.length - (intOf i).toNat)
  case atStart => exact ⟨0,Nat.zero_le _,rfl,rfl,⟨Below.refl _ _⟩⟩
  case round =>
    obtain ⟨k,hk,rfl,rfl,HB⟩:=hrel
    by_cases hlt:k<Ls.length
    · obtain ⟨ad,A1,c1,rfl,h0,_,_⟩:=at_LB (Kd.C_below HR.out HB.out) (k:Int) (by omega) (by omega)
      rw [Int.toNat_natCast] at h0
      have hst:=flatB_step Ls k hlt
      have hle1:=flatB_le Ls (k+1)
      have hlL:=HL.out
      have HST:Aside0 ((((Ls.take (k+1)).flatten.length:Nat):Int)=((Ls.take k).flatten.length:Int)+((rd_LB Ls (k:Int)).length:Int)):=⟨by rw [hst,List.length_append];omega⟩
      have hneg:decide (((Ls.take k).flatten.length:Int)+((rd_LB Ls (k:Int)).length:Int)<0)=false:=decide_eq_false (by omega)
      have hw:IntKind.i64.wrap (((Ls.take k).flatten.length:Int)+((rd_LB Ls (k:Int)).length:Int))=((Ls.take k).flatten.length:Int)+((rd_LB Ls (k:Int)).length:Int):=by rw [IntKind.wrap_i64];have:=HST.out;omega
      clear hst hle1 hlL
      generalize rd_LB Ls (k:Int)=y at h0 HST hneg hw
      generalize (Ls.take k).flatten.length=m at HST hneg hw
      go_wp2
      go_roundw
      case rel => exact ⟨k+1,by omega,by go_num,by rw [HST.out],HB⟩
      case measure => simp [intOf];omega
    · obtain rfl:k=Ls.length:=by omega
      rw [List.take_length]
      have HL0:Aside0 ((0:Int)≤(Ls.flatten.length:Int)∧(Ls.flatten.length:Int)≤1000000000):=⟨by have:=HL.out;omega⟩
      generalize Ls.flatten.length=N at HL0 ⊢
      go_wp2_with (first | (go_at_call 94;(with_reducible refine (growB.calls (N:Int) _ HL0.out.1 HL0.out.2).mono ?_);rintro e w2 ⟨v2,rfl,hr2,hb2⟩;have HR2:=Aside0.mk (Kd.R_lower hr2 HB.out.size);have HB2:=Aside0.mk (below_step HB.out hb2);clear hr2 hb2))
      go_loopw [6,27] (fun v i wq => ∃ k:Nat,k≤Ls.length∧i = .int .i64 k∧Aside0 (Kd.R (Kd.int .u8) 5 wq w.heap.size (fun _ => True) v (Ls.take k).flatten)∧Aside0 (Below w.heap.size w wq)) (fun _ i _ => Ls.length - (intOf i).toNat)
      case atStart => exact ⟨0,Nat.zero_le _,rfl,HR2,HB2⟩
      case round =>
        clear HR2 HB2 HB
        obtain ⟨k,hk,rfl,HO,HB⟩:=hrel
        by_cases hlt:k<Ls.length
        · obtain ⟨ad,A1,c1,rfl,h0,_,hC⟩:=at_LB HR.out (k:Int) (by omega) (by omega)
          rw [Int.toNat_natCast] at h0
          have h0':=pw_cell_below HB.out h0
          have HF:=Aside0.mk (Kd.C_below hC HB.out)
          have HST:=Aside0.mk (flatB_step Ls k hlt)
          have HLE:=Aside0.mk (flatB_le Ls (k+1))
          clear h0 hC
          generalize rd_LB Ls (k:Int)=y at h0' HST HF
          go_wp2_with (first | ((with_reducible refine gate_dst (N:=33) rfl ?_);go_must (refine Kd.R_append_row (Value.int .u8) 0 (h1:=fun _ => rfl) (w0:=w) w.heap.size rfl (.tmp 31) (.tmp 32) 24 5 (.int .u8 0) 1 rfl Tryz.underlying24 infoU8 rfl (by decide) _ (Ls.take k).flatten y A1 y.length c1 (fun _ => True) rfl rfl (fun _ _ => trivial) HO.out HF.out HB.out HB.out.size ?h6 ?_);(case h6 => (have h1:=HST.out;have h2:=HLE.out;have h3:=HL.out;rw [h1,List.length_append] at h2;omega));intro v4 w4 hR4 hB4 hg4 ho4;have HR4:=Aside0.mk hR4;have HB4:=Aside0.mk hB4;clear hR4 hB4 hg4 ho4))
          go_roundw
          case rel => exact ⟨k+1,by omega,by go_num,⟨by rw [HST.out];exact HR4.out⟩,HB4⟩
          case measure => simp [intOf];omega
        · obtain rfl:k=Ls.length:=by omega
          go_wp2
          go_ret
          exact ⟨_,rfl,by have:=HO.out;rwa [List.take_length] at this,HB.out⟩
theorem four_C (W:World) (g:Nat) (A1 A2 A3 A4:Option Addr) (c1 c2 c3 c4:Nat) (l1 l2 l3 l4:List Int) (t:Nat) (fr:Nat × Nat) (hb:W.heap[g]? = some (.cells #[.slice A1 l1.length c1,.slice A2 l2.length c2,.slice A3 l3.length c3,.slice A4 l4.length c4] t fr))
    (h1:Kd.C (Kd.int .u8) W A1 l1.length l1) (k1:l1.length≤c1) (h2:Kd.C (Kd.int .u8) W A2 l2.length l2) (k2:l2.length≤c2) (h3:Kd.C (Kd.int .u8) W A3 l3.length l3) (k3:l3.length≤c3) (h4:Kd.C (Kd.int .u8) W A4 l4.length l4) (k4:l4.length≤c4) :
    Kd.C (Kd.slice 5 (Kd.int .u8)) W (some ⟨g,0,none⟩) 4 [l1,l2,l3,l4]:=by
  have key:∀ (j:Nat) (u:Value),#[Value.slice A1 l1.length c1,.slice A2 l2.length c2,.slice A3 l3.length c3,.slice A4 l4.length c4][j]? = some u→W.cell? (Addr.add ⟨g,0,none⟩ j)=some u:=fun j u hu => by
    rw [add_plain]
    exact (cell_of_row W g j _ t fr hb).trans hu
  have one:∀ (j:Nat) (u:Value),#[Value.slice A1 l1.length c1,.slice A2 l2.length c2,.slice A3 l3.length c3,.slice A4 l4.length c4][j]? = some u→∀ i v,[u][i]? = some v→W.cell? (Addr.add ⟨g,0,none⟩ (j*1+i))=some v:=fun j u hu i v hv => by
    match i,hv with
    | 0,hv =>
      injection hv with hv
      subst hv
      rw [Nat.mul_one,Nat.add_zero]
      exact key j u hu
    | n+1,hv => simp at hv
  refine ⟨rfl,by decide,fun _ => ⟨_,rfl,fun j p hj => ?_⟩⟩
  match j,hj with
  | 0,hj => injection hj with hj;subst hj;exact ⟨_,rfl,⟨A1,c1,rfl,k1,h1⟩,one 0 _ rfl⟩
  | 1,hj => injection hj with hj;subst hj;exact ⟨_,rfl,⟨A2,c2,rfl,k2,h2⟩,one 1 _ rfl⟩
  | 2,hj => injection hj with hj;subst hj;exact ⟨_,rfl,⟨A3,c3,rfl,k3,h3⟩,one 2 _ rfl⟩
  | 3,hj => injection hj with hj;subst hj;exact ⟨_,rfl,⟨A4,c4,rfl,k4,h4⟩,one 3 _ rfl⟩
  | n+4,hj => simp at hj
end Go.Proofs.YtcgbgifbajdhpaaGreatDoor.PA
namespace Go.Proofs.YtcgbgifbajdhpaaGreatDoor.PA
open Go.RowKit Go.Proofs.YtcgbgifbajdhpaaGreatDoorW.PrintWords Go.Proofs.YtcgbgifbajdhpaaGreatDoorW.PrintLast Go.Proofs.YtcgbgifbajdhpaaGreatDoorW.PrintMore
attribute [local go_sem] max2_int min2_int max_two min_two max_three min_three max_four min_four   -- for this text's walks alone
def dryrotref07_Name.l0:Nat→ByteArray→Int→Option (Bool)
  | 0,_,_ => none
  | k+1,x0,x3 => if x3<(x0.size:Int) then (if 0≤x3 then (if (bt x0 x3) ≥ 97 then (if (bt x0 x3)≤122 then (dryrotref07_Name.l0 k x0 (wrap64 (x3+1))) else (if (bt x0 x3) ≥ 65 then (if (bt x0 x3)≤90 then (dryrotref07_Name.l0 k x0 (wrap64 (x3+1))) else (if ((bt x0 x3)=95) then (dryrotref07_Name.l0 k x0 (wrap64 (x3+1))) else (if x3=0 then (some false) else (if (bt x0 x3)<48 then (some false) else (if (bt x0 x3) > 57 then (some false) else (dryrotref07_Name.l0 k x0 (wrap64 (x3+1)))))))) else (if ((bt x0 x3)=95) then (dryrotref07_Name.l0 k x0 (wrap64 (x3+1))) else (if x3=0 then (some false) else (if (bt x0 x3)<48 then (some false) else (if (bt x0 x3) > 57 then (some false) else (dryrotref07_Name.l0 k x0 (wrap64 (x3+1))))))))) else (if (bt x0 x3) ≥ 65 then (if (bt x0 x3)≤90 then (dryrotref07_Name.l0 k x0 (wrap64 (x3+1))) else (if ((bt x0 x3)=95) then (dryrotref07_Name.l0 k x0 (wrap64 (x3+1))) else (if x3=0 then (some false) else (if (bt x0 x3)<48 then (some false) else (if (bt x0 x3) > 57 then (some false) else (dryrotref07_Name.l0 k x0 (wrap64 (x3+1)))))))) else (if ((bt x0 x3)=95) then (dryrotref07_Name.l0 k x0 (wrap64 (x3+1))) else (if x3=0 then (some false) else (if (bt x0 x3)<48 then (some false) else (if (bt x0 x3) > 57 then (some false) else (dryrotref07_Name.l0 k x0 (wrap64 (x3+1))))))))) else (none)) else (if (x0.size:Int) ≥ 1 then (some (decide ((x0.size:Int)≤24))) else (some false))
def dryrotref07_Name.f (k:Nat) (a0:ByteArray):Option (Bool):=dryrotref07_Name.l0 k a0 0
theorem dryrotref07_Name.mono_l:∀ k,(∀ y0 y1,LeO (dryrotref07_Name.l0 k y0 y1) (dryrotref07_Name.l0 (k+1) y0 y1))
  | 0 => fun _ _ r h => by simp [dryrotref07_Name.l0] at h
  | k + 1 => by
    have ih0:=dryrotref07_Name.mono_l k
    · intro y0 y1
      unfold dryrotref07_Name.l0
      repeat' first
      | (with_reducible exact ih0 _ _)
      | (with_reducible exact LeO.refl _)
      | (with_reducible exact LeO.none _)
      | (with_reducible refine LeO.ite ?_ ?_)
      | (with_reducible refine LeO.bind ?_ (fun _ => ?_))
      | exact ih0 _ _
      | exact LeO.none _
      | refine LeO.ite ?_ ?_
      | refine LeO.bind ?_ (fun _ => ?_)
theorem dryrotref07_Name.mono:∀ a0 k,LeO (dryrotref07_Name.f k a0) (dryrotref07_Name.f (k+1) a0):=by
  intro a0 k
  have ih0:=dryrotref07_Name.mono_l k
  unfold dryrotref07_Name.f
  repeat' first
      | (with_reducible exact ih0 _ _)
      | (with_reducible exact LeO.refl _)
      | (with_reducible exact LeO.none _)
      | (with_reducible refine LeO.ite ?_ ?_)
      | (with_reducible refine LeO.bind ?_ (fun _ => ?_))
      | exact ih0 _ _
      | exact LeO.none _
      | refine LeO.ite ?_ ?_
      | refine LeO.bind ?_ (fun _ => ?_)
theorem dryrotref07_Name.calls (k:Nat) (a0:ByteArray) (r:Bool) (w:World) (h:dryrotref07_Name.f k a0=some r) :
    Calls Tryz.prog 99 #[.string a0] w fun e w' => e = .returned (.bool r)∧Drawn0 w w':=by
  have H:(dryrotref07_Name.l0 k a0 0)=some r:=h
  clear h
  have H':=Aside0.mk H
  clear H
  go_enter Tryz.func99,Tryz.ntmps99
  go_wp2
  go_loopg [3] k (fun kq v3 w' => ∃ (x3_1:Int),v3 = .int .i64 x3_1∧Aside0 (dryrotref07_Name.l0 kq a0 x3_1=some r)∧Aside0 (kq≤k)∧Drawn0 w w')
  case atStart => exact ⟨(0),(by first | rfl | (simp;done) | (simp [*];done)),H',⟨Nat.le_refl _⟩,by repeat (first | exact Drawn0.refl _ | apply Drawn0.step)⟩
  case round =>
    clear H'
    obtain ⟨x3_1,rfl,HA,HK1,⟨m1,rfl⟩⟩:=hrel
    cases gk with
    | zero => exact absurd HA.out (by simp [dryrotref07_Name.l0])
    | succ k1 =>
      have H:=HA.out
      clear HA
      simp only [dryrotref07_Name.l0] at H
      by_cases c2:x3_1<(a0.size:Int)
      · rw [if_pos c2] at H
        have c2b0:decide (x3_1<(a0.size:Int))=true:=decide_eq_true c2
        clear c2
        by_cases c3:0≤x3_1
        · rw [if_pos c3] at H
          have c3b0:decide (0≤x3_1)=true:=decide_eq_true c3
          clear c3
          by_cases c5:(bt a0 x3_1) ≥ 97
          · rw [if_pos c5] at H
            have c5b0:decide (97≤(bt a0 x3_1))=true:=decide_eq_true c5
            clear c5
            by_cases c6:(bt a0 x3_1)≤122
            · rw [if_pos c6] at H
              have c6b0:decide ((bt a0 x3_1)≤122)=true:=decide_eq_true c6
              clear c6
              have H':=Aside0.mk H
              clear H
              have p4:0≤(x3_1:Int):=of_decide_eq_true (by first | (with_reducible assumption) | assumption)
              have q4:x3_1<(a0.size:Int):=of_decide_eq_true (by first | (with_reducible assumption) | assumption)
              have hx4:=bt_at a0 x3_1
              replace p4:=eq_true p4
              replace q4:=eq_true q4
              go_wp2
              go_roundg k1
              case measure => have:=HK1.out;omega
              case rel => exact ⟨(wrap64 (x3_1+1)),(by first | rfl | (simp;done) | (simp [*];done)),H',⟨by have:=HK1.out;omega⟩,by repeat (first | exact Drawn0.refl _ | apply Drawn0.step)⟩
            · rw [if_neg c6] at H
              have c6b0:decide ((bt a0 x3_1)≤122)=false:=decide_eq_false c6
              clear c6
              by_cases c7:(bt a0 x3_1) ≥ 65
              · rw [if_pos c7] at H
                have c7b0:decide (65≤(bt a0 x3_1))=true:=decide_eq_true c7
                clear c7
                by_cases c8:(bt a0 x3_1)≤90
                · rw [if_pos c8] at H
                  have c8b0:decide ((bt a0 x3_1)≤90)=true:=decide_eq_true c8
                  clear c8
                  have H':=Aside0.mk H
                  clear H
                  have p4:0≤(x3_1:Int):=of_decide_eq_true (by first | (with_reducible assumption) | assumption)
                  have q4:x3_1<(a0.size:Int):=of_decide_eq_true (by first | (with_reducible assumption) | assumption)
                  have hx4:=bt_at a0 x3_1
                  replace p4:=eq_true p4
                  replace q4:=eq_true q4
                  go_wp2
                  go_roundg k1
                  case measure => have:=HK1.out;omega
                  case rel => exact ⟨(wrap64 (x3_1+1)),(by first | rfl | (simp;done) | (simp [*];done)),H',⟨by have:=HK1.out;omega⟩,by repeat (first | exact Drawn0.refl _ | apply Drawn0.step)⟩
                · rw [if_neg c8] at H
                  have c8b0:decide ((bt a0 x3_1)≤90)=false:=decide_eq_false c8
                  clear c8
                  by_cases c9:((bt a0 x3_1)=95)
                  · rw [if_pos c9] at H
                    have c9b0:((bt a0 x3_1) == 95)=true:=beq_iff_eq.mpr c9
                    have c9b1:((bt a0 x3_1) != 95)=false:=bne_eq_false_iff_eq.mpr c9
                    clear c9
                    have H':=Aside0.mk H
                    clear H
                    have p4:0≤(x3_1:Int):=of_decide_eq_true (by first | (with_reducible assumption) | assumption)
                    have q4:x3_1<(a0.size:Int):=of_decide_eq_true (by first | (with_reducible assumption) | assumption)
                    have hx4:=bt_at a0 x3_1
                    replace p4:=eq_true p4
                    replace q4:=eq_true q4
                    go_wp2
                    go_roundg k1
                    case measure => have:=HK1.out;omega
                    case rel => exact ⟨(wrap64 (x3_1+1)),(by first | rfl | (simp;done) | (simp [*];done)),H',⟨by have:=HK1.out;omega⟩,by repeat (first | exact Drawn0.refl _ | apply Drawn0.step)⟩
                  · rw [if_neg c9] at H
                    have c9b0:((bt a0 x3_1) == 95)=false:=beq_eq_false_iff_ne.mpr c9
                    have c9b1:((bt a0 x3_1) != 95)=true:=bne_iff_ne.mpr c9
                    by_cases c10:x3_1=0
                    · rw [if_pos c10] at H
                      have c10b0:(x3_1 == 0)=true:=beq_iff_eq.mpr c10
                      have c10b1:(x3_1 != 0)=false:=bne_eq_false_iff_eq.mpr c10
                      clear c10
                      obtain rfl:=Option.some.inj H
                      have p4:0≤(x3_1:Int):=of_decide_eq_true (by first | (with_reducible assumption) | assumption)
                      have q4:x3_1<(a0.size:Int):=of_decide_eq_true (by first | (with_reducible assumption) | assumption)
                      have hx4:=bt_at a0 x3_1
                      replace p4:=eq_true p4
                      replace q4:=eq_true q4
                      go_wp2
                      go_ret
                      exact ⟨by first | rfl | (simp;done) | (simp [*];done) | (simp;decide +kernel),by repeat (first | exact Drawn0.refl _ | apply Drawn0.step)⟩
                    · rw [if_neg c10] at H
                      have c10b0:(x3_1 == 0)=false:=beq_eq_false_iff_ne.mpr c10
                      have c10b1:(x3_1 != 0)=true:=bne_iff_ne.mpr c10
                      by_cases c11:(bt a0 x3_1)<48
                      · rw [if_pos c11] at H
                        have c11b0:decide ((bt a0 x3_1)<48)=true:=decide_eq_true c11
                        clear c11
                        obtain rfl:=Option.some.inj H
                        have p4:0≤(x3_1:Int):=of_decide_eq_true (by first | (with_reducible assumption) | assumption)
                        have q4:x3_1<(a0.size:Int):=of_decide_eq_true (by first | (with_reducible assumption) | assumption)
                        have hx4:=bt_at a0 x3_1
                        replace p4:=eq_true p4
                        replace q4:=eq_true q4
                        go_wp2
                        go_ret
                        exact ⟨by first | rfl | (simp;done) | (simp [*];done) | (simp;decide +kernel),by repeat (first | exact Drawn0.refl _ | apply Drawn0.step)⟩
                      · rw [if_neg c11] at H
                        have c11b0:decide ((bt a0 x3_1)<48)=false:=decide_eq_false c11
                        clear c11
                        by_cases c12:(bt a0 x3_1) > 57
                        · rw [if_pos c12] at H
                          have c12b0:decide (57<(bt a0 x3_1))=true:=decide_eq_true c12
                          clear c12
                          obtain rfl:=Option.some.inj H
                          have p4:0≤(x3_1:Int):=of_decide_eq_true (by first | (with_reducible assumption) | assumption)
                          have q4:x3_1<(a0.size:Int):=of_decide_eq_true (by first | (with_reducible assumption) | assumption)
                          have hx4:=bt_at a0 x3_1
                          replace p4:=eq_true p4
                          replace q4:=eq_true q4
                          go_wp2
                          go_ret
                          exact ⟨by first | rfl | (simp;done) | (simp [*];done) | (simp;decide +kernel),by repeat (first | exact Drawn0.refl _ | apply Drawn0.step)⟩
                        · rw [if_neg c12] at H
                          have c12b0:decide (57<(bt a0 x3_1))=false:=decide_eq_false c12
                          clear c12
                          have H':=Aside0.mk H
                          clear H
                          have p4:0≤(x3_1:Int):=of_decide_eq_true (by first | (with_reducible assumption) | assumption)
                          have q4:x3_1<(a0.size:Int):=of_decide_eq_true (by first | (with_reducible assumption) | assumption)
                          have hx4:=bt_at a0 x3_1
                          replace p4:=eq_true p4
                          replace q4:=eq_true q4
                          go_wp2
                          go_roundg k1
                          case measure => have:=HK1.out;omega
                          case rel => exact ⟨(wrap64 (x3_1+1)),(by first | rfl | (simp;done) | (simp [*];done)),H',⟨by have:=HK1.out;omega⟩,by repeat (first | exact Drawn0.refl _ | apply Drawn0.step)⟩
              · rw [if_neg c7] at H
                have c7b0:decide (65≤(bt a0 x3_1))=false:=decide_eq_false c7
                clear c7
                by_cases c13:((bt a0 x3_1)=95)
                · rw [if_pos c13] at H
                  have c13b0:((bt a0 x3_1) == 95)=true:=beq_iff_eq.mpr c13
                  have c13b1:((bt a0 x3_1) != 95)=false:=bne_eq_false_iff_eq.mpr c13
                  clear c13
                  have H':=Aside0.mk H
                  clear H
                  have p4:0≤(x3_1:Int):=of_decide_eq_true (by first | (with_reducible assumption) | assumption)
                  have q4:x3_1<(a0.size:Int):=of_decide_eq_true (by first | (with_reducible assumption) | assumption)
                  have hx4:=bt_at a0 x3_1
                  replace p4:=eq_true p4
                  replace q4:=eq_true q4
                  go_wp2
                  go_roundg k1
                  case measure => have:=HK1.out;omega
                  case rel => exact ⟨(wrap64 (x3_1+1)),(by first | rfl | (simp;done) | (simp [*];done)),H',⟨by have:=HK1.out;omega⟩,by repeat (first | exact Drawn0.refl _ | apply Drawn0.step)⟩
                · rw [if_neg c13] at H
                  have c13b0:((bt a0 x3_1) == 95)=false:=beq_eq_false_iff_ne.mpr c13
                  have c13b1:((bt a0 x3_1) != 95)=true:=bne_iff_ne.mpr c13
                  by_cases c14:x3_1=0
                  · rw [if_pos c14] at H
                    have c14b0:(x3_1 == 0)=true:=beq_iff_eq.mpr c14
                    have c14b1:(x3_1 != 0)=false:=bne_eq_false_iff_eq.mpr c14
                    clear c14
                    obtain rfl:=Option.some.inj H
                    have p4:0≤(x3_1:Int):=of_decide_eq_true (by first | (with_reducible assumption) | assumption)
                    have q4:x3_1<(a0.size:Int):=of_decide_eq_true (by first | (with_reducible assumption) | assumption)
                    have hx4:=bt_at a0 x3_1
                    replace p4:=eq_true p4
                    replace q4:=eq_true q4
                    go_wp2
                    go_ret
                    exact ⟨by first | rfl | (simp;done) | (simp [*];done) | (simp;decide +kernel),by repeat (first | exact Drawn0.refl _ | apply Drawn0.step)⟩
                  · rw [if_neg c14] at H
                    have c14b0:(x3_1 == 0)=false:=beq_eq_false_iff_ne.mpr c14
                    have c14b1:(x3_1 != 0)=true:=bne_iff_ne.mpr c14
                    by_cases c15:(bt a0 x3_1)<48
                    · rw [if_pos c15] at H
                      have c15b0:decide ((bt a0 x3_1)<48)=true:=decide_eq_true c15
                      clear c15
                      obtain rfl:=Option.some.inj H
                      have p4:0≤(x3_1:Int):=of_decide_eq_true (by first | (with_reducible assumption) | assumption)
                      have q4:x3_1<(a0.size:Int):=of_decide_eq_true (by first | (with_reducible assumption) | assumption)
                      have hx4:=bt_at a0 x3_1
                      replace p4:=eq_true p4
                      replace q4:=eq_true q4
                      go_wp2
                      go_ret
                      exact ⟨by first | rfl | (simp;done) | (simp [*];done) | (simp;decide +kernel),by repeat (first | exact Drawn0.refl _ | apply Drawn0.step)⟩
                    · rw [if_neg c15] at H
                      have c15b0:decide ((bt a0 x3_1)<48)=false:=decide_eq_false c15
                      clear c15
                      by_cases c16:(bt a0 x3_1) > 57
                      · rw [if_pos c16] at H
                        have c16b0:decide (57<(bt a0 x3_1))=true:=decide_eq_true c16
                        clear c16
                        obtain rfl:=Option.some.inj H
                        have p4:0≤(x3_1:Int):=of_decide_eq_true (by first | (with_reducible assumption) | assumption)
                        have q4:x3_1<(a0.size:Int):=of_decide_eq_true (by first | (with_reducible assumption) | assumption)
                        have hx4:=bt_at a0 x3_1
                        replace p4:=eq_true p4
                        replace q4:=eq_true q4
                        go_wp2
                        go_ret
                        exact ⟨by first | rfl | (simp;done) | (simp [*];done) | (simp;decide +kernel),by repeat (first | exact Drawn0.refl _ | apply Drawn0.step)⟩
                      · rw [if_neg c16] at H
                        have c16b0:decide (57<(bt a0 x3_1))=false:=decide_eq_false c16
                        clear c16
                        have H':=Aside0.mk H
                        clear H
                        have p4:0≤(x3_1:Int):=of_decide_eq_true (by first | (with_reducible assumption) | assumption)
                        have q4:x3_1<(a0.size:Int):=of_decide_eq_true (by first | (with_reducible assumption) | assumption)
                        have hx4:=bt_at a0 x3_1
                        replace p4:=eq_true p4
                        replace q4:=eq_true q4
                        go_wp2
                        go_roundg k1
                        case measure => have:=HK1.out;omega
                        case rel => exact ⟨(wrap64 (x3_1+1)),(by first | rfl | (simp;done) | (simp [*];done)),H',⟨by have:=HK1.out;omega⟩,by repeat (first | exact Drawn0.refl _ | apply Drawn0.step)⟩
          · rw [if_neg c5] at H
            have c5b0:decide (97≤(bt a0 x3_1))=false:=decide_eq_false c5
            clear c5
            by_cases c17:(bt a0 x3_1) ≥ 65
            · rw [if_pos c17] at H
              have c17b0:decide (65≤(bt a0 x3_1))=true:=decide_eq_true c17
              clear c17
              by_cases c18:(bt a0 x3_1)≤90
              · rw [if_pos c18] at H
                have c18b0:decide ((bt a0 x3_1)≤90)=true:=decide_eq_true c18
                clear c18
                have H':=Aside0.mk H
                clear H
                have p4:0≤(x3_1:Int):=of_decide_eq_true (by first | (with_reducible assumption) | assumption)
                have q4:x3_1<(a0.size:Int):=of_decide_eq_true (by first | (with_reducible assumption) | assumption)
                have hx4:=bt_at a0 x3_1
                replace p4:=eq_true p4
                replace q4:=eq_true q4
                go_wp2
                go_roundg k1
                case measure => have:=HK1.out;omega
                case rel => exact ⟨(wrap64 (x3_1+1)),(by first | rfl | (simp;done) | (simp [*];done)),H',⟨by have:=HK1.out;omega⟩,by repeat (first | exact Drawn0.refl _ | apply Drawn0.step)⟩
              · rw [if_neg c18] at H
                have c18b0:decide ((bt a0 x3_1)≤90)=false:=decide_eq_false c18
                clear c18
                by_cases c19:((bt a0 x3_1)=95)
                · rw [if_pos c19] at H
                  have c19b0:((bt a0 x3_1) == 95)=true:=beq_iff_eq.mpr c19
                  have c19b1:((bt a0 x3_1) != 95)=false:=bne_eq_false_iff_eq.mpr c19
                  clear c19
                  have H':=Aside0.mk H
                  clear H
                  have p4:0≤(x3_1:Int):=of_decide_eq_true (by first | (with_reducible assumption) | assumption)
                  have q4:x3_1<(a0.size:Int):=of_decide_eq_true (by first | (with_reducible assumption) | assumption)
                  have hx4:=bt_at a0 x3_1
                  replace p4:=eq_true p4
                  replace q4:=eq_true q4
                  go_wp2
                  go_roundg k1
                  case measure => have:=HK1.out;omega
                  case rel => exact ⟨(wrap64 (x3_1+1)),(by first | rfl | (simp;done) | (simp [*];done)),H',⟨by have:=HK1.out;omega⟩,by repeat (first | exact Drawn0.refl _ | apply Drawn0.step)⟩
                · rw [if_neg c19] at H
                  have c19b0:((bt a0 x3_1) == 95)=false:=beq_eq_false_iff_ne.mpr c19
                  have c19b1:((bt a0 x3_1) != 95)=true:=bne_iff_ne.mpr c19
                  by_cases c20:x3_1=0
                  · rw [if_pos c20] at H
                    have c20b0:(x3_1 == 0)=true:=beq_iff_eq.mpr c20
                    have c20b1:(x3_1 != 0)=false:=bne_eq_false_iff_eq.mpr c20
                    clear c20
                    obtain rfl:=Option.some.inj H
                    have p4:0≤(x3_1:Int):=of_decide_eq_true (by first | (with_reducible assumption) | assumption)
                    have q4:x3_1<(a0.size:Int):=of_decide_eq_true (by first | (with_reducible assumption) | assumption)
                    have hx4:=bt_at a0 x3_1
                    replace p4:=eq_true p4
                    replace q4:=eq_true q4
                    go_wp2
                    go_ret
                    exact ⟨by first | rfl | (simp;done) | (simp [*];done) | (simp;decide +kernel),by repeat (first | exact Drawn0.refl _ | apply Drawn0.step)⟩
                  · rw [if_neg c20] at H
                    have c20b0:(x3_1 == 0)=false:=beq_eq_false_iff_ne.mpr c20
                    have c20b1:(x3_1 != 0)=true:=bne_iff_ne.mpr c20
                    by_cases c21:(bt a0 x3_1)<48
                    · rw [if_pos c21] at H
                      have c21b0:decide ((bt a0 x3_1)<48)=true:=decide_eq_true c21
                      clear c21
                      obtain rfl:=Option.some.inj H
                      have p4:0≤(x3_1:Int):=of_decide_eq_true (by first | (with_reducible assumption) | assumption)
                      have q4:x3_1<(a0.size:Int):=of_decide_eq_true (by first | (with_reducible assumption) | assumption)
                      have hx4:=bt_at a0 x3_1
                      replace p4:=eq_true p4
                      replace q4:=eq_true q4
                      go_wp2
                      go_ret
                      exact ⟨by first | rfl | (simp;done) | (simp [*];done) | (simp;decide +kernel),by repeat (first | exact Drawn0.refl _ | apply Drawn0.step)⟩
                    · rw [if_neg c21] at H
                      have c21b0:decide ((bt a0 x3_1)<48)=false:=decide_eq_false c21
                      clear c21
                      by_cases c22:(bt a0 x3_1) > 57
                      · rw [if_pos c22] at H
                        have c22b0:decide (57<(bt a0 x3_1))=true:=decide_eq_true c22
                        clear c22
                        obtain rfl:=Option.some.inj H
                        have p4:0≤(x3_1:Int):=of_decide_eq_true (by first | (with_reducible assumption) | assumption)
                        have q4:x3_1<(a0.size:Int):=of_decide_eq_true (by first | (with_reducible assumption) | assumption)
                        have hx4:=bt_at a0 x3_1
                        replace p4:=eq_true p4
                        replace q4:=eq_true q4
                        go_wp2
                        go_ret
                        exact ⟨by first | rfl | (simp;done) | (simp [*];done) | (simp;decide +kernel),by repeat (first | exact Drawn0.refl _ | apply Drawn0.step)⟩
                      · rw [if_neg c22] at H
                        have c22b0:decide (57<(bt a0 x3_1))=false:=decide_eq_false c22
                        clear c22
                        have H':=Aside0.mk H
                        clear H
                        have p4:0≤(x3_1:Int):=of_decide_eq_true (by first | (with_reducible assumption) | assumption)
                        have q4:x3_1<(a0.size:Int):=of_decide_eq_true (by first | (with_reducible assumption) | assumption)
                        have hx4:=bt_at a0 x3_1
                        replace p4:=eq_true p4
                        replace q4:=eq_true q4
                        go_wp2
                        go_roundg k1
                        case measure => have:=HK1.out;omega
                        case rel => exact ⟨(wrap64 (x3_1+1)),(by first | rfl | (simp;done) | (simp [*];done)),H',⟨by have:=HK1.out;omega⟩,by repeat (first | exact Drawn0.refl _ | apply Drawn0.step)⟩
            · rw [if_neg c17] at H
              have c17b0:decide (65≤(bt a0 x3_1))=false:=decide_eq_false c17
              clear c17
              by_cases c23:((bt a0 x3_1)=95)
              · rw [if_pos c23] at H
                have c23b0:((bt a0 x3_1) == 95)=true:=beq_iff_eq.mpr c23
                have c23b1:((bt a0 x3_1) != 95)=false:=bne_eq_false_iff_eq.mpr c23
                clear c23
                have H':=Aside0.mk H
                clear H
                have p4:0≤(x3_1:Int):=of_decide_eq_true (by first | (with_reducible assumption) | assumption)
                have q4:x3_1<(a0.size:Int):=of_decide_eq_true (by first | (with_reducible assumption) | assumption)
                have hx4:=bt_at a0 x3_1
                replace p4:=eq_true p4
                replace q4:=eq_true q4
                go_wp2
                go_roundg k1
                case measure => have:=HK1.out;omega
                case rel => exact ⟨(wrap64 (x3_1+1)),(by first | rfl | (simp;done) | (simp [*];done)),H',⟨by have:=HK1.out;omega⟩,by repeat (first | exact Drawn0.refl _ | apply Drawn0.step)⟩
              · rw [if_neg c23] at H
                have c23b0:((bt a0 x3_1) == 95)=false:=beq_eq_false_iff_ne.mpr c23
                have c23b1:((bt a0 x3_1) != 95)=true:=bne_iff_ne.mpr c23
                by_cases c24:x3_1=0
                · rw [if_pos c24] at H
                  have c24b0:(x3_1 == 0)=true:=beq_iff_eq.mpr c24
                  have c24b1:(x3_1 != 0)=false:=bne_eq_false_iff_eq.mpr c24
                  clear c24
                  obtain rfl:=Option.some.inj H
                  have p4:0≤(x3_1:Int):=of_decide_eq_true (by first | (with_reducible assumption) | assumption)
                  have q4:x3_1<(a0.size:Int):=of_decide_eq_true (by first | (with_reducible assumption) | assumption)
                  have hx4:=bt_at a0 x3_1
                  replace p4:=eq_true p4
                  replace q4:=eq_true q4
                  go_wp2
                  go_ret
                  exact ⟨by first | rfl | (simp;done) | (simp [*];done) | (simp;decide +kernel),by repeat (first | exact Drawn0.refl _ | apply Drawn0.step)⟩
                · rw [if_neg c24] at H
                  have c24b0:(x3_1 == 0)=false:=beq_eq_false_iff_ne.mpr c24
                  have c24b1:(x3_1 != 0)=true:=bne_iff_ne.mpr c24
                  by_cases c25:(bt a0 x3_1)<48
                  · rw [if_pos c25] at H
                    have c25b0:decide ((bt a0 x3_1)<48)=true:=decide_eq_true c25
                    clear c25
                    obtain rfl:=Option.some.inj H
                    have p4:0≤(x3_1:Int):=of_decide_eq_true (by first | (with_reducible assumption) | assumption)
                    have q4:x3_1<(a0.size:Int):=of_decide_eq_true (by first | (with_reducible assumption) | assumption)
                    have hx4:=bt_at a0 x3_1
                    replace p4:=eq_true p4
                    replace q4:=eq_true q4
                    go_wp2
                    go_ret
                    exact ⟨by first | rfl | (simp;done) | (simp [*];done) | (simp;decide +kernel),by repeat (first | exact Drawn0.refl _ | apply Drawn0.step)⟩
                  · rw [if_neg c25] at H
                    have c25b0:decide ((bt a0 x3_1)<48)=false:=decide_eq_false c25
                    clear c25
                    by_cases c26:(bt a0 x3_1) > 57
                    · rw [if_pos c26] at H
                      have c26b0:decide (57<(bt a0 x3_1))=true:=decide_eq_true c26
                      clear c26
                      obtain rfl:=Option.some.inj H
                      have p4:0≤(x3_1:Int):=of_decide_eq_true (by first | (with_reducible assumption) | assumption)
                      have q4:x3_1<(a0.size:Int):=of_decide_eq_true (by first | (with_reducible assumption) | assumption)
                      have hx4:=bt_at a0 x3_1
                      replace p4:=eq_true p4
                      replace q4:=eq_true q4
                      go_wp2
                      go_ret
                      exact ⟨by first | rfl | (simp;done) | (simp [*];done) | (simp;decide +kernel),by repeat (first | exact Drawn0.refl _ | apply Drawn0.step)⟩
                    · rw [if_neg c26] at H
                      have c26b0:decide (57<(bt a0 x3_1))=false:=decide_eq_false c26
                      clear c26
                      have H':=Aside0.mk H
                      clear H
                      have p4:0≤(x3_1:Int):=of_decide_eq_true (by first | (with_reducible assumption) | assumption)
                      have q4:x3_1<(a0.size:Int):=of_decide_eq_true (by first | (with_reducible assumption) | assumption)
                      have hx4:=bt_at a0 x3_1
                      replace p4:=eq_true p4
                      replace q4:=eq_true q4
                      go_wp2
                      go_roundg k1
                      case measure => have:=HK1.out;omega
                      case rel => exact ⟨(wrap64 (x3_1+1)),(by first | rfl | (simp;done) | (simp [*];done)),H',⟨by have:=HK1.out;omega⟩,by repeat (first | exact Drawn0.refl _ | apply Drawn0.step)⟩
        · rw [if_neg c3] at H
          exact absurd H (by simp)
      · rw [if_neg c2] at H
        have c2b0:decide (x3_1<(a0.size:Int))=false:=decide_eq_false c2
        clear c2
        by_cases c27:(a0.size:Int) ≥ 1
        · rw [if_pos c27] at H
          have c27b0:decide (1≤(a0.size:Int))=true:=decide_eq_true c27
          have c27b1:decide (1≤a0.size)=true:=decide_eq_true (by omega)
          clear c27
          obtain rfl:=Option.some.inj H
          go_wp2
          go_ret
          exact ⟨by first | rfl | (simp;done) | (simp [*];done) | (simp;decide +kernel),by repeat (first | exact Drawn0.refl _ | apply Drawn0.step)⟩
        · rw [if_neg c27] at H
          have c27b0:decide (1≤(a0.size:Int))=false:=decide_eq_false c27
          have c27b1:decide (1≤a0.size)=false:=decide_eq_false (by omega)
          clear c27
          obtain rfl:=Option.some.inj H
          go_wp2
          go_ret
          exact ⟨by first | rfl | (simp;done) | (simp [*];done) | (simp;decide +kernel),by repeat (first | exact Drawn0.refl _ | apply Drawn0.step)⟩
end Go.Proofs.YtcgbgifbajdhpaaGreatDoor.PA
namespace Go.Proofs.YtcgbgifbajdhpaaGreatDoor.PA
open Go.RowKit Go.Proofs.YtcgbgifbajdhpaaGreatDoor.G Go.Proofs.YtcgbgifbajdhpaaGreatDoorW.PrintWords Go.Proofs.YtcgbgifbajdhpaaGreatDoorW.PrintLast Go.Proofs.YtcgbgifbajdhpaaGreatDoorW.PrintMore
def letR (c:Int):Bool:=(decide (97≤c) && decide (c≤122)) || (decide (65≤c) && decide (c≤90)) || decide (c=95)
theorem letB_letR_nat:∀ n:Fin 256,letB ((n.1:Nat):Int)=letR ((n.1:Nat):Int):=by decide +kernel
theorem letB_letR (s:ByteArray) (i:Int):letB (bt s i)=letR (bt s i):=by
  obtain ⟨h0,h1⟩:=bt_range s i
  obtain ⟨n,hn⟩:=Int.eq_ofNat_of_zero_le h0
  rw [hn]
  exact letB_letR_nat ⟨n,by omega⟩
def okN (s:ByteArray) (j:Nat):Bool:=letR (bt s (j:Int)) || (decide (j ≠ 0) && digB (bt s (j:Int)))
theorem rname_step (s:ByteArray) (i k:Nat) (hi:i<s.size) (hs:s.size≤140737488355328):dryrotref07_Name.l0 (k+1) s (i:Int)=if okN s i=true then dryrotref07_Name.l0 k s ((i+1:Nat):Int) else some false:=by
  have e:wrap64 ((i:Int)+1)=((i+1:Nat):Int):=by rw [w64 (by omega) (by omega)];omega
  rw [dryrotref07_Name.l0,e,if_pos (by omega),if_pos (by omega)]
  have hr:=bt_range s (i:Int)
  unfold okN letR digB
  generalize bt s (i:Int)=c at hr
  generalize dryrotref07_Name.l0 k s ((i+1:Nat):Int)=z
  by_cases hi0:i=0
  · subst hi0
    repeat' split
    all_goals first | rfl | (exfalso;simp at *;done) | (exfalso;simp at *;omega)
  · repeat' split
    all_goals first | rfl | (exfalso;simp [hi0] at *;done) | (exfalso;simp [hi0] at *;omega)
theorem rname_from (s:ByteArray) (hs:s.size≤140737488355328):∀ d i k,i+d=s.size→d<k→dryrotref07_Name.l0 k s (i:Int)=some ((List.range d).all (fun j => okN s (i+j)) && (decide (1≤s.size) && decide (s.size≤24)))
  | 0,i,k+1,h,hk => by
    rw [dryrotref07_Name.l0,if_neg (by omega)]
    by_cases h1:(s.size:Int) ≥ 1
    · rw [if_pos h1,decide_eq_true (show 1≤s.size by omega)]
      simp
      omega
    · rw [if_neg h1,decide_eq_false (show ¬ 1≤s.size by omega)]
      simp
  | d + 1, i, k + 1, h, hk => by
    rw [rname_step s i k (by omega) hs,List.range_succ_eq_map,List.all_cons,List.all_map]
    cases ho:okN s i with
    | false => rw [if_neg (by simp)];simp [ho]
    | true =>
      rw [if_pos rfl,rname_from s hs d (i+1) k (by omega) (by omega)]
      simp only [Nat.add_zero,ho,Bool.true_and]
      congr 3
      funext j
      simp only [Function.comp,Nat.succ_eq_add_one,show i+1+j=i+(j+1) by omega]
theorem any_bytes (s:ByteArray) (p:Int→Bool):(bytesOf s).any p=(List.range s.size).any (fun j => p (bt s (j:Int))):=by
  rw [Bool.eq_iff_iff,List.any_eq_true,List.any_eq_true]
  constructor
  · rintro ⟨x,hx,hp⟩
    obtain ⟨j,hj,rfl⟩:=List.getElem_of_mem hx
    have hj':j<s.size:=by rw [← bytesOf_length];exact hj
    refine ⟨j,List.mem_range.2 hj',?_⟩
    rw [← rd_bytesOf]
    simpa [rd,List.getD_eq_getElem?_getD,List.getElem?_eq_getElem hj] using hp
  · rintro ⟨j,hj,hp⟩
    have hj':j<(bytesOf s).length:=by rw [bytesOf_length];exact List.mem_range.1 hj
    refine ⟨_,List.getElem_mem hj',?_⟩
    rw [← rd_bytesOf] at hp
    simpa [rd,List.getD_eq_getElem?_getD,List.getElem?_eq_getElem hj'] using hp
theorem rname_eq (s:ByteArray) (hs:s.size≤140737488355328) (k:Nat) (hk:s.size<k):dryrotref07_Name.f k s=some (nameB s):=by
  unfold dryrotref07_Name.f
  have:=rname_from s hs s.size 0 k (by omega) hk
  rw [show ((0:Nat):Int)=0 from rfl] at this
  rw [this]
  congr 1
  by_cases hz:1≤s.size∧s.size≤24
  · rw [nameB,decide_eq_true hz.1,decide_eq_true hz.2]
    simp only [Bool.and_true,Bool.true_and,Nat.zero_add]
    rw [any_bytes,letB_letR,Bool.eq_iff_iff]
    simp only [List.all_eq_true,List.mem_range,Bool.and_eq_true,Bool.not_eq_true',List.any_eq_false,badB,Bool.not_eq_false']
    have hb:∀ j:Nat,letB (bt s (j:Int))=letR (bt s (j:Int)):=fun j => letB_letR s j
    constructor
    · intro h
      refine ⟨?_,fun j hj => ?_⟩
      · have:=h 0 (by omega)
        simpa [okN] using this
      · have:=h j hj
        rw [hb j]
        simp only [okN,Bool.or_eq_true,Bool.and_eq_true] at this
        rcases this with h1 | h1
        · simp [h1]
        · simp [h1.2]
    · rintro ⟨h0,h⟩ j hj
      by_cases hj0:j=0
      · subst hj0
        simp [okN]
        simpa using h0
      · have:=h j hj
        rw [hb j] at this
        simp only [okN,Bool.or_eq_true,Bool.and_eq_true,decide_eq_true_eq]
        cases h1:letR (bt s (j:Int)) with
        | true => simp
        | false =>
          right
          refine ⟨hj0,?_⟩
          simpa [h1] using this
  · rw [nameB]
    have:(decide (1≤s.size) && decide (s.size≤24))=false:=by
      rw [Bool.and_eq_false_iff]
      by_cases h1:1≤s.size
      · exact .inr (decide_eq_false (fun h2 => hz ⟨h1,h2⟩))
      · exact .inl (decide_eq_false h1)
    rw [this]
    simp
theorem rname.calls (s:ByteArray) (b:Bool) (h:nameB s=b) (hs:s.size≤140737488355328) (w:World):Calls Tryz.prog 99 #[.string s] w fun e w' => e = .returned (.bool b)∧Below w.heap.size w w' :=
  (dryrotref07_Name.calls (s.size+1) s b w (by rw [rname_eq s hs _ (by omega),h])).mono fun e w' ⟨he,hd⟩ => ⟨he,hd.below⟩
end Go.Proofs.YtcgbgifbajdhpaaGreatDoor.PA
namespace Go.Proofs.YtcgbgifbajdhpaaGreatDoor.PA
open Go.RowKit Go.Proofs.YtcgbgifbajdhpaaGreatDoorW.PrintWords Go.Proofs.YtcgbgifbajdhpaaGreatDoorW.PrintLast Go.Proofs.YtcgbgifbajdhpaaGreatDoorW.PrintMore
attribute [local go_sem] max2_int min2_int max_two min_two max_three min_three max_four min_four   -- for this text's walks alone
def dryrotref07_Value.f (a0:ByteArray):Option (Bool):=if (a0.size:Int) ≥ 1 then (if (a0.size:Int)≤40 then ((dryrotref07_Plain.f a0).bind fun t191 => (some t191)) else (some false)) else (some false)
theorem dryrotref07_Value.calls (a0:ByteArray) (r:Bool) (w:World) (h:dryrotref07_Value.f a0=some r) :
    Calls Tryz.prog 100 #[.string a0] w fun e w' => e = .returned (.bool r)∧Below w.heap.size w w':=by
  have HB:=Aside0.mk (Below.refl w.heap.size w)
  have H:(if (a0.size:Int) ≥ 1 then (if (a0.size:Int)≤40 then ((dryrotref07_Plain.f a0).bind fun t191 => (some t191)) else (some false)) else (some false))=some r:=h
  clear h
  by_cases c2:(a0.size:Int) ≥ 1
  · rw [if_pos c2] at H
    have c2b0:decide (1≤(a0.size:Int))=true:=decide_eq_true c2
    have c2b1:decide (1≤a0.size)=true:=decide_eq_true (by omega)
    clear c2
    by_cases c3:(a0.size:Int)≤40
    · rw [if_pos c3] at H
      have c3b0:decide ((a0.size:Int)≤40)=true:=decide_eq_true c3
      have c3b1:decide (a0.size≤40)=true:=decide_eq_true (by omega)
      clear c3
      replace H:=Option.bind_eq_some_iff.mp H
      obtain ⟨t191,A40,H⟩:=H
      replace H:(some t191)=some r:=H
      have A4:=Aside0.mk A40
      clear A40
      obtain rfl:=Option.some.inj H
      go_enter Tryz.func100,Tryz.ntmps100
      go_wp2_with (first | (go_at_call 128;(with_reducible refine (dryrotref07_Plain.calls a0 t191 _ A4.out).mono ?_);rintro e w5 ⟨rfl,hb⟩;have n0_:=Aside0.mk (below_step (by repeat (first | (with_reducible first | exact HB.out | apply below_alloc | apply pw_below_drewN | apply below_drew1) | exact HB.out)) hb);clear HB;have HB:=n0_;clear n0_;(try clear hb);(try clear hb2);(try clear hk);(try clear hi)))
      go_ret
      exact ⟨by first | rfl | (simp [errW_none,errW_some] <;> rfl) | (simp [*,errW_none,errW_some] <;> rfl),by repeat (first | (with_reducible first | exact HB.out | apply below_alloc | apply pw_below_drewN | apply below_drew1) | exact HB.out)⟩
    · rw [if_neg c3] at H
      have c3b0:decide ((a0.size:Int)≤40)=false:=decide_eq_false c3
      have c3b1:decide (a0.size≤40)=false:=decide_eq_false (by omega)
      clear c3
      obtain rfl:=Option.some.inj H
      go_enter Tryz.func100,Tryz.ntmps100
      go_wp2
      go_ret
      exact ⟨by first | rfl | (simp [errW_none,errW_some] <;> rfl) | (simp [*,errW_none,errW_some] <;> rfl),by repeat (first | (with_reducible first | exact HB.out | apply below_alloc | apply pw_below_drewN | apply below_drew1) | exact HB.out)⟩
  · rw [if_neg c2] at H
    have c2b0:decide (1≤(a0.size:Int))=false:=decide_eq_false c2
    have c2b1:decide (1≤a0.size)=false:=decide_eq_false (by omega)
    clear c2
    obtain rfl:=Option.some.inj H
    go_enter Tryz.func100,Tryz.ntmps100
    go_wp2
    go_ret
    exact ⟨by first | rfl | (simp [errW_none,errW_some] <;> rfl) | (simp [*,errW_none,errW_some] <;> rfl),by repeat (first | (with_reducible first | exact HB.out | apply below_alloc | apply pw_below_drewN | apply below_drew1) | exact HB.out)⟩
end Go.Proofs.YtcgbgifbajdhpaaGreatDoor.PA
namespace Go.Proofs.YtcgbgifbajdhpaaGreatDoor.PA
open Go.RowKit Go.Proofs.YtcgbgifbajdhpaaGreatDoor.G Go.Proofs.YtcgbgifbajdhpaaGreatDoorW.PrintWords Go.Proofs.YtcgbgifbajdhpaaGreatDoorW.PrintLast Go.Proofs.YtcgbgifbajdhpaaGreatDoorW.PrintMore
theorem rvalue_f (s:ByteArray):dryrotref07_Value.f s=some (valueB s):=by
  unfold dryrotref07_Value.f valueB dryrotref07_Plain.f
  by_cases h1:1≤s.size
  · rw [if_pos (by omega),decide_eq_true h1]
    by_cases h2:s.size≤40
    · rw [if_pos (by omega),decide_eq_true h2];rfl
    · rw [if_neg (by omega),decide_eq_false h2];rfl
  · rw [if_neg (by omega),decide_eq_false h1];rfl
theorem rvalue.calls (s:ByteArray) (b:Bool) (h:valueB s=b) (w:World):Calls Tryz.prog 100 #[.string s] w fun e w' => e = .returned (.bool b)∧Below w.heap.size w w' :=
  dryrotref07_Value.calls s b w (by rw [rvalue_f,h])
def okLs (l:List S68):Prop:=∀ x ∈ l,x.f0.size≤140737488355328∧x.f1.size≤140737488355328
theorem rd_memL (l:List S68) (k:Nat) (h:k<l.length):rd_T68 l (k:Int) ∈ l:=by
  have e:rd_T68 l (k:Int)=l[k]:=by simp [rd_T68,List.getD_eq_getElem?_getD,List.getElem?_eq_getElem h]
  rw [e]
  exact List.getElem_mem h
theorem cell_alloc_oldR {w:World} {a:Addr} {v:Value} (o:Obj) (h:w.cell? a=some v):(w.alloc o).cell? a=some v:=pw_cell_below (below_alloc (Below.refl _ _) o) h
theorem rcanL.calls (A:Option Addr) (c n:Nat) (l:List S68) (w:World) (hn:l.length=n) (hr:Kd.C k68 w A n l) (hc:n≤c) (hok:okLs l) :
    Calls Tryz.prog 67 #[.slice A n c] w fun e w' => e = .returned (.bool (canL l))∧Below w.heap.size w w':=by
  subst hn
  by_cases hlen:1≤l.length∧l.length≤8
  · have h0 : decide ((l.length : Int) < 1) = false := decide_eq_false (by omega)
    have h8:decide ((8:Int)<(l.length:Int))=false:=decide_eq_false (by omega)
    have HR:=Aside0.mk hr
    have HL:=Aside0.mk hlen
    have HK:=Aside0.mk hok
    have hl8:=hlen.2
    clear hr hc hlen hok
    go_enter Tryz.func67,Tryz.ntmps67
    go_wp2
    go_loopw [15] (fun i wr => ∃ (k:Nat),k≤l.length∧i = .int .i64 k∧Aside0 (∀ j,j<k→okAt l j=true)∧Aside0 (Below w.heap.size w wr)) (fun i _ => l.length - (intOf i).toNat)
    case atStart => exact ⟨0,Nat.zero_le _,rfl,⟨fun j hj => by omega⟩,⟨Below.refl _ _⟩⟩
    case round =>
      obtain ⟨k,hk,rfl,HO,HB⟩:=hrel
      by_cases hlt:k<l.length
      · have hC := Kd.C_below HR.out HB.out
        obtain ⟨ad,rfl,c0,c1⟩:=at_T68 hC (k:Int) (by omega) (by omega)
        rw [Int.toNat_natCast] at c0 c1
        have HBAD:=Aside0.mk (fun h => canL_bad (l:=l) (k:=k) hlt h)
        have HS:=Aside0.mk (fun h => upto_step (l:=l) (k:=k) HO.out h)
        have HSZ:=Aside0.mk (HK.out _ (rd_memL l k hlt)).1
        cases k with
        | zero =>
          obtain ⟨x,ex⟩:∃ x,rd_T68 l ((0:Nat):Int)=x:=⟨_,rfl⟩
          have EX:=Aside0.mk ex
          rw [ex] at c0 c1 HSZ
          clear hC ex
          have c0z:wr.cell? ad=some (.string x.f0):=by simpa [Addr.add] using c0
          have c1z:wr.cell? ⟨ad.block,ad.off+1,none⟩=some (.string x.f1):=by simpa [Addr.add] using c1
          clear c0 c1
          have HBA:=Aside0.mk (below_alloc HB.out (.cells #[.string x.f0,.string x.f1] 68 (0,0)))
          have BK:=blk_new wr (.cells #[.string x.f0,.string x.f1] 68 (0,0))
          have aA:=BW.cell ((blk_cell BK 0).trans rfl)
          have bA:=BW.cell ((blk_cell BK 1).trans rfl)
          clear BK
          cases h1:nameB x.f0 with
          | false =>
            have HF:Aside0 (canL l=false):=⟨HBAD.out (okAt_name (EX.out ▸ h1))⟩
            have C1:=Aside0.mk (rname.calls x.f0 false h1 HSZ.out)
            clear h1
            go_wp2_with fail
            refine wp_region_bw (by kernel_rfl) (by kernel_rfl) ?_
            repeat (any_goals (first | go_big_quiet_step (first | (go_at_call 99;refine bw_of (C1.out _))) | quiet_step (first | (go_at_call 99;refine bw_of (C1.out _)))))
            all_goals (refine wpQuiet_nil ?_;intro _ hw';obtain ⟨⟨w2,hb⟩,hw''⟩:=hw';subst hw'';have HB2:=Aside0.mk (below_step HBA.out hb);clear hb)
            go_wp2
            go_ret
            exact ⟨by rw [HF.out];rfl,HB2.out⟩
          | true =>
            have C1:=Aside0.mk (rname.calls x.f0 true h1 HSZ.out)
            cases h2:valueB x.f1 with
            | false =>
              have HF:Aside0 (canL l=false):=⟨HBAD.out (okAt_value (EX.out ▸ h2))⟩
              have C2:=Aside0.mk (rvalue.calls x.f1 false h2)
              clear h1 h2
              go_wp2_with fail
              refine wp_region_bw (by kernel_rfl) (by kernel_rfl) ?_
              repeat (any_goals (first | go_big_quiet_step (first | (go_at_call 99;refine bw_of (C1.out _)) | (go_at_call 100;refine bw_of (C2.out _))) | quiet_step (first | (go_at_call 99;refine bw_of (C1.out _)) | (go_at_call 100;refine bw_of (C2.out _)))))
              all_goals (refine wpQuiet_nil ?_;intro _ hw';obtain ⟨⟨w2,hb⟩,hw''⟩:=hw';subst hw'';have HB2:=Aside0.mk (below_step HBA.out hb);clear hb)
              go_wp2
              go_ret
              exact ⟨by rw [HF.out];rfl,HB2.out⟩
            | true =>
              have C2:=Aside0.mk (rvalue.calls x.f1 true h2)
              have HG:=Aside0.mk (HS.out (okAt_zero (EX.out ▸ h1) (EX.out ▸ h2)))
              clear h1 h2
              go_wp2_with fail
              refine wp_region_bw (by kernel_rfl) (by kernel_rfl) ?_
              repeat (any_goals (first | go_big_quiet_step (first | (go_at_call 99;refine bw_of (C1.out _)) | (go_at_call 100;refine bw_of (C2.out _))) | quiet_step (first | (go_at_call 99;refine bw_of (C1.out _)) | (go_at_call 100;refine bw_of (C2.out _)))))
              all_goals (refine wpQuiet_nil ?_;intro _ hw';obtain ⟨⟨w2,hb⟩,hw''⟩:=hw';subst hw'';have HB2:=Aside0.mk (below_step HBA.out hb);clear hb)
              go_wp2
              go_roundw
              case rel => exact ⟨0+1,by omega,by go_num,HG,HB2⟩
              case measure => simp [intOf] <;> omega
        | succ k =>
          obtain ⟨ad_,ea,q0,q1⟩:=at_T68 hC ((k:Nat):Int) (by omega) (by omega)
          obtain rfl:=Option.some.inj ea
          rw [Int.toNat_natCast] at q0 q1
          obtain ⟨x,ex⟩:∃ x,rd_T68 l ((k+1:Nat):Int)=x:=⟨_,rfl⟩
          obtain ⟨y,ey⟩:∃ y,rd_T68 l ((k:Nat):Int)=y:=⟨_,rfl⟩
          have EY:=Aside0.mk ey
          rw [ey] at q0 q1
          have EX:=Aside0.mk ex
          rw [ex] at c0 c1 HSZ
          clear hC ex ey q1 ea
          have HBA:=Aside0.mk (below_alloc HB.out (.cells #[.string x.f0,.string x.f1] 68 (0,0)))
          have BK:=blk_new wr (.cells #[.string x.f0,.string x.f1] 68 (0,0))
          have aA:=BW.cell ((blk_cell BK 0).trans rfl)
          have bA:=BW.cell ((blk_cell BK 1).trans rfl)
          clear BK
          have pA:=BW.cell (cell_alloc_oldR (.cells #[.string x.f0,.string x.f1] 68 (0,0)) q0)
          rw [show ((k+1:Nat):Int)=(k:Int)+1 from by omega] at *
          have g0:decide ((0:Int)<(k:Int)+1)=true:=decide_eq_true (by omega)
          have hwk:IntKind.i64.wrap ((k:Int)+1 - 1)=(k:Int):=by rw [IntKind.wrap_i64];omega
          have g1:(0:Int)≤(k:Int):=by omega
          have g2:(k:Int)<(l.length:Int):=by omega
          cases h1:nameB x.f0 with
          | false =>
            have HF:Aside0 (canL l=false):=⟨HBAD.out (okAt_name (EX.out ▸ h1))⟩
            have C1:=Aside0.mk (rname.calls x.f0 false h1 HSZ.out)
            clear h1
            go_wp2_with fail
            refine wp_region_bw (by kernel_rfl) (by kernel_rfl) ?_
            repeat (any_goals (first | go_big_quiet_step (first | (go_at_call 99;refine bw_of (C1.out _))) | quiet_step (first | (go_at_call 99;refine bw_of (C1.out _)))))
            all_goals (refine wpQuiet_nil ?_;intro _ hw';obtain ⟨⟨w2,hb⟩,hw''⟩:=hw';subst hw'';have HB2:=Aside0.mk (below_step HBA.out hb);clear hb)
            go_wp2
            go_ret
            exact ⟨by rw [HF.out];rfl,HB2.out⟩
          | true =>
            have C1:=Aside0.mk (rname.calls x.f0 true h1 HSZ.out)
            cases h2:valueB x.f1 with
            | false =>
              have HF:Aside0 (canL l=false):=⟨HBAD.out (okAt_value (EX.out ▸ h2))⟩
              have C2:=Aside0.mk (rvalue.calls x.f1 false h2)
              clear h1 h2
              go_wp2_with fail
              refine wp_region_bw (by kernel_rfl) (by kernel_rfl) ?_
              repeat (any_goals (first | go_big_quiet_step (first | (go_at_call 99;refine bw_of (C1.out _)) | (go_at_call 100;refine bw_of (C2.out _))) | quiet_step (first | (go_at_call 99;refine bw_of (C1.out _)) | (go_at_call 100;refine bw_of (C2.out _)))))
              all_goals (refine wpQuiet_nil ?_;intro _ hw';obtain ⟨⟨w2,hb⟩,hw''⟩:=hw';subst hw'';have HB2:=Aside0.mk (below_step HBA.out hb);clear hb)
              go_wp2
              go_ret
              exact ⟨by rw [HF.out];rfl,HB2.out⟩
            | true =>
              have C2:=Aside0.mk (rvalue.calls x.f1 true h2)
              have HQ:=okAt_geq (l:=l) (k:=k) (EX.out ▸ h1) (EX.out ▸ h2)
              rw [show ((k+1:Nat):Int)=(k:Int)+1 from by omega,EX.out,EY.out] at HQ
              clear h1 h2
              cases d1:Op.bytesLess y.f0.toList x.f0.toList with
              | false =>
                have HF:Aside0 (canL l=false):=⟨HBAD.out (by rw [HQ,d1])⟩
                clear HQ
                go_wp2_with fail
                refine wp_region_bw (by kernel_rfl) (by kernel_rfl) ?_
                repeat (any_goals (first | go_big_quiet_step (first | (go_at_call 99;refine bw_of (C1.out _)) | (go_at_call 100;refine bw_of (C2.out _))) | quiet_step (first | (go_at_call 99;refine bw_of (C1.out _)) | (go_at_call 100;refine bw_of (C2.out _)))))
                all_goals (refine wpQuiet_nil ?_;intro _ hw';obtain ⟨⟨w2,hb⟩,hw''⟩:=hw';subst hw'';have HB2:=Aside0.mk (below_step HBA.out hb);clear hb)
                go_wp2
                go_ret
                exact ⟨by rw [HF.out];rfl,HB2.out⟩
              | true =>
                have HG:=Aside0.mk (HS.out (by rw [HQ,d1]))
                clear HQ
                go_wp2_with fail
                refine wp_region_bw (by kernel_rfl) (by kernel_rfl) ?_
                repeat (any_goals (first | go_big_quiet_step (first | (go_at_call 99;refine bw_of (C1.out _)) | (go_at_call 100;refine bw_of (C2.out _))) | quiet_step (first | (go_at_call 99;refine bw_of (C1.out _)) | (go_at_call 100;refine bw_of (C2.out _)))))
                all_goals (refine wpQuiet_nil ?_;intro _ hw';obtain ⟨⟨w2,hb⟩,hw''⟩:=hw';subst hw'';have HB2:=Aside0.mk (below_step HBA.out hb);clear hb)
                go_wp2
                go_roundw
                case rel => exact ⟨k+1+1,by omega,by go_num,HG,HB2⟩
                case measure => simp [intOf] <;> omega
      · obtain rfl:k=l.length:=by omega
        have HF:Aside0 (canL l=true):=⟨canL_ok HL.out.1 HL.out.2 HO.out⟩
        go_wp2
        go_ret
        exact ⟨by rw [HF.out];rfl,HB.out⟩
  · have HF:Aside0 (canL l=false):=⟨canL_len hlen⟩
    by_cases h0:(l.length:Int)<1
    · have h1:decide ((l.length:Int)<1)=true:=decide_eq_true h0
      clear h0 hlen
      go_enter Tryz.func67,Tryz.ntmps67
      go_wp2
      go_ret
      exact ⟨by rw [HF.out];rfl,Below.refl _ _⟩
    · have h1:decide ((l.length:Int)<1)=false:=decide_eq_false h0
      have h2:decide ((8:Int)<(l.length:Int))=true:=decide_eq_true (by omega)
      clear h0 hlen
      go_enter Tryz.func67,Tryz.ntmps67
      go_wp2
      go_ret
      exact ⟨by rw [HF.out];rfl,Below.refl _ _⟩
theorem rcmpL.calls (A B:Option Addr) (c e0 n m:Nat) (a b:List S68) (w:World) (hn:a.length=n) (hm:b.length=m) (hr:Kd.C k68 w A n a) (hs:Kd.C k68 w B m b) (hl:n≤1000000) :
    Calls Tryz.prog 50 #[.slice A n c,.slice B m e0] w fun e w' => e = .returned (.int .i64 (cmpL a b))∧Below w.heap.size w w':=by
  subst hn hm
  have HR:=Aside0.mk hr
  have HS:=Aside0.mk hs
  clear hr hs
  by_cases hba:b.length<a.length
  · have HQ : Aside0 (b.length = min a.length b.length) := ⟨by omega⟩
    have hqa:b.length≤a.length:=by omega
    have hqb:b.length≤b.length:=by omega
    go_enter Tryz.func50,Tryz.ntmps50
    go_wp2
    go_loopw [13] (fun j wr => ∃ k:Nat,k≤b.length∧j = .int .i64 k∧Aside0 (cmpL a b=cmpL (a.drop k) (b.drop k))∧Aside0 (Below w.heap.size w wr)) (fun j _ => b.length - (intOf j).toNat)
    case atStart => exact ⟨0,Nat.zero_le _,rfl,⟨rfl⟩,⟨Below.refl _ _⟩⟩
    case round =>
      obtain ⟨k,hk,rfl,HE,HB⟩:=hrel
      by_cases hlt:k<b.length
      · obtain ⟨ad,rfl,h0,h1⟩:=at_T68 (Kd.C_below HR.out HB.out) (k:Int) (by omega) (by omega)
        rw [Int.toNat_natCast] at h0 h1
        obtain ⟨bd,rfl,i0,i1⟩:=at_T68 (Kd.C_below HS.out HB.out) (k:Int) (by omega) (by omega)
        rw [Int.toNat_natCast] at i0 i1
        have HST:=Aside0.mk (cmpL_step a b k (by omega) (by omega))
        have k0:(0:Int)≤(k:Int):=by omega
        have k1:(k:Int)<(a.length:Int):=by omega
        have k2:(k:Int)<(b.length:Int):=by omega
        have k3:(k:Int)<(b.length:Int):=by omega
        generalize rd_T68 a (k:Int)=x at *
        generalize rd_T68 b (k:Int)=y at *
        cases hc:(txt x.f0 y.f0 != 0) with
        | true =>
          have HV:Aside0 (cmpL a b=txt x.f0 y.f0):=⟨by
            have h_:txt x.f0 y.f0 ≠ 0:=bne_iff_ne.1 hc
            rw [HE.out,HST.out,cmpX,cmpOr,cmpOr,if_pos h_,if_pos h_]⟩
          go_wp2_with fail
          go_quiet ((go_at_call 86;exact Calls.quiet_of_same (texts.calls _ _ _)))
          go_wp2
          go_ret
          exact ⟨by rw [HV.out];rfl,pw_below_drewN HB.out _⟩
        | false =>
          have hz:txt x.f0 y.f0=0:=by simpa using hc
          cases hd:(txt x.f1 y.f1 != 0) with
          | true =>
            have HV:Aside0 (cmpL a b=txt x.f1 y.f1):=⟨by
              have h_:txt x.f1 y.f1 ≠ 0:=bne_iff_ne.1 hd
              rw [HE.out,HST.out,cmpX,cmpOr,cmpOr,hz,if_neg (show ¬ (0:Int) ≠ 0 by simp),if_pos h_]⟩
            clear hz
            go_wp2_with fail
            go_quiet ((go_at_call 86;exact Calls.quiet_of_same (texts.calls _ _ _)))
            go_wp2_with fail
            generalize hw1:wr.drewN nq=w1
            have HW1:Aside0 (Below w.heap.size w w1):=⟨hw1 ▸ pw_below_drewN HB.out _⟩
            have h1':w1.cell? ⟨(ad.add (k*2)).block,(ad.add (k*2)).off+1,none⟩=some (.string x.f1):=hw1 ▸ h1
            have i1':w1.cell? ⟨(bd.add (k*2)).block,(bd.add (k*2)).off+1,none⟩=some (.string y.f1):=hw1 ▸ i1
            clear hw1
            go_quiet ((go_at_call 86;exact Calls.quiet_of_same (texts.calls _ _ _)))
            go_wp2
            go_ret
            exact ⟨by rw [HV.out];rfl,pw_below_drewN HW1.out _⟩
          | false =>
            have hy:txt x.f1 y.f1=0:=by simpa using hd
            have HV:Aside0 (cmpL a b=cmpL (a.drop (k+1)) (b.drop (k+1))):=⟨by
              rw [HE.out,HST.out,cmpX,cmpOr,cmpOr,hz,hy,if_neg (show ¬ (0:Int) ≠ 0 by simp),if_neg (show ¬ (0:Int) ≠ 0 by simp)]⟩
            clear hz hy
            go_wp2_with fail
            go_quiet ((go_at_call 86;exact Calls.quiet_of_same (texts.calls _ _ _)))
            go_wp2_with fail
            generalize hw1:wr.drewN nq=w1
            have HW1:Aside0 (Below w.heap.size w w1):=⟨hw1 ▸ pw_below_drewN HB.out _⟩
            have h1':w1.cell? ⟨(ad.add (k*2)).block,(ad.add (k*2)).off+1,none⟩=some (.string x.f1):=hw1 ▸ h1
            have i1':w1.cell? ⟨(bd.add (k*2)).block,(bd.add (k*2)).off+1,none⟩=some (.string y.f1):=hw1 ▸ i1
            clear hw1
            go_quiet ((go_at_call 86;exact Calls.quiet_of_same (texts.calls _ _ _)))
            go_wp2
            go_roundw
            case rel => exact ⟨k+1,by omega,by go_num,HV,⟨pw_below_drewN HW1.out _⟩⟩
            case measure => simp [intOf];omega
      · obtain rfl:k=b.length:=by omega
        have hqm:=HQ.out
        by_cases hlt2:a.length<b.length
        · have HV:Aside0 (cmpL a b = -1):=⟨by rw [HE.out,cmpL_lt a b _ (by omega) (by omega)]⟩
          have hge:decide (a.length<b.length)=true:=decide_eq_true (by omega)
          clear hqm hlt2
          go_wp2
          go_ret
          exact ⟨by rw [HV.out];rfl,HB.out⟩
        · by_cases hlt3:b.length<a.length
          · have HV:Aside0 (cmpL a b=1):=⟨by rw [HE.out,cmpL_gt a b _ (by omega) (by omega)]⟩
            have hge:decide (a.length<b.length)=false:=decide_eq_false (by omega)
            have hge2:decide (b.length<a.length)=true:=decide_eq_true (by omega)
            clear hqm hlt2 hlt3
            go_wp2
            go_ret
            first | exact ⟨by rw [HV.out];rfl,HB.out⟩ | exact absurd hba (of_decide_eq_false hge2) | exact absurd (of_decide_eq_true hge2) hba
          · have HV:Aside0 (cmpL a b=0):=⟨by rw [HE.out,cmpL_eq a b _ (by omega) (by omega)]⟩
            have hge:decide (a.length<b.length)=false:=decide_eq_false (by omega)
            have hge2:decide (b.length<a.length)=false:=decide_eq_false (by omega)
            clear hqm hlt2 hlt3
            go_wp2
            go_ret
            first | exact ⟨by rw [HV.out];rfl,HB.out⟩ | exact absurd hba (of_decide_eq_false hge2) | exact absurd (of_decide_eq_true hge2) hba
  · have HQ : Aside0 (a.length = min a.length b.length) := ⟨by omega⟩
    have hqa:a.length≤a.length:=by omega
    have hqb:a.length≤b.length:=by omega
    go_enter Tryz.func50,Tryz.ntmps50
    go_wp2
    go_loopw [13] (fun j wr => ∃ k:Nat,k≤a.length∧j = .int .i64 k∧Aside0 (cmpL a b=cmpL (a.drop k) (b.drop k))∧Aside0 (Below w.heap.size w wr)) (fun j _ => a.length - (intOf j).toNat)
    case atStart => exact ⟨0,Nat.zero_le _,rfl,⟨rfl⟩,⟨Below.refl _ _⟩⟩
    case round =>
      obtain ⟨k,hk,rfl,HE,HB⟩:=hrel
      by_cases hlt:k<a.length
      · obtain ⟨ad,rfl,h0,h1⟩:=at_T68 (Kd.C_below HR.out HB.out) (k:Int) (by omega) (by omega)
        rw [Int.toNat_natCast] at h0 h1
        obtain ⟨bd,rfl,i0,i1⟩:=at_T68 (Kd.C_below HS.out HB.out) (k:Int) (by omega) (by omega)
        rw [Int.toNat_natCast] at i0 i1
        have HST:=Aside0.mk (cmpL_step a b k (by omega) (by omega))
        have k0:(0:Int)≤(k:Int):=by omega
        have k1:(k:Int)<(a.length:Int):=by omega
        have k2:(k:Int)<(b.length:Int):=by omega
        have k3:(k:Int)<(a.length:Int):=by omega
        generalize rd_T68 a (k:Int)=x at *
        generalize rd_T68 b (k:Int)=y at *
        cases hc:(txt x.f0 y.f0 != 0) with
        | true =>
          have HV:Aside0 (cmpL a b=txt x.f0 y.f0):=⟨by
            have h_:txt x.f0 y.f0 ≠ 0:=bne_iff_ne.1 hc
            rw [HE.out,HST.out,cmpX,cmpOr,cmpOr,if_pos h_,if_pos h_]⟩
          go_wp2_with fail
          go_quiet ((go_at_call 86;exact Calls.quiet_of_same (texts.calls _ _ _)))
          go_wp2
          go_ret
          exact ⟨by rw [HV.out];rfl,pw_below_drewN HB.out _⟩
        | false =>
          have hz:txt x.f0 y.f0=0:=by simpa using hc
          cases hd:(txt x.f1 y.f1 != 0) with
          | true =>
            have HV:Aside0 (cmpL a b=txt x.f1 y.f1):=⟨by
              have h_:txt x.f1 y.f1 ≠ 0:=bne_iff_ne.1 hd
              rw [HE.out,HST.out,cmpX,cmpOr,cmpOr,hz,if_neg (show ¬ (0:Int) ≠ 0 by simp),if_pos h_]⟩
            clear hz
            go_wp2_with fail
            go_quiet ((go_at_call 86;exact Calls.quiet_of_same (texts.calls _ _ _)))
            go_wp2_with fail
            generalize hw1:wr.drewN nq=w1
            have HW1:Aside0 (Below w.heap.size w w1):=⟨hw1 ▸ pw_below_drewN HB.out _⟩
            have h1':w1.cell? ⟨(ad.add (k*2)).block,(ad.add (k*2)).off+1,none⟩=some (.string x.f1):=hw1 ▸ h1
            have i1':w1.cell? ⟨(bd.add (k*2)).block,(bd.add (k*2)).off+1,none⟩=some (.string y.f1):=hw1 ▸ i1
            clear hw1
            go_quiet ((go_at_call 86;exact Calls.quiet_of_same (texts.calls _ _ _)))
            go_wp2
            go_ret
            exact ⟨by rw [HV.out];rfl,pw_below_drewN HW1.out _⟩
          | false =>
            have hy:txt x.f1 y.f1=0:=by simpa using hd
            have HV:Aside0 (cmpL a b=cmpL (a.drop (k+1)) (b.drop (k+1))):=⟨by
              rw [HE.out,HST.out,cmpX,cmpOr,cmpOr,hz,hy,if_neg (show ¬ (0:Int) ≠ 0 by simp),if_neg (show ¬ (0:Int) ≠ 0 by simp)]⟩
            clear hz hy
            go_wp2_with fail
            go_quiet ((go_at_call 86;exact Calls.quiet_of_same (texts.calls _ _ _)))
            go_wp2_with fail
            generalize hw1:wr.drewN nq=w1
            have HW1:Aside0 (Below w.heap.size w w1):=⟨hw1 ▸ pw_below_drewN HB.out _⟩
            have h1':w1.cell? ⟨(ad.add (k*2)).block,(ad.add (k*2)).off+1,none⟩=some (.string x.f1):=hw1 ▸ h1
            have i1':w1.cell? ⟨(bd.add (k*2)).block,(bd.add (k*2)).off+1,none⟩=some (.string y.f1):=hw1 ▸ i1
            clear hw1
            go_quiet ((go_at_call 86;exact Calls.quiet_of_same (texts.calls _ _ _)))
            go_wp2
            go_roundw
            case rel => exact ⟨k+1,by omega,by go_num,HV,⟨pw_below_drewN HW1.out _⟩⟩
            case measure => simp [intOf];omega
      · obtain rfl:k=a.length:=by omega
        have hqm:=HQ.out
        by_cases hlt2:a.length<b.length
        · have HV:Aside0 (cmpL a b = -1):=⟨by rw [HE.out,cmpL_lt a b _ (by omega) (by omega)]⟩
          have hge:decide (a.length<b.length)=true:=decide_eq_true (by omega)
          clear hqm hlt2
          go_wp2
          go_ret
          exact ⟨by rw [HV.out];rfl,HB.out⟩
        · by_cases hlt3:b.length<a.length
          · have HV:Aside0 (cmpL a b=1):=⟨by rw [HE.out,cmpL_gt a b _ (by omega) (by omega)]⟩
            have hge:decide (a.length<b.length)=false:=decide_eq_false (by omega)
            have hge2:decide (b.length<a.length)=true:=decide_eq_true (by omega)
            clear hqm hlt2 hlt3
            go_wp2
            go_ret
            first | exact ⟨by rw [HV.out];rfl,HB.out⟩ | exact absurd hba (of_decide_eq_false hge2) | exact absurd (of_decide_eq_true hge2) hba
          · have HV:Aside0 (cmpL a b=0):=⟨by rw [HE.out,cmpL_eq a b _ (by omega) (by omega)]⟩
            have hge:decide (a.length<b.length)=false:=decide_eq_false (by omega)
            have hge2:decide (b.length<a.length)=false:=decide_eq_false (by omega)
            clear hqm hlt2 hlt3
            go_wp2
            go_ret
            first | exact ⟨by rw [HV.out];rfl,HB.out⟩ | exact absurd hba (of_decide_eq_false hge2) | exact absurd (of_decide_eq_true hge2) hba
def OU (B:Nat) (W:World) (g:Nat) (L:List Bool):Prop:=∃ u:Value,W.heap[g]? = some (.cells #[u] 137 (0,0))∧Kd.R Kd.bool 4 W B (fun _ => True) u L
def KeepO (g:Nat) (w w':World):Prop:=∀ (q:Nat) (cs:Array Value) (t:Nat),q ≠ g→4 ≠ t→w.heap[q]? = some (.cells cs t (0,0))→w'.heap[q]? = some (.cells cs t (0,0))
theorem KeepO.refl (g:Nat) (w:World):KeepO g w w:=fun _ _ _ _ _ h => h
theorem KeepO.trans {g:Nat} {a b c:World} (h:KeepO g a b) (k:KeepO g b c):KeepO g a c:=fun q cs t h1 h2 h3 => k q cs t h1 h2 (h q cs t h1 h2 h3)
theorem infoBool:(Tryz.prog.info? 4).map (fun i => (i.zero,i.size,i.bytes))=some (some (.bool false),1,1):=by kernel_rfl
theorem and_one (v i:Nat) (hv:v<18446744073709551616) (hi:i≤64):(Go.bits .and .u64 ((v:Int) / 2 ^ i) 1 == 1)=v.testBit i:=by
  have:=one_bit v i hv hi
  rw [shr_nat .u64 v i (by simpa [IntKind.bits] using hi)] at this
  rw [← this]
  simp
theorem out_put.calls (B g:Nat) (L:List Bool) (v c:Nat) (w0 w:World) (hO:OU B w g L) (hB:Below B w0 w) (hgB:B≤g) (hv:v<18446744073709551616) (hc:c≤64) (hL:L.length≤7000000) :
    Calls Tryz.prog 81 #[.pointer (some ⟨g,0,none⟩),.int .u64 (v:Int),.int .i64 (c:Int)] w fun e w' => e = .returned (.tuple #[])∧OU B w' g (L++low v c)∧Below B w0 w'∧KeepO g w w':=by
  obtain ⟨u,hblk,hR⟩:=hO
  have HB0:=Aside0.mk hB
  have HBK0:=Aside0.mk hblk
  have HR0:=Aside0.mk hR
  have HGB:=Aside0.mk hgB
  have HV:=Aside0.mk hv
  have HL:=Aside0.mk hL
  have hcn:(0:Int)≤(c:Int):=Int.natCast_nonneg _
  clear hB hblk hR hgB hv hL
  go_enter Tryz.func81,Tryz.ntmps81
  go_wp2_with fail
  go_loopw [6] (fun v6 wr => ∃ (I:Int) (j:Nat) (u:Value),v6 = .int .i64 I∧Aside0 (I=(c:Int) - 1 - (j:Int)∧j≤c)∧Aside0 (Kd.R Kd.bool 4 wr B (fun _ => True) u (L++(low v c).take j))∧Aside0 (wr.heap[g]? = some (.cells #[u] 137 (0,0)))∧Aside0 (Below B w0 wr)∧Aside0 (KeepO g w wr)) (fun i _ => (intOf i+1).toNat)
  case atStart => exact ⟨_,0,u,rfl,⟨by omega,by omega⟩,⟨by simpa using HR0.out⟩,HBK0,HB0,⟨KeepO.refl _ _⟩⟩
  case round =>
    clear HBK0 HB0 HR0
    obtain ⟨I,j,u,rfl,HI,HO,BK,HB,HK⟩:=hrel
    by_cases hlt:0≤I
    · obtain ⟨i,rfl⟩:=Int.eq_ofNat_of_zero_le hlt
      have hi:=HI.out
      have hi64:i<64:=by omega
      have hz0:wr.cell? ⟨g,0,none⟩=some u:=blk_cell BK.out 0
      have hf0:=blk_frozen BK.out 0
      have HB1:=Aside0.mk (and_one v i HV.out (by omega))
      have HST:Aside0 (L++(low v c).take (j+1)=L++(low v c).take j ++ [v.testBit i] ∧ (L++(low v c).take j).length≤8000000):=⟨by
        have hj:j<(low v c).length:=by rw [low_length];omega
        rw [List.take_succ_eq_append_getElem hj,low_get v c j (by omega),show c - 1 - j=i by omega,List.append_assoc]
        refine ⟨rfl,?_⟩
        rw [List.length_append,List.length_take,low_length]
        have:=HL.out
        omega⟩
      generalize L++(low v c).take j=X at HO HST
      obtain ⟨A,cc,rfl⟩:=Kd.R_slice HO.out
      have hbit:=HB1.out
      clear hlt hi
      go_wp2_with fail
      have HO2:=Aside0.mk (Kd.R_drew HO.out)
      have BK2:=Aside0.mk (blk_drew BK.out)
      have HB2:=Aside0.mk (below_drew1 HB.out)
      have hz3:(wr.alloc (.cells #[.bool (v.testBit i)] 4)).cell? ⟨g,0,none⟩=some (.slice A X.length cc):=pw_cell_below (below_alloc (Below.refl _ _) _) hz0
      go_region_law
        ((refine Kd.R_append_step Kd.bool (w0:=w0) (W:=wr.drew) B ?_ (.tmp 17) (.tmp 23) 135 4 (.bool false) 1 ?_ Tryz.underlying135 infoBool rfl (by decide) (by omega) (.slice A X.length cc) X (v.testBit i) [.bool (v.testBit i)] (fun _ => True) (fun _ => False) ?_ ?_ ?_ (fun _ hk => hk.elim) (fun _ _ => trivial) HO2.out HB2.out ?_ ?_ ?_
          · rfl
          · rfl
          · rfl
          · rfl
          · exact rfl
          · have h_:=HGB.out;have h2_:=blk_lt BK2.out;omega
          · have:=HST.out.2;omega
          intro v4 w4 ho hb hg hat
          obtain ⟨A4,c4,rfl⟩:=Kd.R_slice ho
          have BK4:=Aside0.mk (blk_grown (g:=g) BK2.out hg (Kd.R_ne HO2.out BK2.out (by decide)))
          have HO4:=Aside0.mk ho
          have HB4:=Aside0.mk hb
          have HG4:=Aside0.mk hg
          have hz4:=(blk_cell BK4.out 0).trans rfl
          have hf4:=blk_frozen BK4.out 0
          clear ho hb hg hat))
      all_goals
        go_wp2_with fail
        go_roundw
        case rel =>
          have hl:(X ++ [v.testBit i]).length=X.length+1:=by simp
          have HO5:=HO4.out
          rw [hl] at HO5
          refine ⟨_,j+1,.slice A4 (X.length+1) c4,rfl,⟨by have:=HI.out;omega⟩,⟨?_⟩,⟨blk_put BK4.out 0 _ rfl⟩,⟨HB4.out.setCell (p:=⟨g,0,none⟩) HGB.out _⟩,⟨fun q cs t hq ht hh => ?_⟩⟩
          · rw [HST.out.1]
            exact Kd.R_mono (Kd.R_far (p:=⟨g,0,none⟩) (Kd.R_types HO5 BK4.out (by decide)) (fun _ hk => hk.2) _) (fun _ _ => trivial)
          · have h1:=HK.out q cs t hq ht hh
            exact blk_far (p:=⟨g,0,none⟩) (blk_grown (blk_drew h1) HG4.out (Kd.R_ne HO2.out (blk_drew h1) ht)) hq _
        case measure => simp [intOf] <;> omega
    · have hd:decide (0≤I)=false:=decide_eq_false hlt
      have HJ:Aside0 (j=c):=⟨by have:=HI.out;omega⟩
      clear hlt
      go_wp2_with fail
      refine bodyPost_end (results_none rfl _ _ _) rfl ?_
      refine ⟨rfl,⟨u,BK.out,?_⟩,HB.out,HK.out⟩
      have:=HO.out
      rwa [HJ.out,List.take_of_length_le (by rw [low_length];omega)] at this
def UP (W:World) (g:Nat) (A:Option Addr) (n c:Nat) (N p:Int) (bad:Bool):Prop:=W.heap[g]? = some (.cells #[.slice A n c,.int .i64 N,.int .i64 p,.bool bad] 201 (0,0))
noncomputable def unT (l:List Int) (N:Int) (s:Int × Bool) (c:Int):Int × Int × Bool:=((takeR l N s.1 c).1,wrap64 (s.1+c),s.2 || (takeR l N s.1 c).2 != 0)
noncomputable def unN (l:List Int) (N:Int) (s:Int × Bool):Int × Int × Bool:=((takeI l N s.1).1,(takeI l N s.1).2.1,s.2 || (takeI l N s.1).2.2 != 0)
theorem unpack_take.calls (g:Nat) (A:Option Addr) (c:Nat) (l:List Int) (N p k:Int) (bad:Bool) (w0 w:World) (hU:UP w g A l.length c N p bad) (hr:Kd.C (Kd.int .u8) w0 A l.length l) (hc:l.length≤c) (hB:Below w0.heap.size w0 w) (hg:w0.heap.size≤g)
    (hl:OkL l) (hn:l.length≤1000000) (hN:-9223372036854775808≤N∧N≤9223372036854775807) :
    Calls Tryz.prog 150 #[.pointer (some ⟨g,0,none⟩),.int .i64 k] w fun e w' => e = .returned (.int .u64 (unT l N (p,bad) k).1)∧UP w' g A l.length c N (unT l N (p,bad) k).2.1 (unT l N (p,bad) k).2.2∧Below w0.heap.size w0 w'∧KeepBut w w' g none:=by
  obtain ⟨r,e,hre⟩:∃ r e,takeR l N p k=(r,e):=⟨_,_,rfl⟩
  have HF:Aside0 (bits_Take.f 100 l N p k=some (r,e)):=⟨by rw [btake_eq hl (by omega) N p k hN.1 hN.2 100 (by decide),hre]⟩
  simp only [unT,hre]
  have HB:=Aside0.mk hB
  have HC:=Aside0.mk hc
  have HR:=Aside0.mk hr
  have HU:=Aside0.mk hU
  have HG:=Aside0.mk hg
  have u0:w.cell? ⟨g,0,none⟩=some (.slice A l.length c):=(blk_cell hU 0).trans rfl
  have u1:w.cell? ⟨g,1,none⟩=some (.int .i64 N):=(blk_cell hU 1).trans rfl
  have u2:w.cell? ⟨g,2,none⟩=some (.int .i64 p):=(blk_cell hU 2).trans rfl
  have hu44:=Tryz.underlying149
  clear hB hc hr hU hg hl hn hN hre
  go_enter Tryz.func150,Tryz.ntmps150
  go_wp2
  go_cut [5,6] (fun v5 v6 wx => v5 = .int .u64 r∧v6 = .int .i64 e∧Aside0 (Below w.heap.size w wx))
  case first =>
    go_region_with (go_at_call 156;(refine (bits_Take.calls 100 A c l N p k r e _ ?s1 HC.out HF.out).mono ?_);(case s1 => exact Kd.C_drew (Kd.C_below HR.out HB.out));rintro e_ wx ⟨rfl,hb⟩;have HX:=Aside0.mk hb;clear hb)
    all_goals (go_wp2_with fail;go_meet;exact ⟨rfl,rfl,⟨below_then (below_drew1 (Below.refl _ _)) (by simp) HX.out⟩⟩)
  case rest =>
    obtain ⟨rfl,rfl,HX⟩:=hcut
    have HU2:=Aside0.mk (blk_below HU.out HX.out)
    clear u0 u1 u2
    have u2:wc.cell? ⟨g,2,none⟩=some (.int .i64 p):=(blk_cell HU2.out 2).trans rfl
    have u3:wc.cell? ⟨g,3,none⟩=some (.bool bad):=(blk_cell HU2.out 3).trans rfl
    have f2:=blk_frozen HU2.out 2
    have f3:=blk_frozen HU2.out 3
    cases bad <;>
    · go_wp2
      go_ret
      refine ⟨rfl,?_,((below_step HB.out HX.out).setCell (p:=⟨g,3,none⟩) HG.out _).setCell (p:=⟨g,2,none⟩) HG.out _,((KeepBut.of_below HX.out g none).set_ 3 _).set_ 2 _⟩
      first
        | exact blk_put (blk_put HU2.out 3 _ rfl) 2 _ rfl
        | (refine (blk_put (blk_put HU2.out 3 _ rfl) 2 _ rfl).trans ?_;simp;trace_state)
theorem unpack_number.calls (g:Nat) (A:Option Addr) (c:Nat) (l:List Int) (N p:Int) (bad:Bool) (w0 w:World) (hU:UP w g A l.length c N p bad) (hr:Kd.C (Kd.int .u8) w0 A l.length l) (hc:l.length≤c) (hB:Below w0.heap.size w0 w) (hg:w0.heap.size≤g)
    (hl:OkL l) (hn:l.length≤1000000) (hN:-9223372036854775808≤N∧N≤9223372036854775807) :
    Calls Tryz.prog 151 #[.pointer (some ⟨g,0,none⟩)] w fun e w' => e = .returned (.int .i64 (unN l N (p,bad)).1)∧UP w' g A l.length c N (unN l N (p,bad)).2.1 (unN l N (p,bad)).2.2∧Below w0.heap.size w0 w'∧KeepBut w w' g none:=by
  obtain ⟨r,q,e,hre⟩:∃ r q e,takeI l N p=(r,q,e):=⟨_,_,_,rfl⟩
  have HF:Aside0 (bits_TakeInt.f 200 l N p=some (r,q,e)):=⟨by rw [takeInt_eq hl hn N p hN.1 hN.2 200 (by decide),hre]⟩
  simp only [unN,hre]
  have HB:=Aside0.mk hB
  have HC:=Aside0.mk hc
  have HR:=Aside0.mk hr
  have HU:=Aside0.mk hU
  have HG:=Aside0.mk hg
  have u0:w.cell? ⟨g,0,none⟩=some (.slice A l.length c):=(blk_cell hU 0).trans rfl
  have u1:w.cell? ⟨g,1,none⟩=some (.int .i64 N):=(blk_cell hU 1).trans rfl
  have u2:w.cell? ⟨g,2,none⟩=some (.int .i64 p):=(blk_cell hU 2).trans rfl
  have hu44:=Tryz.underlying149
  clear hB hc hr hU hg hl hn hN hre
  go_enter Tryz.func151,Tryz.ntmps151
  go_wp2
  go_cut [3,4,5] (fun v3 v4 v5 wx => v3 = .int .i64 r∧v4 = .int .i64 q∧v5 = .int .i64 e∧Aside0 (Below w.heap.size w wx))
  case first =>
    go_region_with (go_at_call 157;(refine (bits_TakeInt.calls 200 A c l N p r q e _ ?s1 HC.out HF.out).mono ?_);(case s1 => exact Kd.C_drew (Kd.C_below HR.out HB.out));rintro e_ wx ⟨rfl,hb⟩;have HX:=Aside0.mk hb;clear hb)
    all_goals (go_wp2_with fail;go_meet;exact ⟨rfl,rfl,rfl,⟨below_then (below_drew1 (Below.refl _ _)) (by simp) HX.out⟩⟩)
  case rest =>
    obtain ⟨rfl,rfl,rfl,HX⟩:=hcut
    have HU2:=Aside0.mk (blk_below HU.out HX.out)
    clear u0 u1 u2
    have u2:wc.cell? ⟨g,2,none⟩=some (.int .i64 p):=(blk_cell HU2.out 2).trans rfl
    have u3:wc.cell? ⟨g,3,none⟩=some (.bool bad):=(blk_cell HU2.out 3).trans rfl
    have f2:=blk_frozen HU2.out 2
    have f3:=blk_frozen HU2.out 3
    cases bad <;>
    · go_wp2
      go_ret
      refine ⟨rfl,?_,((below_step HB.out HX.out).setCell (p:=⟨g,3,none⟩) HG.out _).setCell (p:=⟨g,2,none⟩) HG.out _,((KeepBut.of_below HX.out g none).set_ 3 _).set_ 2 _⟩
      first
        | exact blk_put (blk_put HU2.out 3 _ rfl) 2 _ rfl
        | (refine (blk_put (blk_put HU2.out 3 _ rfl) 2 _ rfl).trans ?_;simp;trace_state)
end Go.Proofs.YtcgbgifbajdhpaaGreatDoor.PA
