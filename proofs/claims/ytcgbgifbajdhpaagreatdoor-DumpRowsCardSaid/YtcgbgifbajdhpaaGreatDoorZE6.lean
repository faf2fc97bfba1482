/- Lemmas and contracts that the law DumpRows leans on (packed by a program of this session out of its texts and the print's words). -/
import Derived.Test.YtcgbgifbajdhpaaGreatDoorZE5
import Derived.Deep.DeepCutAuto
import Derived.Test.YtcgbgifbajdhpaaGreatDoorZE3
import Derived.Deep.DeepMust
import Derived.Laws.RangeAny
import Derived.RangeFuncNested
import Derived.RangeFuncBound
import Derived.RangeFuncCalls
import Derived.RangeFuncLeaves
import Derived.Shelf.Abstract
import Derived.Shelf.RegionOpen
import Derived.WalkKit
import Derived.OwnWalkIn
import Derived.TacticsInMore
import Derived.LoopNIn
import Derived.LoopIn
import Derived.Lib.QuietBelowIn
import Derived.OrdersHeld
import Derived.StillTailTactics
import Derived.OrdersIn
import Derived.RangeFuncKeeps
import Derived.Tactics2
import Derived.RegionTactic
import Derived.Laws.Cover1
import Derived.Test.YtcgbgifbajdhpaaGreatDoorZE4
import Derived.Deep.RegionLaw
set_option linter.unusedVariables false
set_option linter.unusedSimpArgs false
set_option maxHeartbeats 16000000
set_option maxRecDepth 1000000
namespace Go.Proofs.YtcgbgifbajdhpaaGreatDoor.PA
open Go.RowKit Go.Proofs.YtcgbgifbajdhpaaGreatDoor.G Go.Proofs.YtcgbgifbajdhpaaGreatDoorW.au Go.Proofs.YtcgbgifbajdhpaaGreatDoorW.aI Go.Proofs.YtcgbgifbajdhpaaGreatDoorW.aJ
theorem Mi {w w':World} {base:Nat} {ok:Nat→Prop} {x:bN} {cs:List Value} (h:jg.K w x cs):jg.M w' base ok x cs:=by
 rw[CG h]
 exact uU _ _ _ x
theorem Cq (l:List cB) (k:Nat) (hk:k<l.length):dY (l.take (k+1))=stepG (dY (l.take k)) (aK l (k:Int)):=by
 rw[List.take_succ_eq_append_getElem hk,qG,dZ hk]
theorem Dm:∀ {w:World} {base:Nat} {ok:Nat→Prop} (l:List bN) (inner:List Value),cO (jg.M w base ok) 2 l inner→inner=lq l
 | _,_,_,[],inner,h=>List.eq_nil_of_length_eq_zero (by simpa using h.1)
 | w,base,ok,x::l,inner,h=>by
   have h0:=h.2 0 x rfl
   rw[Nat.zero_mul,List.drop_zero] at h0
   have ih:=Dm (w:=w) (base:=base) (ok:=ok) l (inner.drop 2) ⟨by rw[List.length_drop,h.1,List.length_cons];omega,fun j p hj=>by
    have:=h.2 (j+1) p (by simpa using hj)
    rw[List.drop_drop]
    rwa [show (j+1)*2=2+j*2 from by omega] at this⟩
   rw[pX,← ih,← List.take_append_drop 2 inner,G9 h0]
   rfl
theorem Dq {w:World} {base:Nat} {ok:Nat→Prop}:∀ (l:List bN),cO (jg.M w base ok) 2 l (lq l)
 | []=>cO.none _ _
 | x::l=>cO.front (R:=jg.M w base ok) (c:=[.int .i64 x.f0,.int .u64 x.f1]) (uU w base ok x) rfl (Dq l) rfl
theorem Oz {w:World} {base:Nat} {v:Value} {l:List bN} (h:RS w base v l):w.ownsRow base 70 2 v l.length (lq l):=by
 obtain⟨_,inner,ho,hr⟩:=h
 rw[← Dm l inner hr]
 exact ho
theorem Ou {w:World} {base:Nat} {v:Value} {l:List bN} (h:w.ownsRow base 70 2 v l.length (lq l)):RS w base v l:=⟨fun _ _=>trivial,lq l,h,Dq l⟩
def Qn (x:cB):cB:=⟨x.f0,jd x.f1⟩
def Eu (G:List cB) (j:Nat):List cB:=(G.take j).map Qn++G.drop j
theorem Mq (G:List cB) (j:Nat) (h:j<G.length):(Eu G j)[j]? = some G[j]:=by
 unfold Eu
 rw[List.getElem?_append_right (by simp;omega)]
 simp
 rw[Nat.min_eq_left (by omega),Nat.sub_self,Nat.add_zero,List.getElem?_eq_getElem h]
theorem J7 (G:List cB) (j:Nat) (h:j<G.length):(Eu G j).set j (Qn G[j])=Eu G (j+1):=by
 unfold Eu
 rw[List.set_append_right _ _ (by simp;omega),List.take_succ_eq_append_getElem h,List.map_append]
 simp[Nat.min_eq_left (Nat.le_of_lt h)]
 rw[List.drop_eq_getElem_cons h]
 rfl
theorem join.calls (A:Option Addr) (c n:Nat) (l:List cB) (w:World) (hn:l.length=n) (hr:Kd.C mK w A n l) (hlen:n≤100000) (htot:tot l≤1000000) (hlab:∀ x∈l,x.f0.length≤1000000) :
 Calls Tryz.prog 36 #[.slice A n c] w fun e w'=>∃ (A':Option Addr) (c':Nat),e = .returned (.slice A' (joinL l).length c')∧(joinL l).length≤c'∧Kd.C mK w' A' (joinL l).length (joinL l)∧Below w.heap.size w w':=by
 subst hn
 have mixed:Tryz.prog.follows .mixedOrders=true:=by kernel_rfl
 have HR:=ah.mk hr
 have HT:=ah.mk htot
 have HLAB:=ah.mk hlab
 clear hr htot hlab
 go_enter Tryz.func36,Tryz.ntmps36
 go_wp2
 go_loopg [3,11] l.length (fun kx s3 s11 wr=>∃ (k:Nat) (v:Value) (rs:List Rec),s11 = .int .i64 k∧s3=v∧k≤l.length∧l.length-k≤kx∧ah (Lay wr w.heap.size v rs)∧ah (rs.map (·.x)=dY (l.take k))∧ah (Below w.heap.size w wr))
 case atStart=>exact⟨0,_,[],rfl,rfl,Nat.zero_le _,by omega,⟨Lay.nil _ _⟩,⟨rfl⟩,⟨Below.refl _ _⟩⟩
 case round=>
  obtain⟨k,v,rs,rfl,rfl,hk,hkx,HL,HM,HB⟩:=hrel
  by_cases hlt:k<l.length
  ·obtain⟨ad,A0,c0,A1,c1,rfl,x0,x1,l0,g0,l1,g1⟩:=iR HR.o (k:Int) (by omega) (by omega)
   rw[Int.toNat_natCast] at x0 x1
   replace x0:=aV HB.o x0
   replace x1:=aV HB.o x1
   have hkz:(k:Int)<(l.length:Int):=by omega
   have HGT:=ah.mk (Cq l k hlt)
   have HSL:ah ((aK l (k:Int)).f0.length≤1000000∧tot (l.take k)+(aK l (k:Int)).f1.length≤1000000):=⟨by
    rw[dZ hlt]
    refine⟨HLAB.o _ (List.getElem_mem hlt),?_⟩
    have h1:=lM l (k+1)
    rw[List.take_succ_eq_append_getElem hlt,q9] at h1
    exact Nat.le_trans h1 HT.o⟩
   have HGL:=ah.mk (pY l k hk)
   have G0:=ah.mk g0
   have G1:=ah.mk g1
   have L0C:=ah.mk l0
   clear l0 g0 l1 g1
   generalize hs:aK l (k:Int)=s at *
   have HS:=ah.mk hs
   clear hs
   by_cases hz:s.f1.length=0
   ·have HZ:=ah.mk hz
    have hzb:((s.f1.length:Int)==0)=true:=by rw[hz];rfl
    have hzz:(s.f1.length:Int)=0:=by omega
    clear hz
    have HL1:=ah.mk (HL.o.below (aj (Below.refl _ _) (.cells #[.slice A0 s.f0.length c0,.slice A1 s.f1.length c1] 51 (0,0))))
    have HB1:=ah.mk (aj HB.o (.cells #[.slice A0 s.f0.length c0,.slice A1 s.f1.length c1] 51 (0,0)))
    generalize s.f0.length=L0 at x0 HL1 HB1
    generalize s.f1.length=L1 at x1 HL1 HB1 hzb hzz
    go_wp2
    go_roundg (l.length-(k+1))
    case measure=>omega
    case rel=>exact⟨k+1,_,rs,by go_num,rfl,by omega,Nat.le_refl _,HL1,⟨by rw[HM.o,HGT.o,stepG,if_pos HZ.o]⟩,HB1⟩
   ·have HZ:=ah.mk hz
    have hzb:((s.f1.length:Int)==0)=false:=beq_eq_false_iff_ne.2 (by omega)
    have hzz:¬ (s.f1.length:Int)=0:=by omega
    clear hz
    have HL1:=ah.mk (HL.o.below (aj (Below.refl _ _) (.cells #[.slice A0 s.f0.length c0,.slice A1 s.f1.length c1] 51 (0,0))))
    have HB1:=ah.mk (aj HB.o (.cells #[.slice A0 s.f0.length c0,.slice A1 s.f1.length c1] 51 (0,0)))
    have HX1:=ah.mk (bI wr (.cells #[.slice A0 s.f0.length c0,.slice A1 s.f1.length c1] 51 (0,0)))
    have HNB:ah (some wr.heap.size≠u3.ownBlock):=⟨fun e=>by have:=Kd.Lx HL.o.1 _ e.symm;omega⟩
    have HBX:=ah.mk (show w.heap.size≤wr.heap.size from HB.o.size)
    have HF0:ah (s.f0.length=s.f0.length):=⟨rfl⟩
    generalize hL0:s.f0.length=L0 at x0 HL1 HB1 HX1 G0
    generalize hL1:s.f1.length=L1 at x1 HL1 HB1 HX1 G1 hzb hzz
    have HL0:=ah.mk hL0
    have HLL1:=ah.mk hL1
    clear hL0 hL1
    go_upto_region 6 with (fail)
    clear HL HB x0 x1
    generalize wr.alloc (.cells #[.slice A0 L0 c0,.slice A1 L1 c1] 51 (0,0))=W1 at HL1 HB1 HX1 ⊢
    generalize wr.heap.size=bx at *
    have y0:=av HX1.o 0
    have y1:=av HX1.o 1
    obtain⟨Av,cv,rfl,hcv,hC⟩:=HL1.o.reads
    have HBS:=ah.mk (binSearch.calls Av A0 cv c0 rs.length L0 (rs.map (·.x)) s.f0 W1 (by rw[List.length_map]) HL0.o hC (Kd.aH G0.o HB1.o) (by rw[HM.o];exact Bj _) (fun x hx=>by
     rw[HM.o] at hx
     obtain⟨q,hq,he⟩:=Em _ x hx
     rw[he]
     exact HLAB.o q (List.mem_of_mem_take hq)) (by have:=HGL.o.1;rw[← HM.o,List.length_map] at this;omega))
    have HFB:ah ((decide (posB (rs.map (·.x)) s.f0<rs.length)&&decide (cmpL (aK (rs.map (·.x)) (posB (rs.map (·.x)) s.f0:Int)).f0 s.f0=0))=wB (rs.map (·.x)) s.f0):=⟨by unfold wB;rw[List.length_map]⟩
    have HIL:ah (posB (rs.map (·.x)) s.f0≤rs.length):=⟨by have:=qR (rs.map (·.x)) s.f0;rwa [List.length_map] at this⟩
    rw[HFB.o] at HBS
    generalize hi:posB (rs.map (·.x)) s.f0=i at HBS HIL
    generalize hfb:wB (rs.map (·.x)) s.f0=fb at HBS
    have HI:=ah.mk hi
    have HFBV:=ah.mk hfb
    clear hi hfb hC hcv HFB
    go_upto_if 27 with (first|(go_at_call 69;(with_reducible refine HBS.o.mono ?_);rintro e w2 ⟨rfl,hb⟩;have HB2:=ah.mk hb;clear hb))
    have HL2:=ah.mk (HL1.o.below HB2.o)
    have HX2:=ah.mk (aG HX1.o HB2.o)
    have HB2':=ah.mk (ak HB1.o HB2.o)
    clear HL1 HX1 HBS y0 y1
    have y0:=av HX2.o 0
    have y1:=av HX2.o 1
    go_cut [3] (fun v3 wx=>∃ rs3:List Rec,ah (Lay wx w.heap.size v3 rs3)∧ah (rs3.map (·.x)=lV (rs.map (·.x)) s.f0)∧ah (Below w.heap.size w wx)∧ah (wx.heap[bx]? = some (.cells #[.slice A0 L0 c0,.slice A1 L1 c1] 51 (0,0))))
    case first=>
     cases fb with
     | true=>
       go_wp2_with fail
       go_meet
       exact⟨rs,HL2,⟨by rw[lV,if_pos HFBV.o]⟩,HB2',HX2⟩
     | false=>
       have CL:=ah.mk (IK.calls A0 c0 s.f0 L0 w2 HL0.o (by rw[HL0.o];exact Kd.aH G0.o HB2'.o) L0C.o HSL.o.1)
       have HRB:ah (rs.length≤1000000):=⟨by have:=HGL.o.1;rw[← HM.o,List.length_map] at this;omega⟩
       go_wp2_with (first|(go_at_call 54;(with_reducible refine CL.o.mono ?_);rintro e w3 ⟨lv,rfl,hR,hb⟩;obtain⟨Al,cl,rfl⟩:=Kd.bD hR;have HRL:=ah.mk hR;have HB3:=ah.mk hb;clear hR hb;have HL3:=ah.mk (HL2.o.below HB3.o);have HL4:=ah.mk (HL3.o.below (aj (Below.refl _ _) (.cells #[.slice Al s.f0.length cl,.slice none 0 0] 51 (0,0))));have HB3':=ah.mk (aj (ak HB2'.o HB3.o) (.cells #[.slice Al s.f0.length cl,.slice none 0 0] 51 (0,0)));have HN4:ah (some w3.heap.size≠(Value.slice Av rs.length cv).ownBlock):=⟨fun e=>by have:=Kd.Lx HL3.o.1 _ e.symm;omega⟩;have HIN:=ah.mk (insert.calls w.heap.size rs.length i w3.heap.size (.slice Av rs.length cv) (rs.map lS) (.slice Al s.f0.length cl) (.slice none 0 0) (w3.alloc (.cells #[.slice Al s.f0.length cl,.slice none 0 0] 51 (0,0))) (by rw[List.length_map]) HL4.o.1 HIL.o HRB.o (bI w3 _) HN4.o rfl rfl HB3'.o.size))|(go_at_call 72;(with_reducible refine HIN.o.mono ?_);rintro e w5 ⟨v5,rfl,hR,hg,hat⟩;have HR5:=ah.mk hR;have HG5:=ah.mk hg;clear hR hg hat))
       go_meet
       have HRL4:RL (w3.alloc (.cells #[.slice Al s.f0.length cl,.slice none 0 0] 51 (0,0))) w.heap.size (.slice Al s.f0.length cl) s.f0:=Kd.j4 (Kd.dW HRL.o HB2'.o.size) _
       have hX3:=aU (aG HX2.o HB3.o) (.cells #[.slice Al s.f0.length cl,.slice none 0 0] 51 (0,0))
       refine⟨rs.take i++[⟨⟨s.f0,[]⟩,.slice Al s.f0.length cl,.slice none 0 0⟩]++rs.drop i,⟨Lay.insert HL4.o HG5.o i ⟨⟨s.f0,[]⟩,.slice Al s.f0.length cl,.slice none 0 0⟩ HR5.o (lF rfl HRL4 HG5.o (lG (by decide) HRL4 HL4.o.1)) (Kd.fP _ _ _ _ _) rfl⟩,⟨?_⟩,⟨nR HB3'.o _ HB3'.o.size HG5.o (fun k hk=>HL4.o.Jo k hk)⟩,⟨dM hX3 HG5.o HNB.o⟩⟩
       rw[lV,if_neg (by rw[HFBV.o];simp),HI.o,xW,List.map_append,List.map_append,List.map_take,List.map_drop]
       rfl
    case rest=>
     obtain⟨rs3,HL3,HM3,HB3,HX3⟩:=hcut
     clear HL2 HX2 HB2' HB2 y0 y1
     have hil:i<rs3.length:=by
      have:=(F8 (rs.map (·.x)) s.f0).1
      rw[HI.o,← HM3.o,List.length_map] at this
      exact this
     obtain⟨gv,capv,hv3,hgv⟩:=CK HL3.o (by omega)
     subst hv3
     obtain⟨r,hri⟩:∃ r,rs3[i]? = some r:=⟨_,List.getElem?_eq_getElem hil⟩
     have HRI:=ah.mk hri
     have HGV:=ah.mk hgv
     have hRS:=(HL3.o.2.1 r (List.mem_of_getElem? hri)).2
     obtain⟨As,cs,hsv⟩:=Kd.bD hRS
     obtain⟨_,x2,_,_⟩:=CJ HL3.o i r hri
     have x3:=av HX3.o 1
     have HSV:=ah.mk hsv
     rw[hsv] at x2 hRS
     have HRS:=ah.mk hRS
     have HBB:ah (w.heap.size≤wc.heap.size):=⟨HB3.o.size⟩
     have HLT:ah ((r.x.f1.length+L1)*16≤140737488355328):=⟨by
      have h1:r.x∈lV (rs.map (·.x)) s.f0:=by rw[← HM3.o];exact List.mem_map.2 ⟨r,List.mem_of_getElem? hri,rfl⟩
      have h2:=HSL.o.2
      rw[HLL1.o] at h2
      rcases Dg h1 with h1 | h1
      ·rw[HM.o] at h1
       have:=HGL.o.2 _ h1
       omega
      ·rw[h1]
       show ((0:Nat)+L1)*16≤_
       omega⟩
     have HSM:ah (Kd.C jg wc.drew A1 L1 s.f1):=⟨Kd.aH G1.o (aD HB3.o)⟩
     have HST:ah (dY (l.take (k+1))=Bn (lV (rs.map (·.x)) s.f0) i s.f1):=⟨by
      rw[HGT.o,stepG,if_neg HZ.o,← HM.o,HI.o]⟩
     have hiz:(i:Int)<(rs3.length:Int):=by omega
     generalize hns:r.x.f1.length=ns at x2 HRS
     have HNS:=ah.mk hns
     clear hri hgv hsv hRS hns
     replace x2:wc.drew.cell? ⟨gv,i*2+1,none⟩=some (.slice As ns cs):=x2
     replace x3:wc.drew.cell? ⟨bx,1,none⟩=some (.slice A1 L1 c1):=x3
     go_upto_region 9 with (fail)
     refine EZ (n:=13) (ds:=[9,12]) (S:=fun w'=>w'.cell? ⟨gv,i*2+1,none⟩=some (.slice As ns cs)∧w'.cell? ⟨bx,1,none⟩=some (.slice A1 L1 c1)) #[false,false,false,false,false,false,false,false,false,false,false,false,false] mixed rfl rfl ⟨x2,x3⟩ (fun hS=>?_)
     refine gZ (i:=0) (N:=some 36) (v:=?_) (a':=?_) #[true,false,false,false,false,false,false,false,false,false,false,false,false] rfl rfl (by kernel_rfl) (fun _ _ _ h=>h) (Or.inl ⟨by rfl,?_⟩) ?_ ?_
     rotate_left
     ·intro w'
      go_simp
      try (with_reducible rfl)
     rotate_left
     ·simp only[Act.put,List.setIfInBounds_toArray,List.set_cons_zero,List.set_cons_succ]
      rfl
     refine gZ (i:=1) (N:=some 37) (v:=?_) (a':=?_) #[true,true,false,false,false,false,false,false,false,false,false,false,false] rfl rfl (by kernel_rfl) (fun _ _ _ h=>h) (Or.inl ⟨by rfl,?_⟩) ?_ ?_
     rotate_left
     ·intro w'
      go_simp
      try (with_reducible rfl)
     rotate_left
     ·simp only[Act.put,List.setIfInBounds_toArray,List.set_cons_zero,List.set_cons_succ]
      rfl
     refine gZ (i:=2) (N:=some 38) (v:=?_) (a':=?_) #[true,true,true,false,false,false,false,false,false,false,false,false,false] rfl rfl (by kernel_rfl) (fun _ _ _ h=>h) (Or.inl ⟨by rfl,?_⟩) ?_ ?_
     rotate_left
     ·intro w'
      go_simp
      try (with_reducible rfl)
     rotate_left
     ·simp only[Act.put,List.setIfInBounds_toArray,List.set_cons_zero,List.set_cons_succ]
      rfl
     refine gZ (i:=3) (N:=some 39) (v:=?_) (a':=?_) #[true,true,true,true,false,false,false,false,false,false,false,false,false] rfl rfl (by kernel_rfl) (fun _ _ _ h=>h) (Or.inl ⟨by rfl,?_⟩) ?_ ?_
     rotate_left
     ·intro w'
      go_simp
      try (with_reducible rfl)
     rotate_left
     ·simp only[Act.put,List.setIfInBounds_toArray,List.set_cons_zero,List.set_cons_succ]
      rfl
     refine gZ (i:=4) (N:=some 40) (v:=?_) (a':=?_) #[true,true,true,true,true,false,false,false,false,false,false,false,false] rfl rfl (by kernel_rfl) (fun _ _ _ h=>h) (Or.inl ⟨by rfl,?_⟩) ?_ ?_
     rotate_left
     ·intro w'
      go_simp
      try (with_reducible rfl)
     rotate_left
     ·simp only[Act.put,List.setIfInBounds_toArray,List.set_cons_zero,List.set_cons_succ]
      rfl
     refine gZ (i:=5) (N:=some 41) (v:=?_) (a':=?_) #[true,true,true,true,true,true,false,false,false,false,false,false,false] rfl rfl (by kernel_rfl) (fun _ _ _ h=>h) (Or.inl ⟨by rfl,?_⟩) ?_ ?_
     rotate_left
     ·intro w'
      go_simp
      try (with_reducible rfl)
     rotate_left
     ·simp only[Act.put,List.setIfInBounds_toArray,List.set_cons_zero,List.set_cons_succ]
      rfl
     refine uh (i:=6) (N:=some 42) (v:=?_) (a':=?_) #[true,true,true,true,true,true,true,false,false,false,false,false,false] rfl rfl (by kernel_rfl) (fun _ _ _ h=>h) (Or.inl ⟨by rfl,?_⟩) hS ?_ ?_
     rotate_left
     ·rintro w' ⟨hc1,hc2⟩
      go_simp
      try (with_reducible rfl)
     rotate_left
     ·simp only[Act.put,List.setIfInBounds_toArray,List.set_cons_zero,List.set_cons_succ]
      rfl
     refine gZ (i:=7) (N:=some 43) (v:=?_) (a':=?_) #[true,true,true,true,true,true,true,true,false,false,false,false,false] rfl rfl (by kernel_rfl) (fun _ _ _ h=>h) (Or.inl ⟨by rfl,?_⟩) ?_ ?_
     rotate_left
     ·intro w'
      go_simp
      try (with_reducible rfl)
     rotate_left
     ·simp only[Act.put,List.setIfInBounds_toArray,List.set_cons_zero,List.set_cons_succ]
      rfl
     refine uh (i:=8) (N:=some 44) (v:=?_) (a':=?_) #[true,true,true,true,true,true,true,true,true,false,false,false,false] rfl rfl (by kernel_rfl) (fun _ _ _ h=>h) (Or.inl ⟨by rfl,?_⟩) hS ?_ ?_
     rotate_left
     ·rintro w' ⟨hc1,hc2⟩
      go_simp
      try (with_reducible rfl)
     rotate_left
     ·simp only[Act.put,List.setIfInBounds_toArray,List.set_cons_zero,List.set_cons_succ]
      rfl
     refine Nq (i:=9) (N:=some 45) #[true,true,true,true,true,true,true,true,true,true,false,false,false] rfl rfl (by kernel_rfl) (by decide) (fun K hK=>?_)
     refine Kd.iW jg (w0:=w) w.heap.size (by rfl) (.tmp 42) (.tmp 44) 49 70 (.agg #[.int .i64 0,.int .u64 0]) 16 rfl Tryz.underlying49 wI rfl (by decide) (by omega) (.slice As ns cs) r.x.f1 s.f1 A1 L1 c1 (fun _=>True) (fun _=>False) rfl rfl (Kd.nK HRS.o) HSM.o (fun x cs hx=>Mi hx) (fun _ hk=>hk.elim) (fun _ _=>trivial) (aD HB3.o) ?hb ?hl ?_
     case hb=>exact HBB.o
     case hl=>exact HLT.o
     intro v1 w1 hR1 hB1 hg1 hat1
     have HR1:ah (RS w1 w.heap.size v1 (r.x.f1++s.f1)):=⟨hR1⟩
     have HB4:=ah.mk hB1
     have HG1:ah (wc.grownBy w1 r.sv.ownBlock):=⟨by rw[HSV.o,HNS.o];exact⟨hg1.os,hg1.tape,hg1.output,hg1.size,hg1.block⟩⟩
     have HAT:ah (v1.ownBlock=r.sv.ownBlock∨∃ b,v1.ownBlock=some b∧wc.heap.size≤b):=⟨by rw[HSV.o,HNS.o];exact hat1⟩
     clear hR1 hB1 hg1 hat1
     refine hK.o _ _ ?_
     clear hK K
     obtain⟨A9,c9,hv9⟩:=Kd.bD HR1.o
     generalize (r.x.f1++s.f1).length=n9 at hv9
     subst hv9
     refine CP (a':=?_) ?_ ?_
     rotate_left
     ·show Act.put _ (some 45) _=_
      simp only[Act.put,List.setIfInBounds_toArray,List.set_cons_zero,List.set_cons_succ]
      rfl
     have HRR:ah (RR w1 w.heap.size (.slice (some ⟨gv,0,none⟩) rs3.length capv) (rs3.map lS)):=⟨lF rfl HL3.o.1 HG1.o (lG (by decide) HL3.o.1 (HL3.o.2.1 r (List.mem_of_getElem? HRI.o)).2)⟩
     obtain⟨_,z1,_,z3⟩:=Aw HRR.o i r.lv r.sv (by rw[List.getElem?_map,HRI.o];rfl)
     have HL5:=ah.mk (Lay.samples HL3.o i r HRI.o HG1.o HR1.o HAT.o)
     have HB5:=ah.mk (bf (j:=i*2+1) (v := .slice A9 n9 c9) HB4.o HGV.o)
     refine gZ (i:=10) (N:=some 46) (v:=?_) (a':=?_) #[true,true,true,true,true,true,true,true,true,true,true,false,false] rfl rfl (by kernel_rfl) (fun _ _ _ h=>h) (Or.inl ⟨by rfl,?_⟩) ?_ ?_
     rotate_left
     ·intro w'
      go_simp
      try (with_reducible rfl)
     rotate_left
     ·simp only[Act.put,List.setIfInBounds_toArray,List.set_cons_zero,List.set_cons_succ]
      rfl
     refine gZ (i:=11) (N:=some 47) (v:=?_) (a':=?_) #[true,true,true,true,true,true,true,true,true,true,true,true,false] rfl rfl (by kernel_rfl) (fun _ _ _ h=>h) (Or.inl ⟨by rfl,?_⟩) ?_ ?_
     rotate_left
     ·intro w'
      go_simp
      try (with_reducible rfl)
     rotate_left
     ·simp only[Act.put,List.setIfInBounds_toArray,List.set_cons_zero,List.set_cons_succ]
      rfl
     refine Nq (i:=12) (N:=none) #[true,true,true,true,true,true,true,true,true,true,true,true,true] rfl rfl (by kernel_rfl) (by decide) (fun K hK=>?_)
     refine PX (w1:=?_) (by rfl) rfl ?_ ?_
     rotate_left
     ·go_simp
      rfl
     refine hK.o _ _ ?_
     clear hK K
     refine JG (by kernel_rfl) ?_
     try go_wp2
     go_roundg (l.length-(k+1))
     case measure=>omega
     case rel=>exact⟨k+1,.slice (some ⟨gv,0,none⟩) rs3.length capv,_,by first | rfl | go_num,by first | rfl | go_num,by omega,Nat.le_refl _,HL5,⟨by
      rw[HST.o]
      have hil:i<rs3.length:=(List.getElem?_eq_some_iff.1 HRI.o).1
      unfold Bn
      rw[← HM3.o,List.map_set]
      have hri:aK (rs3.map (·.x)) (i:Int)=r.x:=by
       rw[dZ (by rw[List.length_map];exact hil),List.getElem_map,(List.getElem?_eq_some_iff.1 HRI.o).2]
      rw[hri]⟩,HB5⟩
  ·obtain rfl:k=l.length:=by omega
   have hkz:¬ (l.length:Int)<(l.length:Int):=by omega
   rw[List.take_length] at HM
   have HGL:=ah.mk (Co l)
   have HGP:=ah.mk (En l)
   have HRB:ah (rs.length=(dY l).length):=⟨by rw[← HM.o,List.length_map]⟩
   obtain⟨Av,cv,hu,_,_⟩:=HL.o.reads
   subst hu
   have hrl:rs.length≤100000:=by rw[HRB.o];exact Nat.le_trans HGL.o.1 hlen
   go_wp2
   go_loopg [51] rs.length (fun kx s51 wr=>∃ (j:Nat) (rs2:List Rec),s51 = .int .i64 j∧j≤rs.length∧rs.length-j≤kx∧ah (rs2.length=rs.length)∧ah (Lay wr w.heap.size (.slice Av rs.length cv) rs2)∧ah (rs2.map (·.x)=Eu (dY l) j)∧ah (Below w.heap.size w wr))
   case atStart=>exact⟨0,rs,rfl,Nat.zero_le _,Nat.le_refl _,⟨rfl⟩,HL,⟨by rw[HM.o];rfl⟩,HB⟩
   case round=>
    clear HL HM HB
    obtain⟨j,rs2,rfl,hj,hkx2,HLE,HL,HM,HB⟩:=hrel
    by_cases hjl:j<rs.length
    ·have hjz:(j:Int)<(rs.length:Int):=by omega
     have hjG:j<(dY l).length:=by rw[← HRB.o];exact hjl
     obtain⟨gv,capv,he,hgv⟩:=CK HL.o (by rw[HLE.o];omega)
     simp only[Value.slice.injEq] at he
     obtain⟨rfl,hxx,rfl⟩:=he
     clear hxx
     have hj2:j<rs2.length:=by rw[HLE.o];exact hjl
     obtain⟨r,hri⟩:∃ r,rs2[j]? = some r:=⟨_,List.getElem?_eq_getElem hj2⟩
     have hrx:r.x=(dY l)[j]:=by
      have h1:=Mq (dY l) j hjG
      rw[← HM.o,List.getElem?_map,hri] at h1
      simpa using h1
     have hm:r.x∈dY l:=by rw[hrx];exact List.getElem_mem hjG
     have hp:=HGP.o _ hm
     have hpl:=HGL.o.2 _ hm
     have hRS:=(HL.o.2.1 r (List.mem_of_getElem? hri)).2
     obtain⟨gs,caps,hsv,hbs,hgs,_⟩:=Kd.zu hRS (by omega)
     have hown:=Oz hRS
     rw[hsv] at hown
     have HC:=ah.mk (D8.calls w.heap.size gs caps r.x.f1 wr hown (by omega) (by have:=HT.o;omega))
     obtain⟨_,x2,_,_⟩:=CJ HL.o j r hri
     rw[hsv] at x2
     have HSV:=ah.mk hsv
     have HRI:=ah.mk hri
     have HRX:=ah.mk hrx
     have HGV:=ah.mk hgv
     have HBS:ah (w.heap.size≤gs):=⟨hbs⟩
     have HJG:=ah.mk hjG
     clear hri hgv hsv hRS hown hbs hgs hrx hm hp hpl
     generalize hns:r.x.f1.length=ns at x2 HC
     generalize hnr:(jd r.x.f1).length=nr at HC
     have HNS:=ah.mk hns
     have HNR:=ah.mk hnr
     clear hns hnr
     go_wp2_with (first|(go_at_call 73;(with_reducible refine HC.o.mono ?_);rintro e w2 ⟨rfl,hO,hG⟩;have HO:=ah.mk hO;have HG:=ah.mk hG;clear hO hG;have HG1:ah (wr.grownBy w2 r.sv.ownBlock):=⟨by rw[HSV.o];exact HG.o⟩;have HRR:ah (RR w2 w.heap.size (.slice (some ⟨gv,0,none⟩) rs.length cv) (rs2.map lS)):=⟨lF rfl HL.o.1 HG1.o (lG (by decide) HL.o.1 (HL.o.2.1 r (List.mem_of_getElem? HRI.o)).2)⟩;obtain⟨_,z1,_,z3⟩:=Aw HRR.o j r.lv r.sv (by rw[List.getElem?_map,HRI.o];rfl)))
     have HR1:ah (RS w2 w.heap.size (.slice (some ⟨gs,0,none⟩) nr caps) (jd r.x.f1)):=⟨Ou (by rw[HNR.o];exact HO.o)⟩
     have HL5:=ah.mk (Lay.samples HL.o j r HRI.o HG1.o HR1.o (.inl (by rw[HSV.o];rfl)))
     have HB5:=ah.mk (bf (j:=j*2+1) (v := .slice (some ⟨gs,0,none⟩) nr caps) (nR HB.o _ HB.o.size HG.o (fun k hk=>by cases hk;exact HBS.o)) HGV.o)
     go_roundg (rs.length-(j+1))
     case measure=>omega
     case rel=>exact⟨j+1,_,by go_num,by omega,Nat.le_refl _,⟨by rw[List.length_set];exact HLE.o⟩,HL5,⟨by
      rw[List.map_set,HM.o,← J7 (dY l) j HJG.o]
      unfold Qn
      rw[HRX.o]⟩,HB5⟩
    ·obtain rfl:j=rs.length:=by omega
     have hjz:¬ (rs.length:Int)<(rs.length:Int):=by omega
     have HJ:ah (rs2.map (·.x)=joinL l):=⟨by
      rw[HM.o,Eu,HRB.o,List.take_length,List.drop_length,List.append_nil]
      rfl⟩
     go_wp2
     go_ret
     obtain⟨A2,c2,he,hc2,hC⟩:=HL.o.reads
     have hlen2:(joinL l).length=rs2.length:=by rw[← HJ.o,List.length_map]
     refine⟨A2,c2,?_,by rw[hlen2];exact hc2,by rw[hlen2,← HJ.o];exact hC,HB.o⟩
     rw[hlen2,← he]
     rfl
def mO (c:Int):Bool:=decide (c=95)||(decide (97≤Go.bits .or .u8 c 32)&&decide (Go.bits .or .u8 c 32≤122))
def uo (c:Int):Bool:=decide (48≤c)&&decide (c≤57)
def nC (c:Int):Bool := !mO c && !uo c
theorem mO.calls (c:Int) (w:World):Calls Tryz.prog 136 #[.int .u8 c] w fun e w'=>e = .returned (.bool (mO c))∧w'=w:=by
 by_cases h1:c=95
 ·have HV:ah (mO c=true):=⟨by rw[mO,decide_eq_true h1];rfl⟩
  have d1:(c==95)=true:=beq_iff_eq.2 h1
  clear h1
  go_enter Tryz.func136,Tryz.ntmps136
  go_wp2
  go_ret
  exact⟨by rw[HV.o];rfl,rfl⟩
 ·have d1:(c==95)=false:=beq_eq_false_iff_ne.2 h1
  have HV:ah (mO c=(decide (97≤Go.bits .or .u8 c 32)&&decide (Go.bits .or .u8 c 32≤122))):=⟨by rw[mO,decide_eq_false h1];rfl⟩
  clear h1
  by_cases h2:97≤Go.bits .or .u8 c 32
  ·have HW:ah (mO c=decide (Go.bits .or .u8 c 32≤122)):=⟨by rw[HV.o,decide_eq_true h2];rfl⟩
   go_enter Tryz.func136,Tryz.ntmps136
   go_wp2
   go_ret
   exact⟨by rw[HW.o];rfl,rfl⟩
  ·have HW:ah (mO c=false):=⟨by rw[HV.o,decide_eq_false h2];rfl⟩
   go_enter Tryz.func136,Tryz.ntmps136
   go_wp2
   go_ret
   exact⟨by rw[HW.o];rfl,rfl⟩
theorem uo.calls (c:Int) (w:World):Calls Tryz.prog 139 #[.int .u8 c] w fun e w'=>e = .returned (.bool (uo c))∧w'=w:=by
 by_cases h2:48≤c
 ·have HW:ah (uo c=decide (c≤57)):=⟨by rw[uo,decide_eq_true h2];rfl⟩
  go_enter Tryz.func139,Tryz.ntmps139
  go_wp2
  go_ret
  exact⟨by rw[HW.o];rfl,rfl⟩
 ·have HW:ah (uo c=false):=⟨by rw[uo,decide_eq_false h2];rfl⟩
  go_enter Tryz.func139,Tryz.ntmps139
  go_wp2
  go_ret
  exact⟨by rw[HW.o];rfl,rfl⟩
theorem nC.calls (c:Int) (w:World):Calls Tryz.prog 138 #[.int .u8 c] w fun e w'=>e = .returned (.bool (nC c))∧w'=w:=by
 cases h1:mO c with
 | true=>
   have HL:ah (∀ W,Calls Tryz.prog 136 #[.int .u8 c] W fun e w'=>e = .returned (.bool true)∧w'=W):=⟨fun W=>h1 ▸ mO.calls c W⟩
   have HV:ah (nC c=false):=⟨by rw[nC,h1];rfl⟩
   clear h1
   go_enter Tryz.func138,Tryz.ntmps138
   go_wp2_with (first|(go_at_call 136;(with_reducible refine (HL.o _).mono ?_);rintro e w1 ⟨rfl,rfl⟩))
   go_ret
   exact⟨by rw[HV.o];rfl,rfl⟩
 | false=>
   have HL:ah (∀ W,Calls Tryz.prog 136 #[.int .u8 c] W fun e w'=>e = .returned (.bool false)∧w'=W):=⟨fun W=>h1 ▸ mO.calls c W⟩
   have HD:ah (∀ W,Calls Tryz.prog 139 #[.int .u8 c] W fun e w'=>e = .returned (.bool (uo c))∧w'=W):=⟨uo.calls c⟩
   have HV:ah (nC c = !uo c):=⟨by rw[nC,h1];rfl⟩
   clear h1
   go_enter Tryz.func138,Tryz.ntmps138
   go_wp2_with (first|(go_at_call 136;(with_reducible refine (HL.o _).mono ?_);rintro e w1 ⟨rfl,rfl⟩)|(go_at_call 139;(with_reducible refine (HD.o _).mono ?_);rintro e w1 ⟨rfl,rfl⟩))
   go_ret
   exact⟨by rw[HV.o];rfl,rfl⟩
def jC:List Int→Nat→Int
 | [],_ => -1
 | a::r,k=>if nC a=true then (k:Int) else jC r (k+1)
theorem Cr (l:List Int) (k:Nat) (hk:k<l.length):jC (l.drop k) k=if nC (rd l (k:Int))=true then (k:Int) else jC (l.drop (k+1)) (k+1):=by
 rw[MI l k hk]
 rfl
theorem wG:∀ (l:List Int) (k:Nat),decide (0≤jC l k)=l.any nC
 | [],_=>rfl
 | a::r,k=>by
   rw[jC,List.any_cons]
   cases h:nC a with
   | true=>rw[if_pos rfl];simp
   | false=>rw[if_neg (by simp),wG r (k+1)];rfl
theorem jC.calls (A0:Option Addr) (c0 n:Nat) (l:List Int) (w:World) (hn:l.length=n) (hr:Kd.C (Kd.int .u8) w A0 n l) (hlen:n≤1000000) :
 Calls Tryz.prog 154 #[.slice A0 n c0,.func (.func 138) #[] #[]] w fun e w'=>e = .returned (.int .i64 (jC l 0))∧Below w.heap.size w w':=by
 subst hn
 have HR:=ah.mk hr
 clear hr
 go_enter Tryz.func154,Tryz.ntmps154
 go_wp2
 go_loopw [8] (fun i wr=>∃ k:Nat,k≤l.length∧i = .int .i64 k∧ah (jC l 0=jC (l.drop k) k)∧ah (Below w.heap.size w wr)) (fun i _=>l.length-(intOf i).toNat)
 case atStart=>exact⟨0,Nat.zero_le _,rfl,⟨rfl⟩,⟨Below.refl _ _⟩⟩
 case round=>
  obtain⟨k,hk,rfl,HE,HB⟩:=hrel
  by_cases hlt:k<l.length
  ·have hC:=Kd.aH HR.o HB.o
   obtain⟨bd,cb,rfl,_,hKb,hcb⟩:=Kd.ng hC (0:Int) (k:Int) (by omega) (by omega)
   have hb0:wr.cell? (bd.add k)=some (.int .u8 (rd l (k:Int))):=by
    have:=hcb 0 (.int .u8 (rd l (k:Int))) (by rw[show cb=[Value.int .u8 (rd l (k:Int))] from hKb];rfl)
    simpa [show (Kd.int .u8).sz=1 from rfl] using this
   have HST:=ah.mk (Cr l k hlt)
   clear hcb hKb hC
   generalize rd l (k:Int)=y at hb0 HST
   cases hq:nC y with
   | true=>
     have HN:ah (jC l 0=(k:Int)):=⟨by rw[HE.o,HST.o,if_pos hq]⟩
     have HC:ah (∀ W,Calls Tryz.prog 138 #[.int .u8 y] W fun e w'=>e = .returned (.bool true)∧w'=W):=⟨fun W=>hq ▸ nC.calls y W⟩
     clear hq
     go_wp2_with (first|(go_at_call 138;(with_reducible refine (HC.o _).mono ?_);rintro e w1 ⟨rfl,rfl⟩))
     go_ret
     exact⟨by rw[HN.o];rfl,HB.o⟩
   | false=>
     have HN:ah (jC l 0=jC (l.drop (k+1)) (k+1)):=⟨by rw[HE.o,HST.o,if_neg (by rw[hq];simp)]⟩
     have HC:ah (∀ W,Calls Tryz.prog 138 #[.int .u8 y] W fun e w'=>e = .returned (.bool false)∧w'=W):=⟨fun W=>hq ▸ nC.calls y W⟩
     clear hq
     go_wp2_with (first|(go_at_call 138;(with_reducible refine (HC.o _).mono ?_);rintro e w1 ⟨rfl,rfl⟩))
     go_roundw
     case rel=>exact⟨k+1,by omega,by go_num,HN,HB⟩
     case measure=>simp[intOf];omega
  ·obtain rfl:k=l.length:=by omega
   go_wp2
   go_ret
   exact⟨by rw[HE.o,List.drop_length];rfl,HB.o⟩
theorem NU.calls (A0:Option Addr) (c0 n:Nat) (l:List Int) (w:World) (hn:l.length=n) (hr:Kd.C (Kd.int .u8) w A0 n l) (hlen:n≤1000000) :
 Calls Tryz.prog 137 #[.slice A0 n c0,.func (.func 138) #[] #[]] w fun e w'=>e = .returned (.bool (l.any nC))∧Below w.heap.size w w':=by
 have HI:=ah.mk (jC.calls A0 c0 n l w hn hr hlen)
 have HV:=ah.mk (wG l 0)
 clear hr hlen hn
 go_enter Tryz.func137,Tryz.ntmps137
 go_wp2_with (first|(go_at_call 154;(with_reducible refine HI.o.mono ?_);rintro e w1 ⟨rfl,hb⟩;have HB:=ah.mk hb;clear hb))
 go_ret
 exact⟨KE HV.o,HB.o⟩
def fZ (s:ByteArray):Bool:=decide (1≤s.size)&&decide (s.size≤24)&&mO (bt s 0) && !(bytesOf s).any nC
theorem KS (s:ByteArray):s.toList.isEmpty=decide (s.size=0):=by
 have h:s.toList.length=s.size:=by rw[ByteArray.toList_eq];simp
 generalize s.toList=l at h
 rw[← h]
 cases l with
 | nil=>rfl
 | cons a l=>rw[decide_eq_false (by simp)];rfl
theorem fZ.calls (s:ByteArray) (w:World):Calls Tryz.prog 121 #[.string s] w fun e w'=>e = .returned (.bool (fZ s))∧Below w.heap.size w w':=by
 have he:=KS s
 have kb:=fun W=>Dc (P:=Tryz.prog) 9 24 5 Tryz.underlying9 Tryz.underlying24 Tryz.underlying5 s W
 by_cases h0:s.size=0
 ·rw[decide_eq_true h0] at he
  have HV:ah (fZ s=false):=⟨by rw[fZ,decide_eq_false (by omega)];rfl⟩
  clear h0
  go_enter Tryz.func121,Tryz.ntmps121
  go_wp2
  go_ret
  exact⟨by rw[HV.o];rfl,Below.refl _ _⟩
 ·rw[decide_eq_false h0] at he
  by_cases h1:s.size≤24
  ·have hp:0<s.size:=by omega
   have hb:((s[0]'hp).toNat:Int)=bt s 0:=iK s 0 hp
   cases h2:mO (bt s 0) with
   | false=>
     have HV:ah (fZ s=false):=⟨by rw[fZ,h2];simp⟩
     have HL:ah (∀ W,Calls Tryz.prog 136 #[.int .u8 (bt s 0)] W fun e w'=>e = .returned (.bool false)∧w'=W):=⟨fun W=>h2 ▸ mO.calls _ W⟩
     clear h2
     go_enter Tryz.func121,Tryz.ntmps121
     go_wp2_with (first|(go_at_call 136;(with_reducible refine (HL.o _).mono ?_);rintro e w1 ⟨rfl,rfl⟩))
     go_ret
     exact⟨by rw[HV.o];rfl,Below.refl _ _⟩
   | true=>
     have HV:ah (fZ s = !(bytesOf s).any nC):=⟨by rw[fZ,h2,decide_eq_true (by omega),decide_eq_true h1];rfl⟩
     have HL:ah (∀ W,Calls Tryz.prog 136 #[.int .u8 (bt s 0)] W fun e w'=>e = .returned (.bool true)∧w'=W):=⟨fun W=>h2 ▸ mO.calls _ W⟩
     have HC:ah (∀ c,Calls Tryz.prog 137 #[.slice (some ⟨w.heap.size,0,none⟩) s.size c,.func (.func 138) #[] #[]] (Lib.bytesWorld w 5 s) fun e w'=>e = .returned (.bool ((bytesOf s).any nC))∧Below (Lib.bytesWorld w 5 s).heap.size (Lib.bytesWorld w 5 s) w'):=⟨fun c=>NU.calls _ c _ (bytesOf s) _ (bytesOf_length s) (Kd.DJ (d:=(0:Int)) (h1:=fun _=>rfl) (BA w 5 s (by omega))) (by omega)⟩
     have HB0:=ah.mk (Bz (Below.refl w.heap.size w) (Nat.le_refl _) 5 s)
     clear h2
     go_enter Tryz.func121,Tryz.ntmps121
     go_wp2_with (first|(go_at_call 136;(with_reducible refine (HL.o _).mono ?_);rintro e w1 ⟨rfl,rfl⟩)|(go_at_call 137;(with_reducible refine (HC.o _).mono ?_);rintro e w1 ⟨rfl,hb⟩;have HB:=ah.mk (ak HB0.o hb);clear hb))
     go_ret
     exact⟨by rw[HV.o];rfl,HB.o⟩
  ·have HV:ah (fZ s=false):=⟨by rw[fZ,decide_eq_false h1];simp⟩
   go_enter Tryz.func121,Tryz.ntmps121
   go_wp2
   go_ret
   exact⟨by rw[HV.o];rfl,Below.refl _ _⟩
def tQ.f (a:ByteArray):Option Bool:=some (fZ a)
theorem tQ.calls (a0:ByteArray) (r:Bool) (w:World) (h:tQ.f a0=some r) :
 Calls Tryz.prog 121 #[.string a0] w fun e w'=>e = .returned (.bool r)∧Below w.heap.size w w':=by
 obtain rfl:=Option.some.inj h
 exact fZ.calls a0 w
def AV (r:Int):Bool:=decide (32≤r) && !decide (r=127) && !decide (r=65533)
def uy (s:ByteArray):Nat→Nat→Bool
 | 0,_=>true
 | b+1,pos=>if pos<s.size then AV (Utf8.decode s pos).1&&uy s b (pos+(Utf8.decode s pos).2) else true
def iU (s:ByteArray):Bool:=uy s s.size 0
theorem width_pos (s:ByteArray) (pos:Nat) (h:pos<s.size):1≤(Utf8.decode s pos).2:=by
 by_cases ha:(s[pos]'h).toNat<128
 ·rw[decode_ascii s pos h ha]
  exact Nat.le_refl _
 ·exact (decode_high s pos h (by omega)).2
theorem Df (s:ByteArray) (b pos:Nat) (h:¬ pos<s.size):uy s b pos=true:=by
 cases b with
 | zero=>rfl
 | succ b=>rw[uy,if_neg h]
theorem iX (w:World) (s:ByteArray) (pos:Nat):Below w.heap.size w (w.iter s pos):=aj (Below.refl _ _) _
theorem iU.calls (s:ByteArray) (w:World):Calls Tryz.prog 128 #[.string s] w fun e w'=>e = .returned (.bool (iU s))∧Below w.heap.size w w':=by
 go_enter Tryz.func128,Tryz.ntmps128
 go_wp2
 go_loopw [] (fun w'=>∃ (pos b:Nat),w'=w.iter s pos∧ah (iU s=uy s b pos)∧s.size≤pos+b) (fun w'=>s.size-w'.iterPos w.heap.size)
 case atStart=>exact⟨0,s.size,rfl,⟨rfl⟩,by omega⟩
 case round=>
  obtain⟨pos,b,rfl,HC,hb⟩:=hrel
  by_cases hp:pos<s.size
  ·have hnx:∀ ty,(Instr.next (.pointer (some ⟨w.heap.size,0,none⟩)) true ty).run Tryz.prog (w.iter s pos)=_:=fun ty=>run_next_any w s pos ty hp
   have hwd:=width_pos s pos hp
   cases b with
   | zero=>omega
   | succ b=>
     have HS:ah (iU s=(AV ((Utf8.decode s pos).1:Int)&&uy s b (pos+(Utf8.decode s pos).2))):=⟨by rw[HC.o,uy,if_pos hp]⟩
     generalize (((Utf8.decode s pos).1:Nat):Int)=r at hnx HS
     by_cases h1:r<32
     ·have HF:ah (iU s=false):=⟨by rw[HS.o,AV,decide_eq_false (by omega)];rfl⟩
      go_wp2
      go_ret
      exact⟨by rw[HF.o];rfl,iX _ _ _⟩
     ·by_cases h2:r=127
      ·have HF:ah (iU s=false):=⟨by rw[HS.o,AV,decide_eq_true h2];simp⟩
       go_wp2
       go_ret
       exact⟨by rw[HF.o];rfl,iX _ _ _⟩
      ·by_cases h3:r=65533
       ·have HF:ah (iU s=false):=⟨by rw[HS.o,AV,decide_eq_true h3];simp⟩
        go_wp2
        go_ret
        exact⟨by rw[HF.o];rfl,iX _ _ _⟩
       ·have HF:ah (iU s=uy s b (pos+(Utf8.decode s pos).2)):=⟨by rw[HS.o,AV,decide_eq_true (by omega),decide_eq_false h2,decide_eq_false h3];rfl⟩
        have d1:decide (r<32)=false:=decide_eq_false h1
        have d2:(r==127)=false:=beq_eq_false_iff_ne.2 h2
        have d3:(r==65533)=false:=beq_eq_false_iff_ne.2 h3
        clear h1 h2 h3
        go_wp2
        refine⟨⟨pos+(Utf8.decode s pos).2,b,rfl,HF,by omega⟩,?_⟩
        simp
        omega
  ·have hnx:∀ ty,(Instr.next (.pointer (some ⟨w.heap.size,0,none⟩)) true ty).run Tryz.prog (w.iter s pos)=_:=fun ty=>run_next_end w s pos ty hp
   go_wp2
   go_ret
   exact⟨by rw[HC.o,Df s b pos hp];rfl,iX _ _ _⟩
def fE.f (a:ByteArray):Option Bool:=some (iU a)
theorem fE.calls (a0:ByteArray) (r:Bool) (w:World) (h:fE.f a0=some r) :
 Calls Tryz.prog 128 #[.string a0] w fun e w'=>e = .returned (.bool r)∧Below w.heap.size w w':=by
 obtain rfl:=Option.some.inj h
 exact iU.calls a0 w
theorem AV.calls (r:Int) (w:World):Calls Tryz.prog 140 #[.int .i32 r] w fun e w'=>e = .returned (.bool (AV r))∧w'=w:=by
 by_cases h1:32≤r
 ·cases h2:(r==127) with
  | true=>
    have HV:ah (AV r=false):=⟨by rw[AV,decide_eq_true (beq_iff_eq.1 h2)];simp⟩
    have h2':(r != 127)=false:=bne_eq_false_iff_eq.2 (beq_iff_eq.1 h2)
    go_enter Tryz.func140,Tryz.ntmps140
    go_wp2
    go_ret
    exact⟨by rw[HV.o];rfl,rfl⟩
  | false=>
    have h2':(r != 127)=true:=bne_iff_ne.2 (beq_eq_false_iff_ne.1 h2)
    have HV:ah (AV r=(r != 65533)):=⟨by
     rw[AV,decide_eq_true h1,decide_eq_false (beq_eq_false_iff_ne.1 h2)]
     by_cases h3:r=65533
     ·rw[decide_eq_true h3,bne_eq_false_iff_eq.2 h3];rfl
     ·rw[decide_eq_false h3,bne_iff_ne.2 h3];rfl⟩
    go_enter Tryz.func140,Tryz.ntmps140
    go_wp2
    go_ret
    exact⟨by rw[HV.o];rfl,rfl⟩
 ·have HV:ah (AV r=false):=⟨by rw[AV,decide_eq_false h1];rfl⟩
  go_enter Tryz.func140,Tryz.ntmps140
  go_wp2
  go_ret
  exact⟨by rw[HV.o];rfl,rfl⟩
theorem MO (s:ByteArray):(!s.toList.isEmpty)=decide (1≤s.size):=by
 have h:s.toList.length=s.size:=by rw[ByteArray.toList_eq];simp
 generalize s.toList=l at h
 rw[← h]
 cases l with
 | nil=>rfl
 | cons a l=>rw[decide_eq_true (by simp)];rfl
def fI (s:ByteArray):Bool:=decide (1≤s.size)&&decide (s.size≤40)&&iU s
theorem fI.calls (s:ByteArray) (w:World):Calls Tryz.prog 122 #[.string s] w fun e w'=>e = .returned (.bool (fI s))∧Below w.heap.size w w':=by
 go_enter Tryz.func122,Tryz.ntmps122
 go_wp2
 go_loopw [] (fun w'=>∃ (pos b:Nat),w'=w.iter s pos∧ah (iU s=uy s b pos)∧s.size≤pos+b) (fun w'=>s.size-w'.iterPos w.heap.size)
 case atStart=>exact⟨0,s.size,rfl,⟨rfl⟩,by omega⟩
 case round=>
  obtain⟨pos,b,rfl,HC,hb⟩:=hrel
  by_cases hp:pos<s.size
  ·have hnx:∀ ty,(Instr.next (.pointer (some ⟨w.heap.size,0,none⟩)) true ty).run Tryz.prog (w.iter s pos)=_:=fun ty=>run_next_any w s pos ty hp
   have hwd:=width_pos s pos hp
   cases b with
   | zero=>omega
   | succ b=>
     have HS:ah (iU s=(AV ((Utf8.decode s pos).1:Int)&&uy s b (pos+(Utf8.decode s pos).2))):=⟨by rw[HC.o,uy,if_pos hp]⟩
     generalize (((Utf8.decode s pos).1:Nat):Int)=r at hnx HS
     have HB:=ah.mk (iX w s (pos+(Utf8.decode s pos).2))
     cases hr:AV r with
     | false=>
       have PTfalse:ah (∀ W,Calls Tryz.prog 140 #[.int .i32 r] W fun e w'=>e = .returned (.bool false)∧w'=W):=⟨fun W=>hr ▸ AV.calls r W⟩
       have HF:ah (iU s=false):=⟨by rw[HS.o,hr];rfl⟩
       clear hr
       go_wp2_with (first|(go_at_call 140;(with_reducible refine (PTfalse.o _).mono ?_);rintro e w1 ⟨rfl,rfl⟩))
       go_ret
       exact⟨by rw[fI,HF.o,Bool.and_false];rfl,HB.o⟩
     | true=>
       have PTtrue:ah (∀ W,Calls Tryz.prog 140 #[.int .i32 r] W fun e w'=>e = .returned (.bool true)∧w'=W):=⟨fun W=>hr ▸ AV.calls r W⟩
       have HF:ah (iU s=uy s b (pos+(Utf8.decode s pos).2)):=⟨by rw[HS.o,hr];rfl⟩
       clear hr
       go_wp2_with (first|(go_at_call 140;(with_reducible refine (PTtrue.o _).mono ?_);rintro e w1 ⟨rfl,rfl⟩))
       refine⟨⟨pos+(Utf8.decode s pos).2,b,rfl,HF,by omega⟩,?_⟩
       simp
       omega
  ·have hnx:∀ ty,(Instr.next (.pointer (some ⟨w.heap.size,0,none⟩)) true ty).run Tryz.prog (w.iter s pos)=_:=fun ty=>run_next_end w s pos ty hp
   have HV:ah (iU s=true):=⟨by rw[HC.o,Df s b pos hp]⟩
   have he:=MO s
   by_cases h1:1≤s.size
   ·rw[decide_eq_true h1] at he
    go_wp2
    go_ret
    exact⟨by rw[fI,HV.o,decide_eq_true h1];simp;omega,iX _ _ _⟩
   ·rw[decide_eq_false h1] at he
    go_wp2
    go_ret
    exact⟨by rw[fI,decide_eq_false h1];rfl,iX _ _ _⟩
def qI.f (a:ByteArray):Option Bool:=some (fI a)
theorem qI.calls (a0:ByteArray) (r:Bool) (w:World) (h:qI.f a0=some r) :
 Calls Tryz.prog 122 #[.string a0] w fun e w'=>e = .returned (.bool r)∧Below w.heap.size w w':=by
 obtain rfl:=Option.some.inj h
 exact fI.calls a0 w
theorem Qy:∀ (a b:List UInt8),Op.bytesLess a b = !(Op.bytesLess b a||b==a)
 | [],[]=>by simp[Op.bytesLess]
 | [],b::br=>by simp[Op.bytesLess]
 | a::ar,[]=>by simp[Op.bytesLess]
 | a::ar,b::br=>by
   have ih:=Qy ar br
   simp only[Op.bytesLess,ih]
   have hab:(a<b)=(a.toNat<b.toNat):=propext UInt8.lt_iff_toNat_lt
   have hba:(b<a)=(b.toNat<a.toNat):=propext UInt8.lt_iff_toNat_lt
   rcases Nat.lt_trichotomy a.toNat b.toNat with h | h | h
   ·have h2:a≠b:=fun e=>by rw[e] at h;omega
    have h1:¬ b<a:=by rw[hba];omega
    have h3:a<b:=by rw[hab];exact h
    simp[h3,h1,h2,Ne.symm h2]
   ·obtain rfl:a=b:=UInt8.toNat_inj.1 h
    have h1:¬ a<a:=by rw[hab];omega
    simp[h1]
   ·have h2:b≠a:=fun e=>by rw[e] at h;omega
    have h1:¬ a<b:=by rw[hab];omega
    have h3:b<a:=by rw[hba];exact h
    simp[h3,h1,h2,Ne.symm h2]
def less (a b:ByteArray):Bool:=Op.bytesLess a.toList b.toList
def lU (l:List eP) (k:Nat):Bool:=fZ (bU l (k:Int)).f0&&fI (bU l (k:Int)).f1&&(decide (k=0)||less (bU l ((k-1:Nat):Int)).f0 (bU l (k:Int)).f0)
def dV (l:List eP):Bool:=decide (1≤l.length)&&decide (l.length≤8)&&(List.range l.length).all (lU l)
def yO (l:List eP):Nat→ByteArray
 | 0=>⟨#[]⟩
 | k+1=>(bU l (k:Int)).f0
theorem wN {s:ByteArray} (h:fZ s=true):1≤s.size∧s.size≤24:=by
 simp only[fZ,Bool.and_eq_true,decide_eq_true_eq] at h
 exact⟨h.1.1.1,h.1.1.2⟩
theorem Dz {s:ByteArray} (h:fI s=true):1≤s.size∧s.size≤40:=by
 simp only[fI,Bool.and_eq_true,decide_eq_true_eq] at h
 exact⟨h.1.1,h.1.2⟩
theorem Fa (s:ByteArray):s.toList.length=s.size:=by rw[ByteArray.toList_eq];simp
theorem Hl {l:List eP} {k:Nat} (h1:fZ (bU l (k:Int)).f0=true) (h2:fI (bU l (k:Int)).f1=true) :
 lU l k = !(Op.bytesLess (bU l (k:Int)).f0.toList (yO l k).toList||(bU l (k:Int)).f0.toList==(yO l k).toList):=by
 rw[lU,h1,h2]
 cases k with
 | zero=>
   have hz:=(wN h1).1
   rw[← Fa] at hz
   have e:(yO l 0).toList=[]:=by show (⟨#[]⟩:ByteArray).toList=[];rw[ByteArray.toList_eq]
   rw[e]
   generalize (bU l ((0:Nat):Int)).f0.toList=x at hz
   cases x with
   | nil=>simp at hz
   | cons a x=>simp[Op.bytesLess]
 | succ k=>
   rw[← Qy]
   simp[less,yO]
theorem Kg {l:List eP} {k:Nat} (h1:fZ (bU l ((k+1:Nat):Int)).f0=true) (h2:fI (bU l ((k+1:Nat):Int)).f1=true) :
 lU l (k+1)=Op.bytesLess (bU l (k:Int)).f0.toList (bU l ((k+1:Nat):Int)).f0.toList:=by
 rw[lU,h1,h2]
 simp[less]
theorem Ho {l:List eP} (h1:fZ (bU l ((0:Nat):Int)).f0=true) (h2:fI (bU l ((0:Nat):Int)).f1=true):lU l 0=true:=by
 rw[lU,h1,h2]
 rfl
theorem sw {l:List eP} {k:Nat} (h1:fZ (bU l (k:Int)).f0=false):lU l k=false:=by rw[lU,h1];rfl
theorem qh {l:List eP} {k:Nat} (h1:fI (bU l (k:Int)).f1=false):lU l k=false:=by rw[lU,h1,Bool.and_false];rfl
theorem BF {l:List eP} {k:Nat} (hk:k<l.length) (h:lU l k=false):dV l=false:=by
 rw[dV,Bool.and_eq_false_iff]
 right
 rw[List.all_eq_false]
 exact⟨k,List.mem_range.2 hk,by rw[h];simp⟩
theorem Fx {l:List eP} (h0:1≤l.length) (h8:l.length≤8) (h:∀ j,j<l.length→lU l j=true):dV l=true:=by
 rw[dV,decide_eq_true h0,decide_eq_true h8]
 simp only[Bool.true_and,List.all_eq_true,List.mem_range]
 exact h
theorem BH {l:List eP} (h:¬ (1≤l.length∧l.length≤8)):dV l=false:=by
 rw[dV]
 by_cases h1:1≤l.length
 ·rw[decide_eq_false (show ¬ l.length≤8 from fun h2=>h ⟨h1,h2⟩),Bool.and_false];rfl
 ·rw[decide_eq_false h1];rfl
theorem jB {l:List eP} (h:dV l=true):1≤l.length∧l.length≤8∧∀ j,j<l.length→lU l j=true:=by
 simp only[dV,Bool.and_eq_true,decide_eq_true_eq,List.all_eq_true,List.mem_range] at h
 exact⟨h.1.1,h.1.2,h.2⟩
theorem zi {l:List eP} {k:Nat} (h:∀ j,j<k→lU l j=true) (hk:lU l k=true):∀ j,j<k+1→lU l j=true:=fun j hj=>by
 rcases Nat.lt_or_ge j k with h1 | h1
 ·exact h j h1
 ·obtain rfl:j=k:=by omega
  exact hk
theorem fZ.bS (s:ByteArray) (b:Bool) (h:fZ s=b) (w:World):Calls Tryz.prog 121 #[.string s] w fun e w'=>e = .returned (.bool b)∧Below w.heap.size w w':=h ▸ fZ.calls s w
theorem fI.bS (s:ByteArray) (b:Bool) (h:fI s=b) (w:World):Calls Tryz.prog 122 #[.string s] w fun e w'=>e = .returned (.bool b)∧Below w.heap.size w w':=h ▸ fI.calls s w
theorem dV.calls (A:Option Addr) (c n:Nat) (l:List eP) (w:World) (hn:l.length=n) (hr:Kd.C iM w A n l) (hc:n≤c) :
 Calls Tryz.prog 87 #[.slice A n c] w fun e w'=>e = .returned (.bool (dV l))∧Below w.heap.size w w':=by
 subst hn
 by_cases hlen:1≤l.length∧l.length≤8
 ·have h0:((l.length:Int)==0)=false:=beq_eq_false_iff_ne.2 (by omega)
  have h8:decide ((8:Int)<(l.length:Int))=false:=decide_eq_false (by omega)
  have HR:=ah.mk hr
  have HL:=ah.mk hlen
  have hl8:=hlen.2
  clear hr hc hlen
  go_enter Tryz.func87,Tryz.ntmps87
  go_wp2
  go_loopw [3,16] (fun p i wr=>∃ (k:Nat) (q:ByteArray),k≤l.length∧i = .int .i64 k∧p = .string q∧ah (q=yO l k)∧ah (∀ j,j<k→lU l j=true)∧ah (Below w.heap.size w wr)) (fun _ i _=>l.length-(intOf i).toNat)
  case atStart=>exact⟨0,_,Nat.zero_le _,rfl,rfl,⟨rfl⟩,⟨fun j hj=>by omega⟩,⟨Below.refl _ _⟩⟩
  case round=>
   obtain⟨k,q,hk,rfl,rfl,HQ,HO,HB⟩:=hrel
   by_cases hlt:k<l.length
   ·obtain⟨ad,rfl,c0,c1⟩:=jo (Kd.aH HR.o HB.o) (k:Int) (by omega) (by omega)
    rw[Int.toNat_natCast] at c0 c1
    have HBAD:=ah.mk (fun h=>BF (l:=l) (k:=k) hlt h)
    have HN:=ah.mk (fun h=>sw (l:=l) (k:=k) h)
    have HV:=ah.mk (fun h=>qh (l:=l) (k:=k) h)
    have HA:=ah.mk (fun h1 h2=>Hl (l:=l) (k:=k) h1 h2)
    have HS:=ah.mk (fun h=>zi (l:=l) (k:=k) HO.o h)
    have HX:ah ((bU l (k:Int)).f0=yO l (k+1)):=⟨rfl⟩
    generalize bU l (k:Int)=x at c0 c1 HN HV HA HX
    rw[← HQ.o] at HA
    have HB0:=ah.mk (aj HB.o (.cells #[.string x.f0,.string x.f1] 68 (0,0)))
    have HBK:=ah.mk (bI wr (.cells #[.string x.f0,.string x.f1] 68 (0,0)))
    cases h1:fZ x.f0 with
    | false=>
      have HF:ah (dV l=false):=⟨HBAD.o (HN.o h1)⟩
      have C1:=ah.mk (fZ.bS x.f0 false h1)
      clear h1
      go_wp2_with (first|(go_at_call 121;(with_reducible refine (C1.o _).mono ?_);rintro e w1 ⟨rfl,hb⟩;have HB1:=ah.mk (ak HB0.o hb);clear hb))
      go_ret
      exact⟨by rw[HF.o];rfl,HB1.o⟩
    | true=>
      have C1:=ah.mk (fZ.bS x.f0 true h1)
      cases h2:fI x.f1 with
      | false=>
        have HF:ah (dV l=false):=⟨HBAD.o (HV.o h2)⟩
        have C2:=ah.mk (fI.bS x.f1 false h2)
        clear h1 h2
        go_wp2_with (first|(go_at_call 121;(with_reducible refine (C1.o _).mono ?_);rintro e w1 ⟨rfl,hb⟩;have HB1:=ah.mk (ak HB0.o hb);have HBK1:=ah.mk (aG HBK.o hb);have b1:=(av HBK1.o 1).trans rfl;clear hb)|(go_at_call 122;(with_reducible refine (C2.o _).mono ?_);rintro e w2 ⟨rfl,hb⟩;have HB2:=ah.mk (ak HB1.o hb);clear hb))
        go_ret
        exact⟨by rw[HF.o];rfl,HB2.o⟩
      | true=>
        have C2:=ah.mk (fI.bS x.f1 true h2)
        have HOK:=HA.o h1 h2
        clear h1 h2
        cases d1:Op.bytesLess x.f0.toList q.toList with
        | true=>
          have HF:ah (dV l=false):=⟨HBAD.o (by rw[HOK,d1];rfl)⟩
          clear HOK
          go_wp2_with (first|(go_at_call 121;(with_reducible refine (C1.o _).mono ?_);rintro e w1 ⟨rfl,hb⟩;have HB1:=ah.mk (ak HB0.o hb);have HBK1:=ah.mk (aG HBK.o hb);have b1:=(av HBK1.o 1).trans rfl;clear hb)|(go_at_call 122;(with_reducible refine (C2.o _).mono ?_);rintro e w2 ⟨rfl,hb⟩;have HB2:=ah.mk (ak HB1.o hb);have HBK2:=ah.mk (aG HBK1.o hb);have b2:=(av HBK2.o 0).trans rfl;clear hb))
          go_ret
          exact⟨by rw[HF.o];rfl,HB2.o⟩
        | false=>
          cases d2:x.f0.toList==q.toList with
          | true=>
            have HF:ah (dV l=false):=⟨HBAD.o (by rw[HOK,d1,d2];rfl)⟩
            clear HOK
            go_wp2_with (first|(go_at_call 121;(with_reducible refine (C1.o _).mono ?_);rintro e w1 ⟨rfl,hb⟩;have HB1:=ah.mk (ak HB0.o hb);have HBK1:=ah.mk (aG HBK.o hb);have b1:=(av HBK1.o 1).trans rfl;clear hb)|(go_at_call 122;(with_reducible refine (C2.o _).mono ?_);rintro e w2 ⟨rfl,hb⟩;have HB2:=ah.mk (ak HB1.o hb);have HBK2:=ah.mk (aG HBK1.o hb);have b2:=(av HBK2.o 0).trans rfl;clear hb))
            go_ret
            exact⟨by rw[HF.o];rfl,HB2.o⟩
          | false=>
            have HG:=ah.mk (HS.o (by rw[HOK,d1,d2];rfl))
            clear HOK
            go_wp2_with (first|(go_at_call 121;(with_reducible refine (C1.o _).mono ?_);rintro e w1 ⟨rfl,hb⟩;have HB1:=ah.mk (ak HB0.o hb);have HBK1:=ah.mk (aG HBK.o hb);have b1:=(av HBK1.o 1).trans rfl;clear hb)|(go_at_call 122;(with_reducible refine (C2.o _).mono ?_);rintro e w2 ⟨rfl,hb⟩;have HB2:=ah.mk (ak HB1.o hb);have HBK2:=ah.mk (aG HBK1.o hb);have b2:=(av HBK2.o 0).trans rfl;clear hb))
            go_roundw
            case rel=>exact⟨k+1,x.f0,by omega,by go_num,rfl,HX,HG,HB2⟩
            case measure=>simp[intOf];omega
   ·obtain rfl:k=l.length:=by omega
    have HF:ah (dV l=true):=⟨Fx HL.o.1 HL.o.2 HO.o⟩
    go_wp2
    go_ret
    exact⟨by rw[HF.o];rfl,HB.o⟩
 ·have HF:ah (dV l=false):=⟨BH hlen⟩
  by_cases h0:(l.length:Int)=0
  ·have h1:((l.length:Int)==0)=true:=beq_iff_eq.2 h0
   clear h0 hlen
   go_enter Tryz.func87,Tryz.ntmps87
   go_wp2
   go_ret
   exact⟨by rw[HF.o];rfl,Below.refl _ _⟩
  ·have h1:((l.length:Int)==0)=false:=beq_eq_false_iff_ne.2 h0
   have h2:decide ((8:Int)<(l.length:Int))=true:=decide_eq_true (by omega)
   clear h0 hlen
   go_enter Tryz.func87,Tryz.ntmps87
   go_wp2
   go_ret
   exact⟨by rw[HF.o];rfl,Below.refl _ _⟩
end Go.Proofs.YtcgbgifbajdhpaaGreatDoor.PA
namespace Go.Proofs.YtcgbgifbajdhpaaGreatDoor.G
open Go.RowKit Go.Proofs.YtcgbgifbajdhpaaGreatDoorW.au Go.Proofs.YtcgbgifbajdhpaaGreatDoorW.aI Go.Proofs.YtcgbgifbajdhpaaGreatDoorW.aJ
section
variable {P:Program} {ops:Array Oper} {rest:List Oper} {o:Oper} {a:Act} {Q:Exit→Act→World→Prop}
theorem qx {w0 W:World} (base:Nat) (hgd:o.guard=none) (s x:Operand) (t u e:TypeId)
 (ho:o.op = .call { callee := .builtin .append,args := #[s,x],argTypes := #[t,u] })
 (ht:P.underlying t=some (.slice e)) (hu:P.underlying u=some .string) (hinfo:(P.info? e).map (fun i=>(i.zero,i.size,i.bytes))=some (some (.int .u8 0),1,1))
 (v:Value) (xs:List Int) (y:ByteArray) (hs:a.eval s=v) (hx:a.eval x = .string y)
 (HO:(Kd.int .u8).R e W base (fun _=>True) v xs) (HB:Below base w0 W) (hbase:base≤W.heap.size) (hl:xs.length+y.size≤140737488355328)
 (h:∀ v1 w1,(Kd.int .u8).R e w1 base (fun _=>True) v1 (xs++bytesOf y)→Below base w0 w1→wpList P ops Q rest (a.put o.dst v1) w1) :
 wpList P ops Q (o::rest) a W:=by
 refine sI base hgd s x t u e ho ht hu hinfo v xs y hs hx (Kd.qN HO) HB hbase hl ?_
 intro v1 w1 hown hb hg
 exact h v1 w1 (Kd.nL hown (fun _ _=>trivial)) hb
theorem o7 {w0 W:World} (base:Nat) (hgd:o.guard=none) (s x:Operand) (t e:TypeId)
 (ho:o.op = .call { callee := .builtin .append,args := #[s,x],argTypes := #[t,t] })
 (ht:P.underlying t=some (.slice e)) (hinfo:(P.info? e).map (fun i=>(i.zero,i.size,i.bytes))=some (some (.int .u8 0),1,1))
 (v:Value) (xs:List Int) (p q:Int) (hpq:p=q) (hs:a.eval s=v) (hx:a.eval x = .slice (some ⟨W.heap.size,0,none⟩) 1 1)
 (HO:(Kd.int .u8).R e W base (fun _=>True) v xs) (HB:Below base w0 W) (hbase:base≤W.heap.size) (hl:xs.length+1≤140737488355328)
 (h:∀ v1 w1,(Kd.int .u8).R e w1 base (fun _=>True) v1 (xs++[q])→Below base w0 w1→wpList P ops Q rest (a.put o.dst v1) w1) :
 wpList P ops Q (o::rest) a (W.alloc (.cells #[.int .u8 p] e)):=by
 subst hpq
 refine Kd.lZ (Kd.int .u8) (w0:=w0) base hgd s x t e (.int .u8 0) 1 ho ht hinfo rfl (by decide) (by decide) v xs p [.int .u8 p] (fun _=>True) (fun _=>False) hs hx rfl (fun _ hk=>hk.elim) (fun _ _=>trivial) HO HB hbase (by omega) ?_
 intro v1 w1 hr hb _ _
 exact h v1 w1 hr hb
end
end Go.Proofs.YtcgbgifbajdhpaaGreatDoor.G
namespace Go.Proofs.YtcgbgifbajdhpaaGreatDoor.PA
open Go.RowKit Go.Proofs.YtcgbgifbajdhpaaGreatDoor.G Go.Proofs.YtcgbgifbajdhpaaGreatDoorW.au Go.Proofs.YtcgbgifbajdhpaaGreatDoorW.aI Go.Proofs.YtcgbgifbajdhpaaGreatDoorW.aJ
def Cg (s:ByteArray):List Int:=(s.size:Int)::bytesOf s
def zV (x:eP):List Int:=Cg x.f0++Cg x.f1
def vS (l:List eP) (k:Nat):List Int:=(l.length:Int)::(l.take k).flatMap zV
def iQ (l:List eP):List Int:=(l.length:Int)::l.flatMap zV
theorem KX (l:List eP) (k:Nat) (h:k<l.length):l.take (k+1)=l.take k++[bU l (k:Int)]:=by
 rw[List.take_succ_eq_append_getElem h]
 simp[bU,List.getD_eq_getElem?_getD,List.getElem?_eq_getElem h]
theorem yH (l:List eP) (k:Nat) (h:k<l.length):vS l (k+1)=vS l k++zV (bU l (k:Int)):=by
 rw[vS,KX l k h,List.flatMap_append,vS]
 simp
theorem vT (l:List eP):vS l l.length=iQ l:=by rw[vS,List.take_length,iQ]
theorem qg {l:List eP} {k:Nat} (h:lU l k=true):(bU l (k:Int)).f0.size≤24∧(bU l (k:Int)).f1.size≤40:=by
 simp only[lU,Bool.and_eq_true] at h
 exact⟨(wN h.1.1).2,(Dz h.1.2).2⟩
theorem Ch (s:ByteArray):(Cg s).length=s.size+1:=by rw[Cg,List.length_cons,bytesOf_length]
theorem JL (x:eP):(zV x).length=x.f0.size+x.f1.size+2:=by rw[zV,List.length_append,Ch,Ch];omega
theorem qF {l:List eP} (h:dV l=true):∀ k,k≤l.length→(vS l k).length≤1+66*k
 | 0,_=>by simp[vS]
 | k+1,hk=>by
   have ih:=qF h k (by omega)
   have hs:=qg ((jB h).2.2 k (by omega))
   rw[yH l k (by omega),List.length_append,JL]
   omega
theorem Qz {n:Nat} (h:n<256):IntKind.u8.wrap (n:Int)=(n:Int):=by simp[IntKind.wrap,IntKind.bits,IntKind.signed];omega
theorem uR {P:Program} (t e:TypeId) (h:P.underlying t=some (.array 2 e)) (hs:∀ W,(Go.sizeOf e).run P W = .ok 1 W) (ha:∀ W,(isAgg e).run P W = .ok false W) (a b:Value) (i:Int) (v:Value) (hv:(i=0∧v=a)∨(i=1∧v=b)) (W:World):(Instr.index t (.agg #[a,b]) (.int .i64 i)).run P W = .ok v W:=by
 rcases hv with ⟨rfl,rfl⟩ | ⟨rfl,rfl⟩<;>simp[Instr.index,run_underlying h,asIntOf,go_sem,hs,ha]
theorem iQ.calls (A:Option Addr) (c n:Nat) (l:List eP) (w:World) (hn:l.length=n) (hr:Kd.C iM w A n l) (hc:n≤c) (h:dV l=true) :
 Calls Tryz.prog 59 #[.slice A n c] w fun e w'=>∃ v:Value,e = .returned (.tuple #[v,.int .i64 0])∧Kd.R (Kd.int .u8) 5 w' w.heap.size (fun _=>True) v (iQ l)∧Below w.heap.size w w':=by
 subst hn
 have hp:=jB h
 have HR:=ah.mk hr
 have HP:=ah.mk hp
 have HL:=ah.mk (qF h)
 have HC:ah (Calls Tryz.prog 87 #[.slice A l.length c] w fun e w'=>e = .returned (.bool true)∧Below w.heap.size w w'):=⟨h ▸ dV.calls A c l.length l w rfl hr hc⟩
 have hl8:=hp.2.1
 clear hr hc hp h
 go_enter Tryz.func59,Tryz.ntmps59
 go_wp2_with (first|(go_at_call 87;(with_reducible refine HC.o.mono ?_);rintro e w1 ⟨rfl,hb⟩;have HB1:=ah.mk hb;clear hb))
 have HR0:ah (Kd.R (Kd.int .u8) 5 (w1.alloc (.cells #[.int .u8 (l.length:Int)] 5)) w.heap.size (fun _=>True) (.slice (some ⟨w1.heap.size,0,none⟩) 1 1) (vS l 0)):=⟨Kd.nL (FZ w1 w.heap.size 5 .u8 [(l.length:Int)] HB1.o.size (by simp)) (fun _ _=>trivial)⟩
 have HB0:=ah.mk (aj HB1.o (.cells #[.int .u8 (l.length:Int)] 5))
 go_loopw [4,18] (fun v i wr=>∃ k:Nat,k≤l.length∧i = .int .i64 k∧ah (Kd.R (Kd.int .u8) 5 wr w.heap.size (fun _=>True) v (vS l k))∧ah (Below w.heap.size w wr)) (fun _ i _=>l.length-(intOf i).toNat)
 case atStart=>exact⟨0,Nat.zero_le _,rfl,HR0,HB0⟩
 case round=>
  clear HR0 HB0
  obtain⟨k,hk,rfl,HV,HB⟩:=hrel
  by_cases hlt:k<l.length
  ·obtain⟨ad,rfl,c0,c1⟩:=jo (Kd.aH HR.o HB.o) (k:Int) (by omega) (by omega)
   rw[Int.toNat_natCast] at c0 c1
   have hsz:=qg (HP.o.2.2 k hlt)
   have HST:=ah.mk (yH l k hlt)
   have HKL:ah ((vS l k).length≤600):=⟨by have:=HL.o k hk;omega⟩
   generalize bU l (k:Int)=x at *
   obtain⟨hz0,hz1⟩:=hsz
   have HB0:=ah.mk (aj HB.o (.cells #[.string x.f0,.string x.f1] 68 (0,0)))
   have HV0:=ah.mk (Kd.bR HV.o (aj (Below.refl _ _) (.cells #[.string x.f0,.string x.f1] 68 (0,0))))
   clear HV
   have HV:=HV0
   have hi0:=fun W=>uR 147 9 Tryz.underlying147 (fun W=>by kernel_rfl) (fun W=>by kernel_rfl) (.string x.f0) (.string x.f1) 0 _ (.inl ⟨rfl,rfl⟩) W
   have hi1:=fun W=>uR 147 9 Tryz.underlying147 (fun W=>by kernel_rfl) (fun W=>by kernel_rfl) (.string x.f0) (.string x.f1) 1 _ (.inr ⟨rfl,rfl⟩) W
   go_wp2
   refine wp_loop_rounds 3 ?_
   rw[rounds_succ]
   go_wp2_with (first|((with_reducible refine gI (b := .append) (xs := #[.tmp 30,.tmp 34]) rfl ?_);at_builtin;go_must (refine o7 (w0:=w) w.heap.size rfl (.tmp 30) (.tmp 34) 24 5 rfl Tryz.underlying24 gU _ _ _ ((x.f0.size:Nat):Int) ?hq rfl ?hx HV.o HB0.o HB0.o.size ?hl ?_;(case hq=>first | rfl | exact Qz (by omega));(case hx=>first | rfl | (go_simp;done));(case hl=>(have hk_:=HKL.o;(try simp only[List.length_append,List.length_cons,List.length_nil,bytesOf_length]);omega));intro va1 wa1 hr hb;have HRa1:=ah.mk hr;have HBa1:=ah.mk hb;clear hr hb))|((with_reducible refine gI (b := .append) (xs := #[.tmp 35,.tmp 36]) rfl ?_);at_builtin;go_must (refine qx (w0:=w) w.heap.size rfl (.tmp 35) (.tmp 36) 24 9 5 rfl Tryz.underlying24 Tryz.underlying9 gU _ _ x.f0 rfl rfl HRa1.o HBa1.o HBa1.o.size ?hl ?_;(case hl=>(have hk_:=HKL.o;(try simp only[List.length_append,List.length_cons,List.length_nil,bytesOf_length]);omega));intro vb1 wb1 hr hb;have HRb1:=ah.mk hr;have HBb1:=ah.mk hb;clear hr hb)))
   rw[rounds_succ]
   go_wp2_with (first|((with_reducible refine gI (b := .append) (xs := #[.tmp 30,.tmp 34]) rfl ?_);at_builtin;go_must (refine o7 (w0:=w) w.heap.size rfl (.tmp 30) (.tmp 34) 24 5 rfl Tryz.underlying24 gU _ _ _ ((x.f1.size:Nat):Int) ?hq rfl ?hx HRb1.o HBb1.o HBb1.o.size ?hl ?_;(case hq=>first | rfl | exact Qz (by omega));(case hx=>first | rfl | (go_simp;done));(case hl=>(have hk_:=HKL.o;(try simp only[List.length_append,List.length_cons,List.length_nil,bytesOf_length]);omega));intro va2 wa2 hr hb;have HRa2:=ah.mk hr;have HBa2:=ah.mk hb;clear hr hb))|((with_reducible refine gI (b := .append) (xs := #[.tmp 35,.tmp 36]) rfl ?_);at_builtin;go_must (refine qx (w0:=w) w.heap.size rfl (.tmp 35) (.tmp 36) 24 9 5 rfl Tryz.underlying24 Tryz.underlying9 gU _ _ x.f1 rfl rfl HRa2.o HBa2.o HBa2.o.size ?hl ?_;(case hl=>(have hk_:=HKL.o;(try simp only[List.length_append,List.length_cons,List.length_nil,bytesOf_length]);omega));intro vb2 wb2 hr hb;have HRb2:=ah.mk hr;have HBb2:=ah.mk hb;clear hr hb)))
   rw[rounds_succ]
   go_wp2
   go_roundw
   case rel=>exact⟨k+1,by omega,by go_num,⟨by have h_:=HRb2.o;rw[HST.o];simpa [zV,Cg] using h_⟩,HBb2⟩
   case measure=>simp[intOf];omega
  ·obtain rfl:k=l.length:=by omega
   rw[vT] at HV
   go_wp2
   refine bodyPost_ret (results_tmp2 rfl _ _ _) rfl ?_
   exact⟨_,rfl,HV.o,HB.o⟩
theorem iQ.bad (A:Option Addr) (c n:Nat) (l:List eP) (w:World) (hn:l.length=n) (hr:Kd.C iM w A n l) (hc:n≤c) (h:dV l=false) :
 Calls Tryz.prog 59 #[.slice A n c] w fun e w'=>e = .returned (.tuple #[.slice none 0 0,.int .i64 1])∧Below w.heap.size w w':=by
 have HC:ah (Calls Tryz.prog 87 #[.slice A n c] w fun e w'=>e = .returned (.bool false)∧Below w.heap.size w w'):=⟨h ▸ dV.calls A c n l w hn hr hc⟩
 clear hr hc h hn
 go_enter Tryz.func59,Tryz.ntmps59
 go_wp2_with (first|(go_at_call 87;(with_reducible refine HC.o.mono ?_);rintro e w1 ⟨rfl,hb⟩;have HB1:=ah.mk hb;clear hb))
 refine bodyPost_ret (results_tmp2 rfl _ _ _) rfl ?_
 exact⟨rfl,HB1.o⟩
def gW:List Int→Option (ByteArray × List Int)
 | []=>none
 | x::r=>if r.length<x.toNat then none else some (strOfNums (r.take x.toNat),r.drop x.toNat)
def eY (b:List Int):Nat→Option (List eP × List Int)
 | 0=>some ([],b)
 | k+1=>(eY b k).bind fun p=>(gW p.2).bind fun s=>(gW s.2).bind fun t=>some (p.1++[⟨s.1,t.1⟩],t.2)
def fq:List Int→List eP × List Int × Int
 | []=>([],[],3)
 | x::r=>match eY r x.toNat with
   | none=>([],[],3)
   | some p=>if dV p.1=true then (p.1,p.2,0) else ([],[],5)
theorem vO {b:List Int} {k:Nat} (h:eY b k=none):∀ d,eY b (k+d)=none
 | 0=>h
 | d+1=>by rw[← Nat.add_assoc,eY,vO h d];rfl
theorem D9 {b:List Int} {k n:Nat} (hk:k<n) (h:eY b (k+1)=none):eY b n=none:=by
 have:=vO h (n-(k+1))
 rwa [show k+1+(n-(k+1))=n by omega] at this
theorem oq {b:List Int}:∀ {k:Nat} {l:List eP} {r:List Int},eY b k=some (l,r)→l.length=k∧r.length≤b.length
 | 0,l,r,h=>by
   simp only[eY,Option.some.injEq,Prod.mk.injEq] at h
   obtain⟨rfl,rfl⟩:=h
   exact⟨rfl,Nat.le_refl _⟩
 | k+1,l,r,h=>by
   simp only[eY,Option.bind_eq_some_iff] at h
   obtain⟨⟨l1,r1⟩,h1,⟨s,r2⟩,h2,⟨t,r3⟩,h3,h4⟩:=h
   simp only[Option.some.injEq,Prod.mk.injEq] at h4
   obtain⟨rfl,rfl⟩:=h4
   have ih:=oq h1
   have hp:∀ {x:List Int} {s:ByteArray} {y:List Int},gW x=some (s,y)→y.length≤x.length:=by
    intro x s y hx
    cases x with
    | nil=>cases hx
    | cons a x=>
      simp only[gW] at hx
      split at hx
      ·cases hx
      ·simp only[Option.some.injEq,Prod.mk.injEq] at hx
       rw[← hx.2,List.length_drop,List.length_cons]
       omega
   have e2:=hp h2
   have e3:=hp h3
   simp only at e2 e3
   rw[List.length_append,ih.1]
   exact⟨rfl,by have:=ih.2;omega⟩
theorem wV {r:List Int} (h:r.length=0):gW r=none:=by
 rw[List.eq_nil_of_length_eq_zero h]
 rfl
theorem qQ {r:List Int} (h0:0<r.length) (hp:0≤rd r 0) (h:(r.length:Int)-1<rd r 0):gW r=none:=by
 cases r with
 | nil=>simp at h0
 | cons x r=>
   have e:rd (x::r) 0=x:=rfl
   rw[e] at h hp
   rw[gW,if_pos]
   rw[List.length_cons] at h
   omega
theorem yT {r:List Int} {n:Nat} (h0:0<r.length) (hn:rd r 0=(n:Int)) (h:n<r.length):gW r=some (strOfNums ((r.take (1+n)).drop 1),r.drop (1+n)):=by
 cases r with
 | nil=>simp at h0
 | cons x r=>
   have e:rd (x::r) 0=x:=rfl
   rw[e] at hn
   subst hn
   rw[List.length_cons] at h
   rw[gW,if_neg (by rw[Int.toNat_natCast];omega),Int.toNat_natCast,Nat.add_comm 1 n,List.take_succ_cons,List.drop_succ_cons,List.drop_succ_cons,List.drop_zero]
theorem Ea {b r r1 r2:List Int} {l:List eP} {k:Nat} {s t:ByteArray} (h:eY b k=some (l,r)) (h1:gW r=some (s,r1)) (h2:gW r1=some (t,r2)):eY b (k+1)=some (l++[⟨s,t⟩],r2):=by
 simp only[eY,h,Option.bind_some,h1,h2]
theorem vM {b r:List Int} {l:List eP} {k:Nat} (h:eY b k=some (l,r)) (h1:gW r=none):eY b (k+1)=none:=by
 simp only[eY,h,Option.bind_some,h1,Option.bind_none]
theorem vN {b r r1:List Int} {l:List eP} {k:Nat} {s:ByteArray} (h:eY b k=some (l,r)) (h1:gW r=some (s,r1)) (h2:gW r1=none):eY b (k+1)=none:=by
 simp only[eY,h,Option.bind_some,h1,h2,Option.bind_none]
theorem BU {b:List Int} (h0:0<b.length) {n:Nat} (hn:rd b 0=(n:Int)) (h:eY (b.drop 1) n=none):fq b=([],[],3):=by
 cases b with
 | nil=>simp at h0
 | cons x r=>
   have e:rd (x::r) 0=x:=rfl
   rw[e] at hn
   subst hn
   simp only[List.drop_succ_cons,List.drop_zero] at h
   simp only[fq,Int.toNat_natCast,h]
theorem Eb {b r':List Int} {l:List eP} (h0:0<b.length) {n:Nat} (hn:rd b 0=(n:Int)) (h:eY (b.drop 1) n=some (l,r')) (hc:dV l=false):fq b=([],[],5):=by
 cases b with
 | nil=>simp at h0
 | cons x r=>
   have e:rd (x::r) 0=x:=rfl
   rw[e] at hn
   subst hn
   simp only[List.drop_succ_cons,List.drop_zero] at h
   simp[fq,Int.toNat_natCast,h,hc]
theorem JF {b r':List Int} {l:List eP} (h0:0<b.length) {n:Nat} (hn:rd b 0=(n:Int)) (h:eY (b.drop 1) n=some (l,r')) (hc:dV l=true):fq b=(l,r',0):=by
 cases b with
 | nil=>simp at h0
 | cons x r=>
   have e:rd (x::r) 0=x:=rfl
   rw[e] at hn
   subst hn
   simp only[List.drop_succ_cons,List.drop_zero] at h
   simp[fq,Int.toNat_natCast,h,hc]
theorem GI {b:List Int} {k:Nat} {l:List eP} {r:List Int} (h:eY b k=some (l,r)):∀ x∈r,x∈b:=by
 induction k generalizing l r with
 | zero=>
   simp only[eY,Option.some.injEq,Prod.mk.injEq] at h
   obtain⟨rfl,rfl⟩:=h
   exact fun x hx=>hx
 | succ k ih=>
   simp only[eY,Option.bind_eq_some_iff] at h
   obtain⟨⟨l1,r1⟩,h1,⟨s,r2⟩,h2,⟨t,r3⟩,h3,h4⟩:=h
   simp only[Option.some.injEq,Prod.mk.injEq] at h4
   obtain⟨rfl,rfl⟩:=h4
   have hp:∀ {x:List Int} {s:ByteArray} {y:List Int},gW x=some (s,y)→∀ z∈y,z∈x:=by
    intro x s y hx z hz
    cases x with
    | nil=>cases hx
    | cons a x=>
      simp only[gW] at hx
      split at hx
      ·cases hx
      ·simp only[Option.some.injEq,Prod.mk.injEq] at hx
       rw[← hx.2] at hz
       exact List.mem_cons_of_mem _ (List.mem_of_mem_drop hz)
   intro x hx
   exact ih h1 x (hp h2 x (hp h3 x hx))
theorem wU {b r:List Int} {s:ByteArray} (h:gW b=some (s,r)):∀ x∈r,x∈b:=by
 cases b with
 | nil=>cases h
 | cons a b=>
   simp only[gW] at h
   split at h
   ·cases h
   ·simp only[Option.some.injEq,Prod.mk.injEq] at h
    intro x hx
    rw[← h.2] at hx
    exact List.mem_cons_of_mem _ (List.mem_of_mem_drop hx)
theorem BR {b:List Int}:∀ {k:Nat} {l:List eP} {r:List Int},eY b k=some (l,r)→∀ x∈r,x∈b
 | 0,l,r,h=>by
   simp only[eY,Option.some.injEq,Prod.mk.injEq] at h
   obtain⟨rfl,rfl⟩:=h
   exact fun x hx=>hx
 | k+1,l,r,h=>by
   simp only[eY,Option.bind_eq_some_iff] at h
   obtain⟨⟨l1,r1⟩,h1,⟨s,r2⟩,h2,⟨t,r3⟩,h3,h4⟩:=h
   simp only[Option.some.injEq,Prod.mk.injEq] at h4
   obtain⟨rfl,rfl⟩:=h4
   exact fun x hx=>BR h1 x (wU h2 x (wU h3 x hx))
theorem Ec (b:List Int):(∀ x∈(fq b).2.1,x∈b)∧(fq b).2.1.length≤b.length:=by
 cases b with
 | nil=>simp[fq]
 | cons a r=>
   simp only[fq]
   split
   ·simp
   ·rename_i p hp
    obtain⟨l,q⟩:=p
    split
    ·exact⟨fun x hx=>List.mem_cons_of_mem _ (BR hp x hx),by have:=(oq hp).2;simp;omega⟩
    ·simp
theorem ku {a b:List Int} (h:okB b=true) (hs:∀ x∈a,x∈b):okB a=true:=dK.2 fun x hx=>dK.1 h x (hs x hx)
attribute [local go_sem] Oper.semAt_some
abbrev Part (len:Nat):={ j:Nat // j*20<len }
def nH (len j:Nat):Nat:=min 20 (len-j*20)
def iZ {len:Nat} (ys:List (Part len)):List Nat:=ys.map fun y=>y.1
theorem nQ {len:Nat} (ys:List (Part len)) (x:Part len):iZ (ys++[x])=iZ ys++[x.1]:=by simp[iZ]
theorem pG {len:Nat} (ys:List (Part len)):(iZ ys).length=ys.length:=by simp[iZ]
def iC (B1 B2:Nat) (W W':World):Prop:=W'.heap[B1]? = W.heap[B1]? ∧ W'.heap[B2]? = W.heap[B2]?
theorem iC.refl (B1 B2:Nat) (W:World):iC B1 B2 W W:=⟨rfl,rfl⟩
theorem iC.trans {B1 B2:Nat} {a b c:World} (h:iC B1 B2 a b) (k:iC B1 B2 b c):iC B1 B2 a c:=⟨k.1.trans h.1,k.2.trans h.2⟩
theorem iC.cell1 {B1 B2:Nat} {a b:World} (h:iC B1 B2 a b):b.cell? ⟨B1,0,none⟩=a.cell? ⟨B1,0,none⟩:=World.cell?_of_block h.1
theorem iC.yD {B1 B2:Nat} {a b:World} (h:iC B1 B2 a b):b.cell? ⟨B2,0,none⟩=a.cell? ⟨B2,0,none⟩:=World.cell?_of_block h.2
theorem FU {B1 B2:Nat} {w:World} (h1:B1<w.heap.size) (h2:B2<w.heap.size) (W:World) (l:Nat) (o o':Obj) (hl:w.heap.size≤l) (h:W.heap[l]? = some o) (_:o.isCells=false) (_:o.isWalk=false):iC B1 B2 W (W.putObj l o'):=
 ⟨World.putObj_heap_other (by omega),World.putObj_heap_other (by omega)⟩
def NJ (len:Nat) (J Jx:List (Part len)→World→Prop) (e:Ending) (W':World):Prop:=(∃ v,e = .returned v)∧((∃ ys:List (Part len),iZ ys=List.range ((len+19) / 20)∧J ys W')∨(∃ pre,True∧Jx pre W'))
def Cc (ad:Addr) (len:Nat) (x:Part len):Array Value := #[.slice (some (ad.add (x.1*20*2))) (nH len x.1) (nH len x.1)]
theorem FJ:∃ i,Tryz.prog.info? 70=some i∧i.size=2:=by
 obtain⟨i,hi,hz⟩:=Option.map_eq_some_iff.1 wI
 simp only[Prod.mk.injEq] at hz
 exact⟨i,hi,hz.2.1⟩
theorem Ph (ad:Addr) (len c lo hi:Nat) (h1:lo<hi) (h2:hi≤len) (hc:len≤c) (i j:Int) (hi':i=(lo:Int)) (hj':j=(hi:Int)) (W:World) :
 (Instr.slice 49 (.slice (some ad) len c) (some (.int .i64 i)) (some (.int .i64 j)) (some (.int .i64 j))).run Tryz.prog W = .ok (.slice (some (ad.add (lo*2))) (hi-lo) (hi-lo)) W:=by
 subst hi' hj'
 obtain⟨i0,hi0,hsz⟩:=FJ
 have hu:=Tryz.underlying49
 have hel:Tryz.prog.elem 49=70:=by simp[Program.elem,hu]
 have hu':Tryz.prog.underlying 49=some (.slice (Tryz.prog.elem 49)):=by rw[hel];exact hu
 rw[run_slice_lhm W 49 (some ad) len c hu' .i64 .i64 .i64 (lo:Int) (hi:Int) (hi:Int) (by omega) (by omega) (by omega) (by omega),hel]
 simp[sizeOf,typeInfo,hi0,hsz,sliced,Result.andThen]
 omega
theorem P6 (ad:Addr) (len c lo:Nat) (h1:lo≤len) (i:Int) (hi':i=(lo:Int)) :
 ∃ (A:Option Addr) (c':Nat),∀ W:World,(Instr.slice 49 (.slice (some ad) len c) (some (.int .i64 i)) none none).run Tryz.prog W = .ok (.slice A (len-lo) c') W:=by
 subst hi'
 refine⟨if c=lo then some ad else some (ad.add (lo*2)),c-lo,fun W=>?_⟩
 obtain⟨i0,hi0,hsz⟩:=FJ
 have hu:=Tryz.underlying49
 have hel:Tryz.prog.elem 49=70:=by simp[Program.elem,hu]
 have hu':Tryz.prog.underlying 49=some (.slice (Tryz.prog.elem 49)):=by rw[hel];exact hu
 rw[run_slice_l W 49 (some ad) len c hu' .i64 (lo:Int) (by omega) (by omega),hel]
 simp[sizeOf,typeInfo,hi0,hsz,sliced,Result.andThen]
theorem D7 (n:Nat) (hn:1≤n) (l B1 B2:Nat) (ad:Addr) (len c:Nat) (hlen:len≤1000000) (hc:len≤c) (J Jx:List (Part len)→World→Prop) (hJ:∀ pre W (q:Nat),J pre W→J pre (W.drewN q))
 (hY:∀ pre x W,J pre W→pre.length<(len+19) / 20→YieldAt Fence.wide (n-1) Tryz.prog l (Cc ad len x) W fun e W'=>
  (e = .returned (.bool true)∧J (pre++[x]) W'∧iC B1 B2 W W')∨(e = .returned (.bool false)∧Jx (pre++[x]) W'))
 (W:World) (hB1:W.cell? ⟨B1,0,none⟩=some (.slice (some ad) len c)) (hB2:W.cell? ⟨B2,0,none⟩=some (.int .i64 20)) (h0:J [] W) :
 CallsIn Fence.wide n Tryz.prog 90 #[.func (.yield l) #[] #[],.pointer (some ⟨B1,0,none⟩),.pointer (some ⟨B2,0,none⟩)] W (NJ len J Jx):=by
 refine callsIn_of_wp Tryz.func90 rfl trivial ?_ rfl
 simp only[Tryz.ntmps90,List.size_toArray,List.length_cons,List.length_nil,Nat.reduceAdd,Nat.reduceSub,Array.replicate_succ,Array.replicate_zero,List.push_toArray,List.append_toArray,List.nil_append,List.cons_append]
 gi_wp2
 gi_loopw [4] (fun i wr=>∃ (k:Nat) (pre:List (Part len)),k≤(len+19) / 20∧i = .int .i64 ((20*k:Nat):Int)∧iZ pre=List.range k∧J pre wr∧iC B1 B2 W wr)
  (fun i _=>len+20-(intOf i).toNat)
 case atStart=>exact⟨0,[],Nat.zero_le _,rfl,rfl,h0,iC.refl _ _ _⟩
 case round=>
  obtain⟨k,pre,hk,rfl,hpre,hJs,hnx⟩:=hrel
  have b1:=hnx.cell1.trans hB1
  have b2:=hnx.yD.trans hB2
  by_cases hlt:20*k<len
  ·have hlen1:pre.length<(len+19) / 20:=by
    have:=pG pre
    rw[hpre,List.length_range] at this
    omega
   obtain⟨q,hq⟩:∃ q,nH len k=q:=⟨_,rfl⟩
   have hq1:1≤q∧q≤20∧20*k+q≤len:=by unfold nH at hq;omega
   have hqm:min (20:Int) ((len-k*20:Nat):Int)=(q:Int):=by unfold nH at hq;omega
   obtain⟨AT,cT,hT⟩:=P6 ad len c (20*k) (by omega) ((20*k:Nat):Int) rfl
   have hmid:=fun W=>Ph ad len c (20*k) (20*k+q) (by omega) (by omega) hc ((20*k:Nat):Int) (((20*k:Nat):Int)+(q:Int)) rfl (by omega) W
   rw[Nat.add_sub_cancel_left,Nat.mul_comm 20 k] at hmid
   rw[Nat.mul_comm 20 k] at hT
   have hq0:=hq1.1
   have hq2:=hq1.2.1
   have hq3:=hq1.2.2
   have hw1:IntKind.i64.wrap (((k*20:Nat):Int)+(q:Int))=((k*20:Nat):Int)+(q:Int):=by rw[IntKind.wrap_i64];omega
   have hw2:IntKind.i64.wrap (((k*20:Nat):Int)+20)=((k*20:Nat):Int)+20:=by rw[IntKind.wrap_i64];omega
   rw[Nat.mul_comm 20 k] at *
   have hkl:((k*20:Nat):Int)<(len:Int):=by omega
   have HN:=ah.mk hnx
   have HQ:=ah.mk hq
   have HP:=ah.mk hpre
   have HJ:=ah.mk hJs
   have HQI:=ah.mk hq1
   have HL1:=ah.mk hlen1
   clear hnx hq1 hJs hpre hq hlen1
   gi_wp2
   refine wpIn_wide.2 ?_
   by_cases hm:len-k*20<20
   ·obtain rfl:q=len-k*20:=by have:=HQ.o;unfold nH at this;omega
    go_quiet (fail)
    generalize hwq:wr.drewN nq=wq
    have HJq:ah (J pre wq):=⟨hwq ▸ hJ _ _ _ HJ.o⟩
    have HNq:ah (iC B1 B2 W wq):=⟨hwq ▸ HN.o⟩
    have b1q:wq.cell? ⟨B1,0,none⟩=some (.slice (some ad) len c):=hwq ▸ b1
    have b2q:wq.cell? ⟨B2,0,none⟩=some (.int .i64 20):=hwq ▸ b2
    clear hwq b1 b2 hm
    obtain⟨fn,tmps,assign,body,hy,hR⟩:=hY pre ⟨k,by omega⟩ wq HJq.o HL1.o
    dsimp only[Cc] at hy
    rw[HQ.o] at hy
    gi_wp2
    refine hR.mono ?_
    rintro e W3 (⟨rfl,hJ3,hk3⟩ | ⟨rfl,hJx3⟩)
    ·have b2r:=hk3.yD.trans b2q
     have HJ3:=ah.mk hJ3
     have HN3:=ah.mk (HNq.o.trans hk3)
     clear hJ3 hk3
     gi_wp2
     go_roundw
     case rel=>exact⟨k+1,pre++[⟨k,by omega⟩],by omega,by first|(congr 1;omega)|(simp;omega),by rw[nQ,HP.o,List.range_succ],HJ3.o,HN3.o⟩
     case measure=>simp[intOf];omega
    ·gi_wp2
     refine bodyPost_ret (results_none rfl _ _ _) rfl ?_
     exact⟨⟨_,rfl⟩,.inr ⟨_,trivial,hJx3⟩⟩
   ·obtain rfl:q=20:=by have:=HQ.o;unfold nH at this;omega
    go_quiet (fail)
    generalize hwq:wr.drewN nq=wq
    have HJq:ah (J pre wq):=⟨hwq ▸ hJ _ _ _ HJ.o⟩
    have HNq:ah (iC B1 B2 W wq):=⟨hwq ▸ HN.o⟩
    have b1q:wq.cell? ⟨B1,0,none⟩=some (.slice (some ad) len c):=hwq ▸ b1
    have b2q:wq.cell? ⟨B2,0,none⟩=some (.int .i64 20):=hwq ▸ b2
    clear hwq b1 b2 hm
    obtain⟨fn,tmps,assign,body,hy,hR⟩:=hY pre ⟨k,by omega⟩ wq HJq.o HL1.o
    dsimp only[Cc] at hy
    rw[HQ.o] at hy
    gi_wp2
    refine hR.mono ?_
    rintro e W3 (⟨rfl,hJ3,hk3⟩ | ⟨rfl,hJx3⟩)
    ·have b2r:=hk3.yD.trans b2q
     have HJ3:=ah.mk hJ3
     have HN3:=ah.mk (HNq.o.trans hk3)
     clear hJ3 hk3
     gi_wp2
     go_roundw
     case rel=>exact⟨k+1,pre++[⟨k,by omega⟩],by omega,by first|(congr 1;omega)|(simp;omega),by rw[nQ,HP.o,List.range_succ],HJ3.o,HN3.o⟩
     case measure=>simp[intOf];omega
    ·gi_wp2
     refine bodyPost_ret (results_none rfl _ _ _) rfl ?_
     exact⟨⟨_,rfl⟩,.inr ⟨_,trivial,hJx3⟩⟩
  ·have hlt':¬ ((20*k:Nat):Int)<(len:Int):=by omega
   have HN:=ah.mk hnx
   have HJ:=ah.mk hJs
   have HP:ah (iZ pre=List.range ((len+19) / 20)):=⟨by rw[hpre];congr 1;omega⟩
   clear hnx hJs hpre
   gi_wp2
   go_end0
   exact⟨⟨_,rfl⟩,.inl ⟨pre,HP.o,HJ.o⟩⟩
theorem xR (n:Nat) (hn:1≤n) (B1 B2:Nat) (ad:Addr) (len c:Nat) (hlen:len≤1000000) (hc:len≤c) (w:World) (h1:B1<w.heap.size) (h2:B2<w.heap.size) (hB1:w.cell? ⟨B1,0,none⟩=some (.slice (some ad) len c)) (hB2:w.cell? ⟨B2,0,none⟩=some (.int .i64 20)) :
 SeqStopsK Fence.wide n Tryz.prog 90 #[.pointer (some ⟨B1,0,none⟩),.pointer (some ⟨B2,0,none⟩)] (Cc ad len) (iC B1 B2) (fun ys=>iZ ys=List.range ((len+19) / 20)) (fun _=>True) ((len+19) / 20) w:=by
 intro l J Jx W hb hJ _ hY h0
 exact D7 n hn l B1 B2 ad len c hlen hc J Jx (fun pre W' q h=>hJ pre W' _ none h ⟨rfl,rfl,rfl,Nat.le_refl _,fun _ _ _=>rfl⟩ (fun _ e=>by cases e)) hY W ((hb.cell (p:=⟨B1,0,none⟩) h1).trans hB1) ((hb.cell (p:=⟨B2,0,none⟩) h2).trans hB2) h0
end Go.Proofs.YtcgbgifbajdhpaaGreatDoor.PA
namespace Go
section
variable {P:Program} {ops:Array Oper} {Q:Exit→Act→World→Prop} {md:Region.Mode} {S:World→Prop}
def sS (P:Program) (md:Region.Mode) (ops:Array Oper) (Q:Exit→Act→World→Prop) (S:World→Prop) (n:Nat) (L:Array Bool→Act→World→Prop):Nat→Array Bool→Act→World→Prop
 | 0,listed,a,w=>L listed a w
 | f+1,listed,a,w=>
   Region.ready md ops listed≠[]∧∀ i∈Region.ready md ops listed,i<n∧wpOp P ops Q i (fun a' w'=>S w'∧sS P md ops Q S n L f (listed.setIfInBounds i true) a' w') a w
theorem xK {n g:Nat} {L:Array Bool→Act→World→Prop} (hL:∀ listed a w,L listed a w→wpAny P md ops Q g listed a w) :
 ∀ (f:Nat) (listed:Array Bool) (a:Act) (w:World),sS P md ops Q S n L f listed a w→wpAny P md ops Q (f+g) listed a w
 | 0,listed,a,w,h=>by rw[Nat.zero_add];exact hL _ _ _ h
 | f+1,listed,a,w,h=>by
   rw[show f+1+g=(f+g)+1 by omega]
   exact⟨fun h0=>absurd h0 h.1,fun i hi=>wpOp_mono (fun a' w' h'=>xK hL f _ a' w' h'.2) (h.2 i hi).2⟩
theorem AJ {n i:Nat} {oi:Oper} {v:Value} {L:Array Bool→Act→World→Prop} (hi:ops[i]? = some oi) (hsel:∀ (j:Nat) (o:Oper) cs b,ops[j]? = some o→o.op ≠ .select cs b)
 (hs:Region.sinkB md ops n=true) (hc:Region.chainB md ops n=true) (hn:n<ops.size) (hin:i<n) (hQ:∀ c a w,Q (.panic c) (a.put oi.dst v) w→Q (.panic c) a w)
 (hdone:∀ listed a w,L listed a w→∀ j∈Region.ready md ops listed,n≤j) :
 ∀ (f:Nat) (listed:Array Bool) (a:Act) (w:World),HeadInv md ops n listed →
   (∀ j oj,ops[j]? = some oj→j≠i→listed.getD j true=false→(∀ e∈oj.after,Region.binds md e=true→e.on≠i)→oi.apart ops oj=true) →
   i∈Region.ready md ops listed→YieldsIf P ops S oi v a→S w →
   sS P md ops Q S n L f (listed.setIfInBounds i true) (a.put oi.dst v) w→sS P md ops Q S n L (f+1) listed a w:=by
 intro f
 induction f with
 | zero=>
   intro listed a w inv _ hr hy hS H
   have hun:=(mem_ready.1 hr).1
   refine⟨fun h=>(by rw[h] at hr;cases hr),fun j hj=>?_⟩
   have hjn:j<n:=by
    rcases Nat.lt_or_ge j n with h | h
    ·exact h
    ·exact absurd hj (tail_waits hs hc hn inv _ i rfl hin hun j h)
   refine⟨hjn,?_⟩
   by_cases hji:j=i
   ·subst hji;exact hy.wpOp hi hS ⟨hS,H⟩
   ·have:=hdone _ _ _ H j (ready_mono hj hji)
    omega
 | succ f ih=>
   intro listed a w inv hfree hr hy hS H
   have hun:=(mem_ready.1 hr).1
   refine⟨fun h=>(by rw[h] at hr;cases hr),fun j hj=>?_⟩
   have hjn:j<n:=by
    rcases Nat.lt_or_ge j n with h | h
    ·exact h
    ·exact absurd hj (tail_waits hs hc hn inv _ i rfl hin hun j h)
   refine⟨hjn,?_⟩
   by_cases hji:j=i
   ·subst hji;exact hy.wpOp hi hS ⟨hS,H⟩
   ·have h1:=(H.2 j (ready_mono hj hji)).2
    obtain⟨hjun,oj,hoj,hall⟩:=mem_ready.1 hj
    have hnot:∀ e∈oj.after,Region.binds md e=true→e.on≠i:=fun e he hb heq=>by
     have h1:=hall e he hb
     rw[heq,getD_both hun] at h1
     cases h1
    have h2:=wpOp_putIf hoj (hfree j oj hoj hji hjun hnot) (fun cs b=>hsel i oi cs b hi) (fun cs b=>hsel j oj cs b hoj) hQ hy h1
    have hfree':∀ k ok,ops[k]? = some ok→k≠i→(listed.setIfInBounds j true).getD k true=false →
     (∀ e∈ok.after,Region.binds md e=true→e.on≠i)→oi.apart ops ok=true:=fun k ok hk hki hun hno=>by
     refine hfree k ok hk hki ?_ hno
     by_cases hjk:j=k
     ·subst hjk;exact hjun
     ·rw[getD_set_ne true hjk] at hun;exact hun
    refine wpOp_mono (fun a' w' h3=>⟨h3.2.1,ih (listed.setIfInBounds j true) a' w' (inv.set hj hjn) hfree' (ready_mono hr (Ne.symm hji)) h3.1 h3.2.1 ?_⟩) h2
    rw[Array.setIfInBounds_comm _ _ hji]
    exact h3.2.2
def NH (P:Program) (ops:Array Oper) (Q:Exit→Act→World→Prop) (n:Nat) (listed:Array Bool) (a:Act) (w:World):Prop:=
 Region.seqB .any ops (ops.size-n) n listed=true∧wpList P ops Q (ops.toList.drop n) a w
def bq (P:Program) (ops:Array Oper) (Q:Exit→Act→World→Prop) (S:World→Prop) (n f:Nat) (listed:Array Bool) (a:Act) (w:World):Prop:=
 HeadInv .any ops n listed→sS P .any ops Q S n (NH P ops Q n) f listed a w
theorem bq.take {n f i:Nat} {oi:Oper} {v:Value} {listed:Array Bool} {a:Act} {w:World} (hi:ops[i]? = some oi)
 (hB:(Region.noSelect ops&&decide (n<ops.size)&&Region.sinkB .any ops n&&Region.chainB .any ops n&&decide (i<n)&&Region.free .any ops listed i&&(Region.ready .any ops listed).contains i)=true)
 (hQ:∀ c a w,Q (.panic c) (a.put oi.dst v) w→Q (.panic c) a w) (hy:YieldsIf P ops S oi v a) (hS:S w)
 (h:bq P ops Q S n f (listed.setIfInBounds i true) (a.put oi.dst v) w):bq P ops Q S n (f+1) listed a w:=fun inv=>by
 simp only[Bool.and_eq_true,decide_eq_true_eq] at hB
 obtain⟨⟨⟨⟨⟨⟨hsel,hn⟩,hs⟩,hc⟩,hin⟩,hf⟩,hr⟩:=hB
 have hr':i∈Region.ready .any ops listed:=by simpa using hr
 exact AJ hi (Region.noSelect_spec hsel) hs hc hn hin hQ (fun listed' a' w' hL=>seqB_ready hL.1) f listed a w inv (Region.free_spec hi hf) hr' hy hS (h (inv.set hr' hin))
theorem bq.take' {n f i d:Nat} {oi:Oper} {v:Value} {listed:Array Bool} {a:Act} {w:World} (hi:ops[i]? = some oi) (hd:oi.dst=some d)
 (hB:(Region.noSelect ops&&decide (n<ops.size)&&Region.sinkB .any ops n&&Region.chainB .any ops n&&decide (i<n)&&Region.free .any ops listed i&&(Region.ready .any ops listed).contains i)=true)
 (hQ:∀ c a w,Q (.panic c) (a.put oi.dst v) w→Q (.panic c) a w) (hy:YieldsIf P ops S oi v a) (hS:S w)
 (h:bq P ops Q S n f (listed.setIfInBounds i true) { a with tmps:=a.tmps.setIfInBounds d v } w):bq P ops Q S n (f+1) listed a w:=
 bq.take hi hB hQ hy hS (by rw[hd];exact h)
theorem bq.one {n f i:Nat} {oi:Oper} {listed:Array Bool} {a:Act} {w:World} (hi:ops[i]? = some oi)
 (hB:(decide (Region.ready .any ops listed=[i])&&decide (i<n))=true) (hw:Region.wanted oi (yielded ops a.tmps)=true)
 (h:∀ K:Act→World→Prop,(∀ a' w',S w'→bq P ops Q S n f (listed.setIfInBounds i true) a' w'→K a' w')→Oper.wp P oi a w K Q):bq P ops Q S n (f+1) listed a w:=fun inv=>by
 simp only[Bool.and_eq_true,decide_eq_true_eq] at hB
 obtain⟨hr,hin⟩:=hB
 refine⟨fun h0=>(by rw[hr] at h0;cases h0),fun j hj=>?_⟩
 have hji:j=i:=by rw[hr] at hj;simpa using hj
 subst hji
 refine⟨hin,?_⟩
 refine wpOp_step hi fun K hK=>?_
 rw[if_pos hw]
 exact h K fun a' w' hS' hG=>hK a' w' ⟨hS',hG (inv.set hj hin)⟩
theorem bq.nil {n:Nat} {listed:Array Bool} {a:Act} {w:World} (hB:Region.seqB .any ops (ops.size-n) n listed=true) (h:wpList P ops Q (ops.toList.drop n) a w):bq P ops Q S n 0 listed a w:=fun _=>⟨hB,h⟩
theorem bq.last {n:Nat} {oi:Oper} {listed:Array Bool} {a:Act} {w:World} (hi:ops[n]? = some oi) (hB:(Region.seqB .any ops (ops.size-n) n listed&&decide (ops.size=n+1))=true) (hw:Region.wanted oi (yielded ops a.tmps)=true)
 (h:∀ K:Act→World→Prop,(∀ a' w',Q .normal a' w'→K a' w')→Oper.wp P oi a w K Q):bq P ops Q S n 0 listed a w:=by
 simp only[Bool.and_eq_true,decide_eq_true_eq] at hB
 refine bq.nil hB.1 ?_
 have hl:ops.toList.drop n=[oi]:=by
  obtain⟨hlt,he⟩:=Array.getElem?_eq_some_iff.1 hi
  rw[List.drop_eq_getElem_cons (by simpa using hlt),List.drop_eq_nil_of_le (by simp[hB.2])]
  simp[he]
 rw[hl]
 simp only[wpList,if_pos hw]
 exact .inl (h _ (fun _ _ h=>h))
theorem bq.start {n:Nat} {a:Act} {w:World} (hn:n≤ops.size) (h:bq P ops Q S n n (Array.replicate ops.size false) a w):wpAny P .any ops Q ops.size (Array.replicate ops.size false) a w:=by
 have inv0:HeadInv .any ops n (Array.replicate ops.size false):=
  ⟨by simp,fun j oj _ hl=>(by rw[getD_replicate_false] at hl;cases hl),fun t _ ht=>getD_in (by simpa using ht) (getD_replicate_false _ _)⟩
 have H:=xK (Q:=Q) (g:=ops.size-n) (fun listed a' w' (hL:NH P ops Q n listed a' w')=>by
  have hlen:(ops.toList.drop n).length=ops.size-n:=by simp
  have:=wpAny_of_seq (md := .any) (Q':=Q) (ops.toList.drop n) n listed a' w' (fun j=>by simp[List.getElem?_drop]) (by rw[hlen];exact hL.1) hL.2
  rwa [hlen] at this) n _ a w (h inv0)
 rwa [Nat.add_sub_cancel' hn] at H
end
section
variable {P:Program} {ops:Array Oper} {Q:Exit→Act→World→Prop} {md:Region.Mode}
theorem xL (l n:Nat) (hnl:¬ LetsOut Q) (hnd:∀ (j:Nat) (o:Oper) c,ops[j]? = some o→o.op ≠ .defer c) {i:Nat} {K K':Act→World→Prop} {a:Act} {w:World} (hK:∀ a w,K a w→K' a w) (h:wpOp P ops Q i K a w):wpOpIn (Fence.wide.inRound l) n P ops Q i K' a w:=by
 unfold wpOp at h
 unfold wpOpIn
 split
 ·rename_i ho;simp only[ho] at h;exact hK _ _ h
 ·rename_i o ho
  simp only[ho] at h
  split
  ·rename_i hw
   simp only[hw,if_true] at h
   rcases h with h | ⟨_,h⟩
   ·refine⟨fun _ _=>trivial,?_⟩
    rw[Oper.semAt_eq _ _ _ (fun c=>hnd i o c ho)]
    unfold Oper.wp at h
    generalize (execOp a.eval o).run P w=r at *
    cases r with
    | ok x w'=>
      cases x<;>simp only[Oper.upon] at h<;>simp only[Oper.uponIn]
      case value v=>exact hK _ _ h
      case skip=>exact hK _ _ h
      case defer d=>exact hK _ _ h
      case enter f args=>
       refine⟨fun hd=>by simp[Fence.wide] at hd,(CallsIn.inRound l (callsIn_wide.2 h)).mono fun e w'' he=>?_⟩
       cases e with
       | returned u=>exact hK _ _ he
       | panicked c=>exact he
       | outgrown=>exact he
      case row row args=>
       refine⟨fun hd=>by simp[Fence.wide] at hd,?_⟩
       intro c cs _
       obtain⟨v,w'',hR,hs⟩:=h c cs
       exact⟨v,w'',hK _ _ hR,stepsIn_wide.2 hs⟩
    | halt x w'=>cases x<;>simp only[Oper.upon] at h<;>simp only[Oper.uponIn]<;>exact h
   ·exact absurd h hnl
  ·rename_i hw
   simp only[hw] at h
   exact⟨fun _ _=>trivial,hK _ _ h⟩
theorem ny (l n:Nat) (hnl:¬ LetsOut Q) (hnd:∀ (j:Nat) (o:Oper) c,ops[j]? = some o→o.op ≠ .defer c):∀ (fuel:Nat) (listed:Array Bool) (a:Act) (w:World),
 wpAny P md ops Q fuel listed a w→wpAnyIn (Fence.wide.inRound l) n P md ops Q fuel listed a w
 | 0,_,_,_,h=>h
 | fuel+1,_,_,_,h=>⟨h.1,fun i hi=>xL l n hnl hnd (fun a' w' h'=>ny l n hnl hnd fuel _ a' w' h') (h.2 i hi)⟩
def Ad (ops:Array Oper):Bool:=ops.all fun o=>match o.op with | .defer _=>false | _=>true
theorem Ae (h:Ad ops=true) (j:Nat) (o:Oper) (c:Call) (ho:ops[j]? = some o):o.op ≠ .defer c:=by
 intro hc
 have:=Array.all_eq_true'.1 h o (Array.mem_of_getElem? ho)
 rw[hc] at this
 cases this
theorem sU {id:Nat} (l n:Nat) {a:Act} {w:World} (hnl:¬ LetsOut Q) (hm:P.follows .mixedOrders=true) (hd:Ad ops=true)
 (h:wpAny P .any ops Q ops.size (Array.replicate ops.size false) a w.drew):(Code.region id ops true).wpIn (Fence.wide.inRound l) n P Q a w:=
 wpIn_region_any hm (ny l n hnl (Ae hd) _ _ _ _ h)
theorem lN {id:Nat} (l n:Nat) {a:Act} {w:World} (hm:P.follows .mixedOrders=true) (hd:Ad ops=true)
 (h:wpAny P .any ops (fun e a w=>e = .normal∧Q .normal a w) ops.size (Array.replicate ops.size false) a w.drew):(Code.region id ops true).wpIn (Fence.wide.inRound l) n P Q a w:=
 wpIn_mono (Q:=fun e a w=>e = .normal∧Q .normal a w) (sU l n (fun hl=>by obtain⟨_,_,h,_⟩:=hl;cases h) hm hd h) (fun e a w he=>by obtain⟨h1,h2⟩:=he;subst h1;exact h2)
end
end Go
namespace Go.Proofs.YtcgbgifbajdhpaaGreatDoor.PA
open Go.RowKit Go.Proofs.YtcgbgifbajdhpaaGreatDoor.G Go.Proofs.YtcgbgifbajdhpaaGreatDoorW.au Go.Proofs.YtcgbgifbajdhpaaGreatDoorW.aI Go.Proofs.YtcgbgifbajdhpaaGreatDoorW.aJ
def kN (xs:List (List Int)) (i:Int):List Int:=xs.getD i.toNat []
theorem Jk {w:World} {A:Option Addr} {n:Nat} {xs:List (List Int)} (h:Kd.C (Kd.slice 5 (Kd.int .u8)) w A n xs) (i:Int) (h0:0≤i) (h1:i<n):∃ ad A0 c0,A=some ad∧w.cell? (ad.add i.toNat)=some (.slice A0 (kN xs i).length c0)∧(kN xs i).length≤c0∧(Kd.int .u8).C w A0 (kN xs i).length (kN xs i):=by
 obtain⟨ad,c,e,_,hK,hc0⟩:=Kd.ng h ([]:List Int) i h0 h1
 have hc:∀ j u,c[j]? = some u→w.cell? (ad.add (i.toNat*1+j))=some u:=hc0
 obtain⟨A0,c0,rfl,l0,g0⟩:=hK
 exact⟨ad,A0,c0,e,by have hq:=hc 0 _ rfl;rwa [Nat.mul_one,Nat.add_zero] at hq,l0,g0⟩
theorem Px.calls (n:Int) (w:World) (h0:0≤n) (h1:n≤1000000000) :
 Calls Tryz.prog 94 #[.slice none 0 0,.int .i64 n] w fun e w'=>∃ v:Value,e = .returned v∧Kd.R (Kd.int .u8) 5 w' w.heap.size (fun _=>True) v []∧Below w.heap.size w w':=by
 have hneg:decide (n<0)=false:=decide_eq_false (by omega)
 have hw:IntKind.i64.wrap n=n:=by rw[IntKind.wrap_i64];omega
 have HB0:ah (Below w.heap.size w w):=⟨Below.refl _ _⟩
 obtain⟨i05,hi05,_,hsz5,_⟩:=info_parts gU
 have hcut0:=rO (P:=Tryz.prog) 24 5 .i64 Tryz.underlying24 hi05 none 0 0 0 (by omega) (by omega) (by omega)
 have HN0:ah (0≤n∧n≤1000000000):=⟨h0,h1⟩
 clear h0 h1
 go_enter Tryz.func94,Tryz.ntmps94
 by_cases hp:0<n
 ·have hd:decide (0<n)=true:=decide_eq_true hp
  have HP:=ah.mk hp
  clear hp
  go_wp2_with (first|((with_reducible refine bM (N:=22) rfl ?_);go_must (refine Kd.vC (Kd.int .u8) (w0:=w) w.heap.size rfl (.tmp 20) (.tmp 21) 24 3 5 (.int .u8 0) 1 rfl Tryz.underlying24 Tryz.underlying3 gU rfl (by decide) (by omega) (.slice none 0 0) [] 0 n (fun _=>True) rfl rfl rfl (fun _ _=>trivial) (Kd.fP _ _ _ _ _) HN0.o.1 (Below.refl _ _) (Nat.le_refl _) ?h6 ?_);(case h6=>(have:=HN0.o;simp only[List.length_nil];omega));intro v4 w4 hR4 hB4 hg4 ho4;obtain⟨g4,c4,rfl,hb4,hl4,_⟩:=Kd.zu hR4 (by have:=HP.o;simp only[List.nil_append,List.length_replicate];omega);have hcc:=(Kd.aX hR4).2.1;have hcut4:=rO (P:=Tryz.prog) 24 5 .i64 Tryz.underlying24 hi05 (some ⟨g4,0,none⟩) _ c4 0 (by omega) (by omega) hcc;have HR4:=ah.mk (Kd.NT hR4 (Nat.zero_le _));have HB4:=ah.mk hB4;clear hR4 hB4 hg4 ho4))
  go_ret
  exact⟨_,rfl,HR4.o,HB4.o⟩
 ·obtain rfl:n=0:=by have:=HN0.o;omega
  go_wp2
  go_ret
  exact⟨_,rfl,Kd.fP _ _ _ _ _,Below.refl _ _⟩
theorem vZ (Ls:List (List Int)) (k:Nat) (hk:k<Ls.length):(Ls.take (k+1)).flatten=(Ls.take k).flatten++kN Ls (k:Int):=by
 have e:kN Ls (k:Int)=Ls[k]:=by simp[kN,List.getD_eq_getElem?_getD,List.getElem?_eq_getElem hk]
 rw[List.take_succ_eq_append_getElem hk,List.flatten_append,e]
 simp
theorem Ck (Ls:List (List Int)) (k:Nat):(Ls.take k).flatten.length≤Ls.flatten.length:=by
 have:Ls.flatten.length=(Ls.take k).flatten.length+(Ls.drop k).flatten.length:=by rw[← List.length_append,← List.flatten_append,List.take_append_drop]
 omega
theorem FC.calls (A0:Option Addr) (c0 n:Nat) (Ls:List (List Int)) (w:World) (hn:Ls.length=n) (hr0:Kd.C (Kd.slice 5 (Kd.int .u8)) w A0 n Ls) (hlen:n≤1000000) (hflat:Ls.flatten.length≤1000000000) :
 Calls Tryz.prog 62 #[.slice A0 n c0] w fun e w'=>∃ v:Value,e = .returned v∧Kd.R (Kd.int .u8) 5 w' w.heap.size (fun _=>True) v Ls.flatten∧Below w.heap.size w w':=by
 subst hn
 have HR:=ah.mk hr0
 have HL:=ah.mk hflat
 clear hr0 hflat
 go_enter Tryz.func62,Tryz.ntmps62
 go_wp2
 go_loopw [3,11] (fun s i wr=>∃ k:Nat,k≤Ls.length∧i = .int .i64 k∧s = .int .i64 (((Ls.take k).flatten.length:Nat):Int)∧ah (Below w.heap.size w wr)) (fun _ i _=>Ls.length-(intOf i).toNat)
 case atStart=>exact⟨0,Nat.zero_le _,rfl,rfl,⟨Below.refl _ _⟩⟩
 case round=>
  obtain⟨k,hk,rfl,rfl,HB⟩:=hrel
  by_cases hlt:k<Ls.length
  ·obtain⟨ad,A1,c1,rfl,h0,_,_⟩:=Jk (Kd.aH HR.o HB.o) (k:Int) (by omega) (by omega)
   rw[Int.toNat_natCast] at h0
   have hst:=vZ Ls k hlt
   have hle1:=Ck Ls (k+1)
   have hlL:=HL.o
   have HST:ah ((((Ls.take (k+1)).flatten.length:Nat):Int)=((Ls.take k).flatten.length:Int)+((kN Ls (k:Int)).length:Int)):=⟨by rw[hst,List.length_append];omega⟩
   have hneg:decide (((Ls.take k).flatten.length:Int)+((kN Ls (k:Int)).length:Int)<0)=false:=decide_eq_false (by omega)
   have hw:IntKind.i64.wrap (((Ls.take k).flatten.length:Int)+((kN Ls (k:Int)).length:Int))=((Ls.take k).flatten.length:Int)+((kN Ls (k:Int)).length:Int):=by rw[IntKind.wrap_i64];have:=HST.o;omega
   clear hst hle1 hlL
   generalize kN Ls (k:Int)=y at h0 HST hneg hw
   generalize (Ls.take k).flatten.length=m at HST hneg hw
   go_wp2
   go_roundw
   case rel=>exact⟨k+1,by omega,by go_num,by rw[HST.o],HB⟩
   case measure=>simp[intOf];omega
  ·obtain rfl:k=Ls.length:=by omega
   rw[List.take_length]
   have HL0:ah ((0:Int)≤(Ls.flatten.length:Int)∧(Ls.flatten.length:Int)≤1000000000):=⟨by have:=HL.o;omega⟩
   generalize Ls.flatten.length=N at HL0 ⊢
   go_wp2_with (first|(go_at_call 94;(with_reducible refine (Px.calls (N:Int) _ HL0.o.1 HL0.o.2).mono ?_);rintro e w2 ⟨v2,rfl,hr2,hb2⟩;have HR2:=ah.mk (Kd.dW hr2 HB.o.size);have HB2:=ah.mk (ak HB.o hb2);clear hr2 hb2))
   go_loopw [6,27] (fun v i wq=>∃ k:Nat,k≤Ls.length∧i = .int .i64 k∧ah (Kd.R (Kd.int .u8) 5 wq w.heap.size (fun _=>True) v (Ls.take k).flatten)∧ah (Below w.heap.size w wq)) (fun _ i _=>Ls.length-(intOf i).toNat)
   case atStart=>exact⟨0,Nat.zero_le _,rfl,HR2,HB2⟩
   case round=>
    clear HR2 HB2 HB
    obtain⟨k,hk,rfl,HO,HB⟩:=hrel
    by_cases hlt:k<Ls.length
    ·obtain⟨ad,A1,c1,rfl,h0,_,hC⟩:=Jk HR.o (k:Int) (by omega) (by omega)
     rw[Int.toNat_natCast] at h0
     have h0':=aV HB.o h0
     have HF:=ah.mk (Kd.aH hC HB.o)
     have HST:=ah.mk (vZ Ls k hlt)
     have HLE:=ah.mk (Ck Ls (k+1))
     clear h0 hC
     generalize kN Ls (k:Int)=y at h0' HST HF
     go_wp2_with (first|((with_reducible refine bM (N:=33) rfl ?_);go_must (refine Kd.j5 (Value.int .u8) 0 (h1:=fun _=>rfl) (w0:=w) w.heap.size rfl (.tmp 31) (.tmp 32) 24 5 (.int .u8 0) 1 rfl Tryz.underlying24 gU rfl (by decide) _ (Ls.take k).flatten y A1 y.length c1 (fun _=>True) rfl rfl (fun _ _=>trivial) HO.o HF.o HB.o HB.o.size ?h6 ?_);(case h6=>(have h1:=HST.o;have h2:=HLE.o;have h3:=HL.o;rw[h1,List.length_append] at h2;omega));intro v4 w4 hR4 hB4 hg4 ho4;have HR4:=ah.mk hR4;have HB4:=ah.mk hB4;clear hR4 hB4 hg4 ho4))
     go_roundw
     case rel=>exact⟨k+1,by omega,by go_num,⟨by rw[HST.o];exact HR4.o⟩,HB4⟩
     case measure=>simp[intOf];omega
    ·obtain rfl:k=Ls.length:=by omega
     go_wp2
     go_ret
     exact⟨_,rfl,by have:=HO.o;rwa [List.take_length] at this,HB.o⟩
theorem Ob (W:World) (g:Nat) (A1 A2 A3 A4:Option Addr) (c1 c2 c3 c4:Nat) (l1 l2 l3 l4:List Int) (t:Nat) (fr:Nat × Nat) (hb:W.heap[g]? = some (.cells #[.slice A1 l1.length c1,.slice A2 l2.length c2,.slice A3 l3.length c3,.slice A4 l4.length c4] t fr))
 (h1:Kd.C (Kd.int .u8) W A1 l1.length l1) (k1:l1.length≤c1) (h2:Kd.C (Kd.int .u8) W A2 l2.length l2) (k2:l2.length≤c2) (h3:Kd.C (Kd.int .u8) W A3 l3.length l3) (k3:l3.length≤c3) (h4:Kd.C (Kd.int .u8) W A4 l4.length l4) (k4:l4.length≤c4) :
 Kd.C (Kd.slice 5 (Kd.int .u8)) W (some ⟨g,0,none⟩) 4 [l1,l2,l3,l4]:=by
 have key:∀ (j:Nat) (u:Value),#[Value.slice A1 l1.length c1,.slice A2 l2.length c2,.slice A3 l3.length c3,.slice A4 l4.length c4][j]? = some u→W.cell? (Addr.add ⟨g,0,none⟩ j)=some u:=fun j u hu=>by
  rw[add_plain]
  exact (cell_of_row W g j _ t fr hb).trans hu
 have one:∀ (j:Nat) (u:Value),#[Value.slice A1 l1.length c1,.slice A2 l2.length c2,.slice A3 l3.length c3,.slice A4 l4.length c4][j]? = some u→∀ i v,[u][i]? = some v→W.cell? (Addr.add ⟨g,0,none⟩ (j*1+i))=some v:=fun j u hu i v hv=>by
  match i,hv with
  | 0,hv=>
    injection hv with hv
    subst hv
    rw[Nat.mul_one,Nat.add_zero]
    exact key j u hu
  | n+1,hv=>simp at hv
 refine⟨rfl,by decide,fun _=>⟨_,rfl,fun j p hj=>?_⟩⟩
 match j,hj with
 | 0,hj=>injection hj with hj;subst hj;exact⟨_,rfl,⟨A1,c1,rfl,k1,h1⟩,one 0 _ rfl⟩
 | 1,hj=>injection hj with hj;subst hj;exact⟨_,rfl,⟨A2,c2,rfl,k2,h2⟩,one 1 _ rfl⟩
 | 2,hj=>injection hj with hj;subst hj;exact⟨_,rfl,⟨A3,c3,rfl,k3,h3⟩,one 2 _ rfl⟩
 | 3,hj=>injection hj with hj;subst hj;exact⟨_,rfl,⟨A4,c4,rfl,k4,h4⟩,one 3 _ rfl⟩
 | n+4,hj=>simp at hj
end Go.Proofs.YtcgbgifbajdhpaaGreatDoor.PA
namespace Go.Proofs.YtcgbgifbajdhpaaGreatDoor.PA
open Go.RowKit Go.Proofs.YtcgbgifbajdhpaaGreatDoorW.au Go.Proofs.YtcgbgifbajdhpaaGreatDoorW.aI Go.Proofs.YtcgbgifbajdhpaaGreatDoorW.aJ
attribute [local go_sem] eG eH gq gu eT eU fU fV   -- for this text's walks alone
def aT.l0:Nat→ByteArray→Int→Option (Bool)
 | 0,_,_=>none
 | k+1,x0,x3=>if x3<(x0.size:Int) then (if 0≤x3 then (if (bt x0 x3)≥97 then (if (bt x0 x3)≤122 then (aT.l0 k x0 (wrap64 (x3+1))) else (if (bt x0 x3)≥65 then (if (bt x0 x3)≤90 then (aT.l0 k x0 (wrap64 (x3+1))) else (if ((bt x0 x3)=95) then (aT.l0 k x0 (wrap64 (x3+1))) else (if x3=0 then (some false) else (if (bt x0 x3)<48 then (some false) else (if (bt x0 x3)>57 then (some false) else (aT.l0 k x0 (wrap64 (x3+1)))))))) else (if ((bt x0 x3)=95) then (aT.l0 k x0 (wrap64 (x3+1))) else (if x3=0 then (some false) else (if (bt x0 x3)<48 then (some false) else (if (bt x0 x3)>57 then (some false) else (aT.l0 k x0 (wrap64 (x3+1))))))))) else (if (bt x0 x3)≥65 then (if (bt x0 x3)≤90 then (aT.l0 k x0 (wrap64 (x3+1))) else (if ((bt x0 x3)=95) then (aT.l0 k x0 (wrap64 (x3+1))) else (if x3=0 then (some false) else (if (bt x0 x3)<48 then (some false) else (if (bt x0 x3)>57 then (some false) else (aT.l0 k x0 (wrap64 (x3+1)))))))) else (if ((bt x0 x3)=95) then (aT.l0 k x0 (wrap64 (x3+1))) else (if x3=0 then (some false) else (if (bt x0 x3)<48 then (some false) else (if (bt x0 x3)>57 then (some false) else (aT.l0 k x0 (wrap64 (x3+1))))))))) else (none)) else (if (x0.size:Int)≥1 then (some (decide ((x0.size:Int)≤24))) else (some false))
def aT.f (k:Nat) (a0:ByteArray):Option (Bool):=aT.l0 k a0 0
theorem aT.fA:∀ k,(∀ y0 y1,bV (aT.l0 k y0 y1) (aT.l0 (k+1) y0 y1))
 | 0=>fun _ _ r h=>by simp[aT.l0] at h
 | k+1=>by
   have ih0:=aT.fA k
   ·intro y0 y1
    unfold aT.l0
    repeat' first
    | (with_reducible exact ih0 _ _)
    | (with_reducible exact bV.refl _)
    | (with_reducible exact bV.none _)
    | (with_reducible refine bV.ite ?_ ?_)
    | (with_reducible refine bV.bind ?_ (fun _=>?_))
    | exact ih0 _ _
    | exact bV.none _
    | refine bV.ite ?_ ?_
    | refine bV.bind ?_ (fun _=>?_)
theorem aT.mono:∀ a0 k,bV (aT.f k a0) (aT.f (k+1) a0):=by
 intro a0 k
 have ih0:=aT.fA k
 unfold aT.f
 repeat' first
  | (with_reducible exact ih0 _ _)
  | (with_reducible exact bV.refl _)
  | (with_reducible exact bV.none _)
  | (with_reducible refine bV.ite ?_ ?_)
  | (with_reducible refine bV.bind ?_ (fun _=>?_))
  | exact ih0 _ _
  | exact bV.none _
  | refine bV.ite ?_ ?_
  | refine bV.bind ?_ (fun _=>?_)
theorem aT.calls (k:Nat) (a0:ByteArray) (r:Bool) (w:World) (h:aT.f k a0=some r) :
 Calls Tryz.prog 99 #[.string a0] w fun e w'=>e = .returned (.bool r)∧aN w w':=by
 have H:(aT.l0 k a0 0)=some r:=h
 clear h
 have H':=ah.mk H
 clear H
 go_enter Tryz.func99,Tryz.ntmps99
 go_wp2
 go_loopg [3] k (fun kq v3 w'=>∃ (x3_1:Int),v3 = .int .i64 x3_1∧ah (aT.l0 kq a0 x3_1=some r)∧ah (kq≤k)∧aN w w')
 case atStart=>exact⟨(0),(by first | rfl | (simp;done)|(simp[*];done)),H',⟨Nat.le_refl _⟩,by repeat (first | exact aN.refl _ | apply aN.step)⟩
 case round=>
  clear H'
  obtain⟨x3_1,rfl,HA,HK1,⟨m1,rfl⟩⟩:=hrel
  cases gk with
  | zero=>exact absurd HA.o (by simp[aT.l0])
  | succ k1=>
    have H:=HA.o
    clear HA
    simp only[aT.l0] at H
    by_cases c2:x3_1<(a0.size:Int)
    ·rw[if_pos c2] at H
     have c2b0:decide (x3_1<(a0.size:Int))=true:=decide_eq_true c2
     clear c2
     by_cases c3:0≤x3_1
     ·rw[if_pos c3] at H
      have c3b0:decide (0≤x3_1)=true:=decide_eq_true c3
      clear c3
      by_cases c5:(bt a0 x3_1)≥97
      ·rw[if_pos c5] at H
       have c5b0:decide (97≤(bt a0 x3_1))=true:=decide_eq_true c5
       clear c5
       by_cases c6:(bt a0 x3_1)≤122
       ·rw[if_pos c6] at H
        have c6b0:decide ((bt a0 x3_1)≤122)=true:=decide_eq_true c6
        clear c6
        have H':=ah.mk H
        clear H
        have p4:0≤(x3_1:Int):=of_decide_eq_true (by first|(with_reducible assumption)|assumption)
        have q4:x3_1<(a0.size:Int):=of_decide_eq_true (by first|(with_reducible assumption)|assumption)
        have hx4:=iK a0 x3_1
        replace p4:=eq_true p4
        replace q4:=eq_true q4
        go_wp2
        go_roundg k1
        case measure=>have:=HK1.o;omega
        case rel=>exact⟨(wrap64 (x3_1+1)),(by first | rfl | (simp;done)|(simp[*];done)),H',⟨by have:=HK1.o;omega⟩,by repeat (first | exact aN.refl _ | apply aN.step)⟩
       ·rw[if_neg c6] at H
        have c6b0:decide ((bt a0 x3_1)≤122)=false:=decide_eq_false c6
        clear c6
        by_cases c7:(bt a0 x3_1)≥65
        ·rw[if_pos c7] at H
         have c7b0:decide (65≤(bt a0 x3_1))=true:=decide_eq_true c7
         clear c7
         by_cases c8:(bt a0 x3_1)≤90
         ·rw[if_pos c8] at H
          have c8b0:decide ((bt a0 x3_1)≤90)=true:=decide_eq_true c8
          clear c8
          have H':=ah.mk H
          clear H
          have p4:0≤(x3_1:Int):=of_decide_eq_true (by first|(with_reducible assumption)|assumption)
          have q4:x3_1<(a0.size:Int):=of_decide_eq_true (by first|(with_reducible assumption)|assumption)
          have hx4:=iK a0 x3_1
          replace p4:=eq_true p4
          replace q4:=eq_true q4
          go_wp2
          go_roundg k1
          case measure=>have:=HK1.o;omega
          case rel=>exact⟨(wrap64 (x3_1+1)),(by first | rfl | (simp;done)|(simp[*];done)),H',⟨by have:=HK1.o;omega⟩,by repeat (first | exact aN.refl _ | apply aN.step)⟩
         ·rw[if_neg c8] at H
          have c8b0:decide ((bt a0 x3_1)≤90)=false:=decide_eq_false c8
          clear c8
          by_cases c9:((bt a0 x3_1)=95)
          ·rw[if_pos c9] at H
           have c9b0:((bt a0 x3_1)==95)=true:=beq_iff_eq.mpr c9
           have c9b1:((bt a0 x3_1) != 95)=false:=bne_eq_false_iff_eq.mpr c9
           clear c9
           have H':=ah.mk H
           clear H
           have p4:0≤(x3_1:Int):=of_decide_eq_true (by first|(with_reducible assumption)|assumption)
           have q4:x3_1<(a0.size:Int):=of_decide_eq_true (by first|(with_reducible assumption)|assumption)
           have hx4:=iK a0 x3_1
           replace p4:=eq_true p4
           replace q4:=eq_true q4
           go_wp2
           go_roundg k1
           case measure=>have:=HK1.o;omega
           case rel=>exact⟨(wrap64 (x3_1+1)),(by first | rfl | (simp;done)|(simp[*];done)),H',⟨by have:=HK1.o;omega⟩,by repeat (first | exact aN.refl _ | apply aN.step)⟩
          ·rw[if_neg c9] at H
           have c9b0:((bt a0 x3_1)==95)=false:=beq_eq_false_iff_ne.mpr c9
           have c9b1:((bt a0 x3_1) != 95)=true:=bne_iff_ne.mpr c9
           by_cases c10:x3_1=0
           ·rw[if_pos c10] at H
            have c10b0:(x3_1==0)=true:=beq_iff_eq.mpr c10
            have c10b1:(x3_1 != 0)=false:=bne_eq_false_iff_eq.mpr c10
            clear c10
            obtain rfl:=Option.some.inj H
            have p4:0≤(x3_1:Int):=of_decide_eq_true (by first|(with_reducible assumption)|assumption)
            have q4:x3_1<(a0.size:Int):=of_decide_eq_true (by first|(with_reducible assumption)|assumption)
            have hx4:=iK a0 x3_1
            replace p4:=eq_true p4
            replace q4:=eq_true q4
            go_wp2
            go_ret
            exact⟨by first | rfl | (simp;done)|(simp[*];done)|(simp;decide +kernel),by repeat (first | exact aN.refl _ | apply aN.step)⟩
           ·rw[if_neg c10] at H
            have c10b0:(x3_1==0)=false:=beq_eq_false_iff_ne.mpr c10
            have c10b1:(x3_1 != 0)=true:=bne_iff_ne.mpr c10
            by_cases c11:(bt a0 x3_1)<48
            ·rw[if_pos c11] at H
             have c11b0:decide ((bt a0 x3_1)<48)=true:=decide_eq_true c11
             clear c11
             obtain rfl:=Option.some.inj H
             have p4:0≤(x3_1:Int):=of_decide_eq_true (by first|(with_reducible assumption)|assumption)
             have q4:x3_1<(a0.size:Int):=of_decide_eq_true (by first|(with_reducible assumption)|assumption)
             have hx4:=iK a0 x3_1
             replace p4:=eq_true p4
             replace q4:=eq_true q4
             go_wp2
             go_ret
             exact⟨by first | rfl | (simp;done)|(simp[*];done)|(simp;decide +kernel),by repeat (first | exact aN.refl _ | apply aN.step)⟩
            ·rw[if_neg c11] at H
             have c11b0:decide ((bt a0 x3_1)<48)=false:=decide_eq_false c11
             clear c11
             by_cases c12:(bt a0 x3_1)>57
             ·rw[if_pos c12] at H
              have c12b0:decide (57<(bt a0 x3_1))=true:=decide_eq_true c12
              clear c12
              obtain rfl:=Option.some.inj H
              have p4:0≤(x3_1:Int):=of_decide_eq_true (by first|(with_reducible assumption)|assumption)
              have q4:x3_1<(a0.size:Int):=of_decide_eq_true (by first|(with_reducible assumption)|assumption)
              have hx4:=iK a0 x3_1
              replace p4:=eq_true p4
              replace q4:=eq_true q4
              go_wp2
              go_ret
              exact⟨by first | rfl | (simp;done)|(simp[*];done)|(simp;decide +kernel),by repeat (first | exact aN.refl _ | apply aN.step)⟩
             ·rw[if_neg c12] at H
              have c12b0:decide (57<(bt a0 x3_1))=false:=decide_eq_false c12
              clear c12
              have H':=ah.mk H
              clear H
              have p4:0≤(x3_1:Int):=of_decide_eq_true (by first|(with_reducible assumption)|assumption)
              have q4:x3_1<(a0.size:Int):=of_decide_eq_true (by first|(with_reducible assumption)|assumption)
              have hx4:=iK a0 x3_1
              replace p4:=eq_true p4
              replace q4:=eq_true q4
              go_wp2
              go_roundg k1
              case measure=>have:=HK1.o;omega
              case rel=>exact⟨(wrap64 (x3_1+1)),(by first | rfl | (simp;done)|(simp[*];done)),H',⟨by have:=HK1.o;omega⟩,by repeat (first | exact aN.refl _ | apply aN.step)⟩
        ·rw[if_neg c7] at H
         have c7b0:decide (65≤(bt a0 x3_1))=false:=decide_eq_false c7
         clear c7
         by_cases c13:((bt a0 x3_1)=95)
         ·rw[if_pos c13] at H
          have c13b0:((bt a0 x3_1)==95)=true:=beq_iff_eq.mpr c13
          have c13b1:((bt a0 x3_1) != 95)=false:=bne_eq_false_iff_eq.mpr c13
          clear c13
          have H':=ah.mk H
          clear H
          have p4:0≤(x3_1:Int):=of_decide_eq_true (by first|(with_reducible assumption)|assumption)
          have q4:x3_1<(a0.size:Int):=of_decide_eq_true (by first|(with_reducible assumption)|assumption)
          have hx4:=iK a0 x3_1
          replace p4:=eq_true p4
          replace q4:=eq_true q4
          go_wp2
          go_roundg k1
          case measure=>have:=HK1.o;omega
          case rel=>exact⟨(wrap64 (x3_1+1)),(by first | rfl | (simp;done)|(simp[*];done)),H',⟨by have:=HK1.o;omega⟩,by repeat (first | exact aN.refl _ | apply aN.step)⟩
         ·rw[if_neg c13] at H
          have c13b0:((bt a0 x3_1)==95)=false:=beq_eq_false_iff_ne.mpr c13
          have c13b1:((bt a0 x3_1) != 95)=true:=bne_iff_ne.mpr c13
          by_cases c14:x3_1=0
          ·rw[if_pos c14] at H
           have c14b0:(x3_1==0)=true:=beq_iff_eq.mpr c14
           have c14b1:(x3_1 != 0)=false:=bne_eq_false_iff_eq.mpr c14
           clear c14
           obtain rfl:=Option.some.inj H
           have p4:0≤(x3_1:Int):=of_decide_eq_true (by first|(with_reducible assumption)|assumption)
           have q4:x3_1<(a0.size:Int):=of_decide_eq_true (by first|(with_reducible assumption)|assumption)
           have hx4:=iK a0 x3_1
           replace p4:=eq_true p4
           replace q4:=eq_true q4
           go_wp2
           go_ret
           exact⟨by first | rfl | (simp;done)|(simp[*];done)|(simp;decide +kernel),by repeat (first | exact aN.refl _ | apply aN.step)⟩
          ·rw[if_neg c14] at H
           have c14b0:(x3_1==0)=false:=beq_eq_false_iff_ne.mpr c14
           have c14b1:(x3_1 != 0)=true:=bne_iff_ne.mpr c14
           by_cases c15:(bt a0 x3_1)<48
           ·rw[if_pos c15] at H
            have c15b0:decide ((bt a0 x3_1)<48)=true:=decide_eq_true c15
            clear c15
            obtain rfl:=Option.some.inj H
            have p4:0≤(x3_1:Int):=of_decide_eq_true (by first|(with_reducible assumption)|assumption)
            have q4:x3_1<(a0.size:Int):=of_decide_eq_true (by first|(with_reducible assumption)|assumption)
            have hx4:=iK a0 x3_1
            replace p4:=eq_true p4
            replace q4:=eq_true q4
            go_wp2
            go_ret
            exact⟨by first | rfl | (simp;done)|(simp[*];done)|(simp;decide +kernel),by repeat (first | exact aN.refl _ | apply aN.step)⟩
           ·rw[if_neg c15] at H
            have c15b0:decide ((bt a0 x3_1)<48)=false:=decide_eq_false c15
            clear c15
            by_cases c16:(bt a0 x3_1)>57
            ·rw[if_pos c16] at H
             have c16b0:decide (57<(bt a0 x3_1))=true:=decide_eq_true c16
             clear c16
             obtain rfl:=Option.some.inj H
             have p4:0≤(x3_1:Int):=of_decide_eq_true (by first|(with_reducible assumption)|assumption)
             have q4:x3_1<(a0.size:Int):=of_decide_eq_true (by first|(with_reducible assumption)|assumption)
             have hx4:=iK a0 x3_1
             replace p4:=eq_true p4
             replace q4:=eq_true q4
             go_wp2
             go_ret
             exact⟨by first | rfl | (simp;done)|(simp[*];done)|(simp;decide +kernel),by repeat (first | exact aN.refl _ | apply aN.step)⟩
            ·rw[if_neg c16] at H
             have c16b0:decide (57<(bt a0 x3_1))=false:=decide_eq_false c16
             clear c16
             have H':=ah.mk H
             clear H
             have p4:0≤(x3_1:Int):=of_decide_eq_true (by first|(with_reducible assumption)|assumption)
             have q4:x3_1<(a0.size:Int):=of_decide_eq_true (by first|(with_reducible assumption)|assumption)
             have hx4:=iK a0 x3_1
             replace p4:=eq_true p4
             replace q4:=eq_true q4
             go_wp2
             go_roundg k1
             case measure=>have:=HK1.o;omega
             case rel=>exact⟨(wrap64 (x3_1+1)),(by first | rfl | (simp;done)|(simp[*];done)),H',⟨by have:=HK1.o;omega⟩,by repeat (first | exact aN.refl _ | apply aN.step)⟩
      ·rw[if_neg c5] at H
       have c5b0:decide (97≤(bt a0 x3_1))=false:=decide_eq_false c5
       clear c5
       by_cases c17:(bt a0 x3_1)≥65
       ·rw[if_pos c17] at H
        have c17b0:decide (65≤(bt a0 x3_1))=true:=decide_eq_true c17
        clear c17
        by_cases c18:(bt a0 x3_1)≤90
        ·rw[if_pos c18] at H
         have c18b0:decide ((bt a0 x3_1)≤90)=true:=decide_eq_true c18
         clear c18
         have H':=ah.mk H
         clear H
         have p4:0≤(x3_1:Int):=of_decide_eq_true (by first|(with_reducible assumption)|assumption)
         have q4:x3_1<(a0.size:Int):=of_decide_eq_true (by first|(with_reducible assumption)|assumption)
         have hx4:=iK a0 x3_1
         replace p4:=eq_true p4
         replace q4:=eq_true q4
         go_wp2
         go_roundg k1
         case measure=>have:=HK1.o;omega
         case rel=>exact⟨(wrap64 (x3_1+1)),(by first | rfl | (simp;done)|(simp[*];done)),H',⟨by have:=HK1.o;omega⟩,by repeat (first | exact aN.refl _ | apply aN.step)⟩
        ·rw[if_neg c18] at H
         have c18b0:decide ((bt a0 x3_1)≤90)=false:=decide_eq_false c18
         clear c18
         by_cases c19:((bt a0 x3_1)=95)
         ·rw[if_pos c19] at H
          have c19b0:((bt a0 x3_1)==95)=true:=beq_iff_eq.mpr c19
          have c19b1:((bt a0 x3_1) != 95)=false:=bne_eq_false_iff_eq.mpr c19
          clear c19
          have H':=ah.mk H
          clear H
          have p4:0≤(x3_1:Int):=of_decide_eq_true (by first|(with_reducible assumption)|assumption)
          have q4:x3_1<(a0.size:Int):=of_decide_eq_true (by first|(with_reducible assumption)|assumption)
          have hx4:=iK a0 x3_1
          replace p4:=eq_true p4
          replace q4:=eq_true q4
          go_wp2
          go_roundg k1
          case measure=>have:=HK1.o;omega
          case rel=>exact⟨(wrap64 (x3_1+1)),(by first | rfl | (simp;done)|(simp[*];done)),H',⟨by have:=HK1.o;omega⟩,by repeat (first | exact aN.refl _ | apply aN.step)⟩
         ·rw[if_neg c19] at H
          have c19b0:((bt a0 x3_1)==95)=false:=beq_eq_false_iff_ne.mpr c19
          have c19b1:((bt a0 x3_1) != 95)=true:=bne_iff_ne.mpr c19
          by_cases c20:x3_1=0
          ·rw[if_pos c20] at H
           have c20b0:(x3_1==0)=true:=beq_iff_eq.mpr c20
           have c20b1:(x3_1 != 0)=false:=bne_eq_false_iff_eq.mpr c20
           clear c20
           obtain rfl:=Option.some.inj H
           have p4:0≤(x3_1:Int):=of_decide_eq_true (by first|(with_reducible assumption)|assumption)
           have q4:x3_1<(a0.size:Int):=of_decide_eq_true (by first|(with_reducible assumption)|assumption)
           have hx4:=iK a0 x3_1
           replace p4:=eq_true p4
           replace q4:=eq_true q4
           go_wp2
           go_ret
           exact⟨by first | rfl | (simp;done)|(simp[*];done)|(simp;decide +kernel),by repeat (first | exact aN.refl _ | apply aN.step)⟩
          ·rw[if_neg c20] at H
           have c20b0:(x3_1==0)=false:=beq_eq_false_iff_ne.mpr c20
           have c20b1:(x3_1 != 0)=true:=bne_iff_ne.mpr c20
           by_cases c21:(bt a0 x3_1)<48
           ·rw[if_pos c21] at H
            have c21b0:decide ((bt a0 x3_1)<48)=true:=decide_eq_true c21
            clear c21
            obtain rfl:=Option.some.inj H
            have p4:0≤(x3_1:Int):=of_decide_eq_true (by first|(with_reducible assumption)|assumption)
            have q4:x3_1<(a0.size:Int):=of_decide_eq_true (by first|(with_reducible assumption)|assumption)
            have hx4:=iK a0 x3_1
            replace p4:=eq_true p4
            replace q4:=eq_true q4
            go_wp2
            go_ret
            exact⟨by first | rfl | (simp;done)|(simp[*];done)|(simp;decide +kernel),by repeat (first | exact aN.refl _ | apply aN.step)⟩
           ·rw[if_neg c21] at H
            have c21b0:decide ((bt a0 x3_1)<48)=false:=decide_eq_false c21
            clear c21
            by_cases c22:(bt a0 x3_1)>57
            ·rw[if_pos c22] at H
             have c22b0:decide (57<(bt a0 x3_1))=true:=decide_eq_true c22
             clear c22
             obtain rfl:=Option.some.inj H
             have p4:0≤(x3_1:Int):=of_decide_eq_true (by first|(with_reducible assumption)|assumption)
             have q4:x3_1<(a0.size:Int):=of_decide_eq_true (by first|(with_reducible assumption)|assumption)
             have hx4:=iK a0 x3_1
             replace p4:=eq_true p4
             replace q4:=eq_true q4
             go_wp2
             go_ret
             exact⟨by first | rfl | (simp;done)|(simp[*];done)|(simp;decide +kernel),by repeat (first | exact aN.refl _ | apply aN.step)⟩
            ·rw[if_neg c22] at H
             have c22b0:decide (57<(bt a0 x3_1))=false:=decide_eq_false c22
             clear c22
             have H':=ah.mk H
             clear H
             have p4:0≤(x3_1:Int):=of_decide_eq_true (by first|(with_reducible assumption)|assumption)
             have q4:x3_1<(a0.size:Int):=of_decide_eq_true (by first|(with_reducible assumption)|assumption)
             have hx4:=iK a0 x3_1
             replace p4:=eq_true p4
             replace q4:=eq_true q4
             go_wp2
             go_roundg k1
             case measure=>have:=HK1.o;omega
             case rel=>exact⟨(wrap64 (x3_1+1)),(by first | rfl | (simp;done)|(simp[*];done)),H',⟨by have:=HK1.o;omega⟩,by repeat (first | exact aN.refl _ | apply aN.step)⟩
       ·rw[if_neg c17] at H
        have c17b0:decide (65≤(bt a0 x3_1))=false:=decide_eq_false c17
        clear c17
        by_cases c23:((bt a0 x3_1)=95)
        ·rw[if_pos c23] at H
         have c23b0:((bt a0 x3_1)==95)=true:=beq_iff_eq.mpr c23
         have c23b1:((bt a0 x3_1) != 95)=false:=bne_eq_false_iff_eq.mpr c23
         clear c23
         have H':=ah.mk H
         clear H
         have p4:0≤(x3_1:Int):=of_decide_eq_true (by first|(with_reducible assumption)|assumption)
         have q4:x3_1<(a0.size:Int):=of_decide_eq_true (by first|(with_reducible assumption)|assumption)
         have hx4:=iK a0 x3_1
         replace p4:=eq_true p4
         replace q4:=eq_true q4
         go_wp2
         go_roundg k1
         case measure=>have:=HK1.o;omega
         case rel=>exact⟨(wrap64 (x3_1+1)),(by first | rfl | (simp;done)|(simp[*];done)),H',⟨by have:=HK1.o;omega⟩,by repeat (first | exact aN.refl _ | apply aN.step)⟩
        ·rw[if_neg c23] at H
         have c23b0:((bt a0 x3_1)==95)=false:=beq_eq_false_iff_ne.mpr c23
         have c23b1:((bt a0 x3_1) != 95)=true:=bne_iff_ne.mpr c23
         by_cases c24:x3_1=0
         ·rw[if_pos c24] at H
          have c24b0:(x3_1==0)=true:=beq_iff_eq.mpr c24
          have c24b1:(x3_1 != 0)=false:=bne_eq_false_iff_eq.mpr c24
          clear c24
          obtain rfl:=Option.some.inj H
          have p4:0≤(x3_1:Int):=of_decide_eq_true (by first|(with_reducible assumption)|assumption)
          have q4:x3_1<(a0.size:Int):=of_decide_eq_true (by first|(with_reducible assumption)|assumption)
          have hx4:=iK a0 x3_1
          replace p4:=eq_true p4
          replace q4:=eq_true q4
          go_wp2
          go_ret
          exact⟨by first | rfl | (simp;done)|(simp[*];done)|(simp;decide +kernel),by repeat (first | exact aN.refl _ | apply aN.step)⟩
         ·rw[if_neg c24] at H
          have c24b0:(x3_1==0)=false:=beq_eq_false_iff_ne.mpr c24
          have c24b1:(x3_1 != 0)=true:=bne_iff_ne.mpr c24
          by_cases c25:(bt a0 x3_1)<48
          ·rw[if_pos c25] at H
           have c25b0:decide ((bt a0 x3_1)<48)=true:=decide_eq_true c25
           clear c25
           obtain rfl:=Option.some.inj H
           have p4:0≤(x3_1:Int):=of_decide_eq_true (by first|(with_reducible assumption)|assumption)
           have q4:x3_1<(a0.size:Int):=of_decide_eq_true (by first|(with_reducible assumption)|assumption)
           have hx4:=iK a0 x3_1
           replace p4:=eq_true p4
           replace q4:=eq_true q4
           go_wp2
           go_ret
           exact⟨by first | rfl | (simp;done)|(simp[*];done)|(simp;decide +kernel),by repeat (first | exact aN.refl _ | apply aN.step)⟩
          ·rw[if_neg c25] at H
           have c25b0:decide ((bt a0 x3_1)<48)=false:=decide_eq_false c25
           clear c25
           by_cases c26:(bt a0 x3_1)>57
           ·rw[if_pos c26] at H
            have c26b0:decide (57<(bt a0 x3_1))=true:=decide_eq_true c26
            clear c26
            obtain rfl:=Option.some.inj H
            have p4:0≤(x3_1:Int):=of_decide_eq_true (by first|(with_reducible assumption)|assumption)
            have q4:x3_1<(a0.size:Int):=of_decide_eq_true (by first|(with_reducible assumption)|assumption)
            have hx4:=iK a0 x3_1
            replace p4:=eq_true p4
            replace q4:=eq_true q4
            go_wp2
            go_ret
            exact⟨by first | rfl | (simp;done)|(simp[*];done)|(simp;decide +kernel),by repeat (first | exact aN.refl _ | apply aN.step)⟩
           ·rw[if_neg c26] at H
            have c26b0:decide (57<(bt a0 x3_1))=false:=decide_eq_false c26
            clear c26
            have H':=ah.mk H
            clear H
            have p4:0≤(x3_1:Int):=of_decide_eq_true (by first|(with_reducible assumption)|assumption)
            have q4:x3_1<(a0.size:Int):=of_decide_eq_true (by first|(with_reducible assumption)|assumption)
            have hx4:=iK a0 x3_1
            replace p4:=eq_true p4
            replace q4:=eq_true q4
            go_wp2
            go_roundg k1
            case measure=>have:=HK1.o;omega
            case rel=>exact⟨(wrap64 (x3_1+1)),(by first | rfl | (simp;done)|(simp[*];done)),H',⟨by have:=HK1.o;omega⟩,by repeat (first | exact aN.refl _ | apply aN.step)⟩
     ·rw[if_neg c3] at H
      exact absurd H (by simp)
    ·rw[if_neg c2] at H
     have c2b0:decide (x3_1<(a0.size:Int))=false:=decide_eq_false c2
     clear c2
     by_cases c27:(a0.size:Int)≥1
     ·rw[if_pos c27] at H
      have c27b0:decide (1≤(a0.size:Int))=true:=decide_eq_true c27
      have c27b1:decide (1≤a0.size)=true:=decide_eq_true (by omega)
      clear c27
      obtain rfl:=Option.some.inj H
      go_wp2
      go_ret
      exact⟨by first | rfl | (simp;done)|(simp[*];done)|(simp;decide +kernel),by repeat (first | exact aN.refl _ | apply aN.step)⟩
     ·rw[if_neg c27] at H
      have c27b0:decide (1≤(a0.size:Int))=false:=decide_eq_false c27
      have c27b1:decide (1≤a0.size)=false:=decide_eq_false (by omega)
      clear c27
      obtain rfl:=Option.some.inj H
      go_wp2
      go_ret
      exact⟨by first | rfl | (simp;done)|(simp[*];done)|(simp;decide +kernel),by repeat (first | exact aN.refl _ | apply aN.step)⟩
end Go.Proofs.YtcgbgifbajdhpaaGreatDoor.PA
namespace Go.Proofs.YtcgbgifbajdhpaaGreatDoor.PA
open Go.RowKit Go.Proofs.YtcgbgifbajdhpaaGreatDoor.G Go.Proofs.YtcgbgifbajdhpaaGreatDoorW.au Go.Proofs.YtcgbgifbajdhpaaGreatDoorW.aI Go.Proofs.YtcgbgifbajdhpaaGreatDoorW.aJ
def He (c:Int):Bool:=(decide (97≤c)&&decide (c≤122))||(decide (65≤c)&&decide (c≤90))||decide (c=95)
theorem xY:∀ n:Fin 256,mO ((n.1:Nat):Int)=He ((n.1:Nat):Int):=by decide +kernel
theorem yP (s:ByteArray) (i:Int):mO (bt s i)=He (bt s i):=by
 obtain⟨h0,h1⟩:=Bv s i
 obtain⟨n,hn⟩:=Int.eq_ofNat_of_zero_le h0
 rw[hn]
 exact xY ⟨n,by omega⟩
def Nt (s:ByteArray) (j:Nat):Bool:=He (bt s (j:Int))||(decide (j≠0)&&uo (bt s (j:Int)))
theorem EL (s:ByteArray) (i k:Nat) (hi:i<s.size) (hs:s.size≤140737488355328):aT.l0 (k+1) s (i:Int)=if Nt s i=true then aT.l0 k s ((i+1:Nat):Int) else some false:=by
 have e:wrap64 ((i:Int)+1)=((i+1:Nat):Int):=by rw[jZ (by omega) (by omega)];omega
 rw[aT.l0,e,if_pos (by omega),if_pos (by omega)]
 have hr:=Bv s (i:Int)
 unfold Nt He uo
 generalize bt s (i:Int)=c at hr
 generalize aT.l0 k s ((i+1:Nat):Int)=z
 by_cases hi0:i=0
 ·subst hi0
  repeat' split
  all_goals first | rfl | (exfalso;simp at *;done)|(exfalso;simp at *;omega)
 ·repeat' split
  all_goals first | rfl | (exfalso;simp[hi0] at *;done)|(exfalso;simp[hi0] at *;omega)
theorem xq (s:ByteArray) (hs:s.size≤140737488355328):∀ d i k,i+d=s.size→d<k→aT.l0 k s (i:Int)=some ((List.range d).all (fun j=>Nt s (i+j))&&(decide (1≤s.size)&&decide (s.size≤24)))
 | 0,i,k+1,h,hk=>by
   rw[aT.l0,if_neg (by omega)]
   by_cases h1:(s.size:Int)≥1
   ·rw[if_pos h1,decide_eq_true (show 1≤s.size by omega)]
    simp
    omega
   ·rw[if_neg h1,decide_eq_false (show ¬ 1≤s.size by omega)]
    simp
 | d+1,i,k+1,h,hk=>by
   rw[EL s i k (by omega) hs,List.range_succ_eq_map,List.all_cons,List.all_map]
   cases ho:Nt s i with
   | false=>rw[if_neg (by simp)];simp[ho]
   | true=>
     rw[if_pos rfl,xq s hs d (i+1) k (by omega) (by omega)]
     simp only[Nat.add_zero,ho,Bool.true_and]
     congr 3
     funext j
     simp only[Function.comp,Nat.succ_eq_add_one,show i+1+j=i+(j+1) by omega]
theorem Gs (s:ByteArray) (p:Int→Bool):(bytesOf s).any p=(List.range s.size).any (fun j=>p (bt s (j:Int))):=by
 rw[Bool.eq_iff_iff,List.any_eq_true,List.any_eq_true]
 constructor
 ·rintro⟨x,hx,hp⟩
  obtain⟨j,hj,rfl⟩:=List.getElem_of_mem hx
  have hj':j<s.size:=by rw[← bytesOf_length];exact hj
  refine⟨j,List.mem_range.2 hj',?_⟩
  rw[← wY]
  simpa [rd,List.getD_eq_getElem?_getD,List.getElem?_eq_getElem hj] using hp
 ·rintro⟨j,hj,hp⟩
  have hj':j<(bytesOf s).length:=by rw[bytesOf_length];exact List.mem_range.1 hj
  refine⟨_,List.getElem_mem hj',?_⟩
  rw[← wY] at hp
  simpa [rd,List.getD_eq_getElem?_getD,List.getElem?_eq_getElem hj'] using hp
theorem KJ (s:ByteArray) (hs:s.size≤140737488355328) (k:Nat) (hk:s.size<k):aT.f k s=some (fZ s):=by
 unfold aT.f
 have:=xq s hs s.size 0 k (by omega) hk
 rw[show ((0:Nat):Int)=0 from rfl] at this
 rw[this]
 congr 1
 by_cases hz:1≤s.size∧s.size≤24
 ·rw[fZ,decide_eq_true hz.1,decide_eq_true hz.2]
  simp only[Bool.and_true,Bool.true_and,Nat.zero_add]
  rw[Gs,yP,Bool.eq_iff_iff]
  simp only[List.all_eq_true,List.mem_range,Bool.and_eq_true,Bool.not_eq_true',List.any_eq_false,nC,Bool.not_eq_false']
  have hb:∀ j:Nat,mO (bt s (j:Int))=He (bt s (j:Int)):=fun j=>yP s j
  constructor
  ·intro h
   refine⟨?_,fun j hj=>?_⟩
   ·have:=h 0 (by omega)
    simpa [Nt] using this
   ·have:=h j hj
    rw[hb j]
    simp only[Nt,Bool.or_eq_true,Bool.and_eq_true] at this
    rcases this with h1 | h1
    ·simp[h1]
    ·simp[h1.2]
  ·rintro⟨h0,h⟩ j hj
   by_cases hj0:j=0
   ·subst hj0
    simp[Nt]
    simpa using h0
   ·have:=h j hj
    rw[hb j] at this
    simp only[Nt,Bool.or_eq_true,Bool.and_eq_true,decide_eq_true_eq]
    cases h1:He (bt s (j:Int)) with
    | true=>simp
    | false=>
      right
      refine⟨hj0,?_⟩
      simpa [h1] using this
 ·rw[fZ]
  have:(decide (1≤s.size)&&decide (s.size≤24))=false:=by
   rw[Bool.and_eq_false_iff]
   by_cases h1:1≤s.size
   ·exact .inr (decide_eq_false (fun h2=>hz ⟨h1,h2⟩))
   ·exact .inl (decide_eq_false h1)
  rw[this]
  simp
theorem F9.calls (s:ByteArray) (b:Bool) (h:fZ s=b) (hs:s.size≤140737488355328) (w:World):Calls Tryz.prog 99 #[.string s] w fun e w'=>e = .returned (.bool b)∧Below w.heap.size w w' :=
 (aT.calls (s.size+1) s b w (by rw[KJ s hs _ (by omega),h])).mono fun e w' ⟨he,hd⟩=>⟨he,hd.below⟩
end Go.Proofs.YtcgbgifbajdhpaaGreatDoor.PA
namespace Go.Proofs.YtcgbgifbajdhpaaGreatDoor.PA
open Go.RowKit Go.Proofs.YtcgbgifbajdhpaaGreatDoorW.au Go.Proofs.YtcgbgifbajdhpaaGreatDoorW.aI Go.Proofs.YtcgbgifbajdhpaaGreatDoorW.aJ
attribute [local go_sem] eG eH gq gu eT eU fU fV   -- for this text's walks alone
def gG.f (a0:ByteArray):Option (Bool):=if (a0.size:Int)≥1 then (if (a0.size:Int)≤40 then ((fE.f a0).bind fun t191=>(some t191)) else (some false)) else (some false)
theorem gG.calls (a0:ByteArray) (r:Bool) (w:World) (h:gG.f a0=some r) :
 Calls Tryz.prog 100 #[.string a0] w fun e w'=>e = .returned (.bool r)∧Below w.heap.size w w':=by
 have HB:=ah.mk (Below.refl w.heap.size w)
 have H:(if (a0.size:Int)≥1 then (if (a0.size:Int)≤40 then ((fE.f a0).bind fun t191=>(some t191)) else (some false)) else (some false))=some r:=h
 clear h
 by_cases c2:(a0.size:Int)≥1
 ·rw[if_pos c2] at H
  have c2b0:decide (1≤(a0.size:Int))=true:=decide_eq_true c2
  have c2b1:decide (1≤a0.size)=true:=decide_eq_true (by omega)
  clear c2
  by_cases c3:(a0.size:Int)≤40
  ·rw[if_pos c3] at H
   have c3b0:decide ((a0.size:Int)≤40)=true:=decide_eq_true c3
   have c3b1:decide (a0.size≤40)=true:=decide_eq_true (by omega)
   clear c3
   replace H:=Option.bind_eq_some_iff.mp H
   obtain⟨t191,A40,H⟩:=H
   replace H:(some t191)=some r:=H
   have A4:=ah.mk A40
   clear A40
   obtain rfl:=Option.some.inj H
   go_enter Tryz.func100,Tryz.ntmps100
   go_wp2_with (first|(go_at_call 128;(with_reducible refine (fE.calls a0 t191 _ A4.o).mono ?_);rintro e w5 ⟨rfl,hb⟩;have n0_:=ah.mk (ak (by repeat (first|(with_reducible first | exact HB.o | apply aj | apply ay | apply aD)|exact HB.o)) hb);clear HB;have HB:=n0_;clear n0_;(try clear hb);(try clear hb2);(try clear hk);(try clear hi)))
   go_ret
   exact⟨by first | rfl | (simp[bF,bG]<;>rfl)|(simp[*,bF,bG]<;>rfl),by repeat (first|(with_reducible first | exact HB.o | apply aj | apply ay | apply aD)|exact HB.o)⟩
  ·rw[if_neg c3] at H
   have c3b0:decide ((a0.size:Int)≤40)=false:=decide_eq_false c3
   have c3b1:decide (a0.size≤40)=false:=decide_eq_false (by omega)
   clear c3
   obtain rfl:=Option.some.inj H
   go_enter Tryz.func100,Tryz.ntmps100
   go_wp2
   go_ret
   exact⟨by first | rfl | (simp[bF,bG]<;>rfl)|(simp[*,bF,bG]<;>rfl),by repeat (first|(with_reducible first | exact HB.o | apply aj | apply ay | apply aD)|exact HB.o)⟩
 ·rw[if_neg c2] at H
  have c2b0:decide (1≤(a0.size:Int))=false:=decide_eq_false c2
  have c2b1:decide (1≤a0.size)=false:=decide_eq_false (by omega)
  clear c2
  obtain rfl:=Option.some.inj H
  go_enter Tryz.func100,Tryz.ntmps100
  go_wp2
  go_ret
  exact⟨by first | rfl | (simp[bF,bG]<;>rfl)|(simp[*,bF,bG]<;>rfl),by repeat (first|(with_reducible first | exact HB.o | apply aj | apply ay | apply aD)|exact HB.o)⟩
end Go.Proofs.YtcgbgifbajdhpaaGreatDoor.PA
namespace Go.Proofs.YtcgbgifbajdhpaaGreatDoor.PA
open Go.RowKit Go.Proofs.YtcgbgifbajdhpaaGreatDoor.G Go.Proofs.YtcgbgifbajdhpaaGreatDoorW.au Go.Proofs.YtcgbgifbajdhpaaGreatDoorW.aI Go.Proofs.YtcgbgifbajdhpaaGreatDoorW.aJ
theorem KN (s:ByteArray):gG.f s=some (fI s):=by
 unfold gG.f fI fE.f
 by_cases h1:1≤s.size
 ·rw[if_pos (by omega),decide_eq_true h1]
  by_cases h2:s.size≤40
  ·rw[if_pos (by omega),decide_eq_true h2];rfl
  ·rw[if_neg (by omega),decide_eq_false h2];rfl
 ·rw[if_neg (by omega),decide_eq_false h1];rfl
theorem rvalue.calls (s:ByteArray) (b:Bool) (h:fI s=b) (w:World):Calls Tryz.prog 100 #[.string s] w fun e w'=>e = .returned (.bool b)∧Below w.heap.size w w' :=
 gG.calls s b w (by rw[KN,h])
def Ey (l:List eP):Prop:=∀ x∈l,x.f0.size≤140737488355328∧x.f1.size≤140737488355328
theorem MJ (l:List eP) (k:Nat) (h:k<l.length):bU l (k:Int)∈l:=by
 have e:bU l (k:Int)=l[k]:=by simp[bU,List.getD_eq_getElem?_getD,List.getElem?_eq_getElem h]
 rw[e]
 exact List.getElem_mem h
theorem jS {w:World} {a:Addr} {v:Value} (o:Obj) (h:w.cell? a=some v):(w.alloc o).cell? a=some v:=aV (aj (Below.refl _ _) o) h
theorem yX.calls (A:Option Addr) (c n:Nat) (l:List eP) (w:World) (hn:l.length=n) (hr:Kd.C iM w A n l) (hc:n≤c) (hok:Ey l) :
 Calls Tryz.prog 67 #[.slice A n c] w fun e w'=>e = .returned (.bool (dV l))∧Below w.heap.size w w':=by
 subst hn
 by_cases hlen:1≤l.length∧l.length≤8
 ·have h0:decide ((l.length:Int)<1)=false:=decide_eq_false (by omega)
  have h8:decide ((8:Int)<(l.length:Int))=false:=decide_eq_false (by omega)
  have HR:=ah.mk hr
  have HL:=ah.mk hlen
  have HK:=ah.mk hok
  have hl8:=hlen.2
  clear hr hc hlen hok
  go_enter Tryz.func67,Tryz.ntmps67
  go_wp2
  go_loopw [15] (fun i wr=>∃ (k:Nat),k≤l.length∧i = .int .i64 k∧ah (∀ j,j<k→lU l j=true)∧ah (Below w.heap.size w wr)) (fun i _=>l.length-(intOf i).toNat)
  case atStart=>exact⟨0,Nat.zero_le _,rfl,⟨fun j hj=>by omega⟩,⟨Below.refl _ _⟩⟩
  case round=>
   obtain⟨k,hk,rfl,HO,HB⟩:=hrel
   by_cases hlt:k<l.length
   ·have hC:=Kd.aH HR.o HB.o
    obtain⟨ad,rfl,c0,c1⟩:=jo hC (k:Int) (by omega) (by omega)
    rw[Int.toNat_natCast] at c0 c1
    have HBAD:=ah.mk (fun h=>BF (l:=l) (k:=k) hlt h)
    have HS:=ah.mk (fun h=>zi (l:=l) (k:=k) HO.o h)
    have HSZ:=ah.mk (HK.o _ (MJ l k hlt)).1
    cases k with
    | zero=>
      obtain⟨x,ex⟩:∃ x,bU l ((0:Nat):Int)=x:=⟨_,rfl⟩
      have EX:=ah.mk ex
      rw[ex] at c0 c1 HSZ
      clear hC ex
      have c0z:wr.cell? ad=some (.string x.f0):=by simpa [Addr.add] using c0
      have c1z:wr.cell? ⟨ad.block,ad.off+1,none⟩=some (.string x.f1):=by simpa [Addr.add] using c1
      clear c0 c1
      have HBA:=ah.mk (aj HB.o (.cells #[.string x.f0,.string x.f1] 68 (0,0)))
      have BK:=bI wr (.cells #[.string x.f0,.string x.f1] 68 (0,0))
      have aA:=BW.cell ((av BK 0).trans rfl)
      have bA:=BW.cell ((av BK 1).trans rfl)
      clear BK
      cases h1:fZ x.f0 with
      | false=>
        have HF:ah (dV l=false):=⟨HBAD.o (sw (EX.o ▸ h1))⟩
        have C1:=ah.mk (F9.calls x.f0 false h1 HSZ.o)
        clear h1
        go_wp2_with fail
        refine bT (by kernel_rfl) (by kernel_rfl) ?_
        repeat (any_goals (first | go_big_quiet_step (first|(go_at_call 99;refine bX (C1.o _)))|quiet_step (first|(go_at_call 99;refine bX (C1.o _)))))
        all_goals (refine wpQuiet_nil ?_;intro _ hw';obtain⟨⟨w2,hb⟩,hw''⟩:=hw';subst hw'';have HB2:=ah.mk (ak HBA.o hb);clear hb)
        go_wp2
        go_ret
        exact⟨by rw[HF.o];rfl,HB2.o⟩
      | true=>
        have C1:=ah.mk (F9.calls x.f0 true h1 HSZ.o)
        cases h2:fI x.f1 with
        | false=>
          have HF:ah (dV l=false):=⟨HBAD.o (qh (EX.o ▸ h2))⟩
          have C2:=ah.mk (rvalue.calls x.f1 false h2)
          clear h1 h2
          go_wp2_with fail
          refine bT (by kernel_rfl) (by kernel_rfl) ?_
          repeat (any_goals (first | go_big_quiet_step (first|(go_at_call 99;refine bX (C1.o _))|(go_at_call 100;refine bX (C2.o _)))|quiet_step (first|(go_at_call 99;refine bX (C1.o _))|(go_at_call 100;refine bX (C2.o _)))))
          all_goals (refine wpQuiet_nil ?_;intro _ hw';obtain⟨⟨w2,hb⟩,hw''⟩:=hw';subst hw'';have HB2:=ah.mk (ak HBA.o hb);clear hb)
          go_wp2
          go_ret
          exact⟨by rw[HF.o];rfl,HB2.o⟩
        | true=>
          have C2:=ah.mk (rvalue.calls x.f1 true h2)
          have HG:=ah.mk (HS.o (Ho (EX.o ▸ h1) (EX.o ▸ h2)))
          clear h1 h2
          go_wp2_with fail
          refine bT (by kernel_rfl) (by kernel_rfl) ?_
          repeat (any_goals (first | go_big_quiet_step (first|(go_at_call 99;refine bX (C1.o _))|(go_at_call 100;refine bX (C2.o _)))|quiet_step (first|(go_at_call 99;refine bX (C1.o _))|(go_at_call 100;refine bX (C2.o _)))))
          all_goals (refine wpQuiet_nil ?_;intro _ hw';obtain⟨⟨w2,hb⟩,hw''⟩:=hw';subst hw'';have HB2:=ah.mk (ak HBA.o hb);clear hb)
          go_wp2
          go_roundw
          case rel=>exact⟨0+1,by omega,by go_num,HG,HB2⟩
          case measure=>simp[intOf]<;>omega
    | succ k=>
      obtain⟨ad_,ea,q0,q1⟩:=jo hC ((k:Nat):Int) (by omega) (by omega)
      obtain rfl:=Option.some.inj ea
      rw[Int.toNat_natCast] at q0 q1
      obtain⟨x,ex⟩:∃ x,bU l ((k+1:Nat):Int)=x:=⟨_,rfl⟩
      obtain⟨y,ey⟩:∃ y,bU l ((k:Nat):Int)=y:=⟨_,rfl⟩
      have EY:=ah.mk ey
      rw[ey] at q0 q1
      have EX:=ah.mk ex
      rw[ex] at c0 c1 HSZ
      clear hC ex ey q1 ea
      have HBA:=ah.mk (aj HB.o (.cells #[.string x.f0,.string x.f1] 68 (0,0)))
      have BK:=bI wr (.cells #[.string x.f0,.string x.f1] 68 (0,0))
      have aA:=BW.cell ((av BK 0).trans rfl)
      have bA:=BW.cell ((av BK 1).trans rfl)
      clear BK
      have pA:=BW.cell (jS (.cells #[.string x.f0,.string x.f1] 68 (0,0)) q0)
      rw[show ((k+1:Nat):Int)=(k:Int)+1 from by omega] at *
      have g0:decide ((0:Int)<(k:Int)+1)=true:=decide_eq_true (by omega)
      have hwk:IntKind.i64.wrap ((k:Int)+1-1)=(k:Int):=by rw[IntKind.wrap_i64];omega
      have g1:(0:Int)≤(k:Int):=by omega
      have g2:(k:Int)<(l.length:Int):=by omega
      cases h1:fZ x.f0 with
      | false=>
        have HF:ah (dV l=false):=⟨HBAD.o (sw (EX.o ▸ h1))⟩
        have C1:=ah.mk (F9.calls x.f0 false h1 HSZ.o)
        clear h1
        go_wp2_with fail
        refine bT (by kernel_rfl) (by kernel_rfl) ?_
        repeat (any_goals (first | go_big_quiet_step (first|(go_at_call 99;refine bX (C1.o _)))|quiet_step (first|(go_at_call 99;refine bX (C1.o _)))))
        all_goals (refine wpQuiet_nil ?_;intro _ hw';obtain⟨⟨w2,hb⟩,hw''⟩:=hw';subst hw'';have HB2:=ah.mk (ak HBA.o hb);clear hb)
        go_wp2
        go_ret
        exact⟨by rw[HF.o];rfl,HB2.o⟩
      | true=>
        have C1:=ah.mk (F9.calls x.f0 true h1 HSZ.o)
        cases h2:fI x.f1 with
        | false=>
          have HF:ah (dV l=false):=⟨HBAD.o (qh (EX.o ▸ h2))⟩
          have C2:=ah.mk (rvalue.calls x.f1 false h2)
          clear h1 h2
          go_wp2_with fail
          refine bT (by kernel_rfl) (by kernel_rfl) ?_
          repeat (any_goals (first | go_big_quiet_step (first|(go_at_call 99;refine bX (C1.o _))|(go_at_call 100;refine bX (C2.o _)))|quiet_step (first|(go_at_call 99;refine bX (C1.o _))|(go_at_call 100;refine bX (C2.o _)))))
          all_goals (refine wpQuiet_nil ?_;intro _ hw';obtain⟨⟨w2,hb⟩,hw''⟩:=hw';subst hw'';have HB2:=ah.mk (ak HBA.o hb);clear hb)
          go_wp2
          go_ret
          exact⟨by rw[HF.o];rfl,HB2.o⟩
        | true=>
          have C2:=ah.mk (rvalue.calls x.f1 true h2)
          have HQ:=Kg (l:=l) (k:=k) (EX.o ▸ h1) (EX.o ▸ h2)
          rw[show ((k+1:Nat):Int)=(k:Int)+1 from by omega,EX.o,EY.o] at HQ
          clear h1 h2
          cases d1:Op.bytesLess y.f0.toList x.f0.toList with
          | false=>
            have HF:ah (dV l=false):=⟨HBAD.o (by rw[HQ,d1])⟩
            clear HQ
            go_wp2_with fail
            refine bT (by kernel_rfl) (by kernel_rfl) ?_
            repeat (any_goals (first | go_big_quiet_step (first|(go_at_call 99;refine bX (C1.o _))|(go_at_call 100;refine bX (C2.o _)))|quiet_step (first|(go_at_call 99;refine bX (C1.o _))|(go_at_call 100;refine bX (C2.o _)))))
            all_goals (refine wpQuiet_nil ?_;intro _ hw';obtain⟨⟨w2,hb⟩,hw''⟩:=hw';subst hw'';have HB2:=ah.mk (ak HBA.o hb);clear hb)
            go_wp2
            go_ret
            exact⟨by rw[HF.o];rfl,HB2.o⟩
          | true=>
            have HG:=ah.mk (HS.o (by rw[HQ,d1]))
            clear HQ
            go_wp2_with fail
            refine bT (by kernel_rfl) (by kernel_rfl) ?_
            repeat (any_goals (first | go_big_quiet_step (first|(go_at_call 99;refine bX (C1.o _))|(go_at_call 100;refine bX (C2.o _)))|quiet_step (first|(go_at_call 99;refine bX (C1.o _))|(go_at_call 100;refine bX (C2.o _)))))
            all_goals (refine wpQuiet_nil ?_;intro _ hw';obtain⟨⟨w2,hb⟩,hw''⟩:=hw';subst hw'';have HB2:=ah.mk (ak HBA.o hb);clear hb)
            go_wp2
            go_roundw
            case rel=>exact⟨k+1+1,by omega,by go_num,HG,HB2⟩
            case measure=>simp[intOf]<;>omega
   ·obtain rfl:k=l.length:=by omega
    have HF:ah (dV l=true):=⟨Fx HL.o.1 HL.o.2 HO.o⟩
    go_wp2
    go_ret
    exact⟨by rw[HF.o];rfl,HB.o⟩
 ·have HF:ah (dV l=false):=⟨BH hlen⟩
  by_cases h0:(l.length:Int)<1
  ·have h1:decide ((l.length:Int)<1)=true:=decide_eq_true h0
   clear h0 hlen
   go_enter Tryz.func67,Tryz.ntmps67
   go_wp2
   go_ret
   exact⟨by rw[HF.o];rfl,Below.refl _ _⟩
  ·have h1:decide ((l.length:Int)<1)=false:=decide_eq_false h0
   have h2:decide ((8:Int)<(l.length:Int))=true:=decide_eq_true (by omega)
   clear h0 hlen
   go_enter Tryz.func67,Tryz.ntmps67
   go_wp2
   go_ret
   exact⟨by rw[HF.o];rfl,Below.refl _ _⟩
theorem PO.calls (A B:Option Addr) (c e0 n m:Nat) (a b:List eP) (w:World) (hn:a.length=n) (hm:b.length=m) (hr:Kd.C iM w A n a) (hs:Kd.C iM w B m b) (hl:n≤1000000) :
 Calls Tryz.prog 50 #[.slice A n c,.slice B m e0] w fun e w'=>e = .returned (.int .i64 (cmpL a b))∧Below w.heap.size w w':=by
 subst hn hm
 have HR:=ah.mk hr
 have HS:=ah.mk hs
 clear hr hs
 by_cases hba:b.length<a.length
 ·have HQ:ah (b.length=min a.length b.length):=⟨by omega⟩
  have hqa:b.length≤a.length:=by omega
  have hqb:b.length≤b.length:=by omega
  go_enter Tryz.func50,Tryz.ntmps50
  go_wp2
  go_loopw [13] (fun j wr=>∃ k:Nat,k≤b.length∧j = .int .i64 k∧ah (cmpL a b=cmpL (a.drop k) (b.drop k))∧ah (Below w.heap.size w wr)) (fun j _=>b.length-(intOf j).toNat)
  case atStart=>exact⟨0,Nat.zero_le _,rfl,⟨rfl⟩,⟨Below.refl _ _⟩⟩
  case round=>
   obtain⟨k,hk,rfl,HE,HB⟩:=hrel
   by_cases hlt:k<b.length
   ·obtain⟨ad,rfl,h0,h1⟩:=jo (Kd.aH HR.o HB.o) (k:Int) (by omega) (by omega)
    rw[Int.toNat_natCast] at h0 h1
    obtain⟨bd,rfl,i0,i1⟩:=jo (Kd.aH HS.o HB.o) (k:Int) (by omega) (by omega)
    rw[Int.toNat_natCast] at i0 i1
    have HST:=ah.mk (rH a b k (by omega) (by omega))
    have k0:(0:Int)≤(k:Int):=by omega
    have k1:(k:Int)<(a.length:Int):=by omega
    have k2:(k:Int)<(b.length:Int):=by omega
    have k3:(k:Int)<(b.length:Int):=by omega
    generalize bU a (k:Int)=x at *
    generalize bU b (k:Int)=y at *
    cases hc:(txt x.f0 y.f0 != 0) with
    | true=>
      have HV:ah (cmpL a b=txt x.f0 y.f0):=⟨by
       have h_:txt x.f0 y.f0≠0:=bne_iff_ne.1 hc
       rw[HE.o,HST.o,lT,dX,dX,if_pos h_,if_pos h_]⟩
      go_wp2_with fail
      go_quiet ((go_at_call 86;exact Calls.quiet_of_same (texts.calls _ _ _)))
      go_wp2
      go_ret
      exact⟨by rw[HV.o];rfl,ay HB.o _⟩
    | false=>
      have hz:txt x.f0 y.f0=0:=by simpa using hc
      cases hd:(txt x.f1 y.f1 != 0) with
      | true=>
        have HV:ah (cmpL a b=txt x.f1 y.f1):=⟨by
         have h_:txt x.f1 y.f1≠0:=bne_iff_ne.1 hd
         rw[HE.o,HST.o,lT,dX,dX,hz,if_neg (show ¬ (0:Int)≠0 by simp),if_pos h_]⟩
        clear hz
        go_wp2_with fail
        go_quiet ((go_at_call 86;exact Calls.quiet_of_same (texts.calls _ _ _)))
        go_wp2_with fail
        generalize hw1:wr.drewN nq=w1
        have HW1:ah (Below w.heap.size w w1):=⟨hw1 ▸ ay HB.o _⟩
        have h1':w1.cell? ⟨(ad.add (k*2)).block,(ad.add (k*2)).off+1,none⟩=some (.string x.f1):=hw1 ▸ h1
        have i1':w1.cell? ⟨(bd.add (k*2)).block,(bd.add (k*2)).off+1,none⟩=some (.string y.f1):=hw1 ▸ i1
        clear hw1
        go_quiet ((go_at_call 86;exact Calls.quiet_of_same (texts.calls _ _ _)))
        go_wp2
        go_ret
        exact⟨by rw[HV.o];rfl,ay HW1.o _⟩
      | false=>
        have hy:txt x.f1 y.f1=0:=by simpa using hd
        have HV:ah (cmpL a b=cmpL (a.drop (k+1)) (b.drop (k+1))):=⟨by
         rw[HE.o,HST.o,lT,dX,dX,hz,hy,if_neg (show ¬ (0:Int)≠0 by simp),if_neg (show ¬ (0:Int)≠0 by simp)]⟩
        clear hz hy
        go_wp2_with fail
        go_quiet ((go_at_call 86;exact Calls.quiet_of_same (texts.calls _ _ _)))
        go_wp2_with fail
        generalize hw1:wr.drewN nq=w1
        have HW1:ah (Below w.heap.size w w1):=⟨hw1 ▸ ay HB.o _⟩
        have h1':w1.cell? ⟨(ad.add (k*2)).block,(ad.add (k*2)).off+1,none⟩=some (.string x.f1):=hw1 ▸ h1
        have i1':w1.cell? ⟨(bd.add (k*2)).block,(bd.add (k*2)).off+1,none⟩=some (.string y.f1):=hw1 ▸ i1
        clear hw1
        go_quiet ((go_at_call 86;exact Calls.quiet_of_same (texts.calls _ _ _)))
        go_wp2
        go_roundw
        case rel=>exact⟨k+1,by omega,by go_num,HV,⟨ay HW1.o _⟩⟩
        case measure=>simp[intOf];omega
   ·obtain rfl:k=b.length:=by omega
    have hqm:=HQ.o
    by_cases hlt2:a.length<b.length
    ·have HV:ah (cmpL a b = -1):=⟨by rw[HE.o,zS a b _ (by omega) (by omega)]⟩
     have hge:decide (a.length<b.length)=true:=decide_eq_true (by omega)
     clear hqm hlt2
     go_wp2
     go_ret
     exact⟨by rw[HV.o];rfl,HB.o⟩
    ·by_cases hlt3:b.length<a.length
     ·have HV:ah (cmpL a b=1):=⟨by rw[HE.o,zQ a b _ (by omega) (by omega)]⟩
      have hge:decide (a.length<b.length)=false:=decide_eq_false (by omega)
      have hge2:decide (b.length<a.length)=true:=decide_eq_true (by omega)
      clear hqm hlt2 hlt3
      go_wp2
      go_ret
      first | exact⟨by rw[HV.o];rfl,HB.o⟩ | exact absurd hba (of_decide_eq_false hge2)|exact absurd (of_decide_eq_true hge2) hba
     ·have HV:ah (cmpL a b=0):=⟨by rw[HE.o,cmpL_eq a b _ (by omega) (by omega)]⟩
      have hge:decide (a.length<b.length)=false:=decide_eq_false (by omega)
      have hge2:decide (b.length<a.length)=false:=decide_eq_false (by omega)
      clear hqm hlt2 hlt3
      go_wp2
      go_ret
      first | exact⟨by rw[HV.o];rfl,HB.o⟩ | exact absurd hba (of_decide_eq_false hge2)|exact absurd (of_decide_eq_true hge2) hba
 ·have HQ:ah (a.length=min a.length b.length):=⟨by omega⟩
  have hqa:a.length≤a.length:=by omega
  have hqb:a.length≤b.length:=by omega
  go_enter Tryz.func50,Tryz.ntmps50
  go_wp2
  go_loopw [13] (fun j wr=>∃ k:Nat,k≤a.length∧j = .int .i64 k∧ah (cmpL a b=cmpL (a.drop k) (b.drop k))∧ah (Below w.heap.size w wr)) (fun j _=>a.length-(intOf j).toNat)
  case atStart=>exact⟨0,Nat.zero_le _,rfl,⟨rfl⟩,⟨Below.refl _ _⟩⟩
  case round=>
   obtain⟨k,hk,rfl,HE,HB⟩:=hrel
   by_cases hlt:k<a.length
   ·obtain⟨ad,rfl,h0,h1⟩:=jo (Kd.aH HR.o HB.o) (k:Int) (by omega) (by omega)
    rw[Int.toNat_natCast] at h0 h1
    obtain⟨bd,rfl,i0,i1⟩:=jo (Kd.aH HS.o HB.o) (k:Int) (by omega) (by omega)
    rw[Int.toNat_natCast] at i0 i1
    have HST:=ah.mk (rH a b k (by omega) (by omega))
    have k0:(0:Int)≤(k:Int):=by omega
    have k1:(k:Int)<(a.length:Int):=by omega
    have k2:(k:Int)<(b.length:Int):=by omega
    have k3:(k:Int)<(a.length:Int):=by omega
    generalize bU a (k:Int)=x at *
    generalize bU b (k:Int)=y at *
    cases hc:(txt x.f0 y.f0 != 0) with
    | true=>
      have HV:ah (cmpL a b=txt x.f0 y.f0):=⟨by
       have h_:txt x.f0 y.f0≠0:=bne_iff_ne.1 hc
       rw[HE.o,HST.o,lT,dX,dX,if_pos h_,if_pos h_]⟩
      go_wp2_with fail
      go_quiet ((go_at_call 86;exact Calls.quiet_of_same (texts.calls _ _ _)))
      go_wp2
      go_ret
      exact⟨by rw[HV.o];rfl,ay HB.o _⟩
    | false=>
      have hz:txt x.f0 y.f0=0:=by simpa using hc
      cases hd:(txt x.f1 y.f1 != 0) with
      | true=>
        have HV:ah (cmpL a b=txt x.f1 y.f1):=⟨by
         have h_:txt x.f1 y.f1≠0:=bne_iff_ne.1 hd
         rw[HE.o,HST.o,lT,dX,dX,hz,if_neg (show ¬ (0:Int)≠0 by simp),if_pos h_]⟩
        clear hz
        go_wp2_with fail
        go_quiet ((go_at_call 86;exact Calls.quiet_of_same (texts.calls _ _ _)))
        go_wp2_with fail
        generalize hw1:wr.drewN nq=w1
        have HW1:ah (Below w.heap.size w w1):=⟨hw1 ▸ ay HB.o _⟩
        have h1':w1.cell? ⟨(ad.add (k*2)).block,(ad.add (k*2)).off+1,none⟩=some (.string x.f1):=hw1 ▸ h1
        have i1':w1.cell? ⟨(bd.add (k*2)).block,(bd.add (k*2)).off+1,none⟩=some (.string y.f1):=hw1 ▸ i1
        clear hw1
        go_quiet ((go_at_call 86;exact Calls.quiet_of_same (texts.calls _ _ _)))
        go_wp2
        go_ret
        exact⟨by rw[HV.o];rfl,ay HW1.o _⟩
      | false=>
        have hy:txt x.f1 y.f1=0:=by simpa using hd
        have HV:ah (cmpL a b=cmpL (a.drop (k+1)) (b.drop (k+1))):=⟨by
         rw[HE.o,HST.o,lT,dX,dX,hz,hy,if_neg (show ¬ (0:Int)≠0 by simp),if_neg (show ¬ (0:Int)≠0 by simp)]⟩
        clear hz hy
        go_wp2_with fail
        go_quiet ((go_at_call 86;exact Calls.quiet_of_same (texts.calls _ _ _)))
        go_wp2_with fail
        generalize hw1:wr.drewN nq=w1
        have HW1:ah (Below w.heap.size w w1):=⟨hw1 ▸ ay HB.o _⟩
        have h1':w1.cell? ⟨(ad.add (k*2)).block,(ad.add (k*2)).off+1,none⟩=some (.string x.f1):=hw1 ▸ h1
        have i1':w1.cell? ⟨(bd.add (k*2)).block,(bd.add (k*2)).off+1,none⟩=some (.string y.f1):=hw1 ▸ i1
        clear hw1
        go_quiet ((go_at_call 86;exact Calls.quiet_of_same (texts.calls _ _ _)))
        go_wp2
        go_roundw
        case rel=>exact⟨k+1,by omega,by go_num,HV,⟨ay HW1.o _⟩⟩
        case measure=>simp[intOf];omega
   ·obtain rfl:k=a.length:=by omega
    have hqm:=HQ.o
    by_cases hlt2:a.length<b.length
    ·have HV:ah (cmpL a b = -1):=⟨by rw[HE.o,zS a b _ (by omega) (by omega)]⟩
     have hge:decide (a.length<b.length)=true:=decide_eq_true (by omega)
     clear hqm hlt2
     go_wp2
     go_ret
     exact⟨by rw[HV.o];rfl,HB.o⟩
    ·by_cases hlt3:b.length<a.length
     ·have HV:ah (cmpL a b=1):=⟨by rw[HE.o,zQ a b _ (by omega) (by omega)]⟩
      have hge:decide (a.length<b.length)=false:=decide_eq_false (by omega)
      have hge2:decide (b.length<a.length)=true:=decide_eq_true (by omega)
      clear hqm hlt2 hlt3
      go_wp2
      go_ret
      first | exact⟨by rw[HV.o];rfl,HB.o⟩ | exact absurd hba (of_decide_eq_false hge2)|exact absurd (of_decide_eq_true hge2) hba
     ·have HV:ah (cmpL a b=0):=⟨by rw[HE.o,cmpL_eq a b _ (by omega) (by omega)]⟩
      have hge:decide (a.length<b.length)=false:=decide_eq_false (by omega)
      have hge2:decide (b.length<a.length)=false:=decide_eq_false (by omega)
      clear hqm hlt2 hlt3
      go_wp2
      go_ret
      first | exact⟨by rw[HV.o];rfl,HB.o⟩ | exact absurd hba (of_decide_eq_false hge2)|exact absurd (of_decide_eq_true hge2) hba
def OU (B:Nat) (W:World) (g:Nat) (L:List Bool):Prop:=∃ u:Value,W.heap[g]? = some (.cells #[u] 137 (0,0))∧Kd.R Kd.bool 4 W B (fun _=>True) u L
def lY (g:Nat) (w w':World):Prop:=∀ (q:Nat) (cs:Array Value) (t:Nat),q≠g→4≠t→w.heap[q]? = some (.cells cs t (0,0))→w'.heap[q]? = some (.cells cs t (0,0))
theorem lY.refl (g:Nat) (w:World):lY g w w:=fun _ _ _ _ _ h=>h
theorem lY.trans {g:Nat} {a b c:World} (h:lY g a b) (k:lY g b c):lY g a c:=fun q cs t h1 h2 h3=>k q cs t h1 h2 (h q cs t h1 h2 h3)
theorem JY:(Tryz.prog.info? 4).map (fun i=>(i.zero,i.size,i.bytes))=some (some (.bool false),1,1):=by kernel_rfl
theorem and_one (v i:Nat) (hv:v<18446744073709551616) (hi:i≤64):(Go.bits .and .u64 ((v:Int) / 2 ^ i) 1==1)=v.testBit i:=by
 have:=Mt v i hv hi
 rw[uW .u64 v i (by simpa [IntKind.bits] using hi)] at this
 rw[← this]
 simp
theorem dS.calls (B g:Nat) (L:List Bool) (v c:Nat) (w0 w:World) (hO:OU B w g L) (hB:Below B w0 w) (hgB:B≤g) (hv:v<18446744073709551616) (hc:c≤64) (hL:L.length≤7000000) :
 Calls Tryz.prog 81 #[.pointer (some ⟨g,0,none⟩),.int .u64 (v:Int),.int .i64 (c:Int)] w fun e w'=>e = .returned (.tuple #[])∧OU B w' g (L++low v c)∧Below B w0 w'∧lY g w w':=by
 obtain⟨u,hblk,hR⟩:=hO
 have HB0:=ah.mk hB
 have HBK0:=ah.mk hblk
 have HR0:=ah.mk hR
 have HGB:=ah.mk hgB
 have HV:=ah.mk hv
 have HL:=ah.mk hL
 have hcn:(0:Int)≤(c:Int):=Int.natCast_nonneg _
 clear hB hblk hR hgB hv hL
 go_enter Tryz.func81,Tryz.ntmps81
 go_wp2_with fail
 go_loopw [6] (fun v6 wr=>∃ (I:Int) (j:Nat) (u:Value),v6 = .int .i64 I∧ah (I=(c:Int)-1-(j:Int)∧j≤c)∧ah (Kd.R Kd.bool 4 wr B (fun _=>True) u (L++(low v c).take j))∧ah (wr.heap[g]? = some (.cells #[u] 137 (0,0)))∧ah (Below B w0 wr)∧ah (lY g w wr)) (fun i _=>(intOf i+1).toNat)
 case atStart=>exact⟨_,0,u,rfl,⟨by omega,by omega⟩,⟨by simpa using HR0.o⟩,HBK0,HB0,⟨lY.refl _ _⟩⟩
 case round=>
  clear HBK0 HB0 HR0
  obtain⟨I,j,u,rfl,HI,HO,BK,HB,HK⟩:=hrel
  by_cases hlt:0≤I
  ·obtain⟨i,rfl⟩:=Int.eq_ofNat_of_zero_le hlt
   have hi:=HI.o
   have hi64:i<64:=by omega
   have hz0:wr.cell? ⟨g,0,none⟩=some u:=av BK.o 0
   have hf0:=aC BK.o 0
   have HB1:=ah.mk (and_one v i HV.o (by omega))
   have HST:ah (L++(low v c).take (j+1)=L++(low v c).take j++[v.testBit i]∧(L++(low v c).take j).length≤8000000):=⟨by
    have hj:j<(low v c).length:=by rw[dQ];omega
    rw[List.take_succ_eq_append_getElem hj,oz v c j (by omega),show c-1-j=i by omega,List.append_assoc]
    refine⟨rfl,?_⟩
    rw[List.length_append,List.length_take,dQ]
    have:=HL.o
    omega⟩
   generalize L++(low v c).take j=X at HO HST
   obtain⟨A,cc,rfl⟩:=Kd.bD HO.o
   have hbit:=HB1.o
   clear hlt hi
   go_wp2_with fail
   have HO2:=ah.mk (Kd.nK HO.o)
   have BK2:=ah.mk (bg BK.o)
   have HB2:=ah.mk (aD HB.o)
   have hz3:(wr.alloc (.cells #[.bool (v.testBit i)] 4)).cell? ⟨g,0,none⟩=some (.slice A X.length cc):=aV (aj (Below.refl _ _) _) hz0
   go_region_law
    ((refine Kd.o8 Kd.bool (w0:=w0) (W:=wr.drew) B ?_ (.tmp 17) (.tmp 23) 135 4 (.bool false) 1 ?_ Tryz.underlying135 JY rfl (by decide) (by omega) (.slice A X.length cc) X (v.testBit i) [.bool (v.testBit i)] (fun _=>True) (fun _=>False) ?_ ?_ ?_ (fun _ hk=>hk.elim) (fun _ _=>trivial) HO2.o HB2.o ?_ ?_ ?_
      ·rfl
      ·rfl
      ·rfl
      ·rfl
      ·exact rfl
      ·have h_:=HGB.o;have h2_:=dO BK2.o;omega
      ·have:=HST.o.2;omega
      intro v4 w4 ho hb hg hat
      obtain⟨A4,c4,rfl⟩:=Kd.bD ho
      have BK4:=ah.mk (dM (g:=g) BK2.o hg (Kd.vE HO2.o BK2.o (by decide)))
      have HO4:=ah.mk ho
      have HB4:=ah.mk hb
      have HG4:=ah.mk hg
      have hz4:=(av BK4.o 0).trans rfl
      have hf4:=aC BK4.o 0
      clear ho hb hg hat))
   all_goals
    go_wp2_with fail
    go_roundw
    case rel=>
     have hl:(X++[v.testBit i]).length=X.length+1:=by simp
     have HO5:=HO4.o
     rw[hl] at HO5
     refine⟨_,j+1,.slice A4 (X.length+1) c4,rfl,⟨by have:=HI.o;omega⟩,⟨?_⟩,⟨bK BK4.o 0 _ rfl⟩,⟨HB4.o.setCell (p:=⟨g,0,none⟩) HGB.o _⟩,⟨fun q cs t hq ht hh=>?_⟩⟩
     ·rw[HST.o.1]
      exact Kd.dL (Kd.gF (p:=⟨g,0,none⟩) (Kd.kW HO5 BK4.o (by decide)) (fun _ hk=>hk.2) _) (fun _ _=>trivial)
     ·have h1:=HK.o q cs t hq ht hh
      exact iy (p:=⟨g,0,none⟩) (dM (bg h1) HG4.o (Kd.vE HO2.o (bg h1) ht)) hq _
    case measure=>simp[intOf]<;>omega
  ·have hd:decide (0≤I)=false:=decide_eq_false hlt
   have HJ:ah (j=c):=⟨by have:=HI.o;omega⟩
   clear hlt
   go_wp2_with fail
   refine bodyPost_end (results_none rfl _ _ _) rfl ?_
   refine⟨rfl,⟨u,BK.o,?_⟩,HB.o,HK.o⟩
   have:=HO.o
   rwa [HJ.o,List.take_of_length_le (by rw[dQ];omega)] at this
def UP (W:World) (g:Nat) (A:Option Addr) (n c:Nat) (N p:Int) (bad:Bool):Prop:=W.heap[g]? = some (.cells #[.slice A n c,.int .i64 N,.int .i64 p,.bool bad] 201 (0,0))
noncomputable def ji (l:List Int) (N:Int) (s:Int × Bool) (c:Int):Int × Int × Bool:=((nV l N s.1 c).1,wrap64 (s.1+c),s.2||(nV l N s.1 c).2 != 0)
noncomputable def IG (l:List Int) (N:Int) (s:Int × Bool):Int × Int × Bool:=((q8 l N s.1).1,(q8 l N s.1).2.1,s.2||(q8 l N s.1).2.2 != 0)
theorem Dy.calls (g:Nat) (A:Option Addr) (c:Nat) (l:List Int) (N p k:Int) (bad:Bool) (w0 w:World) (hU:UP w g A l.length c N p bad) (hr:Kd.C (Kd.int .u8) w0 A l.length l) (hc:l.length≤c) (hB:Below w0.heap.size w0 w) (hg:w0.heap.size≤g)
 (hl:xQ l) (hn:l.length≤1000000) (hN : -9223372036854775808≤N∧N≤9223372036854775807) :
 Calls Tryz.prog 150 #[.pointer (some ⟨g,0,none⟩),.int .i64 k] w fun e w'=>e = .returned (.int .u64 (ji l N (p,bad) k).1)∧UP w' g A l.length c N (ji l N (p,bad) k).2.1 (ji l N (p,bad) k).2.2∧Below w0.heap.size w0 w'∧bP w w' g none:=by
 obtain⟨r,e,hre⟩:∃ r e,nV l N p k=(r,e):=⟨_,_,rfl⟩
 have HF:ah (aQ.f 100 l N p k=some (r,e)):=⟨by rw[Bw hl (by omega) N p k hN.1 hN.2 100 (by decide),hre]⟩
 simp only[ji,hre]
 have HB:=ah.mk hB
 have HC:=ah.mk hc
 have HR:=ah.mk hr
 have HU:=ah.mk hU
 have HG:=ah.mk hg
 have u0:w.cell? ⟨g,0,none⟩=some (.slice A l.length c):=(av hU 0).trans rfl
 have u1:w.cell? ⟨g,1,none⟩=some (.int .i64 N):=(av hU 1).trans rfl
 have u2:w.cell? ⟨g,2,none⟩=some (.int .i64 p):=(av hU 2).trans rfl
 have hu44:=Tryz.underlying149
 clear hB hc hr hU hg hl hn hN hre
 go_enter Tryz.func150,Tryz.ntmps150
 go_wp2
 go_cut [5,6] (fun v5 v6 wx=>v5 = .int .u64 r∧v6 = .int .i64 e∧ah (Below w.heap.size w wx))
 case first=>
  go_region_with (go_at_call 156;(refine (aQ.calls 100 A c l N p k r e _ ?s1 HC.o HF.o).mono ?_);(case s1=>exact Kd.dF (Kd.aH HR.o HB.o));rintro e_ wx ⟨rfl,hb⟩;have HX:=ah.mk hb;clear hb)
  all_goals (go_wp2_with fail;go_meet;exact⟨rfl,rfl,⟨pU (aD (Below.refl _ _)) (by simp) HX.o⟩⟩)
 case rest=>
  obtain⟨rfl,rfl,HX⟩:=hcut
  have HU2:=ah.mk (aG HU.o HX.o)
  clear u0 u1 u2
  have u2:wc.cell? ⟨g,2,none⟩=some (.int .i64 p):=(av HU2.o 2).trans rfl
  have u3:wc.cell? ⟨g,3,none⟩=some (.bool bad):=(av HU2.o 3).trans rfl
  have f2:=aC HU2.o 2
  have f3:=aC HU2.o 3
  cases bad <;>
  ·go_wp2
   go_ret
   refine⟨rfl,?_,((ak HB.o HX.o).setCell (p:=⟨g,3,none⟩) HG.o _).setCell (p:=⟨g,2,none⟩) HG.o _,((bP.of_below HX.o g none).qX 3 _).qX 2 _⟩
   first
    | exact bK (bK HU2.o 3 _ rfl) 2 _ rfl
    | (refine (bK (bK HU2.o 3 _ rfl) 2 _ rfl).trans ?_;simp;trace_state)
theorem yt.calls (g:Nat) (A:Option Addr) (c:Nat) (l:List Int) (N p:Int) (bad:Bool) (w0 w:World) (hU:UP w g A l.length c N p bad) (hr:Kd.C (Kd.int .u8) w0 A l.length l) (hc:l.length≤c) (hB:Below w0.heap.size w0 w) (hg:w0.heap.size≤g)
 (hl:xQ l) (hn:l.length≤1000000) (hN : -9223372036854775808≤N∧N≤9223372036854775807) :
 Calls Tryz.prog 151 #[.pointer (some ⟨g,0,none⟩)] w fun e w'=>e = .returned (.int .i64 (IG l N (p,bad)).1)∧UP w' g A l.length c N (IG l N (p,bad)).2.1 (IG l N (p,bad)).2.2∧Below w0.heap.size w0 w'∧bP w w' g none:=by
 obtain⟨r,q,e,hre⟩:∃ r q e,q8 l N p=(r,q,e):=⟨_,_,_,rfl⟩
 have HF:ah (aM.f 200 l N p=some (r,q,e)):=⟨by rw[E8 hl hn N p hN.1 hN.2 200 (by decide),hre]⟩
 simp only[IG,hre]
 have HB:=ah.mk hB
 have HC:=ah.mk hc
 have HR:=ah.mk hr
 have HU:=ah.mk hU
 have HG:=ah.mk hg
 have u0:w.cell? ⟨g,0,none⟩=some (.slice A l.length c):=(av hU 0).trans rfl
 have u1:w.cell? ⟨g,1,none⟩=some (.int .i64 N):=(av hU 1).trans rfl
 have u2:w.cell? ⟨g,2,none⟩=some (.int .i64 p):=(av hU 2).trans rfl
 have hu44:=Tryz.underlying149
 clear hB hc hr hU hg hl hn hN hre
 go_enter Tryz.func151,Tryz.ntmps151
 go_wp2
 go_cut [3,4,5] (fun v3 v4 v5 wx=>v3 = .int .i64 r∧v4 = .int .i64 q∧v5 = .int .i64 e∧ah (Below w.heap.size w wx))
 case first=>
  go_region_with (go_at_call 157;(refine (aM.calls 200 A c l N p r q e _ ?s1 HC.o HF.o).mono ?_);(case s1=>exact Kd.dF (Kd.aH HR.o HB.o));rintro e_ wx ⟨rfl,hb⟩;have HX:=ah.mk hb;clear hb)
  all_goals (go_wp2_with fail;go_meet;exact⟨rfl,rfl,rfl,⟨pU (aD (Below.refl _ _)) (by simp) HX.o⟩⟩)
 case rest=>
  obtain⟨rfl,rfl,rfl,HX⟩:=hcut
  have HU2:=ah.mk (aG HU.o HX.o)
  clear u0 u1 u2
  have u2:wc.cell? ⟨g,2,none⟩=some (.int .i64 p):=(av HU2.o 2).trans rfl
  have u3:wc.cell? ⟨g,3,none⟩=some (.bool bad):=(av HU2.o 3).trans rfl
  have f2:=aC HU2.o 2
  have f3:=aC HU2.o 3
  cases bad <;>
  ·go_wp2
   go_ret
   refine⟨rfl,?_,((ak HB.o HX.o).setCell (p:=⟨g,3,none⟩) HG.o _).setCell (p:=⟨g,2,none⟩) HG.o _,((bP.of_below HX.o g none).qX 3 _).qX 2 _⟩
   first
    | exact bK (bK HU2.o 3 _ rfl) 2 _ rfl
    | (refine (bK (bK HU2.o 3 _ rfl) 2 _ rfl).trans ?_;simp;trace_state)
end Go.Proofs.YtcgbgifbajdhpaaGreatDoor.PA
