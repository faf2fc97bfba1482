/- Of the law ZHQDumpReads. -/
import Derived.Test.YtcgbgifbajdhpaaGreatDoorZH13
import Derived.Test.YtcgbgifbajdhpaaGreatDoorZH7
set_option linter.unusedVariables false
set_option linter.unusedSimpArgs false
set_option maxHeartbeats 2000000
set_option maxRecDepth 100000
namespace Go
abbrev bg:=@Go.bodyPost_ret
abbrev iE:=@Nat.ne_of_lt
end Go
namespace Go.Proofs.Y.PA
open Go.RowKit Go.Proofs.Y.G Go.Proofs.YW.oO Go.Proofs.YW.pq Go.Proofs.YW.pz
def rG (n:Int):Int:=if n=0 then 0 else if -64≤n∧n<64 then 1 else if -2048≤n∧n<2048 then 2 else if -2147483648≤n∧n<2147483648 then 3 else 4
def rA (k:Int):Int:=if k=1 then 7 else if k=2 then 12 else if k=3 then 32 else if k=4 then 64 else 0
theorem yO (n:Int):0≤rG n∧rG n≤4:=by
 unfold rG
 repeat' split
 all_goals omega
theorem Mi (n:Int):qb.f 8 n=some (rG n):=by
 have e1:wrap64 1=1:=by decide +kernel
 have e2:wrap64 2=2:=by decide +kernel
 have e3:wrap64 3=3:=by decide +kernel
 unfold qb.f rG
 by_cases a1:n=0<;>by_cases a2 : -64≤n<;>by_cases a3:n<64<;>by_cases a4 : -2048≤n<;>by_cases a5:n<2048<;>by_cases a6 : -2147483648≤n<;>by_cases a7:n<2147483648
 all_goals first
  | (exfalso;omega)
  | simp[qb.j0,qb.j1,e1,e2,e3,a1,a2,a3,a4,a5,a6,a7]
theorem IU (k:Int):uH.f k=some (rA k):=by
 unfold uH.f rA
 repeat' split
 all_goals first | rfl | omega
def xD.f (l:List Int)(a0 a1:Int):Option (List Int × Int × Int):=
 if l.length≤900000000 then (qZ.f l a0).bind fun b=>if b=true then
  (sj.f l a0 (IntKind.u64.wrap (shl .u64 1 (rG a1)-1)) (rG a1)).bind fun r=>
   (if rG a1<4 then sj.f r.1 r.2 0 1 else some r).bind fun s=>
    (sj.f s.1 s.2 (IntKind.u64.wrap a1) (rA (rG a1))).bind fun t=>some (t.1,t.2,0)
  else some ([],0,1)
 else none
theorem xD.c (Zf:Option Addr)(Zg:Nat)(Y9:List Int)(Za:Int)(a1:Int)(r1:List Int)(r2:Int)(r3:Int)(w:World)(Z4:Kd.C (Kd.int .u8) w Zf Y9.length Y9)(Z5:Y9.length≤Zg)(h:xD.f Y9 Za a1=some (r1,r2,r3)) :
 Calls Tryz.prog 124 #[.agg #[.slice Zf Y9.length Zg,.int .i64 Za],.int .i64 a1] w fun e w'=>∃ v0_:Value,e = .returned (.tuple #[.agg #[v0_,.int .i64 r2],.int .i64 r3])∧Kd.R (Kd.int .u8) 5 w' w.heap.size (fun _=>True) v0_ r1∧Below w.heap.size w w':=by
 have amw:=Tryz.underlying149;unfold xD.f at h;split at h
 case isFalse=>cases h
 case isTrue hlen=>
 obtain⟨b,hcan,h⟩:=Option.bind_eq_some_iff.mp h;have HR:=Y7 Z4;have HC:=Y7 Z5;have HL:=Y7 hlen;have H:=Y7 h;clear Z4 Z5 hlen h
 go_enter Tryz.func124,Tryz.ntmps124
 go_wp2_with (fail)
 refine (qZ.c Zf Zg Y9 Za b _ ?c1 HC.o hcan).mono ?_
 case c1=>exact Kd.rP (Kd.rP HR.o _) _
 rintro e w1 ⟨rfl,hb⟩;have BK0:=Y7 (o7 (g:=w.heap.size) (o := .cells #[.slice Zf Y9.length Zg,.int .i64 Za] 149 (0,0)) (pK (qx w _) _) hb);have BK1:=Y7 (o7 (g:=w.heap.size+1) (o := .cells #[.slice none 0 0,.int .i64 0] 149 (0,0)) (by have:=qx (w.alloc (.cells #[.slice Zf Y9.length Zg,.int .i64 Za] 149 (0,0))) (.cells #[.slice none 0 0,.int .i64 0] 149 (0,0));rw[show (w.alloc (.cells #[.slice Zf Y9.length Zg,.int .i64 Za] 149 (0,0))).heap.size=w.heap.size+1 by simp] at this;exact this) hb);have HB:=Y7 (oP (oN (oN (aU w.heap.size w) _) _) hb);clear hb hcan;have hz0:w1.cell? ⟨w.heap.size,0,none⟩=some (.slice Zf Y9.length Zg):=oQ BK0.o 0;have hz1:w1.cell? ⟨w.heap.size,1,none⟩=some (.int .i64 Za):=oQ BK0.o 1;have hy0:w1.cell? ⟨w.heap.size+1,0,none⟩=some (.slice none 0 0):=oQ BK1.o 0;have hy1:w1.cell? ⟨w.heap.size+1,1,none⟩=some (.int .i64 0):=oQ BK1.o 1;have hf0:=oW BK1.o 0;have hf1:=oW BK1.o 1;rcases Bool.eq_false_or_eq_true b with rfl | rfl
 case inr=>
  have hr:r1=[]∧r2=0∧r3=1:=by
   have h_:=H.o;rw[av (by decide)] at h_;simp only[bF,bG] at h_;obtain⟨rfl,rfl,rfl⟩:=h_;exact⟨rfl,rfl,rfl⟩
  obtain⟨rfl,rfl,rfl⟩:=hr;clear H
  go_wp2_with (fail)
  refine bg (xB rfl _ _ (w.heap.size+1) 149 #[.slice none 0 0,.int .i64 0] (0,0) _ rfl (by (with_reducible repeat (first | refine qd ?_ _ | refine pX ?_ | refine pK ?_ _));refine qF (cs := #[.slice none 0 0,.int .i64 0]) ?_ 1 _ rfl;refine qF (cs := #[.slice none 0 0,.int .i64 0]) ?_ 0 _ rfl;exact BK1.o) Tryz.underlying149 rfl (by kernel_rfl)) rfl ?_;exact⟨_,rfl,Kd.tJ _ _ _ _ _,(HB.o.setCell (p:=⟨w.heap.size+1,0,none⟩) (by simp) _).setCell (p:=⟨w.heap.size+1,1,none⟩) (by simp) _⟩
 case inl=>
  have h0_:=H.o;rw[au rfl] at h0_;obtain⟨⟨s1,s2⟩,ah1,h1_⟩:=Option.bind_eq_some_iff.mp h0_;obtain⟨⟨s3,s4⟩,ah2,h2_⟩:=Option.bind_eq_some_iff.mp h1_;obtain⟨⟨q1,q2⟩,ah3,h3_⟩:=Option.bind_eq_some_iff.mp h2_;simp only[bF,bG] at h3_;obtain⟨rfl,rfl,rfl⟩:=h3_;have adG:=Y7 ah1;have adH:=Y7 ah2;have agv:=Y7 ah3;clear H ah1 ah2 ah3 h0_ h1_ h2_ h
  go_upto_region 3 with (fail)
  go_cut [6] (fun v6 wc=>∃ (gy:Nat) (v:Value),v6 = .pointer (some ⟨gy,0,none⟩)∧oM (wc.heap[gy]? = some (.cells #[v,.int .i64 Za] 149 (0,0)))∧oM (Kd.R (Kd.int .u8) 5 wc w.heap.size (fun _=>True) v Y9)∧oM (wc.heap[w.heap.size+1]? = some (.cells #[.slice none 0 0,.int .i64 0] 149 (0,0)))∧oM (Below w.heap.size w wc)∧oM (w.heap.size+1<gy))
  case first=>
   have hs0:=qQ BK0.o;have hs1:=qQ BK1.o;have HCL:oM (rE.f Y9=some Y9):=⟨by unfold rE.f G.rE.f;rw[au (by have:=HL.o;omega)]⟩
   go_region_with (first
    | (go_at_call 142;(with_reducible refine (rE.c Zf Zg Y9 Y9 w1.drew ?c1 HC.o HCL.o).mono ?_);(case c1=>exact Kd.sH (Kd.o9 HR.o HB.o));rintro e w2 ⟨v,rfl,ho,hb⟩;have hz1:w2.cell? ⟨w.heap.size,1,none⟩=some (.int .i64 Za):=oQ (o7 (pX BK0.o) hb) 1;have HO:=Y7 (Kd.qW ho (qh (oV HB.o)));have HB2:=Y7 (oP (oV HB.o) hb);have BK2:=Y7 (o7 (pX BK1.o) hb);have hs3:=dA hs0 hb.size;have hs4:=dA hs1 hb.size;have hs5:w.heap.size<w2.heap.size:=hs3;obtain⟨A2,c2,e2⟩:=Kd.pO HO.o;subst e2;clear ho hb)
    | (go_at_call 142;(with_reducible refine (rE.c Zf Zg Y9 Y9 (w1.alloc (.cells #[.slice none 0 0,.int .i64 0] 149)).drew ?c1 HC.o HCL.o).mono ?_);(case c1=>exact Kd.sH (Kd.rP (Kd.o9 HR.o HB.o) _));rintro e w2 ⟨v,rfl,ho,hb⟩;have hz1:w2.cell? ⟨w.heap.size,1,none⟩=some (.int .i64 Za):=oQ (o7 (pX (pK BK0.o _)) hb) 1;have HO:=Y7 (Kd.qW ho (qh (oV (oN HB.o _))));have HB2:=Y7 (oP (oV (oN HB.o _)) hb);have BK2:=Y7 (o7 (pX (pK BK1.o _)) hb);have BKY:=Y7 (o7 (pX (qx w1 (.cells #[.slice none 0 0,.int .i64 0] 149))) hb);have hy2:w2.cell? ⟨w1.heap.size,0,none⟩=some (.slice none 0 0):=oQ BKY.o 0;have hy3:w2.cell? ⟨w1.heap.size,1,none⟩=some (.int .i64 0):=oQ BKY.o 1;have hy4:w2.frozen? ⟨w1.heap.size,0,none⟩=false:=oW BKY.o 0;have hy5:w2.frozen? ⟨w1.heap.size,1,none⟩=false:=oW BKY.o 1;obtain⟨A2,c2,e2⟩:=Kd.pO HO.o;subst e2;clear ho hb))
   all_goals
    go_wp2_with fail
    go_meet
    case rel=>first
     | exact⟨w2.heap.size,.slice A2 Y9.length c2,rfl,⟨qx w2 _⟩,⟨Kd.sJ HO.o _⟩,⟨pK BK2.o _⟩,⟨oN HB2.o _⟩,⟨hs4⟩⟩
     | exact⟨w1.heap.size,.slice A2 Y9.length c2,rfl,⟨qF (cs := #[.slice A2 Y9.length c2,.int .i64 0]) (qF (cs := #[.slice none 0 0,.int .i64 0]) BKY.o 0 _ rfl) 1 _ rfl⟩,⟨Kd.qR (Kd.sS (p:=⟨w1.heap.size,1,none⟩) (Kd.sS (p:=⟨w1.heap.size,0,none⟩) (Kd.yL HO.o BKY.o (by decide)) (fun _ hk=>hk.2) _) (fun _ hk=>hk.2) _) (fun _ _=>bE)⟩,⟨vH (p:=⟨w1.heap.size,1,none⟩) (vH (p:=⟨w1.heap.size,0,none⟩) BK2.o (iE hs1) _) (iE hs1) _⟩,⟨(HB2.o.setCell (p:=⟨w1.heap.size,0,none⟩) (qh HB.o) _).setCell (p:=⟨w1.heap.size,1,none⟩) (qh HB.o) _⟩,⟨hs1⟩⟩
  case rest=>
   clear BK0 BK1 hz0 hz1 hy0 hy1 hf0 hf1 HB;obtain⟨gy,v,rfl,BKY,HO,BK1,HB,HGY⟩:=hcut;have hsz1:=qQ BK1.o
   go_wp2_with (fail)
   refine (qb.c 8 a1 _ _ (Mi a1)).mono ?_;rintro e w3 ⟨rfl,⟨n3,rfl⟩⟩;have HCL:=Y7 (yO a1);have HA1:=adG;generalize rG a1=k at HCL adG adH agv HA1;have hk0:=bM HCL.o.1;obtain⟨S2,hS2⟩:∃ S,shl .u64 1 k=S:=⟨_,rfl⟩;have alF:IntKind.u64.wrap (2 ^ min k.toNat 64)=S2:=by have h_:IntKind.u64.wrap (1*2 ^ min k.toNat 64)=S2:=hS2;rw[gK] at h_;exact h_
   have alG:k≤64→IntKind.u64.wrap (2 ^ k.toNat)=S2:=fun aaP=>by have h_:=uW (k := .u64) hS2 aaP;rw[gK] at h_;exact h_
   replace adG:oM (sj.f Y9 Za (IntKind.u64.wrap (S2-1)) k=some (s1,s2)):=⟨by rw[← hS2];exact adG.o⟩;clear HA1 hS2
   go_wp2_with (fail)
   refine (sj.c w.heap.size gy w _ Y9 Za (IntKind.u64.wrap (S2-1)) k s1 s2 _ (Kd.wm HO.o n3) (qd BKY.o n3) (by have:=HGY.o;omega) (oU HB.o n3) adG.o).mono ?_;rintro e w4 ⟨v4,rfl,hg3,ho3,hb3,hk3⟩;have aj3:=Y7 hg3;have HO4:=Y7 ho3;have HB4:=Y7 hb3;have BK4:=Y7 (hk3 _ _ _ (iE HGY.o) (by decide) (qd BK1.o n3));clear hg3 ho3 hb3 hk3;clear BKY HO HB BK1 adG
   by_cases hk4:k<4
   ·have hd4:decide (k<4)=true:=aC hk4;replace adH:oM (sj.f s1 s2 0 1=some (s3,s4)):=⟨by have h_:=adH.o;rw[au hk4] at h_;exact h_⟩;clear hk4
    go_wp2_with (fail)
    refine (sj.c w.heap.size gy w _ s1 s2 0 1 s3 s4 _ HO4.o aj3.o (by have:=HGY.o;omega) HB4.o adH.o).mono ?_;rintro e w5 ⟨v5,rfl,hg3,ho3,hb3,hk3⟩;have amx:=Y7 hg3;have HO5:=Y7 ho3;have HB5:=Y7 hb3;have BK5:=Y7 (hk3 _ _ _ (iE HGY.o) (by decide) BK4.o);clear hg3 ho3 hb3 hk3
    go_wp2_with (fail)
    refine (uH.c k _ _ (IU k)).mono ?_;rintro e wq ⟨rfl,⟨nq,rfl⟩⟩
    go_wp2_with (fail)
    refine (sj.c w.heap.size gy w _ s3 s4 (IntKind.u64.wrap a1) (rA k) q1 q2 _ (Kd.wm HO5.o _) (qd amx.o _) (by have:=HGY.o;omega) (oU HB5.o _) agv.o).mono ?_;rintro e w9 ⟨v9,rfl,hg3,ho3,hb3,hk3⟩;have agw:=Y7 hg3;have HO9:=Y7 ho3;have HB9:=Y7 hb3;have BK9:=Y7 (hk3 _ _ _ (iE HGY.o) (by decide) (qd BK5.o _));clear hg3 ho3 hb3 hk3;have hne:=iE HGY.o;have hne':=jy hne;obtain⟨A3,c3,e3⟩:=Kd.pO HO9.o;subst e3;have hz0:w9.cell? ⟨gy,0,none⟩=some (.slice A3 q1.length c3):=oQ agw.o 0;have hz1:w9.cell? ⟨gy,1,none⟩=some (.int .i64 q2):=oQ agw.o 1;have hy0:w9.cell? ⟨w.heap.size+1,0,none⟩=some (.slice none 0 0):=oQ BK9.o 0;have hy1:w9.cell? ⟨w.heap.size+1,1,none⟩=some (.int .i64 0):=oQ BK9.o 1;have hf0:=oW BK9.o 0;have hf1:=oW BK9.o 1
    go_wp2_with (fail)
    refine bg (xB rfl _ _ (w.heap.size+1) 149 #[.slice A3 q1.length c3,.int .i64 q2] (0,0) _ rfl (by (with_reducible repeat (first | refine qd ?_ _ | refine pX ?_ | refine pK ?_ _));refine qF (cs := #[.slice A3 q1.length c3,.int .i64 0]) ?_ 1 _ rfl;refine qF (cs := #[.slice none 0 0,.int .i64 0]) ?_ 0 _ rfl;exact BK9.o) Tryz.underlying149 rfl (by kernel_rfl)) rfl ?_;exact⟨_,rfl,Kd.qR (Kd.sS (p:=⟨w.heap.size+1,1,none⟩) (Kd.sS (p:=⟨w.heap.size+1,0,none⟩) (Kd.yL HO9.o BK9.o (by decide)) (fun _ hk=>hk.2) _) (fun _ hk=>hk.2) _) (fun _ _=>bE),(HB9.o.setCell (p:=⟨w.heap.size+1,0,none⟩) (by simp) _).setCell (p:=⟨w.heap.size+1,1,none⟩) (by simp) _⟩
   ·have hd4:decide (k<4)=false:=aD hk4;have he:s1=s3∧s2=s4:=by have h_:=adH.o;rw[av hk4] at h_;simpa using h_
    obtain⟨rfl,rfl⟩:=he;clear hk4 adH
    go_wp2_with (fail)
    refine (uH.c k _ _ (IU k)).mono ?_;rintro e wq ⟨rfl,⟨nq,rfl⟩⟩
    go_wp2_with (fail)
    refine (sj.c w.heap.size gy w _ s1 s2 (IntKind.u64.wrap a1) (rA k) q1 q2 _ (Kd.wm HO4.o _) (qd aj3.o _) (by have:=HGY.o;omega) (oU HB4.o _) agv.o).mono ?_;rintro e w9 ⟨v9,rfl,hg3,ho3,hb3,hk3⟩;have agw:=Y7 hg3;have HO9:=Y7 ho3;have HB9:=Y7 hb3;have BK9:=Y7 (hk3 _ _ _ (iE HGY.o) (by decide) (qd BK4.o _));clear hg3 ho3 hb3 hk3;have hne:=iE HGY.o;have hne':=jy hne;obtain⟨A3,c3,e3⟩:=Kd.pO HO9.o;subst e3;have hz0:w9.cell? ⟨gy,0,none⟩=some (.slice A3 q1.length c3):=oQ agw.o 0;have hz1:w9.cell? ⟨gy,1,none⟩=some (.int .i64 q2):=oQ agw.o 1;have hy0:w9.cell? ⟨w.heap.size+1,0,none⟩=some (.slice none 0 0):=oQ BK9.o 0;have hy1:w9.cell? ⟨w.heap.size+1,1,none⟩=some (.int .i64 0):=oQ BK9.o 1;have hf0:=oW BK9.o 0;have hf1:=oW BK9.o 1
    go_wp2_with (fail)
    refine bg (xB rfl _ _ (w.heap.size+1) 149 #[.slice A3 q1.length c3,.int .i64 q2] (0,0) _ rfl (by (with_reducible repeat (first | refine qd ?_ _ | refine pX ?_ | refine pK ?_ _));refine qF (cs := #[.slice A3 q1.length c3,.int .i64 0]) ?_ 1 _ rfl;refine qF (cs := #[.slice none 0 0,.int .i64 0]) ?_ 0 _ rfl;exact BK9.o) Tryz.underlying149 rfl (by kernel_rfl)) rfl ?_;exact⟨_,rfl,Kd.qR (Kd.sS (p:=⟨w.heap.size+1,1,none⟩) (Kd.sS (p:=⟨w.heap.size+1,0,none⟩) (Kd.yL HO9.o BK9.o (by decide)) (fun _ hk=>hk.2) _) (fun _ hk=>hk.2) _) (fun _ _=>bE),(HB9.o.setCell (p:=⟨w.heap.size+1,0,none⟩) (by simp) _).setCell (p:=⟨w.heap.size+1,1,none⟩) (by simp) _⟩
end Go.Proofs.Y.PA
