/- Of the law rZIQDumpBack. -/
import Derived.Test.YtcgbgifbajdhpaaGreatDoorZI21
import Derived.Test.YtcgbgifbajdhpaaGreatDoorZI14
import Derived.Test.YtcgbgifbajdhpaaGreatDoorZI8
set_option linter.unusedVariables false
set_option linter.unusedSimpArgs false
set_option maxHeartbeats 2000000
set_option maxRecDepth 100000
namespace Go
abbrev bZ:=@Go.bodyPost_ret
abbrev iN:=@Nat.ne_of_lt
end Go
namespace Go.Proofs.Y.PA
open Go.RowKit Go.Proofs.Y.G Go.Proofs.YW.o7 Go.Proofs.YW.pJ Go.Proofs.YW.pO
def rV (n:Int):Int:=if n=0 then 0 else if -64≤n∧n<64 then 1 else if -2048≤n∧n<2048 then 2 else if -2147483648≤n∧n<2147483648 then 3 else 4
def sK (k:Int):Int:=if k=1 then 7 else if k=2 then 12 else if k=3 then 32 else if k=4 then 64 else 0
theorem xK (n:Int):0≤rV n∧rV n≤4:=by
 unfold rV
 repeat' split
 all_goals omega
theorem Lv (n:Int):p9.f 8 n=some (rV n):=by
 have e1:wrap64 1=1:=by decide +kernel
 have e2:wrap64 2=2:=by decide +kernel
 have e3:wrap64 3=3:=by decide +kernel
 unfold p9.f rV
 by_cases a1:n=0<;>by_cases a2 : -64≤n<;>by_cases a3:n<64<;>by_cases a4 : -2048≤n<;>by_cases a5:n<2048<;>by_cases a6 : -2147483648≤n<;>by_cases a7:n<2147483648
 all_goals first
  | (exfalso;omega)
  | simp[p9.j0,p9.j1,e1,e2,e3,a1,a2,a3,a4,a5,a6,a7]
theorem Ie (k:Int):tJ.f k=some (sK k):=by
 unfold tJ.f sK
 repeat' split
 all_goals first | rfl | omega
def vX.f (l:List Int)(a0 a1:Int):Option (List Int × Int × Int):=
 if l.length≤900000000 then (qX.f l a0).bind fun b=>if b=true then
  (rP.f l a0 (IntKind.u64.wrap (shl .u64 1 (rV a1)-1)) (rV a1)).bind fun r=>
   (if rV a1<4 then rP.f r.1 r.2 0 1 else some r).bind fun s=>
    (rP.f s.1 s.2 (IntKind.u64.wrap a1) (sK (rV a1))).bind fun t=>some (t.1,t.2,0)
  else some ([],0,1)
 else none
theorem vX.c (YB:Option Addr)(YC:Nat)(Yv:List Int)(Yw:Int)(a1:Int)(r1:List Int)(r2:Int)(r3:Int)(w:World)(Zm:Kd.C (Kd.int .u8) w YB Yv.length Yv)(Zn:Yv.length≤YC)(h:vX.f Yv Yw a1=some (r1,r2,r3)) :
 Calls Tryz.prog 124 #[.agg #[.slice YB Yv.length YC,.int .i64 Yw],.int .i64 a1] w fun e w'=>∃ v0_:Value,e = .returned (.tuple #[.agg #[v0_,.int .i64 r2],.int .i64 r3])∧Kd.R (Kd.int .u8) 5 w' w.heap.size (fun _=>True) v0_ r1∧Below w.heap.size w w':=by
 have ajk:=Tryz.underlying149;unfold vX.f at h;split at h
 case isFalse=>cases h
 case isTrue hlen=>
 obtain⟨b,hcan,h⟩:=Option.bind_eq_some_iff.mp h;have HR:=Yu Zm;have HC:=Yu Zn;have HL:=Yu hlen;have H:=Yu h;clear Zm Zn hlen h
 go_enter Tryz.func124,Tryz.ntmps124
 go_wp2_with (fail)
 refine (qX.c YB YC Yv Yw b _ ?c1 HC.o hcan).mono ?_
 case c1=>exact Kd.qN (Kd.qN HR.o _) _
 rintro e w1 ⟨rfl,hb⟩;have BK0:=Yu (pG (g:=w.heap.size) (o := .cells #[.slice YB Yv.length YC,.int .i64 Yw] 149 (0,0)) (pU (qG w _) _) hb);have BK1:=Yu (pG (g:=w.heap.size+1) (o := .cells #[.slice none 0 0,.int .i64 0] 149 (0,0)) (by have:=qG (w.alloc (.cells #[.slice YB Yv.length YC,.int .i64 Yw] 149 (0,0))) (.cells #[.slice none 0 0,.int .i64 0] 149 (0,0));rw[show (w.alloc (.cells #[.slice YB Yv.length YC,.int .i64 Yw] 149 (0,0))).heap.size=w.heap.size+1 by simp] at this;exact this) hb);have HB:=Yu (o9 (o8 (o8 (bq w.heap.size w) _) _) hb);clear hb hcan;have hz0:w1.cell? ⟨w.heap.size,0,none⟩=some (.slice YB Yv.length YC):=pq BK0.o 0;have hz1:w1.cell? ⟨w.heap.size,1,none⟩=some (.int .i64 Yw):=pq BK0.o 1;have hy0:w1.cell? ⟨w.heap.size+1,0,none⟩=some (.slice none 0 0):=pq BK1.o 0;have hy1:w1.cell? ⟨w.heap.size+1,1,none⟩=some (.int .i64 0):=pq BK1.o 1;have hf0:=pE BK1.o 0;have hf1:=pE BK1.o 1;rcases Bool.eq_false_or_eq_true b with rfl | rfl
 case inr=>
  have hr:r1=[]∧r2=0∧r3=1:=by
   have h_:=H.o;rw[aK (by decide)] at h_;simp only[cO,dB] at h_;obtain⟨rfl,rfl,rfl⟩:=h_;exact⟨rfl,rfl,rfl⟩
  obtain⟨rfl,rfl,rfl⟩:=hr;clear H
  go_wp2_with (fail)
  refine bZ (vV rfl _ _ (w.heap.size+1) 149 #[.slice none 0 0,.int .i64 0] (0,0) _ rfl (by (with_reducible repeat (first | refine qh ?_ _ | refine qg ?_ | refine pU ?_ _));refine qH (cs := #[.slice none 0 0,.int .i64 0]) ?_ 1 _ rfl;refine qH (cs := #[.slice none 0 0,.int .i64 0]) ?_ 0 _ rfl;exact BK1.o) Tryz.underlying149 rfl (by kernel_rfl)) rfl ?_;exact⟨_,rfl,Kd.ug _ _ _ _ _,(HB.o.setCell (p:=⟨w.heap.size+1,0,none⟩) (by simp) _).setCell (p:=⟨w.heap.size+1,1,none⟩) (by simp) _⟩
 case inl=>
  have h0_:=H.o;rw[ak rfl] at h0_;obtain⟨⟨s1,s2⟩,af2,h1_⟩:=Option.bind_eq_some_iff.mp h0_;obtain⟨⟨s3,s4⟩,af3,h2_⟩:=Option.bind_eq_some_iff.mp h1_;obtain⟨⟨q1,q2⟩,af4,h3_⟩:=Option.bind_eq_some_iff.mp h2_;simp only[cO,dB] at h3_;obtain⟨rfl,rfl,rfl⟩:=h3_;have acE:=Yu af2;have acF:=Yu af3;have aeI:=Yu af4;clear H af2 af3 af4 h0_ h1_ h2_ h
  go_upto_region 3 with (fail)
  go_cut [6] (fun v6 wc=>∃ (gy:Nat) (v:Value),v6 = .pointer (some ⟨gy,0,none⟩)∧oZ (wc.heap[gy]? = some (.cells #[v,.int .i64 Yw] 149 (0,0)))∧oZ (Kd.R (Kd.int .u8) 5 wc w.heap.size (fun _=>True) v Yv)∧oZ (wc.heap[w.heap.size+1]? = some (.cells #[.slice none 0 0,.int .i64 0] 149 (0,0)))∧oZ (Below w.heap.size w wc)∧oZ (w.heap.size+1<gy))
  case first=>
   have hs0:=rE BK0.o;have hs1:=rE BK1.o;have HCL:oZ (rz.f Yv=some Yv):=⟨by unfold rz.f G.rz.f;rw[ak (by have:=HL.o;omega)]⟩
   go_region_with (first
    | (go_at_call 142;(with_reducible refine (rz.c YB YC Yv Yv w1.drew ?c1 HC.o HCL.o).mono ?_);(case c1=>exact Kd.rD (Kd.pI HR.o HB.o));rintro e w2 ⟨v,rfl,ho,hb⟩;have hz1:w2.cell? ⟨w.heap.size,1,none⟩=some (.int .i64 Yw):=pq (pG (qg BK0.o) hb) 1;have HO:=Yu (Kd.sj ho (pX (pF HB.o)));have HB2:=Yu (o9 (pF HB.o) hb);have BK2:=Yu (pG (qg BK1.o) hb);have hs3:=d9 hs0 hb.size;have hs4:=d9 hs1 hb.size;have hs5:w.heap.size<w2.heap.size:=hs3;obtain⟨A2,c2,e2⟩:=Kd.qo HO.o;subst e2;clear ho hb)
    | (go_at_call 142;(with_reducible refine (rz.c YB YC Yv Yv (w1.alloc (.cells #[.slice none 0 0,.int .i64 0] 149)).drew ?c1 HC.o HCL.o).mono ?_);(case c1=>exact Kd.rD (Kd.qN (Kd.pI HR.o HB.o) _));rintro e w2 ⟨v,rfl,ho,hb⟩;have hz1:w2.cell? ⟨w.heap.size,1,none⟩=some (.int .i64 Yw):=pq (pG (qg (pU BK0.o _)) hb) 1;have HO:=Yu (Kd.sj ho (pX (pF (o8 HB.o _))));have HB2:=Yu (o9 (pF (o8 HB.o _)) hb);have BK2:=Yu (pG (qg (pU BK1.o _)) hb);have BKY:=Yu (pG (qg (qG w1 (.cells #[.slice none 0 0,.int .i64 0] 149))) hb);have hy2:w2.cell? ⟨w1.heap.size,0,none⟩=some (.slice none 0 0):=pq BKY.o 0;have hy3:w2.cell? ⟨w1.heap.size,1,none⟩=some (.int .i64 0):=pq BKY.o 1;have hy4:w2.frozen? ⟨w1.heap.size,0,none⟩=false:=pE BKY.o 0;have hy5:w2.frozen? ⟨w1.heap.size,1,none⟩=false:=pE BKY.o 1;obtain⟨A2,c2,e2⟩:=Kd.qo HO.o;subst e2;clear ho hb))
   all_goals
    go_wp2_with fail
    go_meet
    case rel=>first
     | exact⟨w2.heap.size,.slice A2 Yv.length c2,rfl,⟨qG w2 _⟩,⟨Kd.vO HO.o _⟩,⟨pU BK2.o _⟩,⟨o8 HB2.o _⟩,⟨hs4⟩⟩
     | exact⟨w1.heap.size,.slice A2 Yv.length c2,rfl,⟨qH (cs := #[.slice A2 Yv.length c2,.int .i64 0]) (qH (cs := #[.slice none 0 0,.int .i64 0]) BKY.o 0 _ rfl) 1 _ rfl⟩,⟨Kd.sD (Kd.uG (p:=⟨w1.heap.size,1,none⟩) (Kd.uG (p:=⟨w1.heap.size,0,none⟩) (Kd.ze HO.o BKY.o (by decide)) (fun _ hk=>hk.2) _) (fun _ hk=>hk.2) _) (fun _ _=>dD)⟩,⟨uU (p:=⟨w1.heap.size,1,none⟩) (uU (p:=⟨w1.heap.size,0,none⟩) BK2.o (iN hs1) _) (iN hs1) _⟩,⟨(HB2.o.setCell (p:=⟨w1.heap.size,0,none⟩) (pX HB.o) _).setCell (p:=⟨w1.heap.size,1,none⟩) (pX HB.o) _⟩,⟨hs1⟩⟩
  case rest=>
   clear BK0 BK1 hz0 hz1 hy0 hy1 hf0 hf1 HB;obtain⟨gy,v,rfl,BKY,HO,BK1,HB,HGY⟩:=hcut;have hsz1:=rE BK1.o
   go_wp2_with (fail)
   refine (p9.c 8 a1 _ _ (Lv a1)).mono ?_;rintro e w3 ⟨rfl,⟨n3,rfl⟩⟩;have HCL:=Yu (xK a1);have HA1:=acE;generalize rV a1=k at HCL acE acF aeI HA1;have hk0:=bR HCL.o.1;obtain⟨S2,hS2⟩:∃ S,shl .u64 1 k=S:=⟨_,rfl⟩;have aiR:IntKind.u64.wrap (2 ^ min k.toNat 64)=S2:=by have h_:IntKind.u64.wrap (1*2 ^ min k.toNat 64)=S2:=hS2;rw[kg] at h_;exact h_
   have aiS:k≤64→IntKind.u64.wrap (2 ^ k.toNat)=S2:=fun adn=>by have h_:=wO (k := .u64) hS2 adn;rw[kg] at h_;exact h_
   replace acE:oZ (rP.f Yv Yw (IntKind.u64.wrap (S2-1)) k=some (s1,s2)):=⟨by rw[← hS2];exact acE.o⟩;clear HA1 hS2
   go_wp2_with (fail)
   refine (rP.c w.heap.size gy w _ Yv Yw (IntKind.u64.wrap (S2-1)) k s1 s2 _ (Kd.Aj HO.o n3) (qh BKY.o n3) (by have:=HGY.o;omega) (pz HB.o n3) acE.o).mono ?_;rintro e w4 ⟨v4,rfl,hg3,ho3,hb3,hk3⟩;have ahO:=Yu hg3;have HO4:=Yu ho3;have HB4:=Yu hb3;have BK4:=Yu (hk3 _ _ _ (iN HGY.o) (by decide) (qh BK1.o n3));clear hg3 ho3 hb3 hk3;clear BKY HO HB BK1 acE
   by_cases hk4:k<4
   ·have hd4:decide (k<4)=true:=aM hk4;replace acF:oZ (rP.f s1 s2 0 1=some (s3,s4)):=⟨by have h_:=acF.o;rw[ak hk4] at h_;exact h_⟩;clear hk4
    go_wp2_with (fail)
    refine (rP.c w.heap.size gy w _ s1 s2 0 1 s3 s4 _ HO4.o ahO.o (by have:=HGY.o;omega) HB4.o acF.o).mono ?_;rintro e w5 ⟨v5,rfl,hg3,ho3,hb3,hk3⟩;have ajl:=Yu hg3;have HO5:=Yu ho3;have HB5:=Yu hb3;have BK5:=Yu (hk3 _ _ _ (iN HGY.o) (by decide) BK4.o);clear hg3 ho3 hb3 hk3
    go_wp2_with (fail)
    refine (tJ.c k _ _ (Ie k)).mono ?_;rintro e wq ⟨rfl,⟨nq,rfl⟩⟩
    go_wp2_with (fail)
    refine (rP.c w.heap.size gy w _ s3 s4 (IntKind.u64.wrap a1) (sK k) q1 q2 _ (Kd.Aj HO5.o _) (qh ajl.o _) (by have:=HGY.o;omega) (pz HB5.o _) aeI.o).mono ?_;rintro e w9 ⟨v9,rfl,hg3,ho3,hb3,hk3⟩;have aeJ:=Yu hg3;have HO9:=Yu ho3;have HB9:=Yu hb3;have BK9:=Yu (hk3 _ _ _ (iN HGY.o) (by decide) (qh BK5.o _));clear hg3 ho3 hb3 hk3;have hne:=iN HGY.o;have hne':=jJ hne;obtain⟨A3,c3,e3⟩:=Kd.qo HO9.o;subst e3;have hz0:w9.cell? ⟨gy,0,none⟩=some (.slice A3 q1.length c3):=pq aeJ.o 0;have hz1:w9.cell? ⟨gy,1,none⟩=some (.int .i64 q2):=pq aeJ.o 1;have hy0:w9.cell? ⟨w.heap.size+1,0,none⟩=some (.slice none 0 0):=pq BK9.o 0;have hy1:w9.cell? ⟨w.heap.size+1,1,none⟩=some (.int .i64 0):=pq BK9.o 1;have hf0:=pE BK9.o 0;have hf1:=pE BK9.o 1
    go_wp2_with (fail)
    refine bZ (vV rfl _ _ (w.heap.size+1) 149 #[.slice A3 q1.length c3,.int .i64 q2] (0,0) _ rfl (by (with_reducible repeat (first | refine qh ?_ _ | refine qg ?_ | refine pU ?_ _));refine qH (cs := #[.slice A3 q1.length c3,.int .i64 0]) ?_ 1 _ rfl;refine qH (cs := #[.slice none 0 0,.int .i64 0]) ?_ 0 _ rfl;exact BK9.o) Tryz.underlying149 rfl (by kernel_rfl)) rfl ?_;exact⟨_,rfl,Kd.sD (Kd.uG (p:=⟨w.heap.size+1,1,none⟩) (Kd.uG (p:=⟨w.heap.size+1,0,none⟩) (Kd.ze HO9.o BK9.o (by decide)) (fun _ hk=>hk.2) _) (fun _ hk=>hk.2) _) (fun _ _=>dD),(HB9.o.setCell (p:=⟨w.heap.size+1,0,none⟩) (by simp) _).setCell (p:=⟨w.heap.size+1,1,none⟩) (by simp) _⟩
   ·have hd4:decide (k<4)=false:=aN hk4;have he:s1=s3∧s2=s4:=by have h_:=acF.o;rw[aK hk4] at h_;simpa using h_
    obtain⟨rfl,rfl⟩:=he;clear hk4 acF
    go_wp2_with (fail)
    refine (tJ.c k _ _ (Ie k)).mono ?_;rintro e wq ⟨rfl,⟨nq,rfl⟩⟩
    go_wp2_with (fail)
    refine (rP.c w.heap.size gy w _ s1 s2 (IntKind.u64.wrap a1) (sK k) q1 q2 _ (Kd.Aj HO4.o _) (qh ahO.o _) (by have:=HGY.o;omega) (pz HB4.o _) aeI.o).mono ?_;rintro e w9 ⟨v9,rfl,hg3,ho3,hb3,hk3⟩;have aeJ:=Yu hg3;have HO9:=Yu ho3;have HB9:=Yu hb3;have BK9:=Yu (hk3 _ _ _ (iN HGY.o) (by decide) (qh BK4.o _));clear hg3 ho3 hb3 hk3;have hne:=iN HGY.o;have hne':=jJ hne;obtain⟨A3,c3,e3⟩:=Kd.qo HO9.o;subst e3;have hz0:w9.cell? ⟨gy,0,none⟩=some (.slice A3 q1.length c3):=pq aeJ.o 0;have hz1:w9.cell? ⟨gy,1,none⟩=some (.int .i64 q2):=pq aeJ.o 1;have hy0:w9.cell? ⟨w.heap.size+1,0,none⟩=some (.slice none 0 0):=pq BK9.o 0;have hy1:w9.cell? ⟨w.heap.size+1,1,none⟩=some (.int .i64 0):=pq BK9.o 1;have hf0:=pE BK9.o 0;have hf1:=pE BK9.o 1
    go_wp2_with (fail)
    refine bZ (vV rfl _ _ (w.heap.size+1) 149 #[.slice A3 q1.length c3,.int .i64 q2] (0,0) _ rfl (by (with_reducible repeat (first | refine qh ?_ _ | refine qg ?_ | refine pU ?_ _));refine qH (cs := #[.slice A3 q1.length c3,.int .i64 0]) ?_ 1 _ rfl;refine qH (cs := #[.slice none 0 0,.int .i64 0]) ?_ 0 _ rfl;exact BK9.o) Tryz.underlying149 rfl (by kernel_rfl)) rfl ?_;exact⟨_,rfl,Kd.sD (Kd.uG (p:=⟨w.heap.size+1,1,none⟩) (Kd.uG (p:=⟨w.heap.size+1,0,none⟩) (Kd.ze HO9.o BK9.o (by decide)) (fun _ hk=>hk.2) _) (fun _ hk=>hk.2) _) (fun _ _=>dD),(HB9.o.setCell (p:=⟨w.heap.size+1,0,none⟩) (by simp) _).setCell (p:=⟨w.heap.size+1,1,none⟩) (by simp) _⟩
end Go.Proofs.Y.PA
