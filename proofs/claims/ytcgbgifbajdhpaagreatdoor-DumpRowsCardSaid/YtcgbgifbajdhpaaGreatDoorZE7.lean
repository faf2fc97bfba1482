/- Lemmas and contracts that the law DumpRows leans on (packed by a program of this session out of its texts and the print's words). -/
import Derived.Test.YtcgbgifbajdhpaaGreatDoorZE6
import Derived.Test.YtcgbgifbajdhpaaGreatDoorZE3
import Derived.Test.YtcgbgifbajdhpaaGreatDoorZE4
import Derived.Deep.RegionHeld3
import Derived.WalkMore
import Derived.RangeFuncFrom
import Derived.Deep.Slices
import Derived.Deep.Fields
import Derived.ChangeSame
import Derived.OpenShut
import Derived.RowKit
import Derived.BigRegion
set_option linter.unusedVariables false
set_option linter.unusedSimpArgs false
set_option maxHeartbeats 8000000
set_option maxRecDepth 100000
namespace Go.Proofs.YtcgbgifbajdhpaaGreatDoor.PA
open Go.RowKit Go.Proofs.YtcgbgifbajdhpaaGreatDoor.G Go.Proofs.YtcgbgifbajdhpaaGreatDoorW.au Go.Proofs.YtcgbgifbajdhpaaGreatDoorW.aI Go.Proofs.YtcgbgifbajdhpaaGreatDoorW.aJ
noncomputable def qO (L:List Bool):List Int:=open Classical in if h:∃ b,kG b L.length∧Bs b L.length=L then h.choose else []
theorem wR {b:List Int} {L:List Bool} (h1:kG b L.length) (h2:Bs b L.length=L):qO L=b:=by
 have h:∃ b,kG b L.length∧Bs b L.length=L:=⟨b,h1,h2⟩
 unfold qO
 rw[dif_pos h]
 exact kG.ext h.choose_spec.1 h1 (h.choose_spec.2.trans h2.symm)
noncomputable def gH (l:List bN):List Int:=dR l.length 2++qO (fT l l.length)
noncomputable def nE (l:List bN):List Int × Int:=if iT l=true then (gH l,0) else ([],1)
theorem wC {l:List Int} {n n':Nat} (hn:n≤n') {v q:Int}:∀ (m p:Nat),jv l n m p=(v,q,0)→jv l n' m p=(v,q,0)
 | 0,p,h=>by
   simp only[jv,pK] at h ⊢
   split at h
   ·simp at h
   ·rw[if_neg (by omega)]
    exact h
 | m+1,p,h=>by
   simp only[jv] at h ⊢
   split at h
   ·simp at h
   ·rename_i h1
    rw[if_neg (by omega)]
    split at h
    ·rename_i h2
     rw[if_pos h2]
     exact wC hn m (p+1) h
    ·rename_i h2
     rw[if_neg h2]
     simp only[pK] at h ⊢
     split at h
     ·simp at h
     ·rw[if_neg (by omega)]
      exact h
theorem Li {l:List Int} {N m:Nat} {B Z:List Bool} (h:Bs l N=B++Z) (hm:B.length=m):Bs l m=B:=by
 have hN:m≤N:=by have:=congrArg List.length h;simp at this;omega
 have:=Lb l N 0 m (by omega)
 rw[Nat.zero_add,List.drop_zero,h,← hm,List.take_left'] at this
 ·rw[← hm];exact this
 ·rfl
theorem E5 {l:List Int} {N:Nat} {B Z:List Bool} {v:Int} (hX:kG l N) (hv:(Lit.int .i64 v).wf=true) (h:Bs l N=B++intBits v++Z):q8 l (N:Int) (B.length:Int)=(v,((B.length+(intBits v).length:Nat):Int),0):=by
 have hN:B.length+(intBits v).length≤N:=by have:=congrArg List.length h;simp at this;omega
 have h1:=Li h (m:=B.length+(intBits v).length) (by simp)
 have h2:=wC hN 4 B.length (GX v hv h1)
 unfold q8
 rw[if_neg (by intro q;rcases q with q | q | q;exact q ⟨by omega,by simpa using hX⟩;all_goals omega),Int.toNat_natCast,Int.toNat_natCast]
 exact h2
theorem E9 {l:List Int} {N c:Nat} {B L Z:List Bool} (hX:kG l N) (hL:L.length=c) (hc:c≤64) (h:Bs l N=B++L++Z):nV l (N:Int) (B.length:Int) (c:Int)=(((num L:Nat):Int),0):=by
 have hN:B.length+L.length≤N:=by have:=congrArg List.length h;simp at this;omega
 have h1:=xH h rfl hL
 unfold nV
 rw[if_neg (by intro q;rcases q with q | q | q | q | q;exact q ⟨by omega,by simpa using hX⟩;all_goals omega),if_neg (by omega),Int.toNat_natCast,Int.toNat_natCast,h1]
theorem yC:∀ x:Nat,x<2 ^ 64→x<2 ^ Lib.bitLen x:=by
 intro x
 induction x using Nat.strongRecOn with
 | _ x ih=>
   intro hx
   by_cases h0:x=0
   ·subst h0
    exact Nat.two_pow_pos _
   ·rw[Lib.bitLen_half x h0 hx,Nat.add_comm,Nat.pow_succ]
    have:=ih (x / 2) (by omega) (by omega)
    omega
theorem qo {a:Nat} (h:a<9000000000000000000):wrap64 (a:Int)=(a:Int):=jZ (by omega) (by omega)
noncomputable def xO (l:List Int) (N:Int) (s:Int × Bool):Int × Int × Bool:=
 if s.2=true then (0,s.1,true) else
 if (ji l N s 1).1=0 then (0,(ji l N s 1).2) else
 if ((ji l N (ji l N (ji l N s 1).2 6).2 6).2.2||decide (64<wrap64 (wrap64 (ji l N (ji l N s 1).2 6).1+wrap64 (wrap64 (ji l N (ji l N (ji l N s 1).2 6).2 6).1+1))))=true then (0,(ji l N (ji l N (ji l N s 1).2 6).2 6).2.1,true) else
 (shl .u64 (ji l N (ji l N (ji l N (ji l N s 1).2 6).2 6).2 (wrap64 (wrap64 (ji l N (ji l N (ji l N s 1).2 6).2 6).1+1))).1 (wrap64 (wrap64 (64-wrap64 (ji l N (ji l N s 1).2 6).1)-wrap64 (wrap64 (ji l N (ji l N (ji l N s 1).2 6).2 6).1+1))),
  (ji l N (ji l N (ji l N (ji l N s 1).2 6).2 6).2 (wrap64 (wrap64 (ji l N (ji l N (ji l N s 1).2 6).2 6).1+1))).2)
theorem kT {l:List Int} {N c:Nat} {B L Z:List Bool} (hX:kG l N) (hL:L.length=c) (hc:c≤64) (hb:B.length≤100000000) (h:Bs l N=B++L++Z):ji l (N:Int) ((B.length:Int),false) (c:Int)=(((num L:Nat):Int),((B.length+c:Nat):Int),false):=by
 unfold ji
 rw[E9 hX hL hc h]
 rw[show ((B.length:Int)+(c:Int))=((B.length+c:Nat):Int) by omega,qo (by omega)]
 rfl
theorem K8 {l:List Int} {N x:Nat} {B Z:List Bool} (hX:kG l N) (hx:x<18446744073709551616) (hb:B.length≤10000000) (h:Bs l N=B++dU x++Z):xO l (N:Int) ((B.length:Int),false)=((x:Int),((B.length+(dU x).length:Nat):Int),false):=by
 by_cases h0:x=0
 ·have e:dU x=low 0 1:=by rw[dU,if_pos h0]
  rw[e] at h ⊢
  have h1:=kT hX (dQ 0 1) (by decide) (by omega) h
  rw[oH] at h1
  unfold xO
  rw[if_neg (by simp),show ((1:Nat):Int)=1 from rfl] at *
  rw[h1]
  simp[h0]
 ·obtain⟨z1,z2⟩:=zs hx h0
  obtain⟨H,hH⟩:∃ H,Mc x=H:=⟨_,rfl⟩
  obtain⟨S,hS⟩:∃ S,tV x=S:=⟨_,rfl⟩
  obtain⟨D,hD⟩:∃ D,Gi x=D:=⟨_,rfl⟩
  have hs:H+S+D=64:=by rw[← hH,← hS,← hD];unfold Mc tV Gi;unfold tV at z1;omega
  have hd:1≤D:=by rw[← hD];unfold Gi;unfold tV at z1;omega
  have e:dU x=low 1 1++low (H*64+(D-1)) 12++low (x / 2 ^ S) D:=by rw[dU,if_neg h0,hH,hS,hD]
  have e12:low (H*64+(D-1)) 12=low H 6++low (D-1) 6:=by
   rw[oC _ 12 6 (by decide),show (H*64+(D-1)) / 2 ^ (12-6) % 2 ^ 6=H by rw[show 2 ^ (12-6)=64 from rfl,Nat.mul_comm H 64,Nat.mul_add_div (by decide),Nat.div_eq_of_lt (show D-1<64 by omega),Nat.add_zero,Nat.mod_eq_of_lt (show H<64 by omega)],← uV (H*64+(D-1)) 6,← uV (D-1) 6]
   congr 2
   omega
  have hxS:x / 2 ^ S*2 ^ S=x:=by
   have hc:Lib.ctz 64 x=Lib.ctzFrom 64 x:=by unfold Lib.ctz;rw[if_neg h0]
   obtain⟨m,hm,_⟩:=Lib.ctzFrom_spec 64 x (by omega) hx
   rw[← hc] at hm
   rw[show Lib.ctz 64 x=S from hS] at hm
   exact Nat.div_mul_cancel ⟨2*m+1,hm⟩
  have hxD:x / 2 ^ S<2 ^ D:=by
   have:=yC x hx
   rw[Nat.div_lt_iff_lt_mul (Nat.two_pow_pos _),← Nat.pow_add]
   rwa [show D+S=Lib.bitLen x by rw[← hS,← hD];unfold Gi;unfold tV at *;omega]
  rw[e,e12] at h ⊢
  clear e e12 z1 z2 hH hS hD
  have a1:=kT (c:=1) (B:=B) (L:=low 1 1) (Z:=low H 6++(low (D-1) 6++(low (x / 2 ^ S) D++Z))) hX (dQ _ _) (by decide) (by omega) (by rw[h];simp only[List.append_assoc])
  have a2:=kT (c:=6) (B:=B++low 1 1) (L:=low H 6) (Z:=low (D-1) 6++(low (x / 2 ^ S) D++Z)) hX (dQ _ _) (by decide) (by simp;omega) (by rw[h];simp only[List.append_assoc])
  have a3:=kT (c:=6) (B:=B++low 1 1++low H 6) (L:=low (D-1) 6) (Z:=low (x / 2 ^ S) D++Z) hX (dQ _ _) (by decide) (by simp;omega) (by rw[h];simp only[List.append_assoc])
  have a4:=kT (c:=D) (B:=B++low 1 1++low H 6++low (D-1) 6) (L:=low (x / 2 ^ S) D) (Z:=Z) hX (dQ _ _) (by omega) (by simp;omega) (by rw[h];simp only[List.append_assoc])
  rw[oH] at a1 a2 a3 a4
  simp only[List.length_append,dQ] at a1 a2 a3 a4
  rw[show 1 % 2 ^ 1=1 from rfl] at a1
  rw[show H % 2 ^ 6=H by omega] at a2
  rw[show (D-1) % 2 ^ 6=D-1 by omega] at a3
  rw[Nat.mod_eq_of_lt hxD] at a4
  rw[show ((1:Nat):Int)=1 from rfl] at a1
  rw[show ((6:Nat):Int)=6 from rfl] at a2 a3
  unfold xO
  simp only[a1,a2,a3]
  rw[qo (show H<9000000000000000000 by omega),qo (show D-1<9000000000000000000 by omega),show (((D-1:Nat):Int)+1)=((D:Nat):Int) by omega,qo (show D<9000000000000000000 by omega),show ((H:Int)+(D:Int))=((H+D:Nat):Int) by omega,qo (show H+D<9000000000000000000 by omega),a4]
  rw[show (64-(H:Int))=((64-H:Nat):Int) by omega,qo (show 64-H<9000000000000000000 by omega),show (((64-H:Nat):Int)-(D:Int))=((S:Nat):Int) by omega,qo (show S<9000000000000000000 by omega)]
  rw[if_neg (by simp),if_neg (by simp),if_neg (by simp;omega)]
  have e5:shl .u64 ((x / 2 ^ S:Nat):Int) (S:Int)=(x:Int):=by
   unfold shl
   rw[Int.toNat_natCast,Nat.min_eq_left (by simp[IntKind.bits];omega)]
   have:((x / 2 ^ S:Nat):Int)*2 ^ S=(x:Int):=by rw[show (2:Int) ^ S=((2 ^ S:Nat):Int) by simp,← Int.natCast_mul,hxS]
   rw[this]
   exact uY hx
  rw[e5]
  simp only[List.length_append,dQ,Prod.mk.injEq,true_and,and_true]
  omega
theorem dS.at_ (B g:Nat) (L:List Bool) (V C:Int) (v c:Nat) (w0 w:World) (hO:OU B w g L) (hB:Below B w0 w) (hgB:B≤g) (hV:V=(v:Int)) (hC:C=(c:Int)) (hv:v<18446744073709551616) (hc:c≤64) (hL:L.length≤7000000) :
 Calls Tryz.prog 81 #[.pointer (some ⟨g,0,none⟩),.int .u64 V,.int .i64 C] w fun e w'=>e = .returned (.tuple #[])∧OU B w' g (L++low v c)∧Below B w0 w'∧lY g w w':=by
 subst hV hC
 exact dS.calls B g L v c w0 w hO hB hgB hv hc hL
theorem GZ:intBits 0=low 0 1:=by decide
theorem G5 {v:Int} {u:Nat} (h0:v≠0) (h1 : -64≤v) (h2:v≤63) (hu:IntKind.u64.wrap v=(u:Int)):intBits v=low 2 2++low u 7:=by
 have e:dz v=1:=by unfold dz;rw[if_neg h0,if_pos ⟨h1,by omega⟩]
 unfold intBits
 rw[e,hu]
 rfl
theorem G6 {v:Int} {u:Nat} (h1:¬ (-64≤v∧v≤63)) (h2 : -2048≤v) (h3:v≤2047) (hu:IntKind.u64.wrap v=(u:Int)):intBits v=low 6 3++low u 12:=by
 have e:dz v=2:=by unfold dz;rw[if_neg (by omega),if_neg (by omega),if_pos ⟨h2,by omega⟩]
 unfold intBits
 rw[e,hu]
 rfl
theorem G7 {v:Int} {u:Nat} (h1:¬ (-2048≤v∧v≤2047)) (h2 : -2147483648≤v) (h3:v≤2147483647) (hu:IntKind.u64.wrap v=(u:Int)):intBits v=low 14 4++low u 32:=by
 have e:dz v=3:=by unfold dz;rw[if_neg (by omega),if_neg (by omega),if_neg (by omega),if_pos ⟨h2,by omega⟩]
 unfold intBits
 rw[e,hu]
 rfl
theorem G8 {v:Int} {u:Nat} (h1:¬ (-2147483648≤v∧v≤2147483647)) (hu:IntKind.u64.wrap v=(u:Int)):intBits v=low 15 4++low u 64:=by
 have e:dz v=4:=by unfold dz;rw[if_neg (by omega),if_neg (by omega),if_neg (by omega),if_neg (by omega)]
 unfold intBits
 rw[e,hu]
 rfl
theorem EA.calls (B g:Nat) (L:List Bool) (v:Int) (w0 w:World) (hO:OU B w g L) (hB:Below B w0 w) (hgB:B≤g) (hL:L.length≤6000000) :
 Calls Tryz.prog 82 #[.pointer (some ⟨g,0,none⟩),.int .i64 v] w fun e w'=>e = .returned (.tuple #[])∧OU B w' g (L++intBits v)∧Below B w0 w'∧lY g w w':=by
 have HO:=ah.mk hO
 have HB:=ah.mk hB
 have HGB:=ah.mk hgB
 have HL:=ah.mk hL
 obtain⟨u,hu,hu64⟩:=qm v
 have HU:=ah.mk hu
 clear hO hB hgB hL
 by_cases h0:v=0
 ·have d0:(v==0)=true:=beq_iff_eq.2 h0
  have HE:ah (intBits v=low 0 1):=⟨by rw[h0];exact GZ⟩
  clear h0 hu
  go_enter Tryz.func82,Tryz.ntmps82
  go_wp2_with (go_at_call 81;(with_reducible refine (dS.at_ B g L 0 1 0 1 w0 _ HO.o HB.o HGB.o rfl rfl (by decide) (by decide) (by have:=HL.o;omega)).mono ?_);rintro e w1 ⟨rfl,ho,hb,hk⟩;have HO1:=ah.mk ho;have HB1:=ah.mk hb;have HK1:=ah.mk hk;clear ho hb hk)
  refine bodyPost_end (results_none rfl _ _ _) rfl ?_
  exact⟨rfl,by rw[HE.o];exact HO1.o,HB1.o,HK1.o⟩
 have d0:(v==0)=false:=beq_eq_false_iff_ne.2 h0
 by_cases h1 : -64≤v∧v≤63
 ·have d1:decide (-64≤v)=true:=decide_eq_true h1.1
  have d2:decide (v≤63)=true:=decide_eq_true h1.2
  have HE:=ah.mk (G5 h0 h1.1 h1.2 hu)
  clear h0 hu h1
  go_enter Tryz.func82,Tryz.ntmps82
  go_wp2_with (first
   | (go_at_call 81;(with_reducible refine (dS.at_ B g L 2 2 2 2 w0 _ HO.o HB.o HGB.o rfl rfl (by decide) (by decide) (by have:=HL.o;omega)).mono ?_);rintro e w1 ⟨rfl,ho,hb,hk⟩;have HO1:=ah.mk ho;have HB1:=ah.mk hb;have HK1:=ah.mk hk;clear ho hb hk)
   | (go_at_call 81;(with_reducible refine (dS.at_ B g (L++low 2 2) _ 7 u 7 w0 _ HO1.o HB1.o HGB.o HU.o rfl hu64 (by decide) (by have:=HL.o;simp;omega)).mono ?_);rintro e w2 ⟨rfl,ho,hb,hk⟩;have HO2:=ah.mk ho;have HB2:=ah.mk hb;have HK2:=ah.mk (HK1.o.trans hk);clear ho hb hk))
  refine bodyPost_end (results_none rfl _ _ _) rfl ?_
  exact⟨rfl,by rw[HE.o,← List.append_assoc];exact HO2.o,HB2.o,HK2.o⟩
 clear d0
 have d0:(v==0)=false:=beq_eq_false_iff_ne.2 h0
 by_cases h2 : -2048≤v∧v≤2047
 ·have e2:decide (-2048≤v)=true:=decide_eq_true h2.1
  have e3:decide (v≤2047)=true:=decide_eq_true h2.2
  have HE:=ah.mk (G6 h1 h2.1 h2.2 hu)
  clear h0 hu h2
  by_cases hneg:v<0
  ·have f64a:decide (-64≤v)=false:=decide_eq_false (by omega)
   clear h1
   clear hneg
   go_enter Tryz.func82,Tryz.ntmps82
   go_wp2_with (first
    | (go_at_call 81;(with_reducible refine (dS.at_ B g L 6 3 6 3 w0 _ HO.o HB.o HGB.o rfl rfl (by decide) (by decide) (by have:=HL.o;omega)).mono ?_);rintro e w1 ⟨rfl,ho,hb,hk⟩;have HO1:=ah.mk ho;have HB1:=ah.mk hb;have HK1:=ah.mk hk;clear ho hb hk)
    | (go_at_call 81;(with_reducible refine (dS.at_ B g (L++low 6 3) _ 12 u 12 w0 _ HO1.o HB1.o HGB.o HU.o rfl hu64 (by decide) (by have:=HL.o;simp;omega)).mono ?_);rintro e w2 ⟨rfl,ho,hb,hk⟩;have HO2:=ah.mk ho;have HB2:=ah.mk hb;have HK2:=ah.mk (HK1.o.trans hk);clear ho hb hk))
   refine bodyPost_end (results_none rfl _ _ _) rfl ?_
   exact⟨rfl,by rw[HE.o,← List.append_assoc];exact HO2.o,HB2.o,HK2.o⟩
  ·have f64a:decide (-64≤v)=true:=decide_eq_true (by omega)
   have f64b:decide (v≤63)=false:=decide_eq_false (by omega)
   clear h1
   clear hneg
   go_enter Tryz.func82,Tryz.ntmps82
   go_wp2_with (first
    | (go_at_call 81;(with_reducible refine (dS.at_ B g L 6 3 6 3 w0 _ HO.o HB.o HGB.o rfl rfl (by decide) (by decide) (by have:=HL.o;omega)).mono ?_);rintro e w1 ⟨rfl,ho,hb,hk⟩;have HO1:=ah.mk ho;have HB1:=ah.mk hb;have HK1:=ah.mk hk;clear ho hb hk)
    | (go_at_call 81;(with_reducible refine (dS.at_ B g (L++low 6 3) _ 12 u 12 w0 _ HO1.o HB1.o HGB.o HU.o rfl hu64 (by decide) (by have:=HL.o;simp;omega)).mono ?_);rintro e w2 ⟨rfl,ho,hb,hk⟩;have HO2:=ah.mk ho;have HB2:=ah.mk hb;have HK2:=ah.mk (HK1.o.trans hk);clear ho hb hk))
   refine bodyPost_end (results_none rfl _ _ _) rfl ?_
   exact⟨rfl,by rw[HE.o,← List.append_assoc];exact HO2.o,HB2.o,HK2.o⟩
 clear h1
 have h1:=h2
 clear h2
 by_cases h2 : -2147483648≤v∧v≤2147483647
 ·have e2:decide (-2147483648≤v)=true:=decide_eq_true h2.1
  have e3:decide (v≤2147483647)=true:=decide_eq_true h2.2
  have HE:=ah.mk (G7 h1 h2.1 h2.2 hu)
  clear h0 hu h2
  by_cases hneg:v<0
  ·have f64a:decide (-64≤v)=false:=decide_eq_false (by omega)
   have f2048a:decide (-2048≤v)=false:=decide_eq_false (by omega)
   clear h1
   clear hneg
   go_enter Tryz.func82,Tryz.ntmps82
   go_wp2_with (first
    | (go_at_call 81;(with_reducible refine (dS.at_ B g L 14 4 14 4 w0 _ HO.o HB.o HGB.o rfl rfl (by decide) (by decide) (by have:=HL.o;omega)).mono ?_);rintro e w1 ⟨rfl,ho,hb,hk⟩;have HO1:=ah.mk ho;have HB1:=ah.mk hb;have HK1:=ah.mk hk;clear ho hb hk)
    | (go_at_call 81;(with_reducible refine (dS.at_ B g (L++low 14 4) _ 32 u 32 w0 _ HO1.o HB1.o HGB.o HU.o rfl hu64 (by decide) (by have:=HL.o;simp;omega)).mono ?_);rintro e w2 ⟨rfl,ho,hb,hk⟩;have HO2:=ah.mk ho;have HB2:=ah.mk hb;have HK2:=ah.mk (HK1.o.trans hk);clear ho hb hk))
   refine bodyPost_end (results_none rfl _ _ _) rfl ?_
   exact⟨rfl,by rw[HE.o,← List.append_assoc];exact HO2.o,HB2.o,HK2.o⟩
  ·have f64a:decide (-64≤v)=true:=decide_eq_true (by omega)
   have f64b:decide (v≤63)=false:=decide_eq_false (by omega)
   have f2048a:decide (-2048≤v)=true:=decide_eq_true (by omega)
   have f2048b:decide (v≤2047)=false:=decide_eq_false (by omega)
   clear h1
   clear hneg
   go_enter Tryz.func82,Tryz.ntmps82
   go_wp2_with (first
    | (go_at_call 81;(with_reducible refine (dS.at_ B g L 14 4 14 4 w0 _ HO.o HB.o HGB.o rfl rfl (by decide) (by decide) (by have:=HL.o;omega)).mono ?_);rintro e w1 ⟨rfl,ho,hb,hk⟩;have HO1:=ah.mk ho;have HB1:=ah.mk hb;have HK1:=ah.mk hk;clear ho hb hk)
    | (go_at_call 81;(with_reducible refine (dS.at_ B g (L++low 14 4) _ 32 u 32 w0 _ HO1.o HB1.o HGB.o HU.o rfl hu64 (by decide) (by have:=HL.o;simp;omega)).mono ?_);rintro e w2 ⟨rfl,ho,hb,hk⟩;have HO2:=ah.mk ho;have HB2:=ah.mk hb;have HK2:=ah.mk (HK1.o.trans hk);clear ho hb hk))
   refine bodyPost_end (results_none rfl _ _ _) rfl ?_
   exact⟨rfl,by rw[HE.o,← List.append_assoc];exact HO2.o,HB2.o,HK2.o⟩
 ·clear h1
  have h1:=h2
  have HE:=ah.mk (G8 h1 hu)
  clear h0 hu h2
  by_cases hneg:v<0
  ·have f64a:decide (-64≤v)=false:=decide_eq_false (by omega)
   have f2048a:decide (-2048≤v)=false:=decide_eq_false (by omega)
   have f2147483648a:decide (-2147483648≤v)=false:=decide_eq_false (by omega)
   clear h1
   clear hneg
   go_enter Tryz.func82,Tryz.ntmps82
   go_wp2_with (first
    | (go_at_call 81;(with_reducible refine (dS.at_ B g L 15 4 15 4 w0 _ HO.o HB.o HGB.o rfl rfl (by decide) (by decide) (by have:=HL.o;omega)).mono ?_);rintro e w1 ⟨rfl,ho,hb,hk⟩;have HO1:=ah.mk ho;have HB1:=ah.mk hb;have HK1:=ah.mk hk;clear ho hb hk)
    | (go_at_call 81;(with_reducible refine (dS.at_ B g (L++low 15 4) _ 64 u 64 w0 _ HO1.o HB1.o HGB.o HU.o rfl hu64 (by decide) (by have:=HL.o;simp;omega)).mono ?_);rintro e w2 ⟨rfl,ho,hb,hk⟩;have HO2:=ah.mk ho;have HB2:=ah.mk hb;have HK2:=ah.mk (HK1.o.trans hk);clear ho hb hk))
   refine bodyPost_end (results_none rfl _ _ _) rfl ?_
   exact⟨rfl,by rw[HE.o,← List.append_assoc];exact HO2.o,HB2.o,HK2.o⟩
  ·have f64a:decide (-64≤v)=true:=decide_eq_true (by omega)
   have f64b:decide (v≤63)=false:=decide_eq_false (by omega)
   have f2048a:decide (-2048≤v)=true:=decide_eq_true (by omega)
   have f2048b:decide (v≤2047)=false:=decide_eq_false (by omega)
   have f2147483648a:decide (-2147483648≤v)=true:=decide_eq_true (by omega)
   have f2147483648b:decide (v≤2147483647)=false:=decide_eq_false (by omega)
   clear h1
   clear hneg
   go_enter Tryz.func82,Tryz.ntmps82
   go_wp2_with (first
    | (go_at_call 81;(with_reducible refine (dS.at_ B g L 15 4 15 4 w0 _ HO.o HB.o HGB.o rfl rfl (by decide) (by decide) (by have:=HL.o;omega)).mono ?_);rintro e w1 ⟨rfl,ho,hb,hk⟩;have HO1:=ah.mk ho;have HB1:=ah.mk hb;have HK1:=ah.mk hk;clear ho hb hk)
    | (go_at_call 81;(with_reducible refine (dS.at_ B g (L++low 15 4) _ 64 u 64 w0 _ HO1.o HB1.o HGB.o HU.o rfl hu64 (by decide) (by have:=HL.o;simp;omega)).mono ?_);rintro e w2 ⟨rfl,ho,hb,hk⟩;have HO2:=ah.mk ho;have HB2:=ah.mk hb;have HK2:=ah.mk (HK1.o.trans hk);clear ho hb hk))
   refine bodyPost_end (results_none rfl _ _ _) rfl ?_
   exact⟨rfl,by rw[HE.o,← List.append_assoc];exact HO2.o,HB2.o,HK2.o⟩
theorem FV (v i:Nat) (hv:v<18446744073709551616) (hi:i≤64):(Go.bits .and .u64 ((v:Int) / 2 ^ i) 1==0) = !v.testBit i:=by
 have:=and_one v i hv hi
 have h2:v / 2 ^ i<18446744073709551616:=Nat.lt_of_le_of_lt (Nat.div_le_self _ _) hv
 have e:(v:Int) / 2 ^ i=((v / 2 ^ i:Nat):Int):=by simp
 rw[e] at this ⊢
 rw[show (1:Int)=((1:Nat):Int) from rfl,u64_and_nat _ 1 h2 (by omega),Nat.and_one_is_mod] at this ⊢
 rw[← this]
 rcases Nat.mod_two_eq_zero_or_one (v / 2 ^ i) with h | h<;>rw[h]<;>rfl
theorem Md {x:Nat} (hx:x<18446744073709551616) (h0:x≠0):1≤Lib.bitLen x∧Lib.bitLen x≤64∧x.testBit (Lib.bitLen x-1)=true∧∀ j,Lib.bitLen x≤j→x.testBit j=false:=by
 have h1:=Lib.bitLen_le x 64 (by decide) hx
 have h2:=yC x hx
 have h3:1≤Lib.bitLen x:=by
  rcases Nat.eq_zero_or_pos (Lib.bitLen x) with h | h
  ·rw[h] at h2
   omega
  ·exact h
 refine⟨h3,h1,?_,fun j hj=>Nat.testBit_lt_two_pow (Nat.lt_of_lt_of_le h2 (Nat.pow_le_pow_right (by decide) hj))⟩
 refine Nat.testBit_of_two_pow_le_and_two_pow_add_one_gt ?_ (by rwa [show Lib.bitLen x-1+1=Lib.bitLen x by omega])
 rcases Nat.lt_or_ge x (2 ^ (Lib.bitLen x-1)) with h | h
 ·have:=Lib.bitLen_le x (Lib.bitLen x-1) (by omega) h
  omega
 ·exact h
theorem Mk {x:Nat} (hx:x<18446744073709551616) (h0:x≠0):x.testBit (tV x)=true∧∀ j,j<tV x→x.testBit j=false:=by
 have hc:tV x=Lib.ctzFrom 64 x:=by unfold tV Lib.ctz;rw[if_neg h0]
 obtain⟨m,hm,_⟩:=Lib.ctzFrom_spec 64 x (by omega) hx
 rw[← hc] at hm
 constructor
 ·rw[show x.testBit (tV x)=(2 ^ tV x*(2*m+1)).testBit (tV x) from congrArg (fun z=>z.testBit (tV x)) hm,Nat.testBit_two_pow_mul]
  simp
 ·intro j hj
  rw[show x.testBit j=(2 ^ tV x*(2*m+1)).testBit j from congrArg (fun z=>z.testBit j) hm,Nat.testBit_two_pow_mul]
  simp
  omega
theorem PG {H D:Nat} (hH:H<64) (hD:D<64):low (H*64+D) 12=low H 6++low D 6:=by
 rw[oC _ 12 6 (by decide),show (H*64+D) / 2 ^ (12-6) % 2 ^ 6=H by rw[show 2 ^ (12-6)=64 from rfl,Nat.mul_comm H 64,Nat.mul_add_div (by decide),Nat.div_eq_of_lt hD,Nat.add_zero,Nat.mod_eq_of_lt hH],← uV (H*64+D) 6,← uV D 6]
 congr 2
 omega
theorem Qr {n:Nat} (h:n<18446744073709551616):IntKind.u64.wrap (n:Int)=(n:Int):=uY h
theorem qj.calls (B g:Nat) (L:List Bool) (x:Nat) (w0 w:World) (hO:OU B w g L) (hB:Below B w0 w) (hgB:B≤g) (hx:x<18446744073709551616) (hL:L.length≤6000000) :
 Calls Tryz.prog 83 #[.pointer (some ⟨g,0,none⟩),.int .u64 (x:Int)] w fun e w'=>e = .returned (.tuple #[])∧OU B w' g (L++dU x)∧Below B w0 w'∧lY g w w':=by
 have HO:=ah.mk hO
 have HB:=ah.mk hB
 have HGB:=ah.mk hgB
 have HL:=ah.mk hL
 clear hO hB hgB hL
 by_cases h0:x=0
 ·have hb:((x:Int)==0)=true:=beq_iff_eq.2 (by omega)
  have HX:ah (dU x=low 0 1):=⟨by rw[dU,if_pos h0]⟩
  clear h0
  go_enter Tryz.func83,Tryz.ntmps83
  go_wp2_with (go_at_call 81;(with_reducible refine (dS.at_ B g L 0 1 0 1 w0 _ HO.o HB.o HGB.o rfl rfl (by decide) (by decide) (by have:=HL.o;omega)).mono ?_);rintro e w1 ⟨rfl,ho,hb,hk⟩;have HO1:=ah.mk ho;have HB1:=ah.mk hb;have HK1:=ah.mk hk;clear ho hb hk)
  refine bodyPost_ret (results_none rfl _ _ _) rfl ?_
  exact⟨rfl,by rw[HX.o];exact HO1.o,HB1.o,HK1.o⟩
 ·have hb:((x:Int)==0)=false:=beq_eq_false_iff_ne.2 (by omega)
  obtain⟨b1,b2,b3,b4⟩:=Md hx h0
  obtain⟨c3,c4⟩:=Mk hx h0
  obtain⟨z1,z2⟩:=zs hx h0
  obtain⟨H,hH⟩:∃ H,Mc x=H:=⟨_,rfl⟩
  obtain⟨S,hS⟩:∃ S,tV x=S:=⟨_,rfl⟩
  obtain⟨D,hD⟩:∃ D,Gi x=D:=⟨_,rfl⟩
  have hs:H+S+D=64:=by rw[← hH,← hS,← hD];unfold Mc tV Gi;unfold tV at z1;omega
  have hd:1≤D:=by rw[← hD];unfold Gi;unfold tV at z1;omega
  have HX:ah (dU x=low 1 1++(low H 6++low (D-1) 6)++low (x / 2 ^ S) D):=⟨by rw[dU,if_neg h0,hH,hS,hD,PG (by omega) (by omega)]⟩
  have HHI:ah (∀ h:Nat,h≤H→(x.testBit (63-h)=decide (h=H))):=⟨fun h hh=>by
   unfold Mc at hH
   by_cases e:h=H
   ·rw[decide_eq_true e,show 63-h=Lib.bitLen x-1 by omega,b3]
   ·rw[decide_eq_false e,b4 _ (by omega)]⟩
  have HLO:ah (∀ h:Nat,h≤S→(x.testBit h=decide (h=S))):=⟨fun h hh=>by
   by_cases e:h=S
   ·rw[decide_eq_true e,e,← hS,c3]
   ·rw[decide_eq_false e,c4 _ (by omega)]⟩
  have HXL:=ah.mk hx
  clear b1 b2 b3 b4 c3 c4 z1 z2 hH hS hD h0
  go_enter Tryz.func83,Tryz.ntmps83
  go_wp2
  go_loop [4] (fun v4=>∃ h:Nat,h≤H∧v4 = .int .i64 h) (fun v4=>64-(intOf v4).toNat)
  case atStart=>exact⟨0,Nat.zero_le _,rfl⟩
  case round=>
   obtain⟨h,hh,rfl⟩:=hrel
   have hd63:63-(h:Int)=((63-h:Nat):Int):=by omega
   have ht:=FV x (63-h) HXL.o (by omega)
   rw[HHI.o h hh] at ht
   by_cases hlt:h=H
   ·rw[decide_eq_true hlt] at ht
    subst hlt
    go_wp2
    clear ht hd63
    go_loop [5] (fun v5=>∃ q:Nat,q≤S∧v5 = .int .i64 q) (fun v5=>64-(intOf v5).toNat)
    case atStart=>exact⟨0,Nat.zero_le _,rfl⟩
    case round=>
     obtain⟨q,hq,rfl⟩:=hrel
     have ht2:=FV x q HXL.o (by omega)
     rw[HLO.o q hq] at ht2
     by_cases hl2:q=S
     ·rw[decide_eq_true hl2] at ht2
      subst hl2
      have hxs:(x:Int) / 2 ^ q=((x / 2 ^ q:Nat):Int):=by simp
      have hxq:x / 2 ^ q<18446744073709551616:=Nat.lt_of_le_of_lt (Nat.div_le_self _ _) HXL.o
      have CA:=ah.mk (fun W h1 h2=>dS.at_ B g L 1 1 1 1 w0 W h1 h2 HGB.o rfl rfl (by decide) (by decide) (by have:=HL.o;omega))
      have CB:=ah.mk (fun W h1 h2=>dS.at_ B g (L++low 1 1) (h:Int) 6 h 6 w0 W h1 h2 HGB.o rfl rfl (by omega) (by decide) (by have:=HL.o;simp;omega))
      have CC:=ah.mk (fun W h1 h2=>dS.at_ B g (L++low 1 1++low h 6) (64-(h:Int)-(q:Int)-1) 6 (D-1) 6 w0 W h1 h2 HGB.o (by omega) rfl (by omega) (by decide) (by have:=HL.o;simp;omega))
      have CD:=ah.mk (fun W h1 h2=>dS.at_ B g (L++low 1 1++low h 6++low (D-1) 6) ((x:Int) / 2 ^ q) (64-(h:Int)-(q:Int)) (x / 2 ^ q) D w0 W h1 h2 HGB.o hxs (by omega) hxq (by omega) (by have:=HL.o;simp;omega))
      clear hxs hxq
      go_wp2_with (first
       | (go_at_call 81;(with_reducible refine (CA.o _ HO.o HB.o).mono ?_);rintro e w1 ⟨rfl,ho,hb,hk⟩;have HO1:=ah.mk ho;have HB1:=ah.mk hb;have HK1:=ah.mk hk;clear ho hb hk)
       | (go_at_call 81;(with_reducible refine (CB.o _ HO1.o HB1.o).mono ?_);rintro e w2 ⟨rfl,ho,hb,hk⟩;have HO2:=ah.mk ho;have HB2:=ah.mk hb;have HK2:=ah.mk (HK1.o.trans hk);clear ho hb hk)
       | (go_at_call 81;(with_reducible refine (CC.o _ HO2.o HB2.o).mono ?_);rintro e w3 ⟨rfl,ho,hb,hk⟩;have HO3:=ah.mk ho;have HB3:=ah.mk hb;have HK3:=ah.mk (HK2.o.trans hk);clear ho hb hk)
       | (go_at_call 81;(with_reducible refine (CD.o _ HO3.o HB3.o).mono ?_);rintro e w4 ⟨rfl,ho,hb,hk⟩;have HO4:=ah.mk ho;have HB4:=ah.mk hb;have HK4:=ah.mk (HK3.o.trans hk);clear ho hb hk))
      refine bodyPost_end (results_none rfl _ _ _) rfl ?_
      refine⟨rfl,?_,HB4.o,HK4.o⟩
      have:=HO4.o
      rw[HX.o]
      simp only[List.append_assoc] at this ⊢
      exact this
     ·rw[decide_eq_false hl2] at ht2
      go_wp2
      go_round
      case rel=>exact⟨q+1,by omega,by go_num⟩
      case measure=>simp[intOf]<;>omega
   ·rw[decide_eq_false hlt] at ht
    go_wp2
    go_round
    case rel=>exact⟨h+1,by omega,by go_num⟩
    case measure=>simp[intOf]<;>omega
end Go.Proofs.YtcgbgifbajdhpaaGreatDoor.PA
namespace Go.Proofs.YtcgbgifbajdhpaaGreatDoor.G
open Go.RowKit Go.Proofs.YtcgbgifbajdhpaaGreatDoorW.au Go.Proofs.YtcgbgifbajdhpaaGreatDoorW.aI Go.Proofs.YtcgbgifbajdhpaaGreatDoorW.aJ
def iP.f (l:List Int):Option (Int × Bool):=if okB l=true then (if 1≤l.length∧l.length≤8 then some ((lX 0 l:Nat),true) else some (0,false)) else none
theorem Br (l:List Int) (k:Nat) (hk:k<l.length):lX 0 (l.take (k+1))=lX 0 (l.take k)*256+(rd l (k:Int)).toNat:=by
 have e:rd l (k:Int)=l[k]:=by simp[rd,List.getD_eq_getElem?_getD,List.getElem?_eq_getElem hk]
 rw[List.take_succ_eq_append_getElem hk,e]
 unfold lX
 rw[List.foldl_append]
 rfl
theorem nM {l:List Int} (hl:okB l=true) (k:Nat):lX 0 (l.take k)<256 ^ k:=by
 have h:=zC (l.take k) (fun x hx=>dK.1 hl x (List.mem_of_mem_take hx)) 0 0 (by simp)
 refine Nat.lt_of_lt_of_le h (Nat.pow_le_pow_right (by decide) ?_)
 rw[List.length_take]
 omega
theorem iP.calls (A0:Option Addr) (c0:Nat) (l0:List Int) (r1:Int) (r2:Bool) (w:World) (hr0:Kd.C (Kd.int .u8) w A0 l0.length l0) (hc0:l0.length≤c0) (h:iP.f l0=some (r1,r2)) :
 Calls Tryz.prog 63 #[.slice A0 l0.length c0] w fun e w'=>e = .returned (.tuple #[.int .u64 r1,.bool r2])∧aN w w':=by
 have HR:=ah.mk hr0
 clear hr0 hc0
 unfold iP.f at h
 split at h
 case isFalse=>cases h
 case isTrue hok=>
 by_cases hl:1≤l0.length∧l0.length≤8
 case neg=>
  rw[if_neg hl] at h
  simp only[Option.some.injEq,Prod.mk.injEq] at h
  obtain⟨rfl,rfl⟩:=h
  by_cases h0:l0.length=0
  ·have e0:((l0.length:Int)==0)=true:=beq_iff_eq.2 (by omega)
   clear hl h0
   go_enter Tryz.func63,Tryz.ntmps63
   go_wp2
   go_ret2
   exact⟨rfl,aN.refl _⟩
  ·have e0:((l0.length:Int)==0)=false:=beq_eq_false_iff_ne.2 (by omega)
   have e1:decide ((8:Int)<(l0.length:Int))=true:=decide_eq_true (by omega)
   clear hl h0
   go_enter Tryz.func63,Tryz.ntmps63
   go_wp2
   go_ret2
   exact⟨rfl,aN.refl _⟩
 case pos=>
  rw[if_pos hl] at h
  simp only[Option.some.injEq,Prod.mk.injEq] at h
  obtain⟨rfl,rfl⟩:=h
  have e0:((l0.length:Int)==0)=false:=beq_eq_false_iff_ne.2 (by omega)
  have e1:decide ((8:Int)<(l0.length:Int))=false:=decide_eq_false (by omega)
  go_enter Tryz.func63,Tryz.ntmps63
  go_wp2
  go_loop [4,17] (fun n i=>∃ k:Nat,k≤l0.length∧i = .int .i64 k∧n = .int .u64 (lX 0 (l0.take k):Nat)) (fun _ i=>l0.length-(intOf i).toNat)
  case atStart=>exact⟨0,Nat.zero_le _,rfl,rfl⟩
  case round=>
   obtain⟨k,hk,rfl,rfl⟩:=hrel
   by_cases hlt:k<l0.length
   ·obtain⟨ad,rfl,hc⟩:=Kd.kI HR.o (k:Int) (by omega) (by omega)
    rw[Int.toNat_natCast] at hc
    have hx:=dK.1 hok _ (wZ l0 k hlt)
    have HT:=ah.mk (Br l0 k hlt)
    have hV:=nM hok k
    have h7:lX 0 (l0.take k)<256 ^ 7:=Nat.lt_of_lt_of_le hV (Nat.pow_le_pow_right (by decide) (by omega))
    have HO:=ah.mk (QA _ _ h7 hx.1 hx.2)
    have HV:=ah.mk h7
    clear hV h7 hx
    go_wp2
    go_round
    case rel=>exact⟨k+1,by omega,by go_num,by rw[HT.o,← HO.o]⟩
    case measure=>simp[intOf];omega
   ·obtain rfl:k=l0.length:=by omega
    go_wp2
    go_ret2
    exact⟨rfl,aN.refl _⟩
end Go.Proofs.YtcgbgifbajdhpaaGreatDoor.G
namespace Go.Proofs.YtcgbgifbajdhpaaGreatDoor.PA
open Go.RowKit Go.Proofs.YtcgbgifbajdhpaaGreatDoor.G Go.Proofs.YtcgbgifbajdhpaaGreatDoorW.au Go.Proofs.YtcgbgifbajdhpaaGreatDoorW.aI Go.Proofs.YtcgbgifbajdhpaaGreatDoorW.aJ
theorem F4 (L:List Bool) (hL:L.length≤7000000):∀ n,n≤L.length→∃ b,kG b n∧Bs b n=L.take n
 | 0,_=>⟨[],Ag,rfl⟩
 | n+1,h=>by
   obtain⟨b,hb,hbs⟩:=F4 L hL n (by omega)
   obtain⟨b',_,h1,h2⟩:=Kw hb (by have:=hb.near;omega) (if L[n]=true then 1 else 0) 1 (by split<;>decide) (by decide)
   refine⟨b',h1,?_⟩
   rw[h2,hbs,List.take_succ_eq_append_getElem h]
   congr 1
   cases L[n]<;>rfl
theorem C8 (L:List Bool) (hL:L.length≤7000000):kG (qO L) L.length∧Bs (qO L) L.length=L:=by
 obtain⟨b,h1,h2⟩:=F4 L hL L.length (Nat.le_refl _)
 rw[List.take_length] at h2
 rw[wR h1 h2]
 exact⟨h1,h2⟩
theorem Iw (l:List Int) (N c:Int) (s:Int × Bool):0≤(ji l N s c).1∧(ji l N s c).1<18446744073709551616:=by
 unfold ji nV
 split
 ·exact⟨Int.le_refl _,by show (0:Int)<_;decide⟩
 ·rename_i h
  split
  ·exact⟨Int.le_refl _,by show (0:Int)<_;decide⟩
  ·have:=qL (win l s.1.toNat c.toNat) (by rw[win_length];omega)
   exact⟨Int.natCast_nonneg _,by show ((num _:Nat):Int)<_;omega⟩
theorem jF {l:List Int} {N:Nat} {c:Int} {s:Int × Bool} (hN:N≤100000000) (h:(ji l (N:Int) s c).2.2=false):s.2=false∧(ji l (N:Int) s c).2.1=s.1+c∧0≤s.1∧s.1+c≤N∧0≤c:=by
 obtain⟨p,bad⟩:=s
 unfold ji nV at *
 simp only[Bool.or_eq_false_iff] at h
 obtain⟨hb,h⟩:=h
 split at h
 ·simp at h
 ·rename_i h1
  split at h
  ·simp at h
  ·rename_i h2
   simp only at h1 h2 ⊢
   exact⟨hb,jZ (by omega) (by omega),by omega,by omega,by omega⟩
theorem tK {l:List Int} {n:Nat} {v q:Int}:∀ (m p:Nat),p≤n→jv l n m p=(v,q,0)→(p:Int)+(if m=0 then 0 else 1)≤q∧q≤(n:Int)
 | 0,p,hp,h=>by
   simp only[jv,pK] at h
   split at h
   ·simp at h
   ·split at h
    ·have hw:=(width_le 4).1
     simp only[Prod.mk.injEq] at h
     rw[if_pos rfl]
     omega
    ·simp at h
 | m+1,p,hp,h=>by
   rw[if_neg (by omega)]
   simp only[jv] at h
   split at h
   ·simp at h
   ·split at h
    ·have:=tK m (p+1) (by omega) h
     split at this<;>omega
    ·simp only[pK] at h
     split at h
     ·simp at h
     ·split at h
      ·have hw:=(width_le (3-(m:Int))).1
       simp only[Prod.mk.injEq] at h
       omega
      ·simp at h
theorem Iu {l:List Int} {N:Nat} {s:Int × Bool} (h:(IG l (N:Int) s).2.2=false):s.2=false∧s.1+1≤(IG l (N:Int) s).2.1∧0≤s.1∧(IG l (N:Int) s).2.1≤N:=by
 obtain⟨p,bad⟩:=s
 unfold IG q8 at *
 simp only[Bool.or_eq_false_iff] at h ⊢
 obtain⟨hb,h⟩:=h
 split at h
 ·simp at h
 ·rename_i h1
  rw[if_neg h1]
  have e:¬ p<0∧¬ (N:Int)<p:=⟨by omega,by omega⟩
  obtain⟨v,q,z,hq⟩:∃ v q z,jv l ((N:Int)).toNat 4 p.toNat=(v,q,z):=⟨_,_,_,rfl⟩
  rw[hq] at h ⊢
  have hz:z=0:=by simpa using h
  subst hz
  have:=tK 4 p.toNat (by simp;omega) hq
  rw[if_neg (by decide)] at this
  simp only[Int.toNat_natCast] at this
  refine⟨hb,?_,by omega,?_⟩
  ·show p+1≤q
   omega
  ·show q≤_
   omega
theorem Iz (l:List Int) (N:Int) (s:Int × Bool):0≤(xO l N s).1∧(xO l N s).1<18446744073709551616:=by
 unfold xO
 repeat' split
 ·exact⟨Int.le_refl _,by show (0:Int)<_;decide⟩
 ·exact⟨Int.le_refl _,by show (0:Int)<_;decide⟩
 ·exact⟨Int.le_refl _,by show (0:Int)<_;decide⟩
 ·unfold shl
  exact gY _
theorem Iy {l:List Int} {N:Nat} {s:Int × Bool} (hN:N≤100000000) (h:(xO l (N:Int) s).2.2=false):s.2=false∧s.1+1≤(xO l (N:Int) s).2.1∧(xO l (N:Int) s).2.1≤N:=by
 cases hs:s.2 with
 | true=>rw[xO,if_pos hs] at h;simp at h
 | false=>
   obtain⟨a,ha⟩:∃ a,ji l (N:Int) s 1=a:=⟨_,rfl⟩
   obtain⟨b,hb⟩:∃ b,ji l (N:Int) a.2 6=b:=⟨_,rfl⟩
   obtain⟨d,hd⟩:∃ d,ji l (N:Int) b.2 6=d:=⟨_,rfl⟩
   obtain⟨w,hw⟩:∃ w,wrap64 (wrap64 d.1+1)=w:=⟨_,rfl⟩
   obtain⟨t,ht⟩:∃ t,ji l (N:Int) d.2 w=t:=⟨_,rfl⟩
   unfold xO at h ⊢
   simp only[ha,hb,hd,hw,ht] at h ⊢
   rw[if_neg (by rw[hs];simp)] at h ⊢
   by_cases c1:a.1=0
   ·rw[if_pos c1] at h ⊢
    have hpl:=jF (l:=l) (N:=N) (c:=1) (s:=s) hN (by rw[ha];exact h)
    rw[ha] at hpl
    exact⟨trivial,by show s.1+1≤a.2.1;omega,by show a.2.1≤_;omega⟩
   ·rw[if_neg c1] at h ⊢
    by_cases c2:(d.2.2||decide (64<wrap64 (wrap64 b.1+w)))=true
    ·rw[if_pos c2] at h
     simp at h
    ·rw[if_neg c2] at h ⊢
     have p4:=jF (l:=l) (N:=N) (c:=w) (s:=d.2) hN (by rw[ht];exact h)
     have p3:=jF (l:=l) (N:=N) (c:=6) (s:=b.2) hN (by rw[hd];exact p4.1)
     have p2:=jF (l:=l) (N:=N) (c:=6) (s:=a.2) hN (by rw[hb];exact p3.1)
     have p1:=jF (l:=l) (N:=N) (c:=1) (s:=s) hN (by rw[ha];exact p2.1)
     rw[ht] at p4
     rw[hd] at p3
     rw[hb] at p2
     rw[ha] at p1
     exact⟨trivial,by show s.1+1≤t.2.1;omega,by show t.2.1≤_;omega⟩
noncomputable def BQ (xb:List Int) (N p:Int):Int × Int × Bool:=ji xb N (p,false) 64
noncomputable def xU (xb:List Int) (N p:Int):Int × Int × Bool:=ji xb N (BQ xb N p).2 64
noncomputable def oV (xb:List Int) (N p:Int):Int × Int × Bool:=IG xb N (p,false)
noncomputable def xV (xb:List Int) (N p:Int):Int × Int × Bool:=xO xb N (oV xb N p).2
noncomputable def fH (xb:List Int) (N:Int):Nat→Int × Bool × List bN × Int
 | 0=>(0,false,[],0)
 | 1=>((xU xb N 0).2.1,(xU xb N 0).2.2,if (xU xb N 0).2.2=true then [] else [⟨wrap64 (BQ xb N 0).1,(xU xb N 0).1⟩],0)
 | k+2=>if (fH xb N (k+1)).2.1=true then fH xb N (k+1) else
    ((xV xb N (fH xb N (k+1)).1).2.1,(xV xb N (fH xb N (k+1)).1).2.2,
      if (xV xb N (fH xb N (k+1)).1).2.2=true then (fH xb N (k+1)).2.2.1 else (fH xb N (k+1)).2.2.1++[⟨wrap64 ((aR (fH xb N (k+1)).2.2.1 (k:Int)).f0+wrap64 ((fH xb N (k+1)).2.2.2+(oV xb N (fH xb N (k+1)).1).1)),Go.bits .xor .u64 (aR (fH xb N (k+1)).2.2.1 (k:Int)).f1 (xV xb N (fH xb N (k+1)).1).1⟩],
      wrap64 ((fH xb N (k+1)).2.2.2+(oV xb N (fH xb N (k+1)).1).1))
noncomputable def nD (b:List Int):List bN × Int:=
 if b.length<2 then ([],5) else
 if (fH (b.drop 2) ((8*(b.length-2):Nat):Int) (lX 0 (b.take 2))).2.1=false∧nE (fH (b.drop 2) ((8*(b.length-2):Nat):Int) (lX 0 (b.take 2))).2.2.1=(b,0)
  then ((fH (b.drop 2) ((8*(b.length-2):Nat):Int) (lX 0 (b.take 2))).2.2.1,0) else ([],5)
theorem wrap64_in (x:Int) : -9223372036854775808≤wrap64 x∧wrap64 x≤9223372036854775807:=by
 unfold wrap64
 omega
theorem Lf {a b:Int} (ha:0≤a∧a<18446744073709551616) (hb:0≤b∧b<18446744073709551616):Go.bits .xor .u64 a b=((a.toNat ^^^ b.toNat:Nat):Int)∧a.toNat ^^^ b.toNat<18446744073709551616:=by
 refine⟨?_,AQ ha hb⟩
 obtain⟨x,hx⟩:=Int.eq_ofNat_of_zero_le ha.1
 obtain⟨y,hy⟩:=Int.eq_ofNat_of_zero_le hb.1
 rw[hx,hy,u64_xor_nat x y (by omega) (by omega)]
 simp
theorem Oo {l:List bN} (h:∀ x∈l,sD x) (i:Int):sD (aR l i):=by
 unfold aR
 rw[List.getD_eq_getElem?_getD]
 cases hq:l[i.toNat]? with
 | none=>exact⟨⟨by decide,by decide⟩,by decide,by decide⟩
 | some x=>exact h x (List.mem_of_getElem? hq)
theorem BZ (xb:List Int) (N:Nat) (hN:N≤100000000):∀ k,(∀ x∈(fH xb (N:Int) k).2.2.1,sD x)∧(fH xb (N:Int) k).2.2.1.length≤N ∧
 ((fH xb (N:Int) k).2.1=false→(fH xb (N:Int) k).2.2.1.length=k∧(k:Int)≤(fH xb (N:Int) k).1∧(fH xb (N:Int) k).1≤N)
 | 0=>⟨fun x hx=>absurd hx (by simp[fH]),by simp[fH],fun _=>⟨rfl,by simp[fH],by simp[fH]⟩⟩
 | 1=>by
   simp only[fH]
   cases hb:(xU xb (N:Int) 0).2.2 with
   | true=>exact⟨fun x hx=>absurd hx (by simp),by simp,fun h=>absurd h (by simp)⟩
   | false=>
     have p2:=jF (l:=xb) (N:=N) (c:=64) (s:=(BQ xb (N:Int) 0).2) hN hb
     have p1:=jF (l:=xb) (N:=N) (c:=64) (s:=(0,false)) hN p2.1
     have e2:ji xb (N:Int) (BQ xb (N:Int) 0).2 64=xU xb (N:Int) 0:=rfl
     have e1:ji xb (N:Int) (0,false) 64=BQ xb (N:Int) 0:=rfl
     rw[e2] at p2
     rw[e1] at p1
     refine⟨fun x hx=>?_,by simp;omega,fun _=>⟨by simp,by omega,by omega⟩⟩
     rw[if_neg (by simp),List.mem_singleton] at hx
     subst hx
     exact⟨wrap64_in _,Iw xb (N:Int) 64 (BQ xb (N:Int) 0).2⟩
 | k+2=>by
   have ih:=BZ xb N hN (k+1)
   simp only[fH]
   obtain⟨⟨p,bad,l,st⟩,hs⟩:∃ s,fH xb (N:Int) (k+1)=s:=⟨_,rfl⟩
   rw[hs] at ih ⊢
   cases bad with
   | true=>rw[if_pos rfl];exact⟨ih.1,ih.2.1,fun h=>absurd h (by simp)⟩
   | false=>
     rw[if_neg (by simp)]
     obtain⟨i1,i2,i3⟩:=ih
     obtain⟨i3,i4,i5⟩:=i3 rfl
     simp only at i1 i2 i3 i4 i5 ⊢
     cases hb:(xV xb (N:Int) p).2.2 with
     | true=>exact⟨by rw[if_pos rfl];exact i1,by rw[if_pos rfl];exact i2,fun h=>absurd h (by simp)⟩
     | false=>
       have p2:=Iy hN (s:=(oV xb (N:Int) p).2) hb
       have p1:=Iu (l:=xb) (N:=N) (s:=(p,false)) p2.1
       have e1:IG xb (N:Int) (p,false)=oV xb (N:Int) p:=rfl
       have e2:xO xb (N:Int) (oV xb (N:Int) p).2=xV xb (N:Int) p:=rfl
       rw[e1] at p1
       rw[e2] at p2
       rw[if_neg (by simp)]
       refine⟨fun x hx=>?_,by simp;omega,fun _=>⟨by simp;omega,by omega,by omega⟩⟩
       rcases List.mem_append.1 hx with hx | hx
       ·exact i1 x hx
       ·rw[List.mem_singleton] at hx
        subst hx
        have hv:=Iz xb (N:Int) (oV xb (N:Int) p).2
        have hy:=(Oo i1 (k:Int)).2
        have hxx:=Lf hy hv
        refine⟨wrap64_in _,?_⟩
        show 0≤Go.bits .xor .u64 _ (xO xb (N:Int) (oV xb (N:Int) p).2).1∧_
        constructor
        ·show 0≤Go.bits .xor .u64 _ (xO xb (N:Int) (oV xb (N:Int) p).2).1
         rw[hxx.1];omega
        ·show Go.bits .xor .u64 _ (xO xb (N:Int) (oV xb (N:Int) p).2).1<_
         rw[hxx.1];have:=hxx.2;omega
theorem Ki {l:List Int} {n:Nat} (h:kG l n):kG l (8*l.length):=
 ⟨h.bytes,Nat.le_refl _,by omega,fun i h1 h2=>absurd h2 (by omega)⟩
theorem JJ (l:List bN):∀ k,∃ Z,fT l (k+1)=fT l k++Z
 | 0=>⟨_,rfl⟩
 | k+1=>⟨_,rfl⟩
theorem vV (l:List bN) (k:Nat):∀ d,∃ Z,fT l (k+d)=fT l k++Z
 | 0=>⟨[],by simp⟩
 | d+1=>by
   obtain⟨Z,hZ⟩:=vV l k d
   obtain⟨Y,hY⟩:=JJ l (k+d)
   exact⟨Z++Y,by rw[← Nat.add_assoc,hY,hZ,List.append_assoc]⟩
theorem Lh {l:List Int} {n:Nat} (h:kG l n):∃ Z,Bs l (8*l.length)=Bs l n++Z:=by
 unfold Bs
 exact⟨_,zk l 0 (8*l.length) n h.le⟩
theorem Oe {v:Int} (h : -9223372036854775808≤v∧v≤9223372036854775807):(Lit.int .i64 v).wf=true:=by
 simp[Lit.wf,IntKind.min,IntKind.max,IntKind.signed,IntKind.bits]
 omega
theorem K7 {l:List Int} {N:Nat} {B Z:List Bool} {v:Int} (hX:kG l N) (hv:(Lit.int .i64 v).wf=true) (h:Bs l N=B++intBits v++Z):IG l (N:Int) ((B.length:Int),false)=(v,((B.length+(intBits v).length:Nat):Int),false):=by
 unfold IG
 rw[E5 hX hv h]
 rfl
theorem Ir (x y st:Int) (hx : -9223372036854775808≤x∧x≤9223372036854775807) (hs : -9223372036854775808≤st∧st≤9223372036854775807):wrap64 (st+wrap64 (wrap64 (x-y)-st))=wrap64 (x-y)∧wrap64 (y+wrap64 (x-y))=x:=by
 constructor
 ·generalize hd:wrap64 (x-y)=d
  have : -9223372036854775808≤d∧d≤9223372036854775807:=hd ▸ wrap64_in _
  unfold wrap64
  omega
 ·unfold wrap64
  omega
theorem KT (l:List bN):∀ k,-9223372036854775808≤jy l k∧jy l k≤9223372036854775807
 | 0=>by simp[jy]
 | 1=>by simp[jy]
 | k+2=>wrap64_in _
theorem Ef (x:Int) (hx : -9223372036854775808≤x∧x≤9223372036854775807):wrap64 (((IntKind.u64.wrap x).toNat:Nat):Int)=x:=by
 rw[wrap_u64]
 unfold wrap64
 omega
theorem Ld {x y:Int} (hx:0≤x∧x<18446744073709551616) (hy:0≤y∧y<18446744073709551616):Go.bits .xor .u64 y ((x.toNat ^^^ y.toNat:Nat):Int)=x:=by
 obtain⟨a,ha⟩:=Int.eq_ofNat_of_zero_le hx.1
 obtain⟨b,hb⟩:=Int.eq_ofNat_of_zero_le hy.1
 subst ha hb
 rw[Int.toNat_natCast,Int.toNat_natCast,u64_xor_nat b (a ^^^ b) (by omega) (Nat.xor_lt_two_pow (n:=64) (by omega) (by omega)),Nat.xor_comm a b,← Nat.xor_assoc,Nat.xor_self,Nat.zero_xor]
theorem uj (l:List bN) (k:Nat) (h:k<l.length):l.take (k+1)=l.take k++[aR l (k:Int)]:=by
 have e:aR l (k:Int)=l[k]:=by simp[aR,List.getD_eq_getElem?_getD,List.getElem?_eq_getElem h]
 rw[List.take_succ_eq_append_getElem h,e]
theorem H9 (l:List bN) (k m:Nat) (h:k<m):aR (l.take m) (k:Int)=aR l (k:Int):=by
 simp only[aR,Int.toNat_natCast,List.getD_eq_getElem?_getD,List.getElem?_take,if_pos h]
theorem yG {xb:List Int} {NN:Nat} {l:List bN} {Z:List Bool} (hok:∀ x∈l,sD x) (hl:l.length≤20000) (hX:kG xb NN) (hB:Bs xb NN=fT l l.length++Z):∀ k,k≤l.length→fH xb (NN:Int) k=(((fT l k).length:Int),false,l.take k,jy l k)
 | 0,_=>by simp[fH,fT,jy]
 | 1,h=>by
   obtain⟨Y,hY⟩:=vV l 1 (l.length-1)
   rw[show 1+(l.length-1)=l.length by omega] at hY
   have hm:=hok _ (kQ l 0 (by omega))
   have hu:=gY (aR l 0).f0
   obtain⟨u,eu⟩:=Int.eq_ofNat_of_zero_le hu.1
   obtain⟨v,ev⟩:=Int.eq_ofNat_of_zero_le hm.2.1
   have ev':(aR l 0).f1=(v:Int):=ev
   have hv:v<18446744073709551616:=by have:=hm.2.2;rw[ev] at this;omega
   have huu:u<18446744073709551616:=by rw[eu] at hu;omega
   have e1:fT l 1=low u 64++low v 64:=by
    show low (IntKind.u64.wrap (aR l 0).f0).toNat 64++low (aR l 0).f1.toNat 64=_
    rw[eu,ev']
    rfl
   rw[hY,e1] at hB
   have a1:=kT (c:=64) (B:=[]) (L:=low u 64) (Z:=low v 64++(Y++Z)) hX (dQ _ _) (by decide) (by simp) (by rw[hB];simp only[List.nil_append,List.append_assoc])
   have a2:=kT (c:=64) (B:=low u 64) (L:=low v 64) (Z:=Y++Z) hX (dQ _ _) (by decide) (by simp) (by rw[hB];simp only[List.append_assoc])
   rw[oH,Nat.mod_eq_of_lt huu] at a1
   rw[oH,Nat.mod_eq_of_lt hv,dQ] at a2
   have eA:BQ xb (NN:Int) 0=((u:Int),64,false):=a1
   have eB:xU xb (NN:Int) 0=((v:Int),128,false):=by
    unfold xU
    rw[eA]
    exact a2
   have ef:wrap64 (u:Int)=(aR l 0).f0:=by
    have:=Ef (aR l 0).f0 hm.1
    rw[eu] at this
    exact this
   have et:=uj l 0 (by omega)
   rw[fH,eB,eA,e1,et]
   rw[if_neg (by simp)]
   have es:(⟨wrap64 (u:Int),(v:Int)⟩:bN)=aR l ((0:Nat):Int):=by
    rw[ef,← ev']
    rfl
   simp only[es]
   simp[jy]
 | k+2,h=>by
   have ih:=yG hok hl hX hB (k+1) (by omega)
   obtain⟨Y,hY⟩:=vV l (k+2) (l.length-(k+2))
   rw[show k+2+(l.length-(k+2))=l.length by omega] at hY
   have hlen:=jr l hok (k+1) (by omega)
   have hx:=hok _ (kQ l (k+1) (by omega))
   have hy:=hok _ (kQ l k (by omega))
   have e2:fT l (k+2)=fT l (k+1)++(intBits (wrap64 (wrap64 ((aR l ((k+1:Nat):Int)).f0-(aR l ((k:Nat):Int)).f0)-jy l (k+1)))++dU ((aR l ((k+1:Nat):Int)).f1.toNat ^^^ (aR l ((k:Nat):Int)).f1.toNat)):=rfl
   have hst:=KT l (k+1)
   have hsp:jy l (k+2)=wrap64 ((aR l ((k+1:Nat):Int)).f0-(aR l ((k:Nat):Int)).f0):=rfl
   have et:=uj l (k+1) (by omega)
   have er:=H9 l k (k+1) (by omega)
   obtain⟨x,ex⟩:∃ x,aR l ((k+1:Nat):Int)=x:=⟨_,rfl⟩
   obtain⟨y,ey⟩:∃ y,aR l ((k:Nat):Int)=y:=⟨_,rfl⟩
   rw[ex,ey] at e2 hsp
   rw[ex] at hx et
   rw[ey] at hy er
   obtain⟨st,est⟩:∃ st,jy l (k+1)=st:=⟨_,rfl⟩
   rw[est] at e2 hst ih
   obtain⟨v,ev⟩:∃ v,wrap64 (wrap64 (x.f0-y.f0)-st)=v:=⟨_,rfl⟩
   have hv:(Lit.int .i64 v).wf=true:=ev ▸ Oe (wrap64_in _)
   have hxx:=AQ hx.2 hy.2
   have htb:=Ir x.f0 y.f0 st hx.1 hst
   have hxb:=Ld hx.2 hy.2
   rw[ev] at e2 htb
   obtain⟨X,eX⟩:∃ X,x.f1.toNat ^^^ y.f1.toNat=X:=⟨_,rfl⟩
   rw[eX] at e2 hxx hxb
   rw[hY,e2] at hB
   have a1:=K7 (B:=fT l (k+1)) (Z:=dU X++(Y++Z)) hX hv (by rw[hB];simp only[List.append_assoc])
   have hil:=lD v
   have a2:=K8 (x:=X) (B:=fT l (k+1)++intBits v) (Z:=Y++Z) hX hxx (by simp;omega) (by rw[hB];simp only[List.append_assoc])
   rw[List.length_append] at a2
   have eN:oV xb (NN:Int) ((fT l (k+1)).length:Int)=(v,(((fT l (k+1)).length+(intBits v).length:Nat):Int),false):=a1
   have eV:xV xb (NN:Int) ((fT l (k+1)).length:Int)=((X:Int),(((fT l (k+1)).length+(intBits v).length+(dU X).length:Nat):Int),false):=by
    unfold xV
    rw[eN]
    exact a2
   rw[fH,ih]
   simp only
   rw[if_neg (by simp),eV,eN,er,htb.1,htb.2,hxb,hsp,et,e2]
   simp only[List.length_append]
   rw[if_neg (by simp)]
   simp only[Prod.mk.injEq,true_and,and_true]
   omega
theorem LK (n:Nat) (h:n≤65535):lX 0 (dR n 2)=n:=by
 rw[Fq]
 omega
theorem FH (l:List bN) (hok:∀ x∈l,sD x) (hl:l.length≤20000) (hc:iT l=true):nE l=(gH l,0)∧nD (gH l)=(l,0)∧(gH l).length≤2+20*l.length+1:=by
 have e0:nE l=(gH l,0):=by rw[nE,if_pos hc]
 have hP:=jr l hok l.length (Nat.le_refl _)
 obtain⟨hX,hBs⟩:=C8 (fT l l.length) (by omega)
 obtain⟨Z,hZ⟩:=Lh hX
 rw[hBs] at hZ
 have hbl:(gH l).length=2+(qO (fT l l.length)).length:=by rw[gH,List.length_append,bJ]
 have hn:=hX.near
 refine⟨e0,?_,by omega⟩
 have hd:(gH l).drop 2=qO (fT l l.length):=by rw[gH,List.drop_left' (bJ _ _)]
 have ht:(gH l).take 2=dR l.length 2:=by rw[gH,List.take_left' (bJ _ _)]
 have hs:=yG hok hl (Ki hX) hZ l.length (Nat.le_refl _)
 rw[List.take_length] at hs
 have h8:8*((gH l).length-2)=8*(qO (fT l l.length)).length:=by omega
 rw[nD,if_neg (by omega),hd,ht,h8,LK _ (by omega),hs,if_pos ⟨rfl,e0⟩]
def ql (L:List Bool):Nat→List Int
 | 0=>[]
 | j+1=>mR (iq (ql L j) j) (j / 8) ((if L.getD j false=true then 1 else 0)*2 ^ (8-j % 8-1))
theorem mU (L:List Bool):∀ j,j≤L.length→kG (ql L j) j∧Bs (ql L j) j=L.take j
 | 0,_=>⟨Ag,rfl⟩
 | j+1,h=>by
   obtain⟨h1,h2⟩:=mU L j (by omega)
   obtain⟨h3,h4⟩:=Dh (T:=1) (X:=if L.getD j false=true then 1 else 0) h1 (by decide) (by omega) (by split<;>decide)
   refine⟨h3,?_⟩
   rw[show ql L (j+1)=mR (iq (ql L j) j) (j / 8) ((if L.getD j false=true then 1 else 0)*2 ^ (8-j % 8-1)) from rfl,h4,h2,List.take_succ_eq_append_getElem (by omega)]
   congr 1
   rw[List.getD_eq_getElem?_getD,List.getElem?_eq_getElem (by omega),Option.getD_some]
   cases L[j]'(by omega)<;>rfl
theorem F5 (L:List Bool):ql L L.length=qO L:=by
 obtain⟨h1,h2⟩:=mU L L.length (Nat.le_refl _)
 rw[List.take_length] at h2
 exact (wR h1 h2).symm
theorem Kr {L:List Bool} {j:Nat} (hj:j<L.length) (hb:L.getD j false=false):ql L (j+1)=iq (ql L j) j:=by
 have h1:=(mU L j (by omega)).1
 have hz:=l7 h1
 have hby:xQ (iq (ql L j) j):=by
  unfold iq
  split
  ·intro x hx
   rcases List.mem_append.1 hx with hx | hx
   ·exact h1.bytes x hx
   ·rw[List.mem_singleton.1 hx]
    exact⟨by decide,by decide⟩
  ·exact h1.bytes
 have ha:=(hby.at (j / 8)).1
 show mR (iq (ql L j) j) (j / 8) _=_
 rw[if_neg (by rw[hb];simp),Nat.zero_mul]
 unfold mR
 rw[Nat.or_zero,Int.toNat_of_nonneg ha]
 rw[List.getD_eq_getElem?_getD,List.getElem?_eq_getElem (by omega),Option.getD_some]
 exact List.set_getElem_self _
theorem ME {L:List Bool} {j m:Nat} (hj:j<L.length) (hb:L.getD j false=true) (B:List Int) (hm:B.length=m) :
 (B++iq (ql L j) j).set (m+j / 8) (Go.bits .or .u8 ((iq (ql L j) j).getD (j / 8) 0) (128 / 2 ^ (j % 8)))=B++ql L (j+1)∧(B++iq (ql L j) j).length=m+j / 8+1∧(B++iq (ql L j) j).getD (m+j / 8) 0=(iq (ql L j) j).getD (j / 8) 0:=by
 have h1:=(mU L j (by omega)).1
 have hz:=l7 h1
 have hby:xQ (iq (ql L j) j):=by
  unfold iq
  split
  ·intro x hx
   rcases List.mem_append.1 hx with hx | hx
   ·exact h1.bytes x hx
   ·rw[List.mem_singleton.1 hx]
    exact⟨by decide,by decide⟩
  ·exact h1.bytes
 have ha:=hby.at (j / 8)
 refine⟨?_,by rw[List.length_append,hz];omega,?_⟩
 ·rw[List.set_append_right _ _ (by omega),show m+j / 8-B.length=j / 8 by omega]
  congr 1
  show _=mR (iq (ql L j) j) (j / 8) _
  unfold mR
  congr 1
  rw[if_pos hb,Nat.one_mul]
  obtain⟨a,hA⟩:=Int.eq_ofNat_of_zero_le ha.1
  rw[hA] at ha ⊢
  rw[Int.toNat_natCast,show 8-j % 8-1=7-j % 8 by omega]
  have e:(128:Int) / 2 ^ (j % 8)=((2 ^ (7-j % 8):Nat):Int):=by
   have hlt:j % 8<8:=Nat.mod_lt _ (by decide)
   generalize j % 8=q at hlt
   match q,hlt with
   | 0,_ | 1,_ | 2,_ | 3,_ | 4,_ | 5,_ | 6,_ | 7,_=>rfl
  rw[e]
  exact u8_or_nat a _ (by omega) (Nat.lt_of_lt_of_le (Nat.pow_lt_pow_right (by decide) (show 7-j % 8<8 by omega)) (by decide))
 ·rw[List.getD_eq_getElem?_getD,List.getD_eq_getElem?_getD,List.getElem?_append_right (by omega),show m+j / 8-B.length=j / 8 by omega]
end Go.Proofs.YtcgbgifbajdhpaaGreatDoor.PA
namespace Go.Proofs.YtcgbgifbajdhpaaGreatDoor.G
open Go.RowKit Go.Proofs.YtcgbgifbajdhpaaGreatDoorW.au Go.Proofs.YtcgbgifbajdhpaaGreatDoorW.aI Go.Proofs.YtcgbgifbajdhpaaGreatDoorW.aJ
attribute [local go_sem] eG eH gq gu
def iD.f (a0 a1:Int):Option (List Int):=iA.f a0 a1
def jT.f (l:List Int):Option (Int × Bool):=iP.f l
theorem iD.calls (a0 a1:Int) (r:List Int) (w:World) (h:iD.f a0 a1=some r) :
 Calls Tryz.prog 34 #[.int .u64 a0,.int .i64 a1] w fun e w'=>∃ v0_:Value,e = .returned (v0_)∧Kd.R (Kd.int .u8) 5 w' w.heap.size (fun _=>True) v0_ r∧Below w.heap.size w w':=by
 unfold iD.f iA.f at h
 split at h
 case isFalse=>cases h
 case isTrue hN=>
  obtain rfl:=Option.some.inj h
  clear h
  obtain⟨N,rfl⟩:=Int.eq_ofNat_of_zero_le hN.1
  rw[Int.toNat_natCast]
  obtain⟨j,hj⟩:∃ j:Int,(if a1<0 then 0 else a1)=j:=⟨_,rfl⟩
  obtain⟨m,hm8,hm,hw⟩:∃ m:Nat,m≤8∧(if 8<j then 8 else j)=(m:Int)∧wid a1=m:=⟨wid a1,La _,by unfold wid;split at hj<;>split<;>omega,rfl⟩
  rw[hw]
  clear hw
  have hm0:(m:Int)≤8:=by omega
  go_enter Tryz.func34,Tryz.ntmps34
  go_wp2_with ((with_reducible refine bM (N:=12) rfl ?_);refine Kd.I5 (Kd.int .u8) _ 5 rfl (N:=12) rfl 24 _ _ rfl (m:Int) rfl rfl Tryz.underlying24 (.int .u8 0) 1 gU rfl (by decide) (by omega) 0 (ok:=fun _=>True) (okp:=fun _=>True) rfl (fun _ hk=>hk) trivial (by omega) (by omega) (Below.refl _ _) (Nat.le_refl _) ?_;intro v103 w7 ho8 hb hg_ hnew_;rw[Int.toNat_natCast] at ho8;obtain⟨g,c9,e9,hgb⟩:=yQ ho8 hnew_;rw[List.length_replicate] at e9;subst e9;have HO:=ah.mk ho8;have HB:=ah.mk hb;clear ho8 hb hg_ hnew_)
  clear hm hj
  go_loopw [0,7] (fun n i wr=>∃ k:Nat,k≤m∧i = .int .i64 ((m:Int)-1-(k:Int))∧n = .int .u64 ((N / 256 ^ k:Nat):Int)∧ah (Kd.R (Kd.int .u8) 5 wr w.heap.size (fun _=>True) (.slice (some ⟨g,0,none⟩) m c9) (List.replicate (m-k) 0++dR N k))∧ah (Below w.heap.size w wr)) (fun _ i _=>(intOf i+1).toNat)
  case atStart=>exact⟨0,Nat.zero_le _,by simp,by simp,⟨by simpa [dR] using HO.o⟩,HB⟩
  case round=>
   clear HO HB
   obtain⟨k,hk,rfl,rfl,HO,HB⟩:=hrel
   have HS:=fun hlt=>ah.mk (iA.step (N:=N) (k:=k) (m:=m) hlt)
   have HD:=ah.mk (Nat.div_div_eq_div_mul N (256 ^ k) 256)
   have HL:=ah.mk (show N / 256 ^ k≤N from Nat.div_le_self _ _)
   generalize N / 256 ^ k=M at HS HD HL ⊢
   by_cases hlt:k<m
   ·obtain⟨hc,hf⟩:=Kd.uK 0 HO.o ((m-1-k:Nat):Int) (by omega) (by omega)
    have HP:=ah.mk (Kd.DU HO.o ((m-1-k:Nat):Int) ((M % 256:Nat):Int))
    rw[Int.toNat_natCast] at hc hf HP
    have HS:=HS hlt
    have hM:(0:Int)≤(M:Int):=by omega
    have h0:(0:Int)≤(m:Int)-1-(k:Int):=by omega
    go_wp2
    go_roundw
    case rel=>
     refine⟨k+1,by omega,congrArg _ (by omega),congrArg _ ?_,⟨?_⟩,⟨?_⟩⟩
     ·rw[Nat.pow_succ,← HD.o]
      have:=HL.o
      simp[IntKind.wrap,IntKind.bits,IntKind.signed]
      omega
     ·rw[← HS.o]
      exact HP.o.1
     ·exact bf HB.o (by omega)
    case measure=>simp[intOf];omega
   ·obtain rfl:k=m:=by omega
    have h0:¬ ((0:Int)≤(k:Int)-1-(k:Int)):=by omega
    go_wp2
    go_ret
    exact⟨_,rfl,by simpa using HO.o,HB.o⟩
theorem jT.calls (A0:Option Addr) (c0:Nat) (l0:List Int) (r1:Int) (r2:Bool) (w:World) (hr0:Kd.C (Kd.int .u8) w A0 l0.length l0) (hc0:l0.length≤c0) (h:jT.f l0=some (r1,r2)) :
 Calls Tryz.prog 97 #[.slice A0 l0.length c0] w fun e w'=>e = .returned (.tuple #[.int .u64 r1,.bool r2])∧aN w w':=by
 have HR:=ah.mk hr0
 clear hr0 hc0
 unfold jT.f iP.f at h
 split at h
 case isFalse=>cases h
 case isTrue hok=>
 by_cases hl:1≤l0.length∧l0.length≤8
 case neg=>
  rw[if_neg hl] at h
  simp only[Option.some.injEq,Prod.mk.injEq] at h
  obtain⟨rfl,rfl⟩:=h
  by_cases h0:l0.length=0
  ·have e0:decide ((l0.length:Int)<1)=true:=decide_eq_true (by omega)
   clear hl h0
   go_enter Tryz.func97,Tryz.ntmps97
   go_wp2
   go_ret2
   exact⟨rfl,aN.refl _⟩
  ·have e0:decide ((l0.length:Int)<1)=false:=decide_eq_false (by omega)
   have e1:decide ((8:Int)<(l0.length:Int))=true:=decide_eq_true (by omega)
   clear hl h0
   go_enter Tryz.func97,Tryz.ntmps97
   go_wp2
   go_ret2
   exact⟨rfl,aN.refl _⟩
 case pos=>
  rw[if_pos hl] at h
  simp only[Option.some.injEq,Prod.mk.injEq] at h
  obtain⟨rfl,rfl⟩:=h
  have e0:decide ((l0.length:Int)<1)=false:=decide_eq_false (by omega)
  have e1:decide ((8:Int)<(l0.length:Int))=false:=decide_eq_false (by omega)
  go_enter Tryz.func97,Tryz.ntmps97
  go_wp2
  go_loop [4,17] (fun n i=>∃ k:Nat,k≤l0.length∧i = .int .i64 k∧n = .int .u64 (lX 0 (l0.take k):Nat)) (fun _ i=>l0.length-(intOf i).toNat)
  case atStart=>exact⟨0,Nat.zero_le _,rfl,rfl⟩
  case round=>
   obtain⟨k,hk,rfl,rfl⟩:=hrel
   by_cases hlt:k<l0.length
   ·obtain⟨ad,rfl,hc⟩:=Kd.kI HR.o (k:Int) (by omega) (by omega)
    rw[Int.toNat_natCast] at hc
    have hx:=dK.1 hok _ (wZ l0 k hlt)
    have HT:=ah.mk (Br l0 k hlt)
    have hV:=nM hok k
    have HV:=ah.mk (Nat.lt_of_lt_of_le hV (Nat.pow_le_pow_right (n:=256) (by decide) (show k≤7 by omega)))
    have HX:=ah.mk hx
    clear hV hx
    go_wp2
    go_round
    case rel=>
     refine⟨k+1,by omega,by go_num,congrArg _ ?_⟩
     have:=HV.o
     have:=HX.o
     rw[HT.o]
     simp[IntKind.wrap,IntKind.bits,IntKind.signed]
     omega
    case measure=>simp[intOf];omega
   ·obtain rfl:k=l0.length:=by omega
    go_wp2
    go_ret2
    exact⟨rfl,aN.refl _⟩
end Go.Proofs.YtcgbgifbajdhpaaGreatDoor.G
namespace Go.Proofs.YtcgbgifbajdhpaaGreatDoor.PA
open Go.RowKit Go.Proofs.YtcgbgifbajdhpaaGreatDoorW.au Go.Proofs.YtcgbgifbajdhpaaGreatDoorW.aI Go.Proofs.YtcgbgifbajdhpaaGreatDoorW.aJ
attribute [local go_sem] eG eH gq gu eT eU fU fV   -- for this text's walks alone
def bn.l0:Nat→List (bN)→Int→Int→Option (Bool)
 | 0,_,_,_=>none
 | k+1,x0,x5,x6=>if x6<x5 then (if x6>0 then (if 0≤(wrap64 (x6-1)) then (if (wrap64 (x6-1))<(x0.length:Int) then (if 0≤x6 then (if x6<(x0.length:Int) then (if ((aR x0 (wrap64 (x6-1))).f0)≥((aR x0 x6).f0) then (some false) else (bn.l0 k x0 x5 (wrap64 (x6+1)))) else (none)) else (none)) else (none)) else (none)) else (bn.l0 k x0 x5 (wrap64 (x6+1)))) else (some (decide ((x0.length:Int)≤65535)))
def bn.f (k:Nat) (l0:List (bN)):Option (Bool):=bn.l0 k l0 (l0.length:Int) 0
theorem bn.fA:∀ k,(∀ y0 y1 y2,bV (bn.l0 k y0 y1 y2) (bn.l0 (k+1) y0 y1 y2))
 | 0=>fun _ _ _ r h=>by simp[bn.l0] at h
 | k+1=>by
   have ih0:=bn.fA k
   ·intro y0 y1 y2
    unfold bn.l0
    repeat' first
    | (with_reducible exact ih0 _ _ _)
    | (with_reducible exact bV.refl _)
    | (with_reducible exact bV.none _)
    | (with_reducible refine bV.ite ?_ ?_)
    | (with_reducible refine bV.bind ?_ (fun _=>?_))
    | exact ih0 _ _ _
    | exact bV.none _
    | refine bV.ite ?_ ?_
    | refine bV.bind ?_ (fun _=>?_)
theorem bn.mono:∀ a0 k,bV (bn.f k a0) (bn.f (k+1) a0):=by
 intro a0 k
 have ih0:=bn.fA k
 unfold bn.f
 repeat' first
  | (with_reducible exact ih0 _ _ _)
  | (with_reducible exact bV.refl _)
  | (with_reducible exact bV.none _)
  | (with_reducible refine bV.ite ?_ ?_)
  | (with_reducible refine bV.bind ?_ (fun _=>?_))
  | exact ih0 _ _ _
  | exact bV.none _
  | refine bV.ite ?_ ?_
  | refine bV.bind ?_ (fun _=>?_)
theorem bn.calls (k:Nat) (A0:Option Addr) (c0:Nat) (l0:List (bN)) (r:Bool) (w:World) (hr0:Kd.C jg w A0 l0.length l0) (hc0:l0.length≤c0) (h:bn.f k l0=some r) :
 Calls Tryz.prog 68 #[.slice A0 l0.length c0] w fun e w'=>e = .returned (.bool r)∧aN w w':=by
 have HR0:=ah.mk hr0
 have HC0:=ah.mk hc0
 clear hr0 hc0
 have H:(bn.l0 k l0 (l0.length:Int) 0)=some r:=h
 clear h
 have H':=ah.mk H
 clear H
 go_enter Tryz.func68,Tryz.ntmps68
 go_wp2
 repeat (go_quiet (fail);try go_wp2)
 go_loopg [6] k (fun kq v6 w'=>∃ (x6_1:Int),v6 = .int .i64 x6_1∧ah (bn.l0 kq l0 (l0.length:Int) x6_1=some r)∧ah (kq≤k)∧aN w w')
 case atStart=>exact⟨(0),(by first | rfl | (simp;done)|(simp[*];done)),H',⟨Nat.le_refl _⟩,by repeat (first | exact aN.refl _ | apply aN.step)⟩
 case round=>
  clear H'
  obtain⟨x6_1,rfl,HA,HK1,⟨m1,rfl⟩⟩:=hrel
  cases gk with
  | zero=>exact absurd HA.o (by simp[bn.l0])
  | succ k1=>
    have H:=HA.o
    clear HA
    simp only[bn.l0] at H
    by_cases c2:x6_1<(l0.length:Int)
    ·rw[if_pos c2] at H
     have c2b0:decide (x6_1<(l0.length:Int))=true:=decide_eq_true c2
     clear c2
     by_cases c3:x6_1>0
     ·rw[if_pos c3] at H
      have c3b0:decide (0<x6_1)=true:=decide_eq_true c3
      clear c3
      obtain⟨ji4,hji4⟩:∃ j_:Int,(wrap64 (x6_1-1))=j_:=⟨_,rfl⟩
      replace H:(if 0≤(ji4) then (if (ji4)<(l0.length:Int) then (if 0≤x6_1 then (if x6_1<(l0.length:Int) then (if ((aR l0 (ji4)).f0)≥((aR l0 x6_1).f0) then (some false) else (bn.l0 k1 l0 (l0.length:Int) (wrap64 (x6_1+1)))) else (none)) else (none)) else (none)) else (none))=some r:=by first|(rw[hji4] at H;exact H)|(simp only[hji4] at H ⊢;exact H)
      have hji4w:(IntKind.i64.wrap (x6_1-1))=ji4:=(dw _).trans hji4
      by_cases c5:0≤(ji4)
      ·rw[if_pos c5] at H
       have c5b0:decide (0≤(ji4))=true:=decide_eq_true c5
       clear c5
       by_cases c6:(ji4)<(l0.length:Int)
       ·rw[if_pos c6] at H
        have c6b0:decide ((ji4)<(l0.length:Int))=true:=decide_eq_true c6
        clear c6
        by_cases c7:0≤x6_1
        ·rw[if_pos c7] at H
         have c7b0:decide (0≤x6_1)=true:=decide_eq_true c7
         clear c7
         by_cases c8:x6_1<(l0.length:Int)
         ·rw[if_pos c8] at H
          have c8b0:decide (x6_1<(l0.length:Int))=true:=decide_eq_true c8
          clear c8
          by_cases c9:((aR l0 (ji4)).f0)≥((aR l0 x6_1).f0)
          ·rw[if_pos c9] at H
           have c9b0:decide (((aR l0 x6_1).f0)≤((aR l0 (ji4)).f0))=true:=decide_eq_true c9
           clear c9
           obtain rfl:=Option.some.inj H
           have p197:0≤((ji4):Int):=of_decide_eq_true (by first|(with_reducible assumption)|assumption)
           have q197:(ji4)<(l0.length:Int):=of_decide_eq_true (by first|(with_reducible assumption)|assumption)
           obtain⟨ad197,e197,hx197_0,hx197_1⟩:=gP HR0.o (ji4) p197 q197
           cases e197
           replace p197:=eq_true p197
           replace q197:=eq_true q197
           have p198:0≤(x6_1:Int):=of_decide_eq_true (by first|(with_reducible assumption)|assumption)
           have q198:x6_1<(l0.length:Int):=of_decide_eq_true (by first|(with_reducible assumption)|assumption)
           obtain⟨ad198,e198,hx198_0,hx198_1⟩:=gP HR0.o x6_1 p198 q198
           obtain rfl:ad197=ad198:=(by injection e198)
           replace p198:=eq_true p198
           replace q198:=eq_true q198
           go_wp2
           repeat (go_quiet (fail);try go_wp2)
           go_ret
           exact⟨by first | rfl | (simp;done)|(simp only[← hji4]<;>(first | rfl | simp))|(simp[*];done),by repeat (first | exact aN.refl _ | apply aN.step)⟩
          ·rw[if_neg c9] at H
           have c9b0:decide (((aR l0 x6_1).f0)≤((aR l0 (ji4)).f0))=false:=decide_eq_false c9
           clear c9
           have H':=ah.mk H
           clear H
           have p197:0≤((ji4):Int):=of_decide_eq_true (by first|(with_reducible assumption)|assumption)
           have q197:(ji4)<(l0.length:Int):=of_decide_eq_true (by first|(with_reducible assumption)|assumption)
           obtain⟨ad197,e197,hx197_0,hx197_1⟩:=gP HR0.o (ji4) p197 q197
           cases e197
           replace p197:=eq_true p197
           replace q197:=eq_true q197
           have p198:0≤(x6_1:Int):=of_decide_eq_true (by first|(with_reducible assumption)|assumption)
           have q198:x6_1<(l0.length:Int):=of_decide_eq_true (by first|(with_reducible assumption)|assumption)
           obtain⟨ad198,e198,hx198_0,hx198_1⟩:=gP HR0.o x6_1 p198 q198
           obtain rfl:ad197=ad198:=(by injection e198)
           replace p198:=eq_true p198
           replace q198:=eq_true q198
           go_wp2
           repeat (go_quiet (fail);try go_wp2)
           go_roundg k1
           case measure=>have:=HK1.o;omega
           case rel=>exact⟨(wrap64 (x6_1+1)),(by first | rfl | (simp;done)|(simp[*];done)),H',⟨by have:=HK1.o;omega⟩,by repeat (first | exact aN.refl _ | apply aN.step)⟩
         ·rw[if_neg c8] at H
          exact absurd H (by simp)
        ·rw[if_neg c7] at H
         exact absurd H (by simp)
       ·rw[if_neg c6] at H
        exact absurd H (by simp)
      ·rw[if_neg c5] at H
       exact absurd H (by simp)
     ·rw[if_neg c3] at H
      have c3b0:decide (0<x6_1)=false:=decide_eq_false c3
      clear c3
      have H':=ah.mk H
      clear H
      go_wp2
      repeat (go_quiet (fail);try go_wp2)
      go_roundg k1
      case measure=>have:=HK1.o;omega
      case rel=>exact⟨(wrap64 (x6_1+1)),(by first | rfl | (simp;done)|(simp[*];done)),H',⟨by have:=HK1.o;omega⟩,by repeat (first | exact aN.refl _ | apply aN.step)⟩
    ·rw[if_neg c2] at H
     have c2b0:decide (x6_1<(l0.length:Int))=false:=decide_eq_false c2
     clear c2
     obtain rfl:=Option.some.inj H
     go_wp2
     repeat (go_quiet (fail);try go_wp2)
     go_ret
     exact⟨by first | rfl | (simp;done)|(simp[*];done)|(simp;decide +kernel),by repeat (first | exact aN.refl _ | apply aN.step)⟩
end Go.Proofs.YtcgbgifbajdhpaaGreatDoor.PA
namespace Go.Proofs.YtcgbgifbajdhpaaGreatDoor.PA
open Go.RowKit Go.Proofs.YtcgbgifbajdhpaaGreatDoor.G Go.Proofs.YtcgbgifbajdhpaaGreatDoorW.au Go.Proofs.YtcgbgifbajdhpaaGreatDoorW.aI Go.Proofs.YtcgbgifbajdhpaaGreatDoorW.aJ
theorem yY (l:List bN) (hl:l.length≤1000000):∀ d i,i+1+d=l.length→∀ k,d<k→bn.l0 k l (l.length:Int) ((i+1:Nat):Int)=some (((List.range d).all fun q=>decide ((aR l ((i+q:Nat):Int)).f0<(aR l ((i+q+1:Nat):Int)).f0))&&decide (l.length≤65535))
 | 0,i,h,k+1,hk=>by
   unfold bn.l0
   rw[if_neg (by omega)]
   simp
   omega
 | d+1,i,h,k+1,hk=>by
   unfold bn.l0
   have e1:wrap64 (((i+1:Nat):Int)-1)=((i:Nat):Int):=by rw[jZ (by omega) (by omega)];omega
   have e2:wrap64 (((i+1:Nat):Int)+1)=((i+1+1:Nat):Int):=by rw[jZ (by omega) (by omega)];omega
   rw[if_pos (by omega),if_pos (by omega),e1,if_pos (by omega),if_pos (by omega),if_pos (by omega),if_pos (by omega),e2,List.range_succ_eq_map,List.all_cons,List.all_map]
   by_cases hh:(aR l ((i:Nat):Int)).f0≥(aR l ((i+1:Nat):Int)).f0
   ·rw[if_pos hh]
    have h2:¬ (aR l ((i:Nat):Int)).f0<(aR l ((i+1:Nat):Int)).f0:=by omega
    have e3:decide ((aR l ((i+0:Nat):Int)).f0<(aR l ((i+0+1:Nat):Int)).f0)=false:=decide_eq_false h2
    rw[e3,Bool.false_and,Bool.false_and]
   ·rw[if_neg hh,yY l hl d (i+1) (by omega) k (by omega)]
    have h2:(aR l ((i:Nat):Int)).f0<(aR l ((i+1:Nat):Int)).f0:=by omega
    have e3:decide ((aR l ((i+0:Nat):Int)).f0<(aR l ((i+0+1:Nat):Int)).f0)=true:=decide_eq_true h2
    rw[e3,Bool.true_and]
    congr 3
    funext q
    simp only[Function.comp,show i+1+q=i+(q+1) by omega,Nat.succ_eq_add_one]
theorem EG (l:List bN) (hl:l.length≤1000000) (k:Nat) (hk:l.length+1<k):bn.f k l=some (iT l):=by
 unfold bn.f iT
 obtain⟨k,rfl⟩:∃ k',k=k'+1:=⟨k-1,by omega⟩
 by_cases h:0<l.length
 ·have:=yY l hl (l.length-1) 0 (by omega) k (by omega)
  simp only[Nat.zero_add] at this
  unfold bn.l0
  rw[if_pos (by omega),if_neg (by omega)]
  exact (show wrap64 (0+1)=((1:Nat):Int) from jZ (by decide) (by decide)) ▸ this
 ·unfold bn.l0
  rw[if_neg (by omega),show l.length-1=0 by omega]
  simp
  omega
theorem OU.alloc {B g:Nat} {W:World} {L:List Bool} (h:OU B W g L) (o:Obj):OU B (W.alloc o) g L:=by
 obtain⟨u,h1,h2⟩:=h
 exact⟨u,aU h1 _,Kd.j4 h2 _⟩
theorem OU.drew {B g:Nat} {W:World} {L:List Bool} (h:OU B W g L):OU B W.drew g L:=h
theorem OU.lt {B g:Nat} {W:World} {L:List Bool} (h:OU B W g L):g<W.heap.size:=by
 obtain⟨u,h1,_⟩:=h
 exact dO h1
theorem Fz {w W:World} {ad:Addr} {n:Nat} {l:List bN} (hr:Kd.C jg w (some ad) n l) (hb:Below w.heap.size w W) (j:Nat) (hj:j<n):W.cell? (ad.add (j*2))=some (.int .i64 (aR l (j:Int)).f0)∧W.cell? ⟨(ad.add (j*2)).block,(ad.add (j*2)).off+1,none⟩=some (.int .u64 (aR l (j:Int)).f1):=by
 obtain⟨ad',e,h0,h1⟩:=gP (Kd.aH hr hb) (j:Int) (by omega) (by omega)
 obtain rfl:=Option.some.inj e
 rw[Int.toNat_natCast] at h0 h1
 exact⟨h0,h1⟩
theorem qj.at_ (B g:Nat) (L:List Bool) (V:Int) (x:Nat) (w0 w:World) (hO:OU B w g L) (hB:Below B w0 w) (hgB:B≤g) (hV:V=(x:Int)) (hx:x<18446744073709551616) (hL:L.length≤6000000) :
 Calls Tryz.prog 83 #[.pointer (some ⟨g,0,none⟩),.int .u64 V] w fun e w'=>e = .returned (.tuple #[])∧OU B w' g (L++dU x)∧Below B w0 w'∧lY g w w':=by
 subst hV
 exact qj.calls B g L x w0 w hO hB hgB hx hL
theorem Lc (a:Int):wrap64 (wrap64 a-0)=wrap64 a:=by
 have:=wrap64_in a
 rw[Int.sub_zero]
 exact jZ this.1 this.2
theorem MH.bad (A:Option Addr) (c:Nat) (l:List bN) (w:World) (hr:Kd.C jg w A l.length l) (hc:l.length≤c) (hlen:l.length≤20000) (h:iT l=false) :
 Calls Tryz.prog 48 #[.slice A l.length c] w fun e w'=>e = .returned (.tuple #[.slice none 0 0,.int .i64 1])∧Below w.heap.size w w':=by
 have HR:=ah.mk hr
 have HC:=ah.mk hc
 have HF:ah (bn.f 100000 l=some false):=⟨by rw[EG l (by omega) _ (by omega),h]⟩
 clear hr hc hlen h
 go_enter Tryz.func48,Tryz.ntmps48
 go_wp2_with (go_at_call 68;(with_reducible refine (bn.calls 100000 _ _ l false _ HR.o HC.o HF.o).mono ?_);rintro e w1 ⟨rfl,hd⟩;have HB:=ah.mk hd.below;clear hd)
 refine bodyPost_ret (results_tmp2 rfl _ _ _) rfl ?_
 exact⟨rfl,HB.o⟩
theorem MH.ok (A:Option Addr) (c:Nat) (l:List bN) (w:World) (hr:Kd.C jg w A l.length l) (hc:l.length≤c) (hw:∀ x∈l,sD x) (hlen:l.length≤20000) (h:iT l=true) :
 Calls Tryz.prog 48 #[.slice A l.length c] w fun e w'=>∃ v:Value,e = .returned (.tuple #[v,.int .i64 0])∧Kd.R (Kd.int .u8) 5 w' w.heap.size (fun _=>True) v (gH l)∧Below w.heap.size w w':=by
 have HR:=ah.mk hr
 have HC:=ah.mk hc
 have HW:=ah.mk hw
 have HLN:=ah.mk hlen
 have HF:ah (bn.f 100000 l=some true):=⟨by rw[EG l (by omega) _ (by omega),h]⟩
 clear hr hc hw h hlen
 go_enter Tryz.func48,Tryz.ntmps48
 go_wp2_with (first
  | (go_at_call 68;(with_reducible refine (bn.calls 100000 _ _ l true _ HR.o HC.o HF.o).mono ?_);rintro e w1 ⟨rfl,hd⟩;have HB1:=ah.mk hd.below;clear hd)
  | ((with_reducible refine bM (N:=14) rfl ?_);refine cZ ?hg (N:=14) ?hd (cs := #[.slice none 0 0]) (t:=137) ?hr ?_;(case hd=>rfl);(case hg=>rfl);(case hr=>first|(go_simp;done)|(go_simp;rfl));intro g hg w2 hbox hb;have HB2:=ah.mk (ak HB1.o hb);have HBK:=ah.mk hbox;have HG:ah (w.heap.size≤g):=⟨by have:=HB1.o.size;omega⟩;clear hb hbox hg))
 have HPK:ah (OU w.heap.size w2 g (fT l 0)):=⟨_,HBK.o,Kd.fP _ _ _ _ _⟩
 go_loopw [17] (fun i wr=>∃ k:Nat,k≤l.length∧i = .int .i64 k∧ah (OU w.heap.size wr g (fT l k))∧ah (Below w.heap.size w wr)) (fun i _=>l.length-(intOf i).toNat)
 case atStart=>exact⟨0,Nat.zero_le _,rfl,HPK,HB2⟩
 case round=>
  clear HPK HBK HB2
  obtain⟨k,hk,rfl,HP,HB⟩:=hrel
  have hl2:l.length≤20000:=HLN.o
  by_cases hlt:k<l.length
  ·have hC:=Kd.aH HR.o HB.o
   obtain⟨ad,rfl,h0,h1⟩:=gP hC (k:Int) (by omega) (by omega)
   rw[Int.toNat_natCast] at h0 h1
   have hx:=HW.o _ (kQ l k hlt)
   have hgw:=(HP.o).lt
   have HGN:ah (wr.heap.size≠g):=⟨by omega⟩
   have HLE:=ah.mk (jr l HW.o k hk)
   clear hC hgw
   cases k with
   | zero=>
     obtain⟨v0,hv0⟩:=Int.eq_ofNat_of_zero_le (gY (aR l 0).f0).1
     obtain⟨v1,hv1⟩:=Int.eq_ofNat_of_zero_le hx.2.1
     have CA:=ah.mk (fun W h1 h2=>dS.at_ w.heap.size g [] (IntKind.u64.wrap (aR l 0).f0) 64 v0 64 w W h1 h2 HG.o hv0 rfl (by have:=(gY (aR l 0).f0).2;omega) (by decide) (by simp))
     have CB:=ah.mk (fun W h1 h2=>dS.at_ w.heap.size g ([]++low v0 64) (aR l 0).f1 64 v1 64 w W h1 h2 HG.o hv1 rfl (by have:=hx.2.2;omega) (by decide) (by simp))
     have EV:ah ((IntKind.u64.wrap (aR l 0).f0).toNat=v0∧(aR l 0).f1.toNat=v1):=⟨by rw[hv0];rfl,by have h_:(aR l 0).f1=(v1:Int):=hv1;rw[h_];rfl⟩
     clear hv0 hv1 hx
     have h0':wr.cell? ad=some (.int .i64 (aR l 0).f0):=by simpa [Addr.add] using h0
     have h1':wr.cell? ⟨ad.block,ad.off+1,none⟩=some (.int .u64 (aR l 0).f1):=by simpa [Addr.add] using h1
     clear h0 h1
     go_wp2_with (first
      | (go_at_call 81;(with_reducible refine (CA.o _ (HP.o.alloc _) (aj HB.o _)).mono ?_);rintro e w3 ⟨rfl,hp,hb,hk⟩;have HP3:=ah.mk hp;have BX:=hk wr.heap.size _ _ HGN.o (by decide) (bI wr _);have f1:=(av BX 1).trans rfl;have HB3:=ah.mk hb;clear hp hb hk BX)
      | (go_at_call 81;(with_reducible refine (CB.o _ HP3.o HB3.o).mono ?_);rintro e w4 ⟨rfl,hp,hb,hk⟩;have HP4:=ah.mk hp;have HB4:=ah.mk hb;clear hp hb hk))
     go_roundw
     case rel=>
      refine⟨1,by omega,by go_num,⟨?_⟩,HB4⟩
      have:=HP4.o
      rw[List.nil_append,← EV.o.1,← EV.o.2] at this
      exact this
     case measure=>simp[intOf];omega
   | succ k=>
     have hx1:=HW.o _ (kQ l k (by omega))
     obtain⟨x,ex⟩:∃ x,aR l ((k+1:Nat):Int)=x:=⟨_,rfl⟩
     obtain⟨y,ey⟩:∃ y,aR l ((k:Nat):Int)=y:=⟨_,rfl⟩
     rw[ex] at h0 h1 hx
     rw[ey] at hx1
     have hxi:=Lf hx.2 hx1.2
     obtain⟨q,eq⟩:∃ q,x.f1.toNat ^^^ y.f1.toNat=q:=⟨_,rfl⟩
     rw[eq] at hxi
     have CI:=ah.mk (fun V W h1 h2=>EA.calls w.heap.size g (fT l (k+1)) V w W h1 h2 HG.o (by have:=HLE.o;omega))
     have CX:=ah.mk (fun V U W h1 h2 hU=>qj.at_ w.heap.size g (fT l (k+1)++intBits V) U q w W h1 h2 HG.o hU hxi.2 (by have:=HLE.o;have:=lD V;rw[List.length_append];omega))
     have HXI:=ah.mk hxi.1
     have HST:ah (fT l (k+2)=fT l (k+1)++(intBits (wrap64 (wrap64 (x.f0-y.f0)-jy l (k+1)))++dU q)):=⟨by rw[← eq,← ex,← ey];rfl⟩
     have HCY:=ah.mk (fun W hb=>ey ▸ Fz HR.o (W:=W) hb k (by omega))
     have BX:=ah.mk (bI wr (.cells #[.int .i64 x.f0,.int .u64 x.f1] 70))
     have HPA:=ah.mk (HP.o.alloc (.cells #[.int .i64 x.f0,.int .u64 x.f1] 70))
     have HBA:=ah.mk (aj HB.o (.cells #[.int .i64 x.f0,.int .u64 x.f1] 70))
     clear hx hx1 hxi eq
     cases k with
     | zero=>
       rw[show ((0+1:Nat):Int)=1 from rfl] at *
       have y0:(wr.alloc (.cells #[.int .i64 x.f0,.int .u64 x.f1] 70)).cell? ad=some (.int .i64 y.f0):=by simpa [Addr.add] using (HCY.o _ HBA.o).1
       have x0:(wr.alloc (.cells #[.int .i64 x.f0,.int .u64 x.f1] 70)).cell? ⟨wr.heap.size,0,none⟩=some (.int .i64 x.f0):=(av BX.o 0).trans rfl
       have h0':wr.cell? ⟨ad.block,ad.off+2,none⟩=some (.int .i64 x.f0):=by simpa [Addr.add] using h0
       have h1':wr.cell? ⟨ad.block,ad.off+2+1,none⟩=some (.int .u64 x.f1):=by simpa [Addr.add] using h1
       have hxi:=HXI.o
       have b3:(0:Int)<(l.length:Int):=by omega
       have b4:0<l.length:=by omega
       have hw0:IntKind.i64.wrap 0=0:=by decide
       have hw1:IntKind.i64.wrap (1-1)=0:=by decide
       clear h0 h1 ex ey
       go_wp2_with fail
       go_region_held3 (fun W=>W.cell? ⟨wr.heap.size,0,none⟩=some (.int .i64 x.f0)∧W.cell? ad=some (.int .i64 y.f0)) (first | exact⟨x0,y0⟩ | exact⟨x3,y3⟩)
        (first|(go_at_call 82;(refine (CI.o _ _ ?s1 ?s2).mono ?_);(case s1=>exact HPA.o.drew);(case s2=>exact aD HBA.o);rintro e w3 ⟨rfl,hp,hb,hk⟩;have bx3:=hk wr.heap.size _ _ HGN.o (by decide) (bg BX.o);have x3:=(av bx3 0).trans rfl;have y3:w3.cell? ad=some (.int .i64 y.f0):=(by simpa [Addr.add] using (HCY.o _ hb).1);have HP3:=ah.mk hp;have HB3:=ah.mk hb;have BX3:=ah.mk bx3;clear hp hb hk bx3))
       clear x0 y0
       have x1:w3.cell? ⟨wr.heap.size,1,none⟩=some (.int .u64 x.f1):=(av BX3.o 1).trans rfl
       have y1:w3.cell? ⟨ad.block,ad.off+1,none⟩=some (.int .u64 y.f1):=by simpa [Addr.add] using (HCY.o _ HB3.o).2
       go_wp2_with fail
       go_region_held3 (fun W=>W.cell? ⟨wr.heap.size,1,none⟩=some (.int .u64 x.f1)∧W.cell? ⟨ad.block,ad.off+1,none⟩=some (.int .u64 y.f1)) (first | exact⟨x1,y1⟩ | exact⟨x4,y4⟩)
        (first|(go_at_call 83;(refine (CX.o _ _ _ HP3.o.drew ?s4 ?s5).mono ?_);(case s4=>exact aD HB3.o);(case s5=>first | exact hxi | rfl);rintro e w4 ⟨rfl,hp,hb,hk⟩;have bx4:=hk wr.heap.size _ _ HGN.o (by decide) (bg BX3.o);have x4:w4.cell? ⟨wr.heap.size,1,none⟩=some (.int .u64 x.f1):=(av bx4 1).trans rfl;have y4:w4.cell? ⟨ad.block,ad.off+1,none⟩=some (.int .u64 y.f1):=(by simpa [Addr.add] using (HCY.o _ hb).2);have HP4:=ah.mk hp;have HB4:=ah.mk hb;clear hp hb hk bx4))
       clear x1 y1 x3 y3
       go_wp2_with fail
       go_roundw
       case rel=>
        refine⟨0+2,by omega,by go_num,⟨?_⟩,HB4⟩
        have h_:=HP4.o
        simp only[dw] at h_
        rw[show jy l (0+1)=0 from rfl,Lc] at HST
        rw[HST.o,← List.append_assoc]
        exact h_
       case measure=>simp[intOf]<;>omega
     | succ k=>
       rw[show ((k+1+1:Nat):Int)=(k:Int)+2 from by omega] at *
       obtain⟨z,ez⟩:∃ z,aR l ((k:Nat):Int)=z:=⟨_,rfl⟩
       have HSP:ah (jy l (k+1+1)=wrap64 (y.f0-z.f0)):=⟨by rw[← ey,← ez];rfl⟩
       have HCZ:=ah.mk (fun W hb=>ez ▸ Fz HR.o (W:=W) hb k (by omega))
       have y0:=(HCY.o _ HBA.o).1
       have z0:=(HCZ.o _ HBA.o).1
       have x0:(wr.alloc (.cells #[.int .i64 x.f0,.int .u64 x.f1] 70)).cell? ⟨wr.heap.size,0,none⟩=some (.int .i64 x.f0):=(av BX.o 0).trans rfl
       have hxi:=HXI.o
       have b0:(0:Int)≤(k:Int):=by omega
       have b1:(k:Int)<(l.length:Int):=by omega
       have b2:(0:Int)≤(k:Int)+1:=by omega
       have b3:(k:Int)+1<(l.length:Int):=by omega
       have hwk:IntKind.i64.wrap (k:Int)=(k:Int):=(dw _).trans (jZ (by omega) (by omega))
       have hwk1:IntKind.i64.wrap ((k:Int)+1)=(k:Int)+1:=(dw _).trans (jZ (by omega) (by omega))
       have hwk2:IntKind.i64.wrap ((k:Int)+2-1)=(k:Int)+1:=(dw _).trans ((jZ (by omega) (by omega)).trans (by omega))
       have hwk3:IntKind.i64.wrap ((k:Int)+2-2)=(k:Int):=(dw _).trans ((jZ (by omega) (by omega)).trans (by omega))
       have hn1:((k:Int)+1).toNat=k+1:=by omega
       have d0:((k:Int)+2==0)=false:=beq_eq_false_iff_ne.2 (by omega)
       have d1:((k:Int)+2==1)=false:=beq_eq_false_iff_ne.2 (by omega)
       clear ex ey ez
       go_wp2_with fail
       go_region_held3 (fun W=>W.cell? ⟨wr.heap.size,0,none⟩=some (.int .i64 x.f0)∧W.cell? (ad.add ((k+1)*2))=some (.int .i64 y.f0)∧W.cell? (ad.add (k*2))=some (.int .i64 z.f0)) (first | exact⟨x0,y0,z0⟩ | exact⟨x3,y3,z3⟩)
        (first|(go_at_call 82;(refine (CI.o _ _ ?s6 ?s7).mono ?_);(case s6=>exact HPA.o.drew);(case s7=>exact aD HBA.o);rintro e w3 ⟨rfl,hp,hb,hk⟩;have bx3:=hk wr.heap.size _ _ HGN.o (by decide) (bg BX.o);have x3:w3.cell? ⟨wr.heap.size,0,none⟩=some (.int .i64 x.f0):=(av bx3 0).trans rfl;have y3:=(HCY.o _ hb).1;have z3:=(HCZ.o _ hb).1;have HP3:=ah.mk hp;have HB3:=ah.mk hb;have BX3:=ah.mk bx3;clear hp hb hk bx3))
       clear x0 y0 z0
       have x1:w3.cell? ⟨wr.heap.size,1,none⟩=some (.int .u64 x.f1):=(av BX3.o 1).trans rfl
       have y1:=(HCY.o _ HB3.o).2
       go_wp2_with fail
       go_region_held3 (fun W=>W.cell? ⟨wr.heap.size,1,none⟩=some (.int .u64 x.f1)∧W.cell? ⟨(ad.add ((k+1)*2)).block,(ad.add ((k+1)*2)).off+1,none⟩=some (.int .u64 y.f1)) (first | exact⟨x1,y1⟩ | exact⟨x4,y4⟩)
        (first|(go_at_call 83;(refine (CX.o _ _ _ HP3.o.drew ?s9 ?s10).mono ?_);(case s9=>exact aD HB3.o);(case s10=>first | exact hxi | rfl);rintro e w4 ⟨rfl,hp,hb,hk⟩;have bx4:=hk wr.heap.size _ _ HGN.o (by decide) (bg BX3.o);have x4:w4.cell? ⟨wr.heap.size,1,none⟩=some (.int .u64 x.f1):=(av bx4 1).trans rfl;have y4:=(HCY.o _ hb).2;have HP4:=ah.mk hp;have HB4:=ah.mk hb;clear hp hb hk bx4))
       clear x1 y1 x3 y3 z3
       go_wp2_with fail
       go_roundw
       case rel=>
        refine⟨k+1+2,by omega,by go_num,⟨?_⟩,HB4⟩
        have h_:=HP4.o
        simp only[dw] at h_
        rw[← HSP.o] at h_
        rw[HST.o,← List.append_assoc]
        exact h_
       case measure=>simp[intOf]<;>omega
  ·obtain rfl:k=l.length:=by omega
   have hL7:=jr l HW.o l.length (Nat.le_refl _)
   obtain⟨L,hL⟩:∃ L,fT l l.length=L:=⟨_,rfl⟩
   rw[hL] at HP hL7
   have HEN:ah (gH l=dR l.length 2++ql L L.length):=⟨by rw[gH,hL,F5]⟩
   have HL7:ah (L.length≤4000000):=⟨by omega⟩
   obtain⟨u,hu1,hu2⟩:=HP.o
   obtain⟨A8,c8,rfl⟩:=Kd.bD hu2
   have HU1:=ah.mk hu1
   have HU2:=ah.mk hu2
   have HPF:ah (G.iD.f (l.length:Int) 2=some (dR l.length 2)):=⟨by have h_:=Kv (q:=(l.length:Int)) (by omega) (by omega) 2;rw[Qr (by omega)] at h_;exact h_⟩
   clear hu1 hu2 hL hL7
   go_wp2_with (go_at_call 34;(with_reducible refine (G.iD.calls _ _ _ _ HPF.o).mono ?_);rintro e w5 ⟨v5,rfl,hr,hb⟩;have HR5:=ah.mk hr;have HB5:=ah.mk (ak HB.o hb);have HU5:=ah.mk (Kd.bR HU2.o hb);have BK5:=ah.mk (aG HU1.o hb);have z5:w5.cell? ⟨g,0,none⟩=some (.slice A8 L.length c8):=(av BK5.o 0).trans rfl;clear hr hb)
   have HS5:ah (w.heap.size≤wr.heap.size):=⟨HB.o.size⟩
   clear HP HB HU1 HU2
   obtain⟨A7,c7,rfl⟩:=Kd.bD HR5.o
   have HR6:ah (Kd.R (Kd.int .u8) 5 w5 w.heap.size (fun _=>True) (.slice A7 (dR l.length 2).length c7) (dR l.length 2++ql L 0)):=⟨by
    rw[show dR l.length 2++ql L 0=dR l.length 2 from List.append_nil _]
    exact Kd.dW HR5.o HS5.o⟩
   go_loopw [7,91] (fun v7 i wx=>∃ j:Nat,j≤L.length∧i = .int .i64 j∧ah (Kd.R (Kd.int .u8) 5 wx w.heap.size (fun _=>True) v7 (dR l.length 2++ql L j))∧ah (Kd.R Kd.bool 4 wx w.heap.size (fun _=>True) (.slice A8 L.length c8) L)∧ah (Below w.heap.size w wx)) (fun _ i _=>L.length-(intOf i).toNat)
   case atStart=>exact⟨0,Nat.zero_le _,rfl,HR6,HU5,HB5⟩
   case round=>
    clear HR5 HR6 HU5 HB5 BK5 z5
    obtain⟨j,hj,rfl,HX,HO,HB⟩:=hrel
    have hL7:L.length≤4000000:=HL7.o
    by_cases hlt:j<L.length
    ·obtain⟨ad8,rfl,z8⟩:=Kd.LH (Kd.aX HO.o).2.2 (j:Int) (by omega) (by omega)
     rw[Int.toNat_natCast] at z8
     have hbit:Au false L (j:Int)=L.getD j false:=by simp[Au]
     rw[hbit] at z8
     have hpl:(ql L j).length=(j+7) / 8:=by have h_:=(mU L j (by omega)).1;have:=h_.le;have:=h_.near;omega
     have HXL:ah ((dR l.length 2++ql L j).length=2+(j+7) / 8):=⟨by rw[List.length_append,bJ,hpl]⟩
     obtain⟨A7,c7,e7⟩:=Kd.bD HX.o
     rw[HXL.o] at e7
     subst e7
     have HAZ:ah (dR l.length 2++iq (ql L j) j=if j % 8=0 then dR l.length 2++ql L j++[0] else dR l.length 2++ql L j):=⟨by unfold iq;split<;>simp⟩
     have HPF:=ah.mk (fun hb=>Kr (L:=L) hlt hb)
     have HPT:=ah.mk (fun hb=>ME (L:=L) (m:=2) hlt hb (dR l.length 2) (bJ _ _))
     have HAL:ah ((dR l.length 2++iq (ql L j) j).length=2+j / 8+1):=⟨by rw[List.length_append,bJ,l7 (mU L j (by omega)).1];omega⟩
     have HOB:ah (xQ (dR l.length 2++iq (ql L j) j)):=⟨fun x hx=>by
      rcases List.mem_append.1 hx with hx | hx
      ·exact dK.1 (FW _ _) x hx
      ·unfold iq at hx
       split at hx
       ·rcases List.mem_append.1 hx with hx | hx
        ·exact (mU L j (by omega)).1.bytes x hx
        ·rw[List.mem_singleton.1 hx]
         exact⟨by decide,by decide⟩
       ·exact (mU L j (by omega)).1.bytes x hx⟩
     clear hbit hpl
     generalize iq (ql L j) j=Z at *
     generalize L.getD j false=bt at *
     go_upto_if 98 with (fail)
     go_cut [7] (fun v7 wc=>ah (Kd.R (Kd.int .u8) 5 wc w.heap.size (fun _=>True) v7 (dR l.length 2++Z))∧ah (Kd.R Kd.bool 4 wc w.heap.size (fun _=>True) (.slice (some ad8) L.length c8) L)∧ah (Below w.heap.size w wc))
     case first=>
      by_cases hm:j % 8=0
      ·have hmb:((j:Int) % 8==0)=true:=beq_iff_eq.2 (by omega)
       have HE:=HAZ.o
       rw[if_pos hm] at HE
       have HE:=ah.mk HE
       clear hm
       go_wp2_with ((with_reducible refine gI (b := .append) (xs := #[.tmp 99,.tmp 100]) rfl ?_);at_builtin;refine Kd.lZ (Kd.int .u8) (w0:=w) w.heap.size rfl (.tmp 99) (.tmp 100) 24 5 (.int .u8 0) 1 rfl Tryz.underlying24 gU rfl (by decide) (by omega) (.slice A7 (2+(j+7) / 8) c7) (dR l.length 2++ql L j) 0 [.int .u8 0] (fun _=>True) (fun _=>False) rfl ?hx ?aP (fun _ hk=>hk.elim) (fun _ _=>trivial) HX.o HB.o HB.o.size ?aL ?_;(case hx=>first | rfl | (go_simp;done)|(show Value.slice _ 1 1=Value.slice _ 1 1;simp;done));(case aP=>exact rfl);(case aL=>have:=HXL.o;omega);intro v9 w9 ho hb hg9 hat;have HX9:=ah.mk ho;have HB9:=ah.mk hb;have HO9:=ah.mk (Kd.I6 HO.o HX.o (by decide) hg9);clear ho hb hg9 hat)
       go_meet
       exact⟨⟨by rw[HE.o];exact HX9.o⟩,HO9,HB9⟩
      ·have hmb:((j:Int) % 8==0)=false:=beq_eq_false_iff_ne.2 (by omega)
       have HE:=HAZ.o
       rw[if_neg hm] at HE
       have HE:=ah.mk HE
       clear hm
       go_wp2_with (fail)
       go_meet
       exact⟨⟨by rw[HE.o];exact HX.o⟩,HO,HB⟩
     case rest=>
      obtain⟨HX2,HO2,HB2⟩:=hcut
      clear HX HO HB
      cases bt with
      | false=>
        go_wp2_with fail
        go_roundw
        case rel=>exact⟨j+1,by omega,by go_num,⟨by rw[HPF.o rfl];exact HX2.o⟩,HO2,HB2⟩
        case measure=>simp[intOf]<;>omega
      | true=>
        obtain⟨s1,s2,s3⟩:=HPT.o rfl
        obtain⟨gb,c9,e9,hgb,hgl,cl,hcl⟩:=Kd.zu HX2.o (by rw[s2];omega)
        subst e9
        rw[s2] at HX2
        rw[s2]
        obtain⟨hc,hf⟩:=Kd.uK 0 HX2.o ((2+j / 8:Nat):Int) (by omega) (by omega)
        have HP:=ah.mk (Kd.DU HX2.o ((2+j / 8:Nat):Int) (Go.bits .or .u8 (Z.getD (j / 8) 0) (128 / 2 ^ (j % 8))))
        rw[show Au (0:Int) (dR l.length 2++Z) ((2+j / 8:Nat):Int)=Z.getD (j / 8) 0 from s3] at hc
        rw[Int.toNat_natCast] at hc hf HP
        rw[s1] at HP
        obtain⟨N,hN⟩:∃ N,2+j / 8=N:=⟨_,rfl⟩
        rw[hN] at hc hf HP HX2
        rw[hN]
        obtain⟨q,hq⟩:∃ q,j % 8=q:=⟨_,rfl⟩
        have hq8:q<8:=hq ▸ Nat.mod_lt _ (by decide)
        have hqi:(j:Int) % 8=(q:Int):=by omega
        rw[hq] at HP
        have hN0:(0:Int)≤(N:Int):=by omega
        have hN1:(N:Int)<(N:Int)+1:=by omega
        have hNw:IntKind.i64.wrap (N:Int)=(N:Int):=(dw _).trans (jZ (by omega) (by omega))
        clear s1 s2 s3 hN hq
        clear HPT
        generalize Z.getD (j / 8) 0=ov at *
        go_wp2_with fail
        go_region
        all_goals
         go_wp2_with fail
         go_roundw
         case rel=>exact⟨j+1,by omega,by go_num,⟨Kd.nK HP.o.1⟩,⟨Kd.nK (Kd.I6 HO2.o HX2.o (by decide) HP.o.2)⟩,⟨aD (HB2.o.setCell (p:=⟨gb,N,none⟩) hgb _)⟩⟩
         case measure=>simp[intOf]<;>omega
    ·obtain rfl:j=L.length:=by omega
     obtain⟨A7,c7,e7⟩:=Kd.bD HX.o
     subst e7
     go_wp2_with fail
     refine bodyPost_ret (results_tmp2 rfl _ _ _) rfl ?_
     refine⟨_,rfl,?_,HB.o⟩
     rw[HEN.o]
     exact HX.o
def pV (x:cB):Bool:=dV x.f0&&(!decide (x.f1.length=0)&&iT x.f1)
def AU (l:List cB) (k:Nat):Bool:=pV (aK l (k:Int))&&(decide (k=0)||decide (cmpL (aK l ((k-1:Nat):Int)).f0 (aK l (k:Int)).f0<0))
def gQ (l:List cB):Bool:=(List.range l.length).all (AU l)
theorem BD {l:List cB} {k:Nat} (hk:k<l.length) (h:AU l k=false):gQ l=false:=by
 rw[gQ,List.all_eq_false]
 exact⟨k,List.mem_range.2 hk,by rw[h];simp⟩
theorem zF {l:List cB} (h:∀ j,j<l.length→AU l j=true):gQ l=true:=by
 rw[gQ]
 simp only[List.all_eq_true,List.mem_range]
 exact h
theorem vL {l:List cB} (h:gQ l=true):∀ j,j<l.length→AU l j=true:=by
 rw[gQ] at h
 simpa only[List.all_eq_true,List.mem_range] using h
theorem nu {l:List cB} {k:Nat} (h:pV (aK l (k:Int))=false):AU l k=false:=by rw[AU,h];rfl
theorem wQ {l:List cB} (h:pV (aK l ((0:Nat):Int))=true):AU l 0=true:=by rw[AU,h];rfl
theorem CW {l:List cB} {k:Nat} (h:pV (aK l ((k+1:Nat):Int))=true):AU l (k+1)=decide (cmpL (aK l (k:Int)).f0 (aK l ((k+1:Nat):Int)).f0<0):=by
 rw[AU,h]
 simp
theorem xE {l:List cB} {k:Nat} (h:∀ j,j<k→AU l j=true) (hk:AU l k=true):∀ j,j<k+1→AU l j=true:=fun j hj=>by
 rcases Nat.lt_or_ge j k with h1 | h1
 ·exact h j h1
 ·obtain rfl:j=k:=by omega
  exact hk
theorem zG {x:cB} (h:dV x.f0=false):pV x=false:=by rw[pV,h];rfl
theorem zH {x:cB} (h:x.f1.length=0):pV x=false:=by rw[pV,decide_eq_true h];simp
theorem zI {x:cB} (h:iT x.f1=false):pV x=false:=by rw[pV,h];simp
theorem qB {x:cB} (h:dV x.f0=true) (h0:¬ x.f1.length=0) (h1:iT x.f1=true):pV x=true:=by rw[pV,h,h1,decide_eq_false h0];rfl
theorem mV (l:List cB) (k:Nat) (h:k<l.length):aK l (k:Int)∈l:=by
 have e:aK l (k:Int)=l[k]:=by simp[aK,List.getD_eq_getElem?_getD,List.getElem?_eq_getElem h]
 rw[e]
 exact List.getElem_mem h
def Hq (l:List cB):Prop:=∀ x∈l,Ey x.f0∧x.f0.length≤1000000∧x.f1.length≤1000000∧∀ s∈x.f1,sD s
theorem Fy.calls (A:Option Addr) (c n:Nat) (l:List bN) (b:Bool) (w:World) (hn:l.length=n) (hr:Kd.C jg w A n l) (hc:n≤c) (hl:n≤1000000) (h:iT l=b) :
 Calls Tryz.prog 88 #[.slice A n c] w fun e w'=>e = .returned (.bool b)∧Below w.heap.size w w':=by
 subst hn
 exact (bO.calls (l.length+2) A c l b w hr hc (by rw[Jw l (by omega) _ (by omega),h])).mono fun e w' ⟨he,hd⟩=>⟨he,hd.below⟩
theorem Ar.calls (A:Option Addr) (c n:Nat) (l:List bN) (b:Bool) (w:World) (hn:l.length=n) (hr:Kd.C jg w A n l) (hc:n≤c) (hl:n≤1000000) (h:iT l=b) :
 Calls Tryz.prog 68 #[.slice A n c] w fun e w'=>e = .returned (.bool b)∧Below w.heap.size w w':=by
 subst hn
 exact (bn.calls (l.length+2) A c l b w hr hc (by rw[EG l (by omega) _ (by omega),h])).mono fun e w' ⟨he,hd⟩=>⟨he,hd.below⟩
theorem dV.bS (A:Option Addr) (c n:Nat) (l:List eP) (b:Bool) (w:World) (hn:l.length=n) (hr:Kd.C iM w A n l) (hc:n≤c) (h:dV l=b) :
 Calls Tryz.prog 87 #[.slice A n c] w fun e w'=>e = .returned (.bool b)∧Below w.heap.size w w':=h ▸ dV.calls A c n l w hn hr hc
theorem yX.bS (A:Option Addr) (c n:Nat) (l:List eP) (b:Bool) (w:World) (hn:l.length=n) (hr:Kd.C iM w A n l) (hc:n≤c) (hok:Ey l) (h:dV l=b) :
 Calls Tryz.prog 67 #[.slice A n c] w fun e w'=>e = .returned (.bool b)∧Below w.heap.size w w':=h ▸ yX.calls A c n l w hn hr hc hok
theorem gQ.calls (A:Option Addr) (c n:Nat) (l:List cB) (w:World) (hn:l.length=n) (hr:Kd.C mK w A n l) (hc:n≤c) (hok:Hq l) (hl:n≤1000000) :
 Calls Tryz.prog 53 #[.slice A n c] w fun e w'=>e = .returned (.bool (gQ l))∧Below w.heap.size w w':=by
 subst hn
 have HR:=ah.mk hr
 have HK:=ah.mk hok
 clear hr hc hok
 go_enter Tryz.func53,Tryz.ntmps53
 go_wp2
 go_loopw [7] (fun i wr=>∃ (k:Nat),k≤l.length∧i = .int .i64 k∧ah (∀ j,j<k→AU l j=true)∧ah (Below w.heap.size w wr)) (fun i _=>l.length-(intOf i).toNat)
 case atStart=>exact⟨0,Nat.zero_le _,rfl,⟨fun j hj=>by omega⟩,⟨Below.refl _ _⟩⟩
 case round=>
  obtain⟨k,hk,rfl,HO,HB⟩:=hrel
  by_cases hlt:k<l.length
  ·have hC:=Kd.aH HR.o HB.o
   obtain⟨ad,A0,c0,A1,c1,rfl,e0,e1,l0,g0,l1,g1⟩:=iR hC (k:Int) (by omega) (by omega)
   rw[Int.toNat_natCast] at e0 e1
   have HBAD:=ah.mk (fun h=>BD (l:=l) (k:=k) hlt h)
   have HS:=ah.mk (fun h=>xE (l:=l) (k:=k) HO.o h)
   have HSZ:=ah.mk (HK.o _ (mV l k hlt))
   cases k with
   | zero=>
     obtain⟨x,ex⟩:∃ x,aK l ((0:Nat):Int)=x:=⟨_,rfl⟩
     have EX:=ah.mk ex
     rw[ex] at e0 e1 HSZ g0 l0 g1 l1
     have G0:=ah.mk g0
     have L0:=ah.mk l0
     have G1:=ah.mk g1
     have L1:=ah.mk l1
     clear hC ex g0 l0 g1 l1
     have e0z:wr.cell? ad=some (.slice A0 x.f0.length c0):=by simpa [Addr.add] using e0
     have e1z:wr.cell? ⟨ad.block,ad.off+1,none⟩=some (.slice A1 x.f1.length c1):=by simpa [Addr.add] using e1
     clear e0 e1
     have HBA:=ah.mk (aj HB.o (.cells #[.slice A0 x.f0.length c0,.slice A1 x.f1.length c1] 51 (0,0)))
     have HBK:=ah.mk (bI wr (.cells #[.slice A0 x.f0.length c0,.slice A1 x.f1.length c1] 51 (0,0)))
     have HW:=ah.mk (aj (Below.refl wr.heap.size wr) (.cells #[.slice A0 x.f0.length c0,.slice A1 x.f1.length c1] 51 (0,0)))
     have hxl:x.f1.length≤1000000:=HSZ.o.2.2.1
     cases h1:dV x.f0 with
     | false=>
       have HF:ah (gQ l=false):=⟨HBAD.o (nu (EX.o ▸ zG h1))⟩
       have C1:=ah.mk (fun W (hb:Below wr.heap.size wr W)=>dV.bS A0 c0 _ x.f0 false W rfl (Kd.aH G0.o hb) L0.o h1)
       clear h1
       go_wp2_with (first|(go_at_call 87;(with_reducible refine (C1.o _ HW.o).mono ?_);rintro e w1 ⟨rfl,hb⟩;have HB1:=ah.mk (ak HBA.o hb);have HW1:=ah.mk (ak HW.o hb);have HBK1:=ah.mk (aG HBK.o hb);have b1:=(av HBK1.o 1).trans rfl;clear hb))
       go_wp2
       go_ret
       exact⟨by rw[HF.o];rfl,HB1.o⟩
     | true=>
       have C1:=ah.mk (fun W (hb:Below wr.heap.size wr W)=>dV.bS A0 c0 _ x.f0 true W rfl (Kd.aH G0.o hb) L0.o h1)
       by_cases h2:x.f1.length=0
       ·have HF:ah (gQ l=false):=⟨HBAD.o (nu (EX.o ▸ zH h2))⟩
        have h2i:((x.f1.length:Int)==0)=true:=beq_iff_eq.2 (by omega)
        clear h1 h2
        go_wp2_with (first|(go_at_call 87;(with_reducible refine (C1.o _ HW.o).mono ?_);rintro e w1 ⟨rfl,hb⟩;have HB1:=ah.mk (ak HBA.o hb);have HW1:=ah.mk (ak HW.o hb);have HBK1:=ah.mk (aG HBK.o hb);have b1:=(av HBK1.o 1).trans rfl;clear hb))
        go_wp2
        go_ret
        exact⟨by rw[HF.o];rfl,HB1.o⟩
       ·have h2i:((x.f1.length:Int)==0)=false:=beq_eq_false_iff_ne.2 (by omega)
        cases h3:iT x.f1 with
        | false=>
          have HF:ah (gQ l=false):=⟨HBAD.o (nu (EX.o ▸ zI h3))⟩
          have C2:=ah.mk (fun W (hb:Below wr.heap.size wr W)=>Fy.calls A1 c1 _ x.f1 false W rfl (Kd.aH G1.o hb) L1.o HSZ.o.2.2.1 h3)
          clear h1 h2 h3
          go_wp2_with (first|(go_at_call 87;(with_reducible refine (C1.o _ HW.o).mono ?_);rintro e w1 ⟨rfl,hb⟩;have HB1:=ah.mk (ak HBA.o hb);have HW1:=ah.mk (ak HW.o hb);have HBK1:=ah.mk (aG HBK.o hb);have b1:=(av HBK1.o 1).trans rfl;clear hb)|(go_at_call 88;(with_reducible refine (C2.o _ HW1.o).mono ?_);rintro e w2 ⟨rfl,hb⟩;have HB2:=ah.mk (ak HB1.o hb);have HW2:=ah.mk (ak HW1.o hb);have HBK2:=ah.mk (aG HBK1.o hb);clear hb))
          go_wp2
          go_ret
          exact⟨by rw[HF.o];rfl,HB2.o⟩
        | true=>
          have C2:=ah.mk (fun W (hb:Below wr.heap.size wr W)=>Fy.calls A1 c1 _ x.f1 true W rfl (Kd.aH G1.o hb) L1.o HSZ.o.2.2.1 h3)
          have HG:=ah.mk (HS.o (wQ (EX.o ▸ qB h1 h2 h3)))
          clear h1 h2 h3
          go_wp2_with (first|(go_at_call 87;(with_reducible refine (C1.o _ HW.o).mono ?_);rintro e w1 ⟨rfl,hb⟩;have HB1:=ah.mk (ak HBA.o hb);have HW1:=ah.mk (ak HW.o hb);have HBK1:=ah.mk (aG HBK.o hb);have b1:=(av HBK1.o 1).trans rfl;clear hb)|(go_at_call 88;(with_reducible refine (C2.o _ HW1.o).mono ?_);rintro e w2 ⟨rfl,hb⟩;have HB2:=ah.mk (ak HB1.o hb);have HW2:=ah.mk (ak HW1.o hb);have HBK2:=ah.mk (aG HBK1.o hb);clear hb))
          have aA:=BW.cell ((av HBK2.o 0).trans rfl)
          go_wp2_with fail
          refine bT (by kernel_rfl) (by kernel_rfl) ?_
          repeat (any_goals (first | go_big_quiet_step (fail)|quiet_step (fail)))
          all_goals (refine wpQuiet_nil ?_;intro _ hw';obtain⟨⟨w3,hb⟩,hw''⟩:=hw';subst hw'';have HB3:=ah.mk (ak HB2.o hb);clear hb)
          go_wp2
          go_roundw
          case rel=>exact⟨0+1,by omega,by go_num,HG,HB3⟩
          case measure=>simp[intOf]<;>omega
   | succ k=>
     obtain⟨ad_,B0,d0,B1,d1,ea,q0,q1,m0,n0,m1,n1⟩:=iR hC ((k:Nat):Int) (by omega) (by omega)
     obtain rfl:=Option.some.inj ea
     rw[Int.toNat_natCast] at q0 q1
     have HSY:=ah.mk (HK.o _ (mV l k (by omega)))
     obtain⟨x,ex⟩:∃ x,aK l ((k+1:Nat):Int)=x:=⟨_,rfl⟩
     obtain⟨y,ey⟩:∃ y,aK l ((k:Nat):Int)=y:=⟨_,rfl⟩
     have EY:=ah.mk ey
     rw[ey] at q0 q1 n0 m0 HSY
     have N0:=ah.mk n0
     have M0:=ah.mk m0
     clear n0 m0 m1 n1 q1
     have EX:=ah.mk ex
     rw[ex] at e0 e1 HSZ g0 l0 g1 l1
     have G0:=ah.mk g0
     have L0:=ah.mk l0
     have G1:=ah.mk g1
     have L1:=ah.mk l1
     clear hC ex g0 l0 g1 l1 ey ea
     have HBA:=ah.mk (aj HB.o (.cells #[.slice A0 x.f0.length c0,.slice A1 x.f1.length c1] 51 (0,0)))
     have HBK:=ah.mk (bI wr (.cells #[.slice A0 x.f0.length c0,.slice A1 x.f1.length c1] 51 (0,0)))
     have HW:=ah.mk (aj (Below.refl wr.heap.size wr) (.cells #[.slice A0 x.f0.length c0,.slice A1 x.f1.length c1] 51 (0,0)))
     have hxl:x.f1.length≤1000000:=HSZ.o.2.2.1
     have q0a:=jS (.cells #[.slice A0 x.f0.length c0,.slice A1 x.f1.length c1] 51 (0,0)) q0
     rw[show ((k+1:Nat):Int)=(k:Int)+1 from by omega] at *
     have gg0:decide ((0:Int)<(k:Int)+1)=true:=decide_eq_true (by omega)
     have hwk:IntKind.i64.wrap ((k:Int)+1-1)=(k:Int):=by rw[IntKind.wrap_i64];omega
     have gg1:(0:Int)≤(k:Int):=by omega
     have gg2:(k:Int)<(l.length:Int):=by omega
     cases h1:dV x.f0 with
     | false=>
       have HF:ah (gQ l=false):=⟨HBAD.o (nu (EX.o ▸ zG h1))⟩
       have C1:=ah.mk (fun W (hb:Below wr.heap.size wr W)=>dV.bS A0 c0 _ x.f0 false W rfl (Kd.aH G0.o hb) L0.o h1)
       clear h1
       go_wp2_with (first|(go_at_call 87;(with_reducible refine (C1.o _ HW.o).mono ?_);rintro e w1 ⟨rfl,hb⟩;have HB1:=ah.mk (ak HBA.o hb);have HW1:=ah.mk (ak HW.o hb);have HBK1:=ah.mk (aG HBK.o hb);have b1:=(av HBK1.o 1).trans rfl;clear hb))
       go_wp2
       go_ret
       exact⟨by rw[HF.o];rfl,HB1.o⟩
     | true=>
       have C1:=ah.mk (fun W (hb:Below wr.heap.size wr W)=>dV.bS A0 c0 _ x.f0 true W rfl (Kd.aH G0.o hb) L0.o h1)
       by_cases h2:x.f1.length=0
       ·have HF:ah (gQ l=false):=⟨HBAD.o (nu (EX.o ▸ zH h2))⟩
        have h2i:((x.f1.length:Int)==0)=true:=beq_iff_eq.2 (by omega)
        clear h1 h2
        go_wp2_with (first|(go_at_call 87;(with_reducible refine (C1.o _ HW.o).mono ?_);rintro e w1 ⟨rfl,hb⟩;have HB1:=ah.mk (ak HBA.o hb);have HW1:=ah.mk (ak HW.o hb);have HBK1:=ah.mk (aG HBK.o hb);have b1:=(av HBK1.o 1).trans rfl;clear hb))
        go_wp2
        go_ret
        exact⟨by rw[HF.o];rfl,HB1.o⟩
       ·have h2i:((x.f1.length:Int)==0)=false:=beq_eq_false_iff_ne.2 (by omega)
        cases h3:iT x.f1 with
        | false=>
          have HF:ah (gQ l=false):=⟨HBAD.o (nu (EX.o ▸ zI h3))⟩
          have C2:=ah.mk (fun W (hb:Below wr.heap.size wr W)=>Fy.calls A1 c1 _ x.f1 false W rfl (Kd.aH G1.o hb) L1.o HSZ.o.2.2.1 h3)
          clear h1 h2 h3
          go_wp2_with (first|(go_at_call 87;(with_reducible refine (C1.o _ HW.o).mono ?_);rintro e w1 ⟨rfl,hb⟩;have HB1:=ah.mk (ak HBA.o hb);have HW1:=ah.mk (ak HW.o hb);have HBK1:=ah.mk (aG HBK.o hb);have b1:=(av HBK1.o 1).trans rfl;clear hb)|(go_at_call 88;(with_reducible refine (C2.o _ HW1.o).mono ?_);rintro e w2 ⟨rfl,hb⟩;have HB2:=ah.mk (ak HB1.o hb);have HW2:=ah.mk (ak HW1.o hb);have HBK2:=ah.mk (aG HBK1.o hb);clear hb))
          go_wp2
          go_ret
          exact⟨by rw[HF.o];rfl,HB2.o⟩
        | true=>
          have C2:=ah.mk (fun W (hb:Below wr.heap.size wr W)=>Fy.calls A1 c1 _ x.f1 true W rfl (Kd.aH G1.o hb) L1.o HSZ.o.2.2.1 h3)
          have HQ:=CW (l:=l) (k:=k) (by rw[show ((k+1:Nat):Int)=(k:Int)+1 from by omega,EX.o];exact qB h1 h2 h3)
          rw[show ((k+1:Nat):Int)=(k:Int)+1 from by omega,EX.o,EY.o] at HQ
          have C3:=ah.mk (fun W (hb:Below wr.heap.size wr W)=>cmpL.calls B0 A0 d0 c0 _ _ y.f0 x.f0 W rfl rfl (Kd.aH N0.o hb) (Kd.aH G0.o hb) HSY.o.2.1)
          clear h1 h2 h3
          by_cases hd:cmpL y.f0 x.f0<0
          ·have HG:=ah.mk (HS.o (by rw[HQ,decide_eq_true hd]))
           have hd1:decide ((0:Int)≤cmpL y.f0 x.f0)=false:=decide_eq_false (by omega)
           clear HQ hd
           go_wp2_with (first|(go_at_call 87;(with_reducible refine (C1.o _ HW.o).mono ?_);rintro e w1 ⟨rfl,hb⟩;have HB1:=ah.mk (ak HBA.o hb);have HW1:=ah.mk (ak HW.o hb);have HBK1:=ah.mk (aG HBK.o hb);have b1:=(av HBK1.o 1).trans rfl;clear hb)|(go_at_call 88;(with_reducible refine (C2.o _ HW1.o).mono ?_);rintro e w2 ⟨rfl,hb⟩;have HB2:=ah.mk (ak HB1.o hb);have HW2:=ah.mk (ak HW1.o hb);have HBK2:=ah.mk (aG HBK1.o hb);clear hb))
           have aA:=BW.cell ((av HBK2.o 0).trans rfl)
           have pA:=BW.cell (aV HW2.o q0)
           go_wp2_with fail
           refine bT (by kernel_rfl) (by kernel_rfl) ?_
           repeat (any_goals (first | go_big_quiet_step ((go_at_call 71;refine bX (C3.o _ ?_);exact ak HW2.o (BW.hb _)))|quiet_step ((go_at_call 71;refine bX (C3.o _ ?_);exact ak HW2.o (BW.hb _)))))
           all_goals (refine wpQuiet_nil ?_;intro _ hw';obtain⟨⟨w3,hb⟩,hw''⟩:=hw';subst hw'';have HB3:=ah.mk (ak HB2.o hb);clear hb)
           go_wp2
           go_roundw
           case rel=>exact⟨k+1+1,by omega,by go_num,HG,HB3⟩
           case measure=>simp[intOf]<;>omega
          ·have HF:ah (gQ l=false):=⟨HBAD.o (by rw[HQ,decide_eq_false hd])⟩
           have hd1:decide ((0:Int)≤cmpL y.f0 x.f0)=true:=decide_eq_true (by omega)
           clear HQ hd
           go_wp2_with (first|(go_at_call 87;(with_reducible refine (C1.o _ HW.o).mono ?_);rintro e w1 ⟨rfl,hb⟩;have HB1:=ah.mk (ak HBA.o hb);have HW1:=ah.mk (ak HW.o hb);have HBK1:=ah.mk (aG HBK.o hb);have b1:=(av HBK1.o 1).trans rfl;clear hb)|(go_at_call 88;(with_reducible refine (C2.o _ HW1.o).mono ?_);rintro e w2 ⟨rfl,hb⟩;have HB2:=ah.mk (ak HB1.o hb);have HW2:=ah.mk (ak HW1.o hb);have HBK2:=ah.mk (aG HBK1.o hb);clear hb))
           have aA:=BW.cell ((av HBK2.o 0).trans rfl)
           have pA:=BW.cell (aV HW2.o q0)
           go_wp2_with fail
           refine bT (by kernel_rfl) (by kernel_rfl) ?_
           repeat (any_goals (first | go_big_quiet_step ((go_at_call 71;refine bX (C3.o _ ?_);exact ak HW2.o (BW.hb _)))|quiet_step ((go_at_call 71;refine bX (C3.o _ ?_);exact ak HW2.o (BW.hb _)))))
           all_goals (refine wpQuiet_nil ?_;intro _ hw';obtain⟨⟨w3,hb⟩,hw''⟩:=hw';subst hw'';have HB3:=ah.mk (ak HB2.o hb);clear hb)
           go_wp2
           go_ret
           exact⟨by rw[HF.o];rfl,HB3.o⟩
  ·obtain rfl:k=l.length:=by omega
   have HF:ah (gQ l=true):=⟨zF HO.o⟩
   go_wp2
   go_ret
   exact⟨by rw[HF.o];rfl,HB.o⟩
theorem PN.calls (A:Option Addr) (c n:Nat) (l:List cB) (w:World) (hn:l.length=n) (hr:Kd.C mK w A n l) (hc:n≤c) (hok:Hq l) (hl:n≤1000000) :
 Calls Tryz.prog 35 #[.slice A n c] w fun e w'=>e = .returned (.bool (gQ l))∧Below w.heap.size w w':=by
 subst hn
 have HR:=ah.mk hr
 have HK:=ah.mk hok
 clear hr hc hok
 go_enter Tryz.func35,Tryz.ntmps35
 go_wp2
 go_loopw [7] (fun i wr=>∃ (k:Nat),k≤l.length∧i = .int .i64 k∧ah (∀ j,j<k→AU l j=true)∧ah (Below w.heap.size w wr)) (fun i _=>l.length-(intOf i).toNat)
 case atStart=>exact⟨0,Nat.zero_le _,rfl,⟨fun j hj=>by omega⟩,⟨Below.refl _ _⟩⟩
 case round=>
  obtain⟨k,hk,rfl,HO,HB⟩:=hrel
  by_cases hlt:k<l.length
  ·have hC:=Kd.aH HR.o HB.o
   obtain⟨ad,A0,c0,A1,c1,rfl,e0,e1,l0,g0,l1,g1⟩:=iR hC (k:Int) (by omega) (by omega)
   rw[Int.toNat_natCast] at e0 e1
   have HBAD:=ah.mk (fun h=>BD (l:=l) (k:=k) hlt h)
   have HS:=ah.mk (fun h=>xE (l:=l) (k:=k) HO.o h)
   have HSZ:=ah.mk (HK.o _ (mV l k hlt))
   cases k with
   | zero=>
     obtain⟨x,ex⟩:∃ x,aK l ((0:Nat):Int)=x:=⟨_,rfl⟩
     have EX:=ah.mk ex
     rw[ex] at e0 e1 HSZ g0 l0 g1 l1
     have G0:=ah.mk g0
     have L0:=ah.mk l0
     have G1:=ah.mk g1
     have L1:=ah.mk l1
     clear hC ex g0 l0 g1 l1
     have e0z:wr.cell? ad=some (.slice A0 x.f0.length c0):=by simpa [Addr.add] using e0
     have e1z:wr.cell? ⟨ad.block,ad.off+1,none⟩=some (.slice A1 x.f1.length c1):=by simpa [Addr.add] using e1
     clear e0 e1
     have HBA:=ah.mk (aj HB.o (.cells #[.slice A0 x.f0.length c0,.slice A1 x.f1.length c1] 51 (0,0)))
     have HBK:=ah.mk (bI wr (.cells #[.slice A0 x.f0.length c0,.slice A1 x.f1.length c1] 51 (0,0)))
     have HW:=ah.mk (aj (Below.refl wr.heap.size wr) (.cells #[.slice A0 x.f0.length c0,.slice A1 x.f1.length c1] 51 (0,0)))
     have hxl:x.f1.length≤1000000:=HSZ.o.2.2.1
     have aA:=BW.cell ((av HBK.o 0).trans rfl)
     have bA:=BW.cell ((av HBK.o 1).trans rfl)
     cases h1:dV x.f0 with
     | false=>
       have HF:ah (gQ l=false):=⟨HBAD.o (nu (EX.o ▸ zG h1))⟩
       have C1:=ah.mk (fun W (hb:Below wr.heap.size wr W)=>yX.bS A0 c0 _ x.f0 false W rfl (Kd.aH G0.o hb) L0.o HSZ.o.1 h1)
       clear h1
       go_wp2_with fail
       refine bT (by kernel_rfl) (by kernel_rfl) ?_
       repeat (any_goals (first | go_big_quiet_step (first|(go_at_call 67;refine bX (C1.o _ ?_);exact ak HW.o (BW.hb _)))|quiet_step (first|(go_at_call 67;refine bX (C1.o _ ?_);exact ak HW.o (BW.hb _)))))
       all_goals (refine wpQuiet_nil ?_;intro _ hw';obtain⟨⟨w2,hb⟩,hw''⟩:=hw';subst hw'';have HB2:=ah.mk (ak HBA.o hb);clear hb)
       go_wp2
       go_ret
       exact⟨by rw[HF.o];rfl,HB2.o⟩
     | true=>
       have C1:=ah.mk (fun W (hb:Below wr.heap.size wr W)=>yX.bS A0 c0 _ x.f0 true W rfl (Kd.aH G0.o hb) L0.o HSZ.o.1 h1)
       by_cases h2:x.f1.length=0
       ·have HF:ah (gQ l=false):=⟨HBAD.o (nu (EX.o ▸ zH h2))⟩
        have h2i:((x.f1.length:Int)==0)=true:=beq_iff_eq.2 (by omega)
        clear h1 h2
        go_wp2_with fail
        refine bT (by kernel_rfl) (by kernel_rfl) ?_
        repeat (any_goals (first | go_big_quiet_step (first|(go_at_call 67;refine bX (C1.o _ ?_);exact ak HW.o (BW.hb _)))|quiet_step (first|(go_at_call 67;refine bX (C1.o _ ?_);exact ak HW.o (BW.hb _)))))
        all_goals (refine wpQuiet_nil ?_;intro _ hw';obtain⟨⟨w2,hb⟩,hw''⟩:=hw';subst hw'';have HB2:=ah.mk (ak HBA.o hb);clear hb)
        go_wp2
        go_ret
        exact⟨by rw[HF.o];rfl,HB2.o⟩
       ·have h2i:((x.f1.length:Int)==0)=false:=beq_eq_false_iff_ne.2 (by omega)
        cases h3:iT x.f1 with
        | false=>
          have HF:ah (gQ l=false):=⟨HBAD.o (nu (EX.o ▸ zI h3))⟩
          have C2:=ah.mk (fun W (hb:Below wr.heap.size wr W)=>Ar.calls A1 c1 _ x.f1 false W rfl (Kd.aH G1.o hb) L1.o HSZ.o.2.2.1 h3)
          clear h1 h2 h3
          go_wp2_with fail
          refine bT (by kernel_rfl) (by kernel_rfl) ?_
          repeat (any_goals (first | go_big_quiet_step (first|(go_at_call 67;refine bX (C1.o _ ?_);exact ak HW.o (BW.hb _))|(go_at_call 68;refine bX (C2.o _ ?_);exact ak HW.o (BW.hb _)))|quiet_step (first|(go_at_call 67;refine bX (C1.o _ ?_);exact ak HW.o (BW.hb _))|(go_at_call 68;refine bX (C2.o _ ?_);exact ak HW.o (BW.hb _)))))
          all_goals (refine wpQuiet_nil ?_;intro _ hw';obtain⟨⟨w2,hb⟩,hw''⟩:=hw';subst hw'';have HB2:=ah.mk (ak HBA.o hb);clear hb)
          go_wp2
          go_ret
          exact⟨by rw[HF.o];rfl,HB2.o⟩
        | true=>
          have C2:=ah.mk (fun W (hb:Below wr.heap.size wr W)=>Ar.calls A1 c1 _ x.f1 true W rfl (Kd.aH G1.o hb) L1.o HSZ.o.2.2.1 h3)
          have HG:=ah.mk (HS.o (wQ (EX.o ▸ qB h1 h2 h3)))
          clear h1 h2 h3
          go_wp2_with fail
          refine bT (by kernel_rfl) (by kernel_rfl) ?_
          repeat (any_goals (first | go_big_quiet_step (first|(go_at_call 67;refine bX (C1.o _ ?_);exact ak HW.o (BW.hb _))|(go_at_call 68;refine bX (C2.o _ ?_);exact ak HW.o (BW.hb _)))|quiet_step (first|(go_at_call 67;refine bX (C1.o _ ?_);exact ak HW.o (BW.hb _))|(go_at_call 68;refine bX (C2.o _ ?_);exact ak HW.o (BW.hb _)))))
          all_goals (refine wpQuiet_nil ?_;intro _ hw';obtain⟨⟨w2,hb⟩,hw''⟩:=hw';subst hw'';have HB2:=ah.mk (ak HBA.o hb);clear hb)
          go_wp2
          go_roundw
          case rel=>exact⟨0+1,by omega,by go_num,HG,HB2⟩
          case measure=>simp[intOf]<;>omega
   | succ k=>
     obtain⟨ad_,B0,d0,B1,d1,ea,q0,q1,m0,n0,m1,n1⟩:=iR hC ((k:Nat):Int) (by omega) (by omega)
     obtain rfl:=Option.some.inj ea
     rw[Int.toNat_natCast] at q0 q1
     have HSY:=ah.mk (HK.o _ (mV l k (by omega)))
     obtain⟨x,ex⟩:∃ x,aK l ((k+1:Nat):Int)=x:=⟨_,rfl⟩
     obtain⟨y,ey⟩:∃ y,aK l ((k:Nat):Int)=y:=⟨_,rfl⟩
     have EY:=ah.mk ey
     rw[ey] at q0 q1 n0 m0 HSY
     have N0:=ah.mk n0
     have M0:=ah.mk m0
     clear n0 m0 m1 n1 q1
     have EX:=ah.mk ex
     rw[ex] at e0 e1 HSZ g0 l0 g1 l1
     have G0:=ah.mk g0
     have L0:=ah.mk l0
     have G1:=ah.mk g1
     have L1:=ah.mk l1
     clear hC ex g0 l0 g1 l1 ey ea
     have HBA:=ah.mk (aj HB.o (.cells #[.slice A0 x.f0.length c0,.slice A1 x.f1.length c1] 51 (0,0)))
     have HBK:=ah.mk (bI wr (.cells #[.slice A0 x.f0.length c0,.slice A1 x.f1.length c1] 51 (0,0)))
     have HW:=ah.mk (aj (Below.refl wr.heap.size wr) (.cells #[.slice A0 x.f0.length c0,.slice A1 x.f1.length c1] 51 (0,0)))
     have hxl:x.f1.length≤1000000:=HSZ.o.2.2.1
     have q0a:=jS (.cells #[.slice A0 x.f0.length c0,.slice A1 x.f1.length c1] 51 (0,0)) q0
     rw[show ((k+1:Nat):Int)=(k:Int)+1 from by omega] at *
     have gg0:decide ((0:Int)<(k:Int)+1)=true:=decide_eq_true (by omega)
     have hwk:IntKind.i64.wrap ((k:Int)+1-1)=(k:Int):=by rw[IntKind.wrap_i64];omega
     have gg1:(0:Int)≤(k:Int):=by omega
     have gg2:(k:Int)<(l.length:Int):=by omega
     have aA:=BW.cell ((av HBK.o 0).trans rfl)
     have bA:=BW.cell ((av HBK.o 1).trans rfl)
     have pA:=BW.cell q0a
     cases h1:dV x.f0 with
     | false=>
       have HF:ah (gQ l=false):=⟨HBAD.o (nu (EX.o ▸ zG h1))⟩
       have C1:=ah.mk (fun W (hb:Below wr.heap.size wr W)=>yX.bS A0 c0 _ x.f0 false W rfl (Kd.aH G0.o hb) L0.o HSZ.o.1 h1)
       clear h1
       go_wp2_with fail
       refine bT (by kernel_rfl) (by kernel_rfl) ?_
       repeat (any_goals (first | go_big_quiet_step (first|(go_at_call 67;refine bX (C1.o _ ?_);exact ak HW.o (BW.hb _)))|quiet_step (first|(go_at_call 67;refine bX (C1.o _ ?_);exact ak HW.o (BW.hb _)))))
       all_goals (refine wpQuiet_nil ?_;intro _ hw';obtain⟨⟨w2,hb⟩,hw''⟩:=hw';subst hw'';have HB2:=ah.mk (ak HBA.o hb);clear hb)
       go_wp2
       go_ret
       exact⟨by rw[HF.o];rfl,HB2.o⟩
     | true=>
       have C1:=ah.mk (fun W (hb:Below wr.heap.size wr W)=>yX.bS A0 c0 _ x.f0 true W rfl (Kd.aH G0.o hb) L0.o HSZ.o.1 h1)
       by_cases h2:x.f1.length=0
       ·have HF:ah (gQ l=false):=⟨HBAD.o (nu (EX.o ▸ zH h2))⟩
        have h2i:((x.f1.length:Int)==0)=true:=beq_iff_eq.2 (by omega)
        clear h1 h2
        go_wp2_with fail
        refine bT (by kernel_rfl) (by kernel_rfl) ?_
        repeat (any_goals (first | go_big_quiet_step (first|(go_at_call 67;refine bX (C1.o _ ?_);exact ak HW.o (BW.hb _)))|quiet_step (first|(go_at_call 67;refine bX (C1.o _ ?_);exact ak HW.o (BW.hb _)))))
        all_goals (refine wpQuiet_nil ?_;intro _ hw';obtain⟨⟨w2,hb⟩,hw''⟩:=hw';subst hw'';have HB2:=ah.mk (ak HBA.o hb);clear hb)
        go_wp2
        go_ret
        exact⟨by rw[HF.o];rfl,HB2.o⟩
       ·have h2i:((x.f1.length:Int)==0)=false:=beq_eq_false_iff_ne.2 (by omega)
        cases h3:iT x.f1 with
        | false=>
          have HF:ah (gQ l=false):=⟨HBAD.o (nu (EX.o ▸ zI h3))⟩
          have C2:=ah.mk (fun W (hb:Below wr.heap.size wr W)=>Ar.calls A1 c1 _ x.f1 false W rfl (Kd.aH G1.o hb) L1.o HSZ.o.2.2.1 h3)
          clear h1 h2 h3
          go_wp2_with fail
          refine bT (by kernel_rfl) (by kernel_rfl) ?_
          repeat (any_goals (first | go_big_quiet_step (first|(go_at_call 67;refine bX (C1.o _ ?_);exact ak HW.o (BW.hb _))|(go_at_call 68;refine bX (C2.o _ ?_);exact ak HW.o (BW.hb _)))|quiet_step (first|(go_at_call 67;refine bX (C1.o _ ?_);exact ak HW.o (BW.hb _))|(go_at_call 68;refine bX (C2.o _ ?_);exact ak HW.o (BW.hb _)))))
          all_goals (refine wpQuiet_nil ?_;intro _ hw';obtain⟨⟨w2,hb⟩,hw''⟩:=hw';subst hw'';have HB2:=ah.mk (ak HBA.o hb);clear hb)
          go_wp2
          go_ret
          exact⟨by rw[HF.o];rfl,HB2.o⟩
        | true=>
          have C2:=ah.mk (fun W (hb:Below wr.heap.size wr W)=>Ar.calls A1 c1 _ x.f1 true W rfl (Kd.aH G1.o hb) L1.o HSZ.o.2.2.1 h3)
          have HQ:=CW (l:=l) (k:=k) (by rw[show ((k+1:Nat):Int)=(k:Int)+1 from by omega,EX.o];exact qB h1 h2 h3)
          rw[show ((k+1:Nat):Int)=(k:Int)+1 from by omega,EX.o,EY.o] at HQ
          have C3:=ah.mk (fun W (hb:Below wr.heap.size wr W)=>PO.calls B0 A0 d0 c0 _ _ y.f0 x.f0 W rfl rfl (Kd.aH N0.o hb) (Kd.aH G0.o hb) HSY.o.2.1)
          clear h1 h2 h3
          by_cases hd:cmpL y.f0 x.f0<0
          ·have HG:=ah.mk (HS.o (by rw[HQ,decide_eq_true hd]))
           have hd1:decide ((0:Int)≤cmpL y.f0 x.f0)=false:=decide_eq_false (by omega)
           clear HQ hd
           go_wp2_with fail
           refine bT (by kernel_rfl) (by kernel_rfl) ?_
           repeat (any_goals (first | go_big_quiet_step (first|(go_at_call 67;refine bX (C1.o _ ?_);exact ak HW.o (BW.hb _))|(go_at_call 68;refine bX (C2.o _ ?_);exact ak HW.o (BW.hb _))|(go_at_call 50;refine bX (C3.o _ ?_);exact ak HW.o (BW.hb _)))|quiet_step (first|(go_at_call 67;refine bX (C1.o _ ?_);exact ak HW.o (BW.hb _))|(go_at_call 68;refine bX (C2.o _ ?_);exact ak HW.o (BW.hb _))|(go_at_call 50;refine bX (C3.o _ ?_);exact ak HW.o (BW.hb _)))))
           all_goals (refine wpQuiet_nil ?_;intro _ hw';obtain⟨⟨w2,hb⟩,hw''⟩:=hw';subst hw'';have HB2:=ah.mk (ak HBA.o hb);clear hb)
           go_wp2
           go_roundw
           case rel=>exact⟨k+1+1,by omega,by go_num,HG,HB2⟩
           case measure=>simp[intOf]<;>omega
          ·have HF:ah (gQ l=false):=⟨HBAD.o (by rw[HQ,decide_eq_false hd])⟩
           have hd1:decide ((0:Int)≤cmpL y.f0 x.f0)=true:=decide_eq_true (by omega)
           clear HQ hd
           go_wp2_with fail
           refine bT (by kernel_rfl) (by kernel_rfl) ?_
           repeat (any_goals (first | go_big_quiet_step (first|(go_at_call 67;refine bX (C1.o _ ?_);exact ak HW.o (BW.hb _))|(go_at_call 68;refine bX (C2.o _ ?_);exact ak HW.o (BW.hb _))|(go_at_call 50;refine bX (C3.o _ ?_);exact ak HW.o (BW.hb _)))|quiet_step (first|(go_at_call 67;refine bX (C1.o _ ?_);exact ak HW.o (BW.hb _))|(go_at_call 68;refine bX (C2.o _ ?_);exact ak HW.o (BW.hb _))|(go_at_call 50;refine bX (C3.o _ ?_);exact ak HW.o (BW.hb _)))))
           all_goals (refine wpQuiet_nil ?_;intro _ hw';obtain⟨⟨w2,hb⟩,hw''⟩:=hw';subst hw'';have HB2:=ah.mk (ak HBA.o hb);clear hb)
           go_wp2
           go_ret
           exact⟨by rw[HF.o];rfl,HB2.o⟩
  ·obtain rfl:k=l.length:=by omega
   have HF:ah (gQ l=true):=⟨zF HO.o⟩
   go_wp2
   go_ret
   exact⟨by rw[HF.o];rfl,HB.o⟩
theorem Gg (l:List Int) (N:Int) (s:Int × Bool):0≤(ji l N s 6).1∧(ji l N s 6).1<64:=by
 unfold ji nV
 split
 ·exact⟨Int.le_refl _,by show (0:Int)<_;decide⟩
 ·split
  ·exact⟨Int.le_refl _,by show (0:Int)<_;decide⟩
  ·have:=Af (win l s.1.toNat 6)
   rw[win_length] at this
   exact⟨Int.natCast_nonneg _,by show ((num (win l s.1.toNat 6):Nat):Int)<_;omega⟩
theorem zh (g:Nat) (A:Option Addr) (c:Nat) (l:List Int) (N k:Int) (s r:Int × Int × Bool) (w0 w:World) (hr:Kd.C (Kd.int .u8) w0 A l.length l) (hc:l.length≤c) (hg:w0.heap.size≤g)
 (hl:xQ l) (hn:l.length≤1000000) (hN : -9223372036854775808≤N∧N≤9223372036854775807) (hU:UP w g A l.length c N s.2.1 s.2.2) (hB:Below w0.heap.size w0 w) (he:ji l N s.2 k=r) :
 Calls Tryz.prog 150 #[.pointer (some ⟨g,0,none⟩),.int .i64 k] w fun e w'=>e = .returned (.int .u64 r.1)∧UP w' g A l.length c N r.2.1 r.2.2∧Below w0.heap.size w0 w'∧bP w w' g none:=by
 subst he
 exact Dy.calls g A c l N s.2.1 k s.2.2 w0 w hU hr hc hB hg hl hn hN
theorem AB.calls (g:Nat) (A:Option Addr) (c:Nat) (l:List Int) (N p:Int) (bad:Bool) (w0 w:World) (hU:UP w g A l.length c N p bad) (hr:Kd.C (Kd.int .u8) w0 A l.length l) (hc:l.length≤c) (hB:Below w0.heap.size w0 w) (hg:w0.heap.size≤g)
 (hl:xQ l) (hn:l.length≤1000000) (hN : -9223372036854775808≤N∧N≤9223372036854775807) :
 Calls Tryz.prog 152 #[.pointer (some ⟨g,0,none⟩)] w fun e w'=>e = .returned (.int .u64 (xO l N (p,bad)).1)∧UP w' g A l.length c N (xO l N (p,bad)).2.1 (xO l N (p,bad)).2.2∧Below w0.heap.size w0 w'∧bP w w' g none:=by
 have CT:=ah.mk (fun k s r W hU hB he=>zh g A c l N k s r w0 W hr hc hg hl hn hN hU hB he)
 have HB:=ah.mk hB
 have HU:=ah.mk hU
 have HG:=ah.mk hg
 have u3:w.cell? ⟨g,3,none⟩=some (.bool bad):=(av hU 3).trans rfl
 clear hU hr hc hB hg hl hn hN
 cases bad with
 | true=>
   rw[xO,if_pos rfl]
   go_enter Tryz.func152,Tryz.ntmps152
   go_wp2
   go_ret
   exact⟨rfl,HU.o,HB.o,bP.refl _ _ _⟩
 | false=>
   obtain⟨a,ha⟩:∃ a,ji l N (p,false) 1=a:=⟨_,rfl⟩
   obtain⟨b,hb⟩:∃ b,ji l N a.2 6=b:=⟨_,rfl⟩
   obtain⟨d,hd⟩:∃ d,ji l N b.2 6=d:=⟨_,rfl⟩
   obtain⟨w_,hw⟩:∃ w,wrap64 (wrap64 d.1+1)=w:=⟨_,rfl⟩
   obtain⟨t,ht⟩:∃ t,ji l N d.2 w_=t:=⟨_,rfl⟩
   have HE:ah (xO l N (p,false)=if a.1=0 then (0,a.2) else if (d.2.2||decide (64<wrap64 (wrap64 b.1+w_)))=true then (0,d.2.1,true) else (shl .u64 t.1 (wrap64 (wrap64 (64-wrap64 b.1)-w_)),t.2)):=⟨by
    unfold xO
    simp only[ha,hb,hd,hw,ht]
    rw[if_neg (by simp)]⟩
   have hb6:=hb ▸ Gg l N a.2
   have hd6:=hd ▸ Gg l N b.2
   have hwv:w_=d.1+1:=by rw[← hw,jZ (x:=d.1) (by omega) (by omega),jZ (by omega) (by omega)]
   have HSH:ah (¬ 64<wrap64 (wrap64 b.1+w_)→0≤wrap64 (wrap64 (64-wrap64 b.1)-w_)):=⟨fun h=>by
    rw[jZ (x:=b.1) (by omega) (by omega),jZ (by omega) (by omega)] at h
    rw[jZ (x:=b.1) (by omega) (by omega),jZ (x:=64-b.1) (by omega) (by omega),jZ (by omega) (by omega)]
    omega⟩
   clear hb6 hd6 hwv
   have HA:=ah.mk ha
   have HBE:=ah.mk hb
   have HD:=ah.mk hd
   have HT:=ah.mk ht
   clear ha hb hd ht
   by_cases c1:a.1=0
   ·have c1b:(a.1==0)=true:=beq_iff_eq.2 c1
    have HC1:=ah.mk c1
    clear c1
    go_enter Tryz.func152,Tryz.ntmps152
    go_wp2_with (go_at_call 150;(with_reducible refine (CT.o 1 (0,p,false) a _ HU.o HB.o HA.o).mono ?_);rintro e w1 ⟨rfl,hu,hb,hk⟩;have HU1:=ah.mk hu;have HB1:=ah.mk hb;have HK1:=ah.mk hk;clear hu hb hk)
    go_ret
    rw[HE.o,if_pos HC1.o]
    exact⟨rfl,HU1.o,HB1.o,HK1.o⟩
   ·have c1b:(a.1==0)=false:=beq_eq_false_iff_ne.2 c1
    have HC1:=ah.mk c1
    clear c1
    cases h2:d.2.2 with
    | true=>
      go_enter Tryz.func152,Tryz.ntmps152
      go_wp2_with (first
       | (go_at_call 150;(with_reducible refine (CT.o 1 (0,p,false) a _ HU.o HB.o HA.o).mono ?_);rintro e w1 ⟨rfl,hu,hb,hk⟩;have HU1:=ah.mk hu;have HB1:=ah.mk hb;have HK1:=ah.mk hk;clear hu hb hk)
       | (go_at_call 150;(with_reducible refine (CT.o 6 a b _ HU1.o HB1.o HBE.o).mono ?_);rintro e w2 ⟨rfl,hu,hb,hk⟩;have HU2:=ah.mk hu;have HB2:=ah.mk hb;have HK2:=ah.mk (HK1.o.trans hk (.inl rfl));clear hu hb hk)
       | (go_at_call 150;(with_reducible refine (CT.o 6 b d _ HU2.o HB2.o HD.o).mono ?_);rintro e w3 ⟨rfl,hu,hb,hk⟩;rw[h2] at hu;have HU3:=ah.mk hu;have HB3:=ah.mk hb;have HK3:=ah.mk (HK2.o.trans hk (.inl rfl));have c3:=(av hu 3).trans rfl;have f3:=aC hu 3;clear hu hb hk))
      go_ret
      rw[HE.o,if_neg HC1.o,if_pos (by rw[h2];rfl)]
      exact⟨rfl,bK HU3.o 3 _ rfl,HB3.o.setCell (p:=⟨g,3,none⟩) HG.o _,HK3.o.qX 3 _⟩
    | false=>
      by_cases hq:64<wrap64 (wrap64 b.1+w_)
      ·have hqb:decide (64<wrap64 (wrap64 b.1+w_))=true:=decide_eq_true hq
       go_enter Tryz.func152,Tryz.ntmps152
       go_wp2_with (first
        | (go_at_call 150;(with_reducible refine (CT.o 1 (0,p,false) a _ HU.o HB.o HA.o).mono ?_);rintro e w1 ⟨rfl,hu,hb,hk⟩;have HU1:=ah.mk hu;have HB1:=ah.mk hb;have HK1:=ah.mk hk;clear hu hb hk)
        | (go_at_call 150;(with_reducible refine (CT.o 6 a b _ HU1.o HB1.o HBE.o).mono ?_);rintro e w2 ⟨rfl,hu,hb,hk⟩;have HU2:=ah.mk hu;have HB2:=ah.mk hb;have HK2:=ah.mk (HK1.o.trans hk (.inl rfl));clear hu hb hk)
        | (go_at_call 150;(with_reducible refine (CT.o 6 b d _ HU2.o HB2.o HD.o).mono ?_);rintro e w3 ⟨rfl,hu,hb,hk⟩;rw[h2] at hu;have HU3:=ah.mk hu;have HB3:=ah.mk hb;have HK3:=ah.mk (HK2.o.trans hk (.inl rfl));have c3:=(av hu 3).trans rfl;have f3:=aC hu 3;clear hu hb hk))
       go_ret
       rw[HE.o,if_neg HC1.o,if_pos (by rw[h2,hqb];rfl)]
       exact⟨rfl,bK HU3.o 3 _ rfl,HB3.o.setCell (p:=⟨g,3,none⟩) HG.o _,HK3.o.qX 3 _⟩
      ·have hqb:decide (64<wrap64 (wrap64 b.1+w_))=false:=decide_eq_false hq
       have hsh:=HSH.o hq
       have CT4:=ah.mk (fun W (hu:UP W g A l.length c N d.2.1 false) hB=>CT.o w_ d t W (by rw[h2];exact hu) hB HT.o)
       go_enter Tryz.func152,Tryz.ntmps152
       go_wp2_with (first
        | (go_at_call 150;(with_reducible refine (CT.o 1 (0,p,false) a _ HU.o HB.o HA.o).mono ?_);rintro e w1 ⟨rfl,hu,hb,hk⟩;have HU1:=ah.mk hu;have HB1:=ah.mk hb;have HK1:=ah.mk hk;clear hu hb hk)
        | (go_at_call 150;(with_reducible refine (CT.o 6 a b _ HU1.o HB1.o HBE.o).mono ?_);rintro e w2 ⟨rfl,hu,hb,hk⟩;have HU2:=ah.mk hu;have HB2:=ah.mk hb;have HK2:=ah.mk (HK1.o.trans hk (.inl rfl));clear hu hb hk)
        | (go_at_call 150;(with_reducible refine (CT.o 6 b d _ HU2.o HB2.o HD.o).mono ?_);rintro e w3 ⟨rfl,hu,hb,hk⟩;rw[h2] at hu;have HU3:=ah.mk hu;have HB3:=ah.mk hb;have HK3:=ah.mk (HK2.o.trans hk (.inl rfl));have c3:=(av hu 3).trans rfl;have f3:=aC hu 3;clear hu hb hk)
        | (go_at_call 150;(refine (CT4.o _ ?s1 ?s2).mono ?_);(case s1=>exact bK HU3.o 3 _ rfl);(case s2=>exact HB3.o.setCell (p:=⟨g,3,none⟩) HG.o _);rintro e w4 ⟨rfl,hu,hb,hk⟩;have HU4:=ah.mk hu;have HB4:=ah.mk hb;have HK4:=ah.mk ((HK3.o.qX 3 _).trans hk (.inl rfl));clear hu hb hk))
       go_ret
       rw[HE.o,if_neg HC1.o,if_neg (by rw[h2,hqb];simp)]
       exact⟨rfl,HU4.o,HB4.o,HK4.o⟩
theorem dP.calls (A:Option Addr) (c:Nat) (l:List bN) (w:World) (hr:Kd.C jg w A l.length l) (hc:l.length≤c) (hw:∀ x∈l,sD x) (hlen:l.length≤20000) (hT:kH w) :
 Calls Tryz.prog 61 #[.slice A l.length c] w fun e w'=>∃ v:Value,e = .returned (.tuple #[v,.int .i64 (nE l).2])∧Kd.R (Kd.int .u8) 5 w' w.heap.size (fun _=>True) v (nE l).1∧Below w.heap.size w w':=by
 cases h:iT l with
 | true=>
   refine (dP.Ju A c l w hr hc hw hlen hT h).mono ?_
   rintro e w' ⟨v,b,rfl,h1,h2,h3,h4⟩
   have e1:nE l=(dR l.length 2++b,0):=by rw[nE,if_pos h,gH,wR h1 h2]
   rw[e1]
   exact⟨v,rfl,h3,h4⟩
 | false=>
   refine (dP.Gv A c l w hr hc hlen h).mono ?_
   rintro e w' ⟨rfl,h4⟩
   have e1:nE l=([],1):=by rw[nE,if_neg (by rw[h];simp)]
   rw[e1]
   exact⟨_,rfl,Kd.fP _ _ _ _ _,h4⟩
theorem dP.bS {n:Nat} (A:Option Addr) (c:Nat) (l:List bN) (w:World) (eb:List Int) (ee:Int) (hn:l.length=n) (hr:Kd.C jg w A l.length l) (hc:n≤c) (hw:∀ x∈l,sD x) (hlen:n≤20000) (hT:kH w) (he:nE l=(eb,ee)) :
 Calls Tryz.prog 61 #[.slice A n c] w fun e w'=>∃ v:Value,e = .returned (.tuple #[v,.int .i64 ee])∧Kd.R (Kd.int .u8) 5 w' w.heap.size (fun _=>True) v eb∧Below w.heap.size w w':=by
 subst hn
 have:=dP.calls A c l w hr hc hw hlen hT
 rw[he] at this
 exact this
theorem qE (l:List bN) (hn:l.length≤20000) (hw:∀ x∈l,sD x):okB (nE l).1=true:=by
 unfold nE
 split
 ·have h1:=jr l hw l.length (Nat.le_refl _)
  have h2:=(C8 (fT l l.length) (by omega)).1.bytes
  refine dK.2 fun x hx=>?_
  rcases List.mem_append.1 hx with hx | hx
  ·exact dK.1 (FW _ _) x hx
  ·exact h2 x hx
 ·rfl
theorem AY {n m:Nat} (A0:Option Addr) (c0:Nat) (l0:List Int) (A1:Option Addr) (c1:Nat) (l1:List Int) (r:Bool) (w:World) (hn:l0.length=n) (hm:l1.length=m) (hr0:Kd.C (Kd.int .u8) w A0 l0.length l0) (hc0:n≤c0) (hr1:Kd.C (Kd.int .u8) w A1 l1.length l1) (hc1:m≤c1) (h0:okB l0=true) (h1:okB l1=true) (h:decide (l0=l1)=r) :
 Calls Tryz.prog 38 #[.slice A0 n c0,.slice A1 m c1] w fun e w'=>e = .returned (.bool r)∧Below w.heap.size w w':=by
 subst hn hm
 exact (G.bytes_Equal.calls A0 c0 l0 A1 c1 l1 r w hr0 hc0 hr1 hc1 (by rw[G.bytes_Equal.f,if_pos ⟨h0,h1⟩,h])).mono fun e w' ⟨he,hd⟩=>⟨he,hd.below⟩
theorem CQ (g:Nat) (A:Option Addr) (c:Nat) (l:List Int) (N p:Int) (r:Int × Int × Bool) (w0 w:World) (hr:Kd.C (Kd.int .u8) w0 A l.length l) (hc:l.length≤c) (hg:w0.heap.size≤g)
 (hl:xQ l) (hn:l.length≤1000000) (hN : -9223372036854775808≤N∧N≤9223372036854775807) (hU:UP w g A l.length c N p false) (hB:Below w0.heap.size w0 w) (he:oV l N p=r) :
 Calls Tryz.prog 151 #[.pointer (some ⟨g,0,none⟩)] w fun e w'=>e = .returned (.int .i64 r.1)∧UP w' g A l.length c N r.2.1 r.2.2∧Below w0.heap.size w0 w'∧bP w w' g none:=by
 subst he
 exact yt.calls g A c l N p false w0 w hU hr hc hB hg hl hn hN
theorem Fe (g:Nat) (A:Option Addr) (c:Nat) (l:List Int) (N p:Int) (s r:Int × Int × Bool) (w0 w:World) (hr:Kd.C (Kd.int .u8) w0 A l.length l) (hc:l.length≤c) (hg:w0.heap.size≤g)
 (hl:xQ l) (hn:l.length≤1000000) (hN : -9223372036854775808≤N∧N≤9223372036854775807) (hU:UP w g A l.length c N s.2.1 s.2.2) (hB:Below w0.heap.size w0 w) (hs:oV l N p=s) (he:xV l N p=r) :
 Calls Tryz.prog 152 #[.pointer (some ⟨g,0,none⟩)] w fun e w'=>e = .returned (.int .u64 r.1)∧UP w' g A l.length c N r.2.1 r.2.2∧Below w0.heap.size w0 w'∧bP w w' g none:=by
 subst he
 subst hs
 exact AB.calls g A c l N (oV l N p).2.1 (oV l N p).2.2 w0 w hU hr hc hB hg hl hn hN
theorem Ql {b:List Int} (h:okB b=true) (hl:2≤b.length):iP.f (b.take 2)=some (((lX 0 (b.take 2):Nat):Int),true)∧lX 0 (b.take 2)<65536:=by
 refine⟨?_,nM h 2⟩
 have h1:okB (b.take 2)=true:=dK.2 fun x hx=>dK.1 h x (List.mem_of_mem_take hx)
 rw[iP.f,if_pos h1,if_pos (by rw[List.length_take];omega)]
theorem NI {n:Nat} (A0:Option Addr) (c0:Nat) (l0:List Int) (r1:Int) (r2:Bool) (w:World) (hn:l0.length=n) (hr0:Kd.C (Kd.int .u8) w A0 l0.length l0) (hc0:n≤c0) (h:iP.f l0=some (r1,r2)) :
 Calls Tryz.prog 63 #[.slice A0 n c0] w fun e w'=>e = .returned (.tuple #[.int .u64 r1,.bool r2])∧Below w.heap.size w w':=by
 subst hn
 exact (iP.calls A0 c0 l0 r1 r2 w hr0 hc0 h).mono fun e w' ⟨he,hd⟩=>⟨he,hd.below⟩
theorem rP {xb:List Int} {N:Int} {k:Nat} (h:(fH xb N (k+1)).2.1=true):∀ d,fH xb N (k+1+d)=fH xb N (k+1)
 | 0=>rfl
 | d+1=>by
   have ih:=rP h d
   have e:fH xb N (k+d+2)=fH xb N (k+d+1):=by
    rw[fH,if_pos]
    rw[show k+d+1=k+1+d by omega,ih]
    exact h
   rw[show k+1+(d+1)=k+d+2 by omega,e,show k+d+1=k+1+d by omega,ih]
theorem mJ.calls (A:Option Addr) (c:Nat) (b:List Int) (w:World) (hr:Kd.C (Kd.int .u8) w A b.length b) (hc:b.length≤c) (hok:okB b=true) (hlen:b.length≤2500) (hT:kH w) :
 Calls Tryz.prog 133 #[.slice A b.length c] w fun e w'=>∃ v:Value,e = .returned (.tuple #[v,.int .i64 (nD b).2])∧Kd.R jg 70 w' w.heap.size (fun _=>True) v (nD b).1∧Below w.heap.size w w':=by
 by_cases h2:b.length<2
 ·have e0:nD b=([],5):=by rw[nD,if_pos h2]
  rw[e0]
  have d0:decide ((b.length:Int)<2)=true:=decide_eq_true (by omega)
  clear e0 h2 hr hc hT
  go_enter Tryz.func133,Tryz.ntmps133
  go_wp2
  go_step3
  go_wp2
  try rw[Exit.noGoto_ret]
  refine bodyPost_ret (results_tmp2 rfl _ _ _) rfl ?_
  exact⟨_,rfl,Kd.fP _ _ _ _ _,Below.refl _ _⟩
 have d0:decide ((b.length:Int)<2)=false:=decide_eq_false (by omega)
 obtain⟨xb,hxb⟩:∃ xb,b.drop 2=xb:=⟨_,rfl⟩
 have hxl:xb.length=b.length-2:=by rw[← hxb,List.length_drop]
 obtain⟨hget,hn64⟩:=Ql hok (by omega)
 obtain⟨n,hn⟩:∃ n,lX 0 (b.take 2)=n:=⟨_,rfl⟩
 rw[hn] at hget hn64
 obtain⟨NN,hNN⟩:∃ N:Nat,8*(b.length-2)=N:=⟨_,rfl⟩
 have HF:ah (nD b=if (fH xb (NN:Int) n).2.1=false∧nE (fH xb (NN:Int) n).2.2.1=(b,0) then ((fH xb (NN:Int) n).2.2.1,0) else ([],5)):=⟨by rw[nD,if_neg h2,hxb,hNN,hn]⟩
 have hokx:xQ xb:=fun x hx=>dK.1 hok x (List.mem_of_mem_drop (hxb ▸ hx))
 obtain⟨i05,hi05,_,hsz5,_⟩:=info_parts gU
 have hto:=rO (P:=Tryz.prog) 24 5 .i64 Tryz.underlying24 hi05 A b.length c 2 (by omega) (by omega) hc
 have hfrom:=JE (P:=Tryz.prog) 24 5 .i64 Tryz.underlying24 hi05 1 hsz5 A b.length c 2 (by omega) (by omega)
 have hdr:=Kd.vk (m:=2) (c:=c) hr (by omega) hc
 rw[hxb] at hdr
 obtain⟨A',hA'⟩:∃ A',(if c=(2:Int).toNat then A else A.map (·.add ((2:Int).toNat*1)))=A':=⟨_,rfl⟩
 rw[hA'] at hfrom
 have HX:ah (Kd.C (Kd.int .u8) w A' xb.length xb):=⟨by rw[← hA'];exact hdr⟩
 have HXC:ah (xb.length≤c-2):=⟨by omega⟩
 have HTK:=ah.mk (Kd.rE hr (show 2≤b.length by omega))
 have HTL:ah ((b.take 2).length=2):=⟨by rw[List.length_take];omega⟩
 have HGET:=ah.mk hget
 have HRB:=ah.mk hr
 have HC:=ah.mk hc
 have HOK:=ah.mk hok
 have HOX:=ah.mk hokx
 have HT:=ah.mk hT
 have HXL:=ah.mk hxl
 have HNN:=ah.mk hNN
 rw[show (2:Int).toNat=2 from rfl,← hxl] at hfrom
 rw[show (2:Int).toNat=2 from rfl] at hto
 have hNe:wrap64 (8*wrap64 ((b.length:Int)-2))=(NN:Int):=by rw[jZ (x:=(b.length:Int)-2) (by omega) (by omega),jZ (by omega) (by omega)];omega
 clear hr hc hok hokx hT hA' hdr hget hxl hNN hn hxb
 go_enter Tryz.func133,Tryz.ntmps133
 go_wp2
 go_step3
 go_wp2_with (first
  | (go_at_call 63;(with_reducible refine (NI A c (b.take 2) (n:Int) true _ HTL.o HTK.o (by have:=HC.o;omega) HGET.o).mono ?_);rintro e w1 ⟨rfl,hb⟩;have HB1:=ah.mk hb;clear hb)
  | ((with_reducible refine bM (N:=30) rfl ?_);refine cZ ?hg (N:=30) ?hd (cs := #[.slice A' xb.length (c-2),.int .i64 (NN:Int),.int .i64 0,.bool false]) (t:=201) ?hr ?_;(case hd=>rfl);(case hg=>rfl);(case hr=>first|(go_simp;done)|(go_simp;rfl));intro g hg w2 hbox hb;have HB2:=ah.mk (ak HB1.o hb);have HBK:=ah.mk hbox;have HG:ah (w.heap.size≤g):=⟨by have:=HB1.o.size;omega⟩;clear hb hbox hg))
 go_step3
 go_wp2
 -- LOOP
 have hN2:8*((b.length:Int)-2)=(NN:Int):=by have:=HNN.o;omega
 simp only[hN2]
 have HU0:ah (UP (w1.alloc (.cells #[.slice A' xb.length (c-2),.int .i64 (NN:Int),.int .i64 0,.bool false] 201)) w1.heap.size A' xb.length (c-2) (NN:Int) 0 false):=⟨bI _ _⟩
 have HB0:=ah.mk (aj HB1.o (.cells #[.slice A' xb.length (c-2),.int .i64 (NN:Int),.int .i64 0,.bool false] 201))
 have HG:ah (w.heap.size≤w1.heap.size):=⟨HB1.o.size⟩
 generalize w1.alloc (.cells #[.slice A' xb.length (c-2),.int .i64 (NN:Int),.int .i64 0,.bool false] 201)=w2 at *
 generalize w1.heap.size=g at *
 clear hN2 hNe hto hfrom HB1 HTK HTL HGET
 have hNN : -9223372036854775808≤(NN:Int)∧(NN:Int)≤9223372036854775807:=by have:=HNN.o;omega
 have hxbl:xb.length≤1000000:=by have:=HXL.o;omega
 have CT:=ah.mk (fun k s r W hU hB he=>zh g A' (c-2) xb (NN:Int) k s r w W HX.o HXC.o HG.o HOX.o hxbl hNN hU hB he)
 have CN:=ah.mk (fun p r W hU hB he=>CQ g A' (c-2) xb (NN:Int) p r w W HX.o HXC.o HG.o HOX.o hxbl hNN hU hB he)
 have CV:=ah.mk (fun p s r W hU hB hs he=>Fe g A' (c-2) xb (NN:Int) p s r w W HX.o HXC.o HG.o HOX.o hxbl hNN hU hB hs he)
 have INV:=ah.mk (BZ xb NN (by have:=HNN.o;omega))
 clear hNN hxbl
 go_loopw [7,8,33] (fun v7 v8 i wr=>∃ (k:Nat) (l:List bN) (p st:Int),k≤n∧i = .int .i64 k∧v8 = .int .i64 st∧ah (fH xb (NN:Int) k=(p,false,l,st))∧ah (Kd.R jg 70 wr w.heap.size (fun q=>q≠g) v7 l)∧ah (UP wr g A' xb.length (c-2) (NN:Int) p false)∧ah (Below w.heap.size w wr)) (fun _ _ i _=>n-(intOf i).toNat)
 case atStart=>exact⟨0,[],0,0,Nat.zero_le _,rfl,rfl,⟨rfl⟩,⟨Kd.fP _ _ _ _ _⟩,HU0,HB0⟩
 case round=>
  clear HU0 HB0
  obtain⟨k,l,p,st,hk,rfl,rfl,HS,HOt,HUr,HBr⟩:=hrel
  obtain⟨A7,c7,e7⟩:=Kd.bD HOt.o
  subst e7
  have hinv:=INV.o k
  rw[HS.o] at hinv
  have HOKS:ah (∀ x∈l,sD x):=⟨hinv.1⟩
  have HLL:ah (l.length=k):=⟨(hinv.2.2 rfl).1⟩
  have HLEN:ah (l.length≤20000):=⟨by have:=hinv.2.1;have:=HNN.o;simp only at *;omega⟩
  clear hinv
  by_cases hlt:k<n
  ·have gne:ah (wr.heap.size≠g):=⟨by have:=dO HUr.o;omega⟩
   have HOA:=ah.mk (Kd.j4 (Kd.dL (ok':=fun q=>q≠g∧q≠wr.heap.size) (Kd.gM HOt.o) (fun q hq=>⟨hq.1,by have:=hq.2;omega⟩)) (.cells #[.int .i64 0,.int .u64 0] 70))
   have HBA:=ah.mk (aj HBr.o (.cells #[.int .i64 0,.int .u64 0] 70))
   have HUA:ah (UP (wr.alloc (.cells #[.int .i64 0,.int .u64 0] 70)) g A' xb.length (c-2) (NN:Int) p false):=⟨aU HUr.o _⟩
   have HXA:=ah.mk (bI wr (.cells #[.int .i64 0,.int .u64 0] 70))
   have HSA:ah (wr.heap.size<(wr.alloc (.cells #[.int .i64 0,.int .u64 0] 70)).heap.size):=⟨by simp⟩
   have HBS:ah (w.heap.size≤wr.heap.size):=⟨HBr.o.size⟩
   clear HOt
   cases k with
   | zero=>
     have hs0:=HS.o
     simp only[fH,Prod.mk.injEq] at hs0
     obtain⟨rfl,-,hl0,rfl⟩:=hs0
     obtain⟨a,ha⟩:∃ a,ji xb (NN:Int) (0,false) 64=a:=⟨_,rfl⟩
     obtain⟨d,hd⟩:∃ d,ji xb (NN:Int) a.2 64=d:=⟨_,rfl⟩
     have HST:ah (fH xb (NN:Int) (0+1)=(d.2.1,d.2.2,if d.2.2=true then l else l++[⟨wrap64 a.1,d.1⟩],0)):=⟨by
      rw[← hl0]
      have e1:BQ xb (NN:Int) 0=a:=ha
      have e2:xU xb (NN:Int) 0=d:=by unfold xU;rw[e1];exact hd
      simp only[fH,e1,e2,List.nil_append]⟩
     have HA:=ah.mk ha
     have HD2:=ah.mk hd
     clear ha hd hl0
     cases hbad:d.2.2 with
     | true=>
       have HD:ah (fH xb (NN:Int) n=(d.2.1,true,l,0)):=⟨by
        have h1:=HST.o
        rw[hbad,if_pos rfl] at h1
        have h2:=rP (xb:=xb) (N:=(NN:Int)) (k:=0) (by rw[h1]) (n-(0+1))
        rw[show 0+1+(n-(0+1))=n by omega,h1] at h2
        exact h2⟩
       obtain⟨eb,ee,henc⟩:∃ eb ee,nE l=(eb,ee):=⟨_,_,rfl⟩
       have HENC:=ah.mk henc
       have HEOK:ah (okB eb=true):=⟨by have:=qE l HLEN.o HOKS.o;rw[henc] at this;exact this⟩
       clear henc
       go_wp2_with (first
        | (go_at_call 150;(with_reducible refine (CT.o 64 (0,0,false) a _ HUA.o HBA.o HA.o).mono ?_);rintro e w3 ⟨rfl,hu,hb,hk⟩;have HU3:=ah.mk hu;have HB3:=ah.mk hb;have HX3:=ah.mk ((hk.2 wr.heap.size HSA.o gne.o (by simp)).trans HXA.o);have HS3:ah (wr.heap.size<w3.heap.size):=⟨Nat.lt_of_lt_of_le HSA.o hk.1⟩;have HO3:=ah.mk (Kd.rF HOA.o hk (fun _ q=>q.1));clear hu hb hk)
        | (go_at_call 150;(with_reducible refine (CT.o 64 a d _ HU3.o HB3.o HD2.o).mono ?_);rintro e w4 ⟨rfl,hu,hb,hk⟩;rw[hbad] at hu;have hx4:=(hk.2 wr.heap.size HS3.o gne.o (by simp)).trans HX3.o;have c40:=(av hx4 0).trans rfl;have c41:=(av hx4 1).trans rfl;have f40:=aC hx4 0;have f41:=aC hx4 1;have HXB:ah (((w4.setCell ⟨wr.heap.size,0,none⟩ (.int .i64 (wrap64 a.1))).setCell ⟨wr.heap.size,1,none⟩ (.int .u64 d.1)).heap[wr.heap.size]? = some (.cells #[.int .i64 (wrap64 a.1),.int .u64 d.1] 70 (0,0))):=⟨bK (bK hx4 0 _ rfl) 1 _ rfl⟩;have HUt:ah (UP ((w4.setCell ⟨wr.heap.size,0,none⟩ (.int .i64 (wrap64 a.1))).setCell ⟨wr.heap.size,1,none⟩ (.int .u64 d.1)) g A' xb.length (c-2) (NN:Int) d.2.1 true):=⟨iy (p:=⟨wr.heap.size,1,none⟩) (iy (p:=⟨wr.heap.size,0,none⟩) hu gne.o.symm _) gne.o.symm _⟩;have HOt:ah (Kd.R jg 70 ((w4.setCell ⟨wr.heap.size,0,none⟩ (.int .i64 (wrap64 a.1))).setCell ⟨wr.heap.size,1,none⟩ (.int .u64 d.1)) w.heap.size (fun q=>q≠g) (.slice A7 l.length c7) l):=⟨Kd.dL (Kd.gF (p:=⟨wr.heap.size,1,none⟩) (Kd.gF (p:=⟨wr.heap.size,0,none⟩) (Kd.rF HO3.o hk (fun _ q=>q.1)) (fun _ q=>q.2) _) (fun _ q=>q.2) _) (fun _ q=>q.1)⟩;have HBt:ah (Below w.heap.size w ((w4.setCell ⟨wr.heap.size,0,none⟩ (.int .i64 (wrap64 a.1))).setCell ⟨wr.heap.size,1,none⟩ (.int .u64 d.1))):=⟨(hb.setCell (p:=⟨wr.heap.size,0,none⟩) HBS.o _).setCell (p:=⟨wr.heap.size,1,none⟩) HBS.o _⟩;have cx3:=(av HUt.o 3).trans rfl;have cs0:=(av HXB.o 0).trans rfl;have cs1:=(av HXB.o 1).trans rfl;clear hu hb hk hx4)
        | (go_at_call 61;(with_reducible refine (dP.bS A7 c7 l _ eb ee rfl (Kd.aX HOt.o).2.2 (Kd.aX HOt.o).2.1 HOKS.o HLEN.o (HT.o.below HBt.o) HENC.o).mono ?_);rintro e w6 ⟨v6,rfl,hr6,hb⟩;obtain⟨A6,c6,rfl⟩:=Kd.bD hr6;have HR6:=ah.mk (Kd.aX hr6);have HU6:=ah.mk (aG HUt.o hb);have HO6:=ah.mk (Kd.bR HOt.o hb);have HB6:=ah.mk (ak HBt.o hb);have c63:=(av HU6.o 3).trans rfl;clear hr6 hb))
       try rw[Exit.noGoto_ret]
       refine bodyPost_ret (results_tmp2 rfl _ _ _) rfl ?_
       rw[HF.o,HD.o,if_neg (by simp)]
       exact⟨_,rfl,Kd.fP _ _ _ _ _,HB6.o⟩
     | false=>
       go_wp2_with (first
        | (go_at_call 150;(with_reducible refine (CT.o 64 (0,0,false) a _ HUA.o HBA.o HA.o).mono ?_);rintro e w3 ⟨rfl,hu,hb,hk⟩;have HU3:=ah.mk hu;have HB3:=ah.mk hb;have HX3:=ah.mk ((hk.2 wr.heap.size HSA.o gne.o (by simp)).trans HXA.o);have HS3:ah (wr.heap.size<w3.heap.size):=⟨Nat.lt_of_lt_of_le HSA.o hk.1⟩;have HO3:=ah.mk (Kd.rF HOA.o hk (fun _ q=>q.1));clear hu hb hk)
        | (go_at_call 150;(with_reducible refine (CT.o 64 a d _ HU3.o HB3.o HD2.o).mono ?_);rintro e w4 ⟨rfl,hu,hb,hk⟩;rw[hbad] at hu;have hx4:=(hk.2 wr.heap.size HS3.o gne.o (by simp)).trans HX3.o;have c40:=(av hx4 0).trans rfl;have c41:=(av hx4 1).trans rfl;have f40:=aC hx4 0;have f41:=aC hx4 1;have HXB:ah (((w4.setCell ⟨wr.heap.size,0,none⟩ (.int .i64 (wrap64 a.1))).setCell ⟨wr.heap.size,1,none⟩ (.int .u64 d.1)).heap[wr.heap.size]? = some (.cells #[.int .i64 (wrap64 a.1),.int .u64 d.1] 70 (0,0))):=⟨bK (bK hx4 0 _ rfl) 1 _ rfl⟩;have HUt:ah (UP ((w4.setCell ⟨wr.heap.size,0,none⟩ (.int .i64 (wrap64 a.1))).setCell ⟨wr.heap.size,1,none⟩ (.int .u64 d.1)) g A' xb.length (c-2) (NN:Int) d.2.1 false):=⟨iy (p:=⟨wr.heap.size,1,none⟩) (iy (p:=⟨wr.heap.size,0,none⟩) hu gne.o.symm _) gne.o.symm _⟩;have HOt:ah (Kd.R jg 70 ((w4.setCell ⟨wr.heap.size,0,none⟩ (.int .i64 (wrap64 a.1))).setCell ⟨wr.heap.size,1,none⟩ (.int .u64 d.1)) w.heap.size (fun q=>q≠g) (.slice A7 l.length c7) l):=⟨Kd.dL (Kd.gF (p:=⟨wr.heap.size,1,none⟩) (Kd.gF (p:=⟨wr.heap.size,0,none⟩) (Kd.rF HO3.o hk (fun _ q=>q.1)) (fun _ q=>q.2) _) (fun _ q=>q.2) _) (fun _ q=>q.1)⟩;have HBt:ah (Below w.heap.size w ((w4.setCell ⟨wr.heap.size,0,none⟩ (.int .i64 (wrap64 a.1))).setCell ⟨wr.heap.size,1,none⟩ (.int .u64 d.1))):=⟨(hb.setCell (p:=⟨wr.heap.size,0,none⟩) HBS.o _).setCell (p:=⟨wr.heap.size,1,none⟩) HBS.o _⟩;have cx3:=(av HUt.o 3).trans rfl;have cs0:=(av HXB.o 0).trans rfl;have cs1:=(av HXB.o 1).trans rfl;clear hu hb hk hx4)
        | ((with_reducible refine gI (b := .append) (xs := #[.tmp 70,.tmp 72]) rfl ?_);at_builtin;refine Kd.lZ jg (w0:=w) w.heap.size rfl (.tmp 70) (.tmp 72) 49 70 (.agg #[.int .i64 0,.int .u64 0]) 16 rfl Tryz.underlying49 wI rfl (by decide) (by omega) (.slice A7 l.length c7) l (⟨wrap64 a.1,d.1⟩:bN) [.int .i64 (wrap64 a.1),.int .u64 d.1] (fun q=>q≠g) (fun _=>False) rfl ?hx ?aP (fun _ hk=>hk.elim) ?aF HOt.o HBt.o HBt.o.size ?aL ?_;(case hx=>first | rfl | (go_simp;done)|(show Value.slice _ 1 1=Value.slice _ 1 1;simp;done));(case aP=>exact uU _ _ _ (⟨wrap64 a.1,d.1⟩:bN));(case aF=>exact fun q hq e=>by have:=dO HUt.o;omega);(case aL=>have:=HLEN.o;omega);intro v9 w9 ho hb hg9 hat;have HO9:=ah.mk ho;have HB9:=ah.mk hb;have HU9:=ah.mk (dM HUt.o hg9 (Kd.vE HOt.o HUt.o (by decide)));clear ho hb hg9 hat))
       go_roundw
       case rel=>exact⟨0+1,l++[(⟨wrap64 a.1,d.1⟩:bN)],d.2.1,0,by omega,by go_num,rfl,⟨by have h1:=HST.o;rw[hbad,if_neg (by simp)] at h1;exact h1⟩,HO9,HU9,HB9⟩
       case measure=>simp[intOf];omega
   | succ k=>
     rw[show ((k+1:Nat):Int)=(k:Int)+1 from by omega] at *
     obtain⟨a,ha⟩:∃ a,oV xb (NN:Int) p=a:=⟨_,rfl⟩
     obtain⟨d,hd⟩:∃ d,xV xb (NN:Int) p=d:=⟨_,rfl⟩
     obtain⟨y,hy⟩:∃ y,aR l (k:Int)=y:=⟨_,rfl⟩
     have HST:ah (fH xb (NN:Int) (k+1+1)=(d.2.1,d.2.2,if d.2.2=true then l else l++[⟨wrap64 (y.f0+wrap64 (st+a.1)),Go.bits .xor .u64 y.f1 d.1⟩],wrap64 (st+a.1))):=⟨by
      rw[fH,HS.o]
      simp only
      rw[if_neg (by simp),ha,hd,hy]⟩
     have hwk:wrap64 (k:Int)=(k:Int):=jZ (by omega) (by omega)
     have hwk':IntKind.i64.wrap (k:Int)=(k:Int):=(dw _).trans hwk
     have HA:=ah.mk ha
     have HD2:=ah.mk hd
     have HY:=ah.mk hy
     clear ha hd hy
     go_wp2_with (go_at_call 151;(with_reducible refine (CN.o p a _ HUA.o HBA.o HA.o).mono ?_);rintro e w3 ⟨rfl,hu,hb,hk⟩;have HU3:=ah.mk hu;have HB3:=ah.mk hb;have HX3:=ah.mk ((hk.2 wr.heap.size HSA.o gne.o (by simp)).trans HXA.o);have HS3:ah (wr.heap.size<w3.heap.size):=⟨Nat.lt_of_lt_of_le HSA.o hk.1⟩;have HO3:=ah.mk (Kd.rF HOA.o hk (fun _ q=>q.1));clear hu hb hk)
     go_cut [] (fun wx=>ah (wx.heap[wr.heap.size]? = some (.cells #[.int .i64 (wrap64 (y.f0+wrap64 (st+a.1))),.int .u64 (Go.bits .xor .u64 y.f1 d.1)] 70 (0,0)))∧ah (UP wx g A' xb.length (c-2) (NN:Int) d.2.1 d.2.2)∧ah (Kd.R jg 70 wx w.heap.size (fun q=>q≠g) (.slice A7 l.length c7) l)∧ah (Below w.heap.size w wx))
     case first=>
      obtain⟨ad,hh,y0,y1⟩:=gP (Kd.aX HO3.o).2.2 (k:Int) (by omega) (by have:=HLL.o;omega)
      rw[Int.toNat_natCast,HY.o] at y0 y1
      have hk1:(k:Int)+1=(l.length:Int):=by have:=HLL.o;omega
      subst hh
      obtain⟨inn,hown⟩:=Kd.vF HO3.o
      have hn1:ad.block≠g:=Aj hown (Kd.I4 HO3.o (fun q hq=>hq.1))
      have hn2:ad.block≠wr.heap.size:=Aj hown (Kd.I4 HO3.o (fun q hq=>hq.2))
      have HN1:ah ((ad.add (k*2)).block≠g∧(ad.add (k*2)).block≠wr.heap.size):=⟨by rw[add_block];exact⟨hn1,hn2⟩⟩
      clear hown hn1 hn2
      have hb0:(0:Int)≤(k:Int):=by omega
      have hb1:(k:Int)<(l.length:Int):=by omega
      clear hk1
      go_region_held3 (fun W=>W.cell? (ad.add (k*2))=some (.int .i64 y.f0)∧W.cell? ⟨(ad.add (k*2)).block,(ad.add (k*2)).off+1,none⟩=some (.int .u64 y.f1)) (first | exact⟨y0,y1⟩ | exact⟨z0,z1⟩ | exact⟨(cell_far (p:=⟨wr.heap.size,1,none⟩) HN1.o.2 _).trans ((cell_far (p:=⟨wr.heap.size,0,none⟩) HN1.o.2 _).trans z0),(cell_far (p:=⟨wr.heap.size,1,none⟩) (a:=⟨(ad.add (k*2)).block,(ad.add (k*2)).off+1,none⟩) HN1.o.2 _).trans ((cell_far (p:=⟨wr.heap.size,0,none⟩) (a:=⟨(ad.add (k*2)).block,(ad.add (k*2)).off+1,none⟩) HN1.o.2 _).trans z1)⟩)
       (first|(go_at_call 152;(refine (CV.o p a d _ ?s1 ?s2 HA.o HD2.o).mono ?_);(case s1=>exact HU3.o);(case s2=>exact aD HB3.o);rintro e w4 ⟨rfl,hu,hb,hk⟩;have z0:=ow hk y0 HN1.o.1;have z1:=ow hk y1 HN1.o.1;have hx4:=(hk.2 wr.heap.size HS3.o gne.o (by simp)).trans HX3.o;have c40:=(av hx4 0).trans rfl;have c41:=(av hx4 1).trans rfl;have f40:=aC hx4 0;have f41:=aC hx4 1;have HX4:=ah.mk hx4;have HU4:=ah.mk hu;have HB4:=ah.mk hb;have HK4:=ah.mk hk;clear hx4 hu hb hk))
      all_goals
       go_wp2_with fail
       go_meet
       refine⟨⟨?_⟩,⟨?_⟩,⟨?_⟩,⟨?_⟩⟩
       ·simp only[dw]
        exact bK (bK HX4.o 0 _ rfl) 1 _ rfl
       ·exact iy (p:=⟨wr.heap.size,1,none⟩) (iy (p:=⟨wr.heap.size,0,none⟩) HU4.o gne.o.symm _) gne.o.symm _
       ·exact Kd.dL (Kd.gF (p:=⟨wr.heap.size,1,none⟩) (Kd.gF (p:=⟨wr.heap.size,0,none⟩) (Kd.rF (Kd.nK HO3.o) HK4.o (fun _ q=>q.1)) (fun _ q=>q.2) _) (fun _ q=>q.2) _) (fun _ q=>q.1)
       ·exact (HB4.o.setCell (p:=⟨wr.heap.size,0,none⟩) HBS.o _).setCell (p:=⟨wr.heap.size,1,none⟩) HBS.o _
     case rest=>
      obtain⟨HXB,HUt,HOt,HBt⟩:=hcut
      have cx3:=(av HUt.o 3).trans rfl
      have cs0:wc.cell? ⟨wr.heap.size,0,none⟩=some (.int .i64 (wrap64 (y.f0+wrap64 (st+a.1)))):=(av HXB.o 0).trans rfl
      have cs1:wc.cell? ⟨wr.heap.size,1,none⟩=some (.int .u64 (Go.bits .xor .u64 y.f1 d.1)):=(av HXB.o 1).trans rfl
      cases hbad:d.2.2 with
      | true=>
        rw[hbad] at cx3
        have HD:ah (fH xb (NN:Int) n=(d.2.1,true,l,wrap64 (st+a.1))):=⟨by
         have h1:=HST.o
         rw[hbad,if_pos rfl] at h1
         have h2:=rP (xb:=xb) (N:=(NN:Int)) (k:=k+1) (by rw[h1]) (n-(k+1+1))
         rw[show k+1+1+(n-(k+1+1))=n by omega,h1] at h2
         exact h2⟩
        obtain⟨eb,ee,henc⟩:∃ eb ee,nE l=(eb,ee):=⟨_,_,rfl⟩
        have HENC:=ah.mk henc
        have HEOK:ah (okB eb=true):=⟨by have:=qE l HLEN.o HOKS.o;rw[henc] at this;exact this⟩
        clear henc
        go_wp2_with (first
         | (go_at_call 61;(with_reducible refine (dP.bS A7 c7 l _ eb ee rfl (Kd.aX HOt.o).2.2 (Kd.aX HOt.o).2.1 HOKS.o HLEN.o (HT.o.below HBt.o) HENC.o).mono ?_);rintro e w6 ⟨v6,rfl,hr6,hb⟩;obtain⟨A6,c6,rfl⟩:=Kd.bD hr6;have HR6:=ah.mk (Kd.aX hr6);have HU6:=ah.mk (aG HUt.o hb);have HO6:=ah.mk (Kd.bR HOt.o hb);have HB6:=ah.mk (ak HBt.o hb);have c63:=(av HU6.o 3).trans rfl;clear hr6 hb))
        try rw[Exit.noGoto_ret]
        refine bodyPost_ret (results_tmp2 rfl _ _ _) rfl ?_
        rw[HF.o,HD.o,if_neg (by simp)]
        exact⟨_,rfl,Kd.fP _ _ _ _ _,HB6.o⟩
      | false=>
        rw[hbad] at cx3
        go_wp2_with (first
         | ((with_reducible refine gI (b := .append) (xs := #[.tmp 70,.tmp 72]) rfl ?_);at_builtin;refine Kd.lZ jg (w0:=w) w.heap.size rfl (.tmp 70) (.tmp 72) 49 70 (.agg #[.int .i64 0,.int .u64 0]) 16 rfl Tryz.underlying49 wI rfl (by decide) (by omega) (.slice A7 l.length c7) l (⟨wrap64 (y.f0+wrap64 (st+a.1)),Go.bits .xor .u64 y.f1 d.1⟩:bN) [.int .i64 (wrap64 (y.f0+wrap64 (st+a.1))),.int .u64 (Go.bits .xor .u64 y.f1 d.1)] (fun q=>q≠g) (fun _=>False) rfl ?hx ?aP (fun _ hk=>hk.elim) ?aF HOt.o HBt.o HBt.o.size ?aL ?_;(case hx=>first | rfl | (go_simp;done)|(show Value.slice _ 1 1=Value.slice _ 1 1;simp;done));(case aP=>exact uU _ _ _ (⟨wrap64 (y.f0+wrap64 (st+a.1)),Go.bits .xor .u64 y.f1 d.1⟩:bN));(case aF=>exact fun q hq e=>by have:=dO HUt.o;omega);(case aL=>have:=HLEN.o;omega);intro v9 w9 ho hb hg9 hat;have HO9:=ah.mk ho;have HB9:=ah.mk hb;have HU9:=ah.mk (dM HUt.o hg9 (Kd.vE HOt.o HUt.o (by decide)));clear ho hb hg9 hat))
        go_roundw
        case rel=>exact⟨k+1+1,l++[(⟨wrap64 (y.f0+wrap64 (st+a.1)),Go.bits .xor .u64 y.f1 d.1⟩:bN)],d.2.1,wrap64 (st+a.1),by omega,by go_num,rfl,⟨by have h1:=HST.o;rw[hbad,if_neg (by simp)] at h1;exact h1⟩,HO9,⟨by rw[← hbad];exact HU9.o⟩,HB9⟩
        case measure=>simp[intOf];omega
  ·obtain rfl:k=n:=by omega
   have HD:=ah.mk HS.o
   have HUt:=HUr
   have HBt:=HBr
   have cx3:=(av HUt.o 3).trans rfl
   obtain⟨eb,ee,henc⟩:∃ eb ee,nE l=(eb,ee):=⟨_,_,rfl⟩
   have HENC:=ah.mk henc
   have HEOK:ah (okB eb=true):=⟨by have:=qE l HLEN.o HOKS.o;rw[henc] at this;exact this⟩
   clear henc
   by_cases hee:ee=0
   ·subst hee
    have hee0:((0:Int) != 0)=false:=rfl
    cases heq:decide (eb=b) with
    | false=>
      have HEQ:=ah.mk heq
      go_wp2_with (first
       | (go_at_call 61;(with_reducible refine (dP.bS A7 c7 l _ eb 0 rfl (Kd.aX HOt.o).2.2 (Kd.aX HOt.o).2.1 HOKS.o HLEN.o (HT.o.below HBt.o) HENC.o).mono ?_);rintro e w6 ⟨v6,rfl,hr6,hb⟩;obtain⟨A6,c6,rfl⟩:=Kd.bD hr6;have HR6:=ah.mk (Kd.aX hr6);have HU6:=ah.mk (aG HUt.o hb);have HO6:=ah.mk (Kd.bR HOt.o hb);have HB6:=ah.mk (ak HBt.o hb);have c63:=(av HU6.o 3).trans rfl;clear hr6 hb)
       | (go_at_call 38;(with_reducible refine (AY A6 c6 eb A c b false _ rfl rfl HR6.o.2.2 HR6.o.2.1 (Kd.aH HRB.o HB6.o) HC.o HEOK.o HOK.o HEQ.o).mono ?_);rintro e w7 ⟨rfl,hb⟩;have HB7:=ah.mk (ak HB6.o hb);clear hb))
      try rw[Exit.noGoto_ret]
      refine bodyPost_ret (results_tmp2 rfl _ _ _) rfl ?_
      rw[HF.o,HD.o,if_neg (by rw[HENC.o];intro q;have:=of_decide_eq_false HEQ.o;exact this (congrArg Prod.fst q.2))]
      exact⟨_,rfl,Kd.fP _ _ _ _ _,HB7.o⟩
    | true=>
      have HEQ:=ah.mk heq
      go_wp2_with (first
       | (go_at_call 61;(with_reducible refine (dP.bS A7 c7 l _ eb 0 rfl (Kd.aX HOt.o).2.2 (Kd.aX HOt.o).2.1 HOKS.o HLEN.o (HT.o.below HBt.o) HENC.o).mono ?_);rintro e w6 ⟨v6,rfl,hr6,hb⟩;obtain⟨A6,c6,rfl⟩:=Kd.bD hr6;have HR6:=ah.mk (Kd.aX hr6);have HU6:=ah.mk (aG HUt.o hb);have HO6:=ah.mk (Kd.bR HOt.o hb);have HB6:=ah.mk (ak HBt.o hb);have c63:=(av HU6.o 3).trans rfl;clear hr6 hb)
       | (go_at_call 38;(with_reducible refine (AY A6 c6 eb A c b true _ rfl rfl HR6.o.2.2 HR6.o.2.1 (Kd.aH HRB.o HB6.o) HC.o HEOK.o HOK.o HEQ.o).mono ?_);rintro e w7 ⟨rfl,hb⟩;have HB7:=ah.mk (ak HB6.o hb);have HO7:=ah.mk (Kd.bR HO6.o hb);clear hb))
      try rw[Exit.noGoto_ret]
      refine bodyPost_ret (results_tmp2 rfl _ _ _) rfl ?_
      rw[HF.o,HD.o,if_pos ⟨rfl,by rw[HENC.o];exact congrArg (fun z=>(z,(0:Int))) (of_decide_eq_true HEQ.o)⟩]
      exact⟨_,rfl,Kd.dL HO7.o (fun _ _=>trivial),HB7.o⟩
   ·have hee0:(ee != 0)=true:=bne_iff_ne.2 hee
    have HEE:=ah.mk hee
    clear hee
    go_wp2_with (first
     | (go_at_call 61;(with_reducible refine (dP.bS A7 c7 l _ eb ee rfl (Kd.aX HOt.o).2.2 (Kd.aX HOt.o).2.1 HOKS.o HLEN.o (HT.o.below HBt.o) HENC.o).mono ?_);rintro e w6 ⟨v6,rfl,hr6,hb⟩;obtain⟨A6,c6,rfl⟩:=Kd.bD hr6;have HR6:=ah.mk (Kd.aX hr6);have HU6:=ah.mk (aG HUt.o hb);have HO6:=ah.mk (Kd.bR HOt.o hb);have HB6:=ah.mk (ak HBt.o hb);have c63:=(av HU6.o 3).trans rfl;clear hr6 hb))
    try rw[Exit.noGoto_ret]
    refine bodyPost_ret (results_tmp2 rfl _ _ _) rfl ?_
    rw[HF.o,HD.o,if_neg (by rw[HENC.o];intro q;exact HEE.o (congrArg Prod.snd q.2))]
    exact⟨_,rfl,Kd.fP _ _ _ _ _,HB6.o⟩
def jX (l:List bN) (j:Nat):List bN:=(l.take (j*20+nH l.length j)).drop (j*20)
theorem oJ (l:List bN) (j:Nat):(jX l j).length=nH l.length j:=by
 unfold jX nH
 rw[List.length_drop,List.length_take]
 omega
theorem sG {l:List bN} {j:Nat} {x:bN} (h:x∈jX l j):x∈l:=List.mem_of_mem_take (List.mem_of_mem_drop h)
theorem Da (l:List bN) (j i:Nat) (h:i<nH l.length j):aR (jX l j) (i:Int)=aR l ((j*20+i:Nat):Int):=by
 simp only[aR,Int.toNat_natCast,List.getD_eq_getElem?_getD,jX,List.getElem?_drop,List.getElem?_take]
 rw[if_pos (by omega)]
theorem rG {l:List bN} (h:iT l=true) (j:Nat):iT (jX l j)=true:=by
 unfold iT at h ⊢
 rw[oJ]
 simp only[Bool.and_eq_true,List.all_eq_true,List.mem_range,decide_eq_true_eq] at h ⊢
 refine⟨fun i hi=>?_,by unfold nH;omega⟩
 rw[Da l j i (by omega),Da l j (i+1) (by omega)]
 exact h.1 (j*20+i) (by unfold nH at hi;omega)
theorem vU {q:List bN} (hq:q.length≤20) (hok:∀ x∈q,sD x) (hc:iT q=true):(gH q).length≤410:=by
 have h1:=(mU (fT q q.length) _ (Nat.le_refl _)).1
 rw[F5] at h1
 rw[gH,List.length_append,bJ]
 have h3:=jr q hok q.length (Nat.le_refl _)
 have:=h1.near
 omega
noncomputable def jK (u:List Int) (q:List bN):List Int:=dR (u.length+(gH q).length) 4++(u++(gH q))
noncomputable def Nl (u:List Int) (l:List bN) (k:Nat):List Int:=(List.range k).flatMap fun j=>jK u (jX l j)
noncomputable def vX (x:cB):List Int:=Nl (iQ x.f0) x.f1 ((x.f1.length+19) / 20)
noncomputable def jq (l:List cB):List Int:=l.flatMap vX
theorem tq {u:List Int} {q:List bN} (hu:u.length≤600) (hq:q.length≤20) (hok:∀ x∈q,sD x) (hc:iT q=true):(jK u q).length≤1014:=by
 have:=vU hq hok hc
 rw[jK,List.length_append,List.length_append,bJ]
 omega
theorem GN (l:List cB) (k:Nat) (h:k<l.length):jq (l.take (k+1))=jq (l.take k)++vX (aK l (k:Int)):=by
 have e:aK l (k:Int)=l[k]:=by simp[aK,List.getD_eq_getElem?_getD,List.getElem?_eq_getElem h]
 rw[List.take_succ_eq_append_getElem h,e,jq,jq,List.flatMap_append]
 simp
theorem rQ {l:List eP} (h:dV l=true):(iQ l).length≤600:=by
 have h1:=qF h l.length (Nat.le_refl _)
 have h2:=(jB h).2.1
 rw[vT] at h1
 omega
theorem GL (l:List cB) (k:Nat):(jq (l.take k)).length≤(jq l).length:=by
 have h:jq l=jq (l.take k)++jq (l.drop k):=by
  unfold jq
  rw[← List.flatMap_append,List.take_append_drop]
 rw[h,List.length_append]
 omega
noncomputable def ni (u:List Int) (l:List bN) (ks:List Nat):List Int:=ks.flatMap fun j=>jK u (jX l j)
theorem Ed (u:List Int) (l:List bN) (ks:List Nat) (k:Nat):ni u l (ks++[k])=ni u l ks++jK u (jX l k):=by simp[ni,List.flatMap_append]
theorem yI {u:List Int} {l:List bN} (hu:u.length≤600) (hok:∀ x∈l,sD x) (hc:iT l=true):∀ ks:List Nat,(ni u l ks).length≤1014*ks.length
 | []=>by simp[ni]
 | k::ks=>by
   have ih:=yI hu hok hc ks
   have:=tq (q:=jX l k) hu (by rw[oJ];unfold nH;omega) (fun x hx=>hok x (sG hx)) (rG hc k)
   have e:ni u l (k::ks)=jK u (jX l k)++ni u l ks:=rfl
   rw[e,List.length_append,List.length_cons]
   omega
structure But (O B:Nat) (a b:World):Prop where
 os:b.os=a.os
 tape:b.tape=a.tape
 output:b.output=a.output
 size:a.heap.size≤b.heap.size
 block:∀ k,k<B→k≠O→b.heap[k]? = a.heap[k]?
theorem But.refl (O B:Nat) (a:World):But O B a a:=⟨rfl,rfl,rfl,Nat.le_refl _,fun _ _ _=>rfl⟩
theorem But.trans {O B:Nat} {a b c:World} (h:But O B a b) (k:But O B b c):But O B a c:=
 ⟨k.os.trans h.os,k.tape.trans h.tape,k.output.trans h.output,Nat.le_trans h.size k.size,fun i hi hn=>(k.block i hi hn).trans (h.block i hi hn)⟩
theorem But.of_below {O B:Nat} {a b:World} (h:Below B a b):But O B a b:=⟨h.os,h.tape,h.output,h.size,fun k hk _=>h.block k hk⟩
theorem But.below {O B n:Nat} {a b:World} (h:But O B a b) (h1:n≤O) (h2:n≤B):Below n a b:=⟨h.os,h.tape,h.output,h.size,fun k hk=>h.block k (by omega) (by omega)⟩
theorem But.setCell {O B:Nat} {a b:World} (h:But O B a b) (i:Nat) (v:Value):But O B a (b.setCell ⟨O,i,none⟩ v):=
 ⟨h.os,h.tape,h.output,by simpa using h.size,fun k hk hn=>(Below.heap_setCell b ⟨O,i,none⟩ v k hn).trans (h.block k hk hn)⟩
theorem But.grown {O B:Nat} {a b c:World} {row:Option Nat} (h:But O B a b) (hg:b.grownBy c row) (hB:B≤a.heap.size) (hr:∀ r,row=some r→B≤r):But O B a c:=
 ⟨hg.os.trans h.os,hg.tape.trans h.tape,hg.output.trans h.output,Nat.le_trans h.size hg.size,fun k hk hn=>(hg.block k (by have:=h.size;omega) (fun e=>by have:=hr k e.symm;omega)).trans (h.block k hk hn)⟩
theorem I8 {α:Type} {d:Kd α} {e base:Nat} {w1 w2:World} {v:Value} {xs:List α} {row:Option Nat} (h:Kd.R d e w1 base (fun _=>True) v xs) (hg:w1.grownBy w2 row) (hr:∀ r,row=some r→∃ o:Obj,w1.heap[r]? = some o∧o.isCells=false):Kd.R d e w2 base (fun _=>True) v xs:=
 Kd.dL (Kd.uL (Kd.gM h) hg (fun k hk he=>by
  obtain⟨o,ho,hc⟩:=hr k he.symm
  obtain⟨q,_,cells,hcl⟩:=hk.2.2.2
  rw[hcl] at ho
  injection ho with ho
  subst ho
  cases hc)) (fun _ _=>trivial)
def Ns (D:Nat):Deferred:={ target := .collected D,args := #[] }
theorem mM {F:Fence} {n:Nat} {P:Program} {fn:Func} {tmps:Array Value} {R:Ending→World→Prop} (M:World→Prop) (hend:∀ W,M W→LeavesInM F n P fn tmps R [] .returning W) :
 ∀ (Ds:List Nat) (W:World),Ds.Nodup→(∀ D∈Ds,W.heap[D]? = some (.deferred (some [])))→(∀ D∈Ds,∀ W,M W→W.heap[D]? = some (.deferred (some []))→M (W.putObj D (.deferred none)))→M W→LeavesInM F n P fn tmps R (Ds.map Ns) .returning W
 | [],W,_,_,_,hM=>hend W hM
 | D::Ds,W,hn,hD,hS,hM=>by
   have h0:=hD D (by simp)
   refine⟨by simp,.inl ⟨D,_,rfl,run_takeDeferred h0,?_⟩⟩
   rw[List.nodup_cons] at hn
   refine mM M hend Ds _ hn.2 (fun D' h'=>?_) (fun D' h'=>hS D' (by simp[h'])) (hS D (by simp) W hM h0)
   rw[World.putObj_heap_other (fun e=>hn.1 (by subst e;exact h'))]
   exact hD D' (by simp[h'])
theorem mJ.bS {n:Nat} (A:Option Addr) (c:Nat) (b:List Int) (w:World) (rl:List bN) (re:Int) (hn:b.length=n) (hr:Kd.C (Kd.int .u8) w A b.length b) (hc:n≤c) (hok:okB b=true) (hlen:n≤2500) (hT:kH w) (he:nD b=(rl,re)) :
 Calls Tryz.prog 133 #[.slice A n c] w fun e w'=>∃ v:Value,e = .returned (.tuple #[v,.int .i64 re])∧Kd.R jg 70 w' w.heap.size (fun _=>True) v rl∧Below w.heap.size w w':=by
 subst hn
 have:=mJ.calls A c b w hr hc hok hlen hT
 rw[he] at this
 exact this
theorem L6 (l:List bN) (hl:l.length≤20000) (hok:∀ x∈l,sD x) (hc:iT l=true):okB (gH l)=true:=by
 have h:=qE l hl hok
 rw[(FH l hok hl hc).1] at h
 exact h
theorem strOfNums_bytes (s:ByteArray):strOfNums (bytesOf s)=s:=by
 apply ByteArray.ext
 apply Array.ext'
 simp[strOfNums,bytesOf,Function.comp_def]
theorem wT (s:ByteArray) (y:List Int):gW (Cg s++y)=some (s,y):=by
 have hl:(bytesOf s).length=s.size:=bytesOf_length s
 simp only[Cg,List.cons_append,gW]
 rw[Int.toNat_natCast,if_neg (by rw[List.length_append,hl];omega),← hl,List.take_left',List.drop_left',strOfNums_bytes]
 ·rfl
 ·rfl
theorem yF (l:List eP) (r:List Int):∀ k,k≤l.length→eY (l.flatMap zV++r) k=some (l.take k,(l.drop k).flatMap zV++r)
 | 0,_=>by simp[eY]
 | k+1,h=>by
   rw[eY,yF l r k (by omega),List.drop_eq_getElem_cons (by omega:k<l.length),List.take_succ_eq_append_getElem (by omega:k<l.length)]
   simp only[Option.bind_some,List.flatMap_cons,zV,List.append_assoc]
   rw[wT]
   simp only[Option.bind_some]
   rw[wT]
   rfl
theorem GJ (l:List eP) (r:List Int) (h:dV l=true):fq (iQ l++r)=(l,r,0):=by
 have h1:=yF l r l.length (Nat.le_refl _)
 rw[List.take_length,List.drop_length] at h1
 simp only[List.flatMap_nil,List.nil_append] at h1
 simp only[iQ,List.cons_append,fq,Int.toNat_natCast]
 rw[h1]
 simp only[h,if_true]
theorem GQ {l:List eP} (h:dV l=true):okB (iQ l)=true:=by
 have hp:=jB h
 have hb:∀ s:ByteArray,∀ x∈bytesOf s,0≤x∧x<256:=fun s x hx=>by
  simp only[bytesOf,List.mem_map] at hx
  obtain⟨c,_,rfl⟩:=hx
  exact⟨by omega,by have:=c.toNat_lt;omega⟩
 have ht:∀ s:ByteArray,s.size<256→∀ x∈Cg s,0≤x∧x<256:=fun s hs x hx=>by
  rcases List.mem_cons.1 hx with rfl | hx
  ·omega
  ·exact hb s x hx
 refine dK.2 fun x hx=>?_
 rcases List.mem_cons.1 hx with rfl | hx
 ·have:=hp.2.1
  omega
 ·obtain⟨y,hy,hx⟩:=List.mem_flatMap.1 hx
  obtain⟨k,hk,rfl⟩:=List.mem_iff_getElem.1 hy
  have hs:=qg (hp.2.2 k hk)
  have e:bU l (k:Int)=l[k]:=by simp[bU,List.getD_eq_getElem?_getD,List.getElem?_eq_getElem hk]
  rw[e] at hs
  rcases List.mem_append.1 hx with hx | hx
  ·exact ht _ (by omega) x hx
  ·exact ht _ (by omega) x hx
theorem jI (N i:Nat):okB (dR N i)=true:=dK.2 fun x hx=>Bp N i x hx
theorem lI {a b:List Int} (ha:okB a=true) (hb:okB b=true):okB (a++b)=true:=dK.2 fun x hx=>(List.mem_append.1 hx).elim (dK.1 ha x) (dK.1 hb x)
end Go.Proofs.YtcgbgifbajdhpaaGreatDoor.PA
namespace Go.Proofs.YtcgbgifbajdhpaaGreatDoor.PA
def sH (x:cB):List cB:=(List.range ((x.f1.length+19) / 20)).map (fun j=>⟨x.f0,jX x.f1 j⟩)
def dB (l:List cB):List cB:=l.flatMap sH
noncomputable def jf (p:cB):List Int:=jK (iQ p.f0) p.f1
theorem vQ (l:List cB):jq l=(dB l).flatMap jf:=by
 rw[jq,dB,List.flatMap_assoc]
 congr 1
 funext x
 rw[vX,Nl,sH,List.flatMap_map]
 rfl
end Go.Proofs.YtcgbgifbajdhpaaGreatDoor.PA
namespace Go.Proofs.YtcgbgifbajdhpaaGreatDoor.G
open Go.ChangeShapes Go.WideShapes Go.Deep Go.RowKit Go.Proofs.YtcgbgifbajdhpaaGreatDoor.PA Go.Proofs.YtcgbgifbajdhpaaGreatDoorW.au
section
variable {H:Type} {enc:TypeId × Value→H} {P:Program} {w:World} {base:Nat} {spare:Nat→Bool} {held:Bool}
theorem iL {t e:TypeId} {fs:Array Field} {fuel:Nat} {cs:List Value} {x:DataW H × List MemPlace} (ht:P.underlying t=some (.slice e)) (he:P.underlying e=some (.struct fs))
 (hone:oneCellFields P fs=true) (hC:P.cellsOf e=fs.size) (h:DataW.trod enc P w base spare held fuel t cs=some x) :
 (cs=[.slice none 0 0]∧x=(.nil,[])) ∨
 ∃ (a:Addr) (len cap m:Nat) (D:Nat→DataW H) (Pl:Nat→List MemPlace),cs=[.slice (some a) len cap]∧base≤a.block∧len≤cap∧cap≤maxLen∧m=(if spare a.block then cap else len) ∧
   x=(.slice ((List.range len).map D) ((List.range (m-len)).map fun j=>D (len+j)),MemPlace.row a (m*fs.size)++(List.range m).flatMap Pl) ∧
   ∀ i,i<m→∃ (ys:List (DataW H × List MemPlace)) (n:Nat),D i = .agg (ys.map (·.1))∧Pl i=ys.flatMap (·.2)∧ys.length=fs.size ∧
     ∀ (j:Nat) (f:Field),fs[j]? = some f→∃ (v:Value) (y:DataW H × List MemPlace),w.cell? (a.add (i*fs.size+j))=some v∧ys[j]? = some y∧DataW.trod enc P w base spare held n f.type [v]=some y:=by
 rcases open_slice ht h with h0 | ⟨a,len,cap,m,n,D,Pl,hcs,hb,hl,hm,hmm,hx,hi⟩
 ·exact .inl h0
 ·refine .inr ⟨a,len,cap,m,D,Pl,hcs,hb,hl,hm,hmm,by rw[hC] at hx;exact hx,fun i him=>?_⟩
  obtain⟨cs',hc,ht'⟩:=hi i him
  rw[hC] at hc
  obtain⟨ys,n',hn',hy,hlen,hyl,hf⟩:=DataW.trod_struct he ht'
  obtain⟨_,hcl,hat⟩:=World.cells?_some hc
  simp only[Prod.mk.injEq] at hy
  refine⟨ys,n',hy.1,hy.2,hyl,fun j f hj=>?_⟩
  obtain⟨ho,hk⟩:=hone_of hone j f hj
  have hjl:j<fs.size:=(Array.getElem?_eq_some_iff.1 hj).1
  have hcell:=hat j hjl
  have hv:cs'[j]? = some (cs'[j]'(by omega)):=List.getElem?_eq_getElem (by omega)
  have h1:=hf j f hj
  rw[ho,hk] at h1
  have hone':(cs'.drop j).take 1=[cs'[j]'(by omega)]:=by
   rw[List.drop_eq_getElem_cons (by omega)]
   rfl
  rw[hone'] at h1
  have hys:ys[j]? = some (ys[j]'(by omega)):=List.getElem?_eq_getElem (by omega)
  refine⟨_,_,?_,hys,h1.trans hys⟩
  rw[← Go.Deep.add_add,hcell,hv]
end
section
variable {H:Type} {enc:TypeId × Value→H} {w:World}
theorem kY {α:Type} (Q:Nat→α→Prop):∀ n,(∀ i,i<n→∃ x,Q i x)→∃ l:List α,l.length=n∧∀ i x,l[i]? = some x→Q i x
 | 0,_=>⟨[],rfl,fun i x h=>by simp at h⟩
 | n+1,h=>by
   obtain⟨l,hl,hq⟩:=kY Q n (fun i hi=>h i (by omega))
   obtain⟨x,hx⟩:=h n (by omega)
   refine⟨l++[x],by simp[hl],fun i y hy=>?_⟩
   rcases Nat.lt_trichotomy i n with hi | hi | hi
   ·rw[List.getElem?_append_left (by omega)] at hy
    exact hq i y hy
   ·subst hi
    rw[List.getElem?_append_right (by omega),hl] at hy
    simp at hy
    exact hy ▸ hx
   ·rw[List.getElem?_eq_none (by simp;omega)] at hy
    cases hy
theorem CY {v:Value} {d:DataW H} {p:List MemPlace} (hv:∃ a len cap,v = .slice a len cap) (h:DataW.Trod enc Tryz.prog w 0 (fun _=>true) true 49 v d p) :
 ∃ (A:Option Addr) (c:Nat) (l:List bN),v = .slice A l.length c∧jg.C w A l.length l∧l.length≤c∧∀ x∈l,sD x:=by
 obtain⟨a,len,cap,rfl⟩:=hv
 obtain⟨fuel,hf⟩:=h
 rcases iL Tryz.underlying49 Tryz.underlying70 (by kernel_rfl) (by kernel_rfl) hf with ⟨hcs,_⟩ | ⟨x,l,c,m,D,Pl,hcs,_,hl,hm,hmm,_,hi⟩
 ·simp[Value.cells] at hcs
  obtain⟨rfl,rfl,rfl⟩:=hcs
  exact⟨none,0,[],rfl,⟨rfl,by simp,fun h=>by simp at h⟩,Nat.le_refl _,fun x hx=>by cases hx⟩
 ·simp[Value.cells] at hcs
  obtain⟨rfl,rfl,rfl⟩:=hcs
  simp only[if_true] at hmm
  subst hmm
  obtain⟨xs,hxl,hxs⟩:=kY (fun i (s:bN)=>sD s∧∃ cs,cs.length=2∧jg.K w s cs∧∀ j u,cs[j]? = some u→w.cell? (x.add (i*2+j))=some u) len (fun i hil=>by
   obtain⟨ys,n,_,_,_,hfld⟩:=hi i (by omega)
   obtain⟨v0,y0,c0,_,t0⟩:=hfld 0 _ rfl
   obtain⟨v1,y1,c1,_,t1⟩:=hfld 1 _ rfl
   obtain⟨a0,hc0,_,w0⟩:=DataW.trod_int Tryz.underlying3 t0
   obtain rfl:v0 = .int .i64 a0:=by simpa using hc0
   obtain⟨a1,hc1,_,w1⟩:=DataW.trod_int Tryz.underlying65 t1
   obtain rfl:v1 = .int .u64 a1:=by simpa using hc1
   refine⟨⟨a0,a1⟩,⟨JX w0,OG w1⟩,_,rfl,J3 w ⟨a0,a1⟩,fun j u hj=>?_⟩
   match j,hj with
   | 0,hj=>injection hj with hj;subst hj;exact c0
   | 1,hj=>injection hj with hj;subst hj;exact c1
   | n+2,hj=>simp at hj)
  have hmx:maxLen≤9223372036854775807:=by decide
  refine⟨some x,m,xs,by rw[hxl],⟨rfl,by rw[hxl];omega,fun _=>⟨x,rfl,fun j p hj=>?_⟩⟩,by omega,fun s hs=>?_⟩
  ·obtain⟨_,cs,h1,h2,h3⟩:=hxs j p hj
   exact⟨cs,h1,h2,h3⟩
  ·obtain⟨j,hj⟩:=List.getElem?_of_mem hs
   exact (hxs j s hj).1
end
end Go.Proofs.YtcgbgifbajdhpaaGreatDoor.G
namespace Go.Proofs.YtcgbgifbajdhpaaGreatDoor.PA
open Go.RowKit Go.Proofs.YtcgbgifbajdhpaaGreatDoor.G Go.Proofs.YtcgbgifbajdhpaaGreatDoorW.au Go.Proofs.YtcgbgifbajdhpaaGreatDoorW.aI Go.Proofs.YtcgbgifbajdhpaaGreatDoorW.aJ
theorem JQ.calls (A0:Option Addr) (c0:Nat) (A1:Option Addr) (c1 n:Nat) (l:List eP) (w:World) (hn:l.length=n) (hr0:Kd.C iM w A0 n l) (hr1:Kd.C iM w A1 n l) (hl:n≤1000000) :
 Calls Tryz.prog 41 #[.slice A0 n c0,.slice A1 n c1] w fun e w'=>e = .returned (.bool true)∧Below w.heap.size w w':=by
 subst hn
 have HR0:=ah.mk hr0
 have HR1:=ah.mk hr1
 clear hr0 hr1
 have hnn:((l.length:Int) != (l.length:Int))=false:=by simp
 go_enter Tryz.func41,Tryz.ntmps41
 go_wp2
 go_loopw [13] (fun i wr=>∃ k:Nat,k≤l.length∧i = .int .i64 k∧ah (Below w.heap.size w wr)) (fun i _=>l.length-(intOf i).toNat)
 case atStart=>exact⟨0,Nat.zero_le _,rfl,⟨Below.refl _ _⟩⟩
 case round=>
  obtain⟨k,hk,rfl,HB⟩:=hrel
  by_cases hlt:k<l.length
  ·obtain⟨ad,rfl,e0,e1⟩:=jo (Kd.aH HR0.o HB.o) (k:Int) (by omega) (by omega)
   obtain⟨ae,rfl,g0,g1⟩:=jo (Kd.aH HR1.o HB.o) (k:Int) (by omega) (by omega)
   rw[Int.toNat_natCast] at e0 e1 g0 g1
   generalize bU l (k:Int)=x at e0 e1 g0 g1
   go_wp2
   go_region
   go_wp2
   go_roundw
   case rel=>exact⟨k+1,by omega,by go_num,⟨dG HB.o⟩⟩
   case measure=>simp[intOf];omega
  ·obtain rfl:k=l.length:=by omega
   go_wp2
   go_ret
   exact⟨rfl,HB.o⟩
end Go.Proofs.YtcgbgifbajdhpaaGreatDoor.PA
namespace Go.Proofs.YtcgbgifbajdhpaaGreatDoor.PA
open Go.RowKit Go.Proofs.YtcgbgifbajdhpaaGreatDoorW.au Go.Proofs.YtcgbgifbajdhpaaGreatDoorW.aI Go.Proofs.YtcgbgifbajdhpaaGreatDoorW.aJ
attribute [local go_sem] eG eH gq gu eT eU fU fV   -- for this text's walks alone
theorem Pm (d:Nat) (w:World) (x0 y0:Int) (x1 y1:Int) :
 (Op.equalIn (d+2) 70 (.agg #[.int .i64 x0,.int .u64 x1]) (.agg #[.int .i64 y0,.int .u64 y1])).run Tryz.prog w = .ok (x0==y0&&(x1==y1)) w:=by
 refine N9 Tryz.underlying70 (by kernel_rfl) ?_
 refine JN (by rfl) (by go_simp;rfl) (by go_simp;rfl) (by go_simp) ?_
 exact JO (by rfl) (by go_simp;rfl) (by go_simp;rfl) (by go_simp)
end Go.Proofs.YtcgbgifbajdhpaaGreatDoor.PA
