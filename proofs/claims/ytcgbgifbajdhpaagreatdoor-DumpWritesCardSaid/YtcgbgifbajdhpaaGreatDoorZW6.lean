/- Lemmas and contracts that the law DumpWrites leans on (packed by a program of this session out of its texts and the print's words). -/
import Derived.Test.YtcgbgifbajdhpaaGreatDoorZW5
import Derived.Test.YtcgbgifbajdhpaaGreatDoorZW2
import Derived.Test.YtcgbgifbajdhpaaGreatDoorZW3
import Derived.Deep.RegionHeld3
import Derived.WalkMore
import Derived.RangeFuncFrom
import Derived.Deep.Slices
import Derived.Deep.Fields
import Derived.ChangeSame
import Derived.OpenShut
import Derived.RowKit
import Derived.BigRegion
set_option linter.unusedVariables false
set_option linter.unusedSimpArgs false
set_option maxHeartbeats 8000000
set_option maxRecDepth 100000
namespace Go.Proofs.YtcgbgifbajdhpaaGreatDoor.PA
open Go.RowKit Go.Proofs.YtcgbgifbajdhpaaGreatDoor.G Go.Proofs.YtcgbgifbajdhpaaGreatDoorW.PrintWords Go.Proofs.YtcgbgifbajdhpaaGreatDoorW.PrintLast Go.Proofs.YtcgbgifbajdhpaaGreatDoorW.PrintMore
noncomputable def packB (L:List Bool):List Int:=open Classical in if h:∃ b,OkX b L.length∧Bs b L.length=L then h.choose else []
theorem packB_of {b:List Int} {L:List Bool} (h1:OkX b L.length) (h2:Bs b L.length=L):packB L=b:=by
  have h:∃ b,OkX b L.length∧Bs b L.length=L:=⟨b,h1,h2⟩
  unfold packB
  rw [dif_pos h]
  exact OkX.ext h.choose_spec.1 h1 (h.choose_spec.2.trans h2.symm)
noncomputable def encL (l:List S70):List Int:=beL l.length 2++packB (encP l l.length)
noncomputable def encF (l:List S70):List Int × Int:=if canS l=true then (encL l,0) else ([],1)
theorem headI_mono {l:List Int} {n n':Nat} (hn:n≤n') {v q:Int}:∀ (m p:Nat),headI l n m p=(v,q,0)→headI l n' m p=(v,q,0)
  | 0,p,h => by
    simp only [headI,tailI] at h ⊢
    split at h
    · simp at h
    · rw [if_neg (by omega)]
      exact h
  | m + 1, p, h => by
    simp only [headI] at h ⊢
    split at h
    · simp at h
    · rename_i h1
      rw [if_neg (by omega)]
      split at h
      · rename_i h2
        rw [if_pos h2]
        exact headI_mono hn m (p+1) h
      · rename_i h2
        rw [if_neg h2]
        simp only [tailI] at h ⊢
        split at h
        · simp at h
        · rw [if_neg (by omega)]
          exact h
theorem Bs_take {l:List Int} {N m:Nat} {B Z:List Bool} (h:Bs l N=B++Z) (hm:B.length=m):Bs l m=B:=by
  have hN:m≤N:=by have:=congrArg List.length h;simp at this;omega
  have:=win_Bs l N 0 m (by omega)
  rw [Nat.zero_add,List.drop_zero,h,← hm,List.take_left'] at this
  · rw [← hm];exact this
  · rfl
theorem takeI_part {l:List Int} {N:Nat} {B Z:List Bool} {v:Int} (hX:OkX l N) (hv:(Lit.int .i64 v).wf=true) (h:Bs l N=B++intBits v++Z):takeI l (N:Int) (B.length:Int)=(v,((B.length+(intBits v).length:Nat):Int),0):=by
  have hN:B.length+(intBits v).length≤N:=by have:=congrArg List.length h;simp at this;omega
  have h1:=Bs_take h (m:=B.length+(intBits v).length) (by simp)
  have h2:=headI_mono hN 4 B.length (head_back v hv h1)
  unfold takeI
  rw [if_neg (by intro q;rcases q with q | q | q;exact q ⟨by omega,by simpa using hX⟩;all_goals omega),Int.toNat_natCast,Int.toNat_natCast]
  exact h2
theorem takeR_part {l:List Int} {N c:Nat} {B L Z:List Bool} (hX:OkX l N) (hL:L.length=c) (hc:c≤64) (h:Bs l N=B++L++Z):takeR l (N:Int) (B.length:Int) (c:Int)=(((num L:Nat):Int),0):=by
  have hN:B.length+L.length≤N:=by have:=congrArg List.length h;simp at this;omega
  have h1:=win_part h rfl hL
  unfold takeR
  rw [if_neg (by intro q;rcases q with q | q | q | q | q;exact q ⟨by omega,by simpa using hX⟩;all_goals omega),if_neg (by omega),Int.toNat_natCast,Int.toNat_natCast,h1]
theorem bitLen_up:∀ x:Nat,x<2 ^ 64→x<2 ^ Lib.bitLen x:=by
  intro x
  induction x using Nat.strongRecOn with
  | _ x ih =>
    intro hx
    by_cases h0:x=0
    · subst h0
      exact Nat.two_pow_pos _
    · rw [Lib.bitLen_half x h0 hx,Nat.add_comm,Nat.pow_succ]
      have:=ih (x / 2) (by omega) (by omega)
      omega
theorem w64nat {a:Nat} (h:a<9000000000000000000):wrap64 (a:Int)=(a:Int):=w64 (by omega) (by omega)
noncomputable def unV (l:List Int) (N:Int) (s:Int × Bool):Int × Int × Bool :=
  if s.2=true then (0,s.1,true) else
  if (unT l N s 1).1=0 then (0,(unT l N s 1).2) else
  if ((unT l N (unT l N (unT l N s 1).2 6).2 6).2.2 || decide (64<wrap64 (wrap64 (unT l N (unT l N s 1).2 6).1+wrap64 (wrap64 (unT l N (unT l N (unT l N s 1).2 6).2 6).1+1))))=true then (0,(unT l N (unT l N (unT l N s 1).2 6).2 6).2.1,true) else
  (shl .u64 (unT l N (unT l N (unT l N (unT l N s 1).2 6).2 6).2 (wrap64 (wrap64 (unT l N (unT l N (unT l N s 1).2 6).2 6).1+1))).1 (wrap64 (wrap64 (64 - wrap64 (unT l N (unT l N s 1).2 6).1) - wrap64 (wrap64 (unT l N (unT l N (unT l N s 1).2 6).2 6).1+1))),
    (unT l N (unT l N (unT l N (unT l N s 1).2 6).2 6).2 (wrap64 (wrap64 (unT l N (unT l N (unT l N s 1).2 6).2 6).1+1))).2)
theorem unT_part {l:List Int} {N c:Nat} {B L Z:List Bool} (hX:OkX l N) (hL:L.length=c) (hc:c≤64) (hb:B.length≤100000000) (h:Bs l N=B++L++Z):unT l (N:Int) ((B.length:Int),false) (c:Int)=(((num L:Nat):Int),((B.length+c:Nat):Int),false):=by
  unfold unT
  rw [takeR_part hX hL hc h]
  rw [show ((B.length:Int)+(c:Int))=((B.length+c:Nat):Int) by omega,w64nat (by omega)]
  rfl
theorem unV_part {l:List Int} {N x:Nat} {B Z:List Bool} (hX:OkX l N) (hx:x<18446744073709551616) (hb:B.length≤10000000) (h:Bs l N=B++xorBits x++Z):unV l (N:Int) ((B.length:Int),false)=((x:Int),((B.length+(xorBits x).length:Nat):Int),false):=by
  by_cases h0:x=0
  · have e:xorBits x=low 0 1:=by rw [xorBits,if_pos h0]
    rw [e] at h ⊢
    have h1:=unT_part hX (low_length 0 1) (by decide) (by omega) h
    rw [num_low] at h1
    unfold unV
    rw [if_neg (by simp),show ((1:Nat):Int)=1 from rfl] at *
    rw [h1]
    simp [h0]
  · obtain ⟨z1,z2⟩:=zs hx h0
    obtain ⟨H,hH⟩:∃ H,hiZ x=H:=⟨_,rfl⟩
    obtain ⟨S,hS⟩:∃ S,loZ x=S:=⟨_,rfl⟩
    obtain ⟨D,hD⟩:∃ D,wdZ x=D:=⟨_,rfl⟩
    have hs:H+S+D=64:=by rw [← hH,← hS,← hD];unfold hiZ loZ wdZ;unfold loZ at z1;omega
    have hd:1≤D:=by rw [← hD];unfold wdZ;unfold loZ at z1;omega
    have e:xorBits x=low 1 1++low (H*64+(D - 1)) 12++low (x / 2 ^ S) D:=by rw [xorBits,if_neg h0,hH,hS,hD]
    have e12:low (H*64+(D - 1)) 12=low H 6++low (D - 1) 6:=by
      rw [low_split _ 12 6 (by decide),show (H*64+(D - 1)) / 2 ^ (12 - 6) % 2 ^ 6=H by rw [show 2 ^ (12 - 6)=64 from rfl,Nat.mul_comm H 64,Nat.mul_add_div (by decide),Nat.div_eq_of_lt (show D - 1<64 by omega),Nat.add_zero,Nat.mod_eq_of_lt (show H<64 by omega)],← low_mod (H*64+(D - 1)) 6,← low_mod (D - 1) 6]
      congr 2
      omega
    have hxS:x / 2 ^ S*2 ^ S=x:=by
      have hc:Lib.ctz 64 x=Lib.ctzFrom 64 x:=by unfold Lib.ctz;rw [if_neg h0]
      obtain ⟨m,hm,_⟩:=Lib.ctzFrom_spec 64 x (by omega) hx
      rw [← hc] at hm
      rw [show Lib.ctz 64 x=S from hS] at hm
      exact Nat.div_mul_cancel ⟨2*m+1,hm⟩
    have hxD:x / 2 ^ S<2 ^ D:=by
      have:=bitLen_up x hx
      rw [Nat.div_lt_iff_lt_mul (Nat.two_pow_pos _),← Nat.pow_add]
      rwa [show D+S=Lib.bitLen x by rw [← hS,← hD];unfold wdZ;unfold loZ at *;omega]
    rw [e,e12] at h ⊢
    clear e e12 z1 z2 hH hS hD
    have a1:=unT_part (c:=1) (B:=B) (L:=low 1 1) (Z:=low H 6++(low (D - 1) 6++(low (x / 2 ^ S) D++Z))) hX (low_length _ _) (by decide) (by omega) (by rw [h];simp only [List.append_assoc])
    have a2:=unT_part (c:=6) (B:=B++low 1 1) (L:=low H 6) (Z:=low (D - 1) 6++(low (x / 2 ^ S) D++Z)) hX (low_length _ _) (by decide) (by simp;omega) (by rw [h];simp only [List.append_assoc])
    have a3:=unT_part (c:=6) (B:=B++low 1 1++low H 6) (L:=low (D - 1) 6) (Z:=low (x / 2 ^ S) D++Z) hX (low_length _ _) (by decide) (by simp;omega) (by rw [h];simp only [List.append_assoc])
    have a4:=unT_part (c:=D) (B:=B++low 1 1++low H 6++low (D - 1) 6) (L:=low (x / 2 ^ S) D) (Z:=Z) hX (low_length _ _) (by omega) (by simp;omega) (by rw [h];simp only [List.append_assoc])
    rw [num_low] at a1 a2 a3 a4
    simp only [List.length_append,low_length] at a1 a2 a3 a4
    rw [show 1 % 2 ^ 1=1 from rfl] at a1
    rw [show H % 2 ^ 6=H by omega] at a2
    rw [show (D - 1) % 2 ^ 6=D - 1 by omega] at a3
    rw [Nat.mod_eq_of_lt hxD] at a4
    rw [show ((1:Nat):Int)=1 from rfl] at a1
    rw [show ((6:Nat):Int)=6 from rfl] at a2 a3
    unfold unV
    simp only [a1,a2,a3]
    rw [w64nat (show H<9000000000000000000 by omega),w64nat (show D - 1<9000000000000000000 by omega),show (((D - 1:Nat):Int)+1)=((D:Nat):Int) by omega,w64nat (show D<9000000000000000000 by omega),show ((H:Int)+(D:Int))=((H+D:Nat):Int) by omega,w64nat (show H+D<9000000000000000000 by omega),a4]
    rw [show (64 - (H:Int))=((64 - H:Nat):Int) by omega,w64nat (show 64 - H<9000000000000000000 by omega),show (((64 - H:Nat):Int) - (D:Int))=((S:Nat):Int) by omega,w64nat (show S<9000000000000000000 by omega)]
    rw [if_neg (by simp),if_neg (by simp),if_neg (by simp;omega)]
    have e5:shl .u64 ((x / 2 ^ S:Nat):Int) (S:Int)=(x:Int):=by
      unfold shl
      rw [Int.toNat_natCast,Nat.min_eq_left (by simp [IntKind.bits];omega)]
      have:((x / 2 ^ S:Nat):Int)*2 ^ S=(x:Int):=by rw [show (2:Int) ^ S=((2 ^ S:Nat):Int) by simp,← Int.natCast_mul,hxS]
      rw [this]
      exact u64wrap hx
    rw [e5]
    simp only [List.length_append,low_length,Prod.mk.injEq,true_and,and_true]
    omega
theorem out_put.at_ (B g:Nat) (L:List Bool) (V C:Int) (v c:Nat) (w0 w:World) (hO:OU B w g L) (hB:Below B w0 w) (hgB:B≤g) (hV:V=(v:Int)) (hC:C=(c:Int)) (hv:v<18446744073709551616) (hc:c≤64) (hL:L.length≤7000000) :
    Calls Tryz.prog 81 #[.pointer (some ⟨g,0,none⟩),.int .u64 V,.int .i64 C] w fun e w' => e = .returned (.tuple #[])∧OU B w' g (L++low v c)∧Below B w0 w'∧KeepO g w w':=by
  subst hV hC
  exact out_put.calls B g L v c w0 w hO hB hgB hv hc hL
theorem intBits_0:intBits 0=low 0 1:=by decide
theorem intBits_1 {v:Int} {u:Nat} (h0:v ≠ 0) (h1:-64≤v) (h2:v≤63) (hu:IntKind.u64.wrap v=(u:Int)):intBits v=low 2 2++low u 7:=by
  have e:classN v=1:=by unfold classN;rw [if_neg h0,if_pos ⟨h1,by omega⟩]
  unfold intBits
  rw [e,hu]
  rfl
theorem intBits_2 {v:Int} {u:Nat} (h1:¬ (-64≤v∧v≤63)) (h2:-2048≤v) (h3:v≤2047) (hu:IntKind.u64.wrap v=(u:Int)):intBits v=low 6 3++low u 12:=by
  have e:classN v=2:=by unfold classN;rw [if_neg (by omega),if_neg (by omega),if_pos ⟨h2,by omega⟩]
  unfold intBits
  rw [e,hu]
  rfl
theorem intBits_3 {v:Int} {u:Nat} (h1:¬ (-2048≤v∧v≤2047)) (h2:-2147483648≤v) (h3:v≤2147483647) (hu:IntKind.u64.wrap v=(u:Int)):intBits v=low 14 4++low u 32:=by
  have e:classN v=3:=by unfold classN;rw [if_neg (by omega),if_neg (by omega),if_neg (by omega),if_pos ⟨h2,by omega⟩]
  unfold intBits
  rw [e,hu]
  rfl
theorem intBits_4 {v:Int} {u:Nat} (h1:¬ (-2147483648≤v∧v≤2147483647)) (hu:IntKind.u64.wrap v=(u:Int)):intBits v=low 15 4++low u 64:=by
  have e:classN v=4:=by unfold classN;rw [if_neg (by omega),if_neg (by omega),if_neg (by omega),if_neg (by omega)]
  unfold intBits
  rw [e,hu]
  rfl
theorem out_putInt.calls (B g:Nat) (L:List Bool) (v:Int) (w0 w:World) (hO:OU B w g L) (hB:Below B w0 w) (hgB:B≤g) (hL:L.length≤6000000) :
    Calls Tryz.prog 82 #[.pointer (some ⟨g,0,none⟩),.int .i64 v] w fun e w' => e = .returned (.tuple #[])∧OU B w' g (L++intBits v)∧Below B w0 w'∧KeepO g w w':=by
  have HO:=Aside0.mk hO
  have HB:=Aside0.mk hB
  have HGB:=Aside0.mk hgB
  have HL:=Aside0.mk hL
  obtain ⟨u,hu,hu64⟩:=u64_of_int v
  have HU:=Aside0.mk hu
  clear hO hB hgB hL
  by_cases h0:v=0
  · have d0:(v == 0)=true:=beq_iff_eq.2 h0
    have HE:Aside0 (intBits v=low 0 1):=⟨by rw [h0];exact intBits_0⟩
    clear h0 hu
    go_enter Tryz.func82,Tryz.ntmps82
    go_wp2_with (go_at_call 81;(with_reducible refine (out_put.at_ B g L 0 1 0 1 w0 _ HO.out HB.out HGB.out rfl rfl (by decide) (by decide) (by have:=HL.out;omega)).mono ?_);rintro e w1 ⟨rfl,ho,hb,hk⟩;have HO1:=Aside0.mk ho;have HB1:=Aside0.mk hb;have HK1:=Aside0.mk hk;clear ho hb hk)
    refine bodyPost_end (results_none rfl _ _ _) rfl ?_
    exact ⟨rfl,by rw [HE.out];exact HO1.out,HB1.out,HK1.out⟩
  have d0:(v == 0)=false:=beq_eq_false_iff_ne.2 h0
  by_cases h1:-64≤v∧v≤63
  · have d1:decide (-64≤v)=true:=decide_eq_true h1.1
    have d2:decide (v≤63)=true:=decide_eq_true h1.2
    have HE:=Aside0.mk (intBits_1 h0 h1.1 h1.2 hu)
    clear h0 hu h1
    go_enter Tryz.func82,Tryz.ntmps82
    go_wp2_with (first
      | (go_at_call 81;(with_reducible refine (out_put.at_ B g L 2 2 2 2 w0 _ HO.out HB.out HGB.out rfl rfl (by decide) (by decide) (by have:=HL.out;omega)).mono ?_);rintro e w1 ⟨rfl,ho,hb,hk⟩;have HO1:=Aside0.mk ho;have HB1:=Aside0.mk hb;have HK1:=Aside0.mk hk;clear ho hb hk)
      | (go_at_call 81;(with_reducible refine (out_put.at_ B g (L++low 2 2) _ 7 u 7 w0 _ HO1.out HB1.out HGB.out HU.out rfl hu64 (by decide) (by have:=HL.out;simp;omega)).mono ?_);rintro e w2 ⟨rfl,ho,hb,hk⟩;have HO2:=Aside0.mk ho;have HB2:=Aside0.mk hb;have HK2:=Aside0.mk (HK1.out.trans hk);clear ho hb hk))
    refine bodyPost_end (results_none rfl _ _ _) rfl ?_
    exact ⟨rfl,by rw [HE.out,← List.append_assoc];exact HO2.out,HB2.out,HK2.out⟩
  clear d0
  have d0:(v == 0)=false:=beq_eq_false_iff_ne.2 h0
  by_cases h2:-2048≤v∧v≤2047
  · have e2:decide (-2048≤v)=true:=decide_eq_true h2.1
    have e3:decide (v≤2047)=true:=decide_eq_true h2.2
    have HE:=Aside0.mk (intBits_2 h1 h2.1 h2.2 hu)
    clear h0 hu h2
    by_cases hneg:v<0
    · have f64a:decide (-64≤v)=false:=decide_eq_false (by omega)
      clear h1
      clear hneg
      go_enter Tryz.func82,Tryz.ntmps82
      go_wp2_with (first
        | (go_at_call 81;(with_reducible refine (out_put.at_ B g L 6 3 6 3 w0 _ HO.out HB.out HGB.out rfl rfl (by decide) (by decide) (by have:=HL.out;omega)).mono ?_);rintro e w1 ⟨rfl,ho,hb,hk⟩;have HO1:=Aside0.mk ho;have HB1:=Aside0.mk hb;have HK1:=Aside0.mk hk;clear ho hb hk)
        | (go_at_call 81;(with_reducible refine (out_put.at_ B g (L++low 6 3) _ 12 u 12 w0 _ HO1.out HB1.out HGB.out HU.out rfl hu64 (by decide) (by have:=HL.out;simp;omega)).mono ?_);rintro e w2 ⟨rfl,ho,hb,hk⟩;have HO2:=Aside0.mk ho;have HB2:=Aside0.mk hb;have HK2:=Aside0.mk (HK1.out.trans hk);clear ho hb hk))
      refine bodyPost_end (results_none rfl _ _ _) rfl ?_
      exact ⟨rfl,by rw [HE.out,← List.append_assoc];exact HO2.out,HB2.out,HK2.out⟩
    · have f64a:decide (-64≤v)=true:=decide_eq_true (by omega)
      have f64b:decide (v≤63)=false:=decide_eq_false (by omega)
      clear h1
      clear hneg
      go_enter Tryz.func82,Tryz.ntmps82
      go_wp2_with (first
        | (go_at_call 81;(with_reducible refine (out_put.at_ B g L 6 3 6 3 w0 _ HO.out HB.out HGB.out rfl rfl (by decide) (by decide) (by have:=HL.out;omega)).mono ?_);rintro e w1 ⟨rfl,ho,hb,hk⟩;have HO1:=Aside0.mk ho;have HB1:=Aside0.mk hb;have HK1:=Aside0.mk hk;clear ho hb hk)
        | (go_at_call 81;(with_reducible refine (out_put.at_ B g (L++low 6 3) _ 12 u 12 w0 _ HO1.out HB1.out HGB.out HU.out rfl hu64 (by decide) (by have:=HL.out;simp;omega)).mono ?_);rintro e w2 ⟨rfl,ho,hb,hk⟩;have HO2:=Aside0.mk ho;have HB2:=Aside0.mk hb;have HK2:=Aside0.mk (HK1.out.trans hk);clear ho hb hk))
      refine bodyPost_end (results_none rfl _ _ _) rfl ?_
      exact ⟨rfl,by rw [HE.out,← List.append_assoc];exact HO2.out,HB2.out,HK2.out⟩
  clear h1
  have h1:=h2
  clear h2
  by_cases h2:-2147483648≤v∧v≤2147483647
  · have e2:decide (-2147483648≤v)=true:=decide_eq_true h2.1
    have e3:decide (v≤2147483647)=true:=decide_eq_true h2.2
    have HE:=Aside0.mk (intBits_3 h1 h2.1 h2.2 hu)
    clear h0 hu h2
    by_cases hneg:v<0
    · have f64a:decide (-64≤v)=false:=decide_eq_false (by omega)
      have f2048a:decide (-2048≤v)=false:=decide_eq_false (by omega)
      clear h1
      clear hneg
      go_enter Tryz.func82,Tryz.ntmps82
      go_wp2_with (first
        | (go_at_call 81;(with_reducible refine (out_put.at_ B g L 14 4 14 4 w0 _ HO.out HB.out HGB.out rfl rfl (by decide) (by decide) (by have:=HL.out;omega)).mono ?_);rintro e w1 ⟨rfl,ho,hb,hk⟩;have HO1:=Aside0.mk ho;have HB1:=Aside0.mk hb;have HK1:=Aside0.mk hk;clear ho hb hk)
        | (go_at_call 81;(with_reducible refine (out_put.at_ B g (L++low 14 4) _ 32 u 32 w0 _ HO1.out HB1.out HGB.out HU.out rfl hu64 (by decide) (by have:=HL.out;simp;omega)).mono ?_);rintro e w2 ⟨rfl,ho,hb,hk⟩;have HO2:=Aside0.mk ho;have HB2:=Aside0.mk hb;have HK2:=Aside0.mk (HK1.out.trans hk);clear ho hb hk))
      refine bodyPost_end (results_none rfl _ _ _) rfl ?_
      exact ⟨rfl,by rw [HE.out,← List.append_assoc];exact HO2.out,HB2.out,HK2.out⟩
    · have f64a:decide (-64≤v)=true:=decide_eq_true (by omega)
      have f64b:decide (v≤63)=false:=decide_eq_false (by omega)
      have f2048a:decide (-2048≤v)=true:=decide_eq_true (by omega)
      have f2048b:decide (v≤2047)=false:=decide_eq_false (by omega)
      clear h1
      clear hneg
      go_enter Tryz.func82,Tryz.ntmps82
      go_wp2_with (first
        | (go_at_call 81;(with_reducible refine (out_put.at_ B g L 14 4 14 4 w0 _ HO.out HB.out HGB.out rfl rfl (by decide) (by decide) (by have:=HL.out;omega)).mono ?_);rintro e w1 ⟨rfl,ho,hb,hk⟩;have HO1:=Aside0.mk ho;have HB1:=Aside0.mk hb;have HK1:=Aside0.mk hk;clear ho hb hk)
        | (go_at_call 81;(with_reducible refine (out_put.at_ B g (L++low 14 4) _ 32 u 32 w0 _ HO1.out HB1.out HGB.out HU.out rfl hu64 (by decide) (by have:=HL.out;simp;omega)).mono ?_);rintro e w2 ⟨rfl,ho,hb,hk⟩;have HO2:=Aside0.mk ho;have HB2:=Aside0.mk hb;have HK2:=Aside0.mk (HK1.out.trans hk);clear ho hb hk))
      refine bodyPost_end (results_none rfl _ _ _) rfl ?_
      exact ⟨rfl,by rw [HE.out,← List.append_assoc];exact HO2.out,HB2.out,HK2.out⟩
  · clear h1
    have h1:=h2
    have HE:=Aside0.mk (intBits_4 h1 hu)
    clear h0 hu h2
    by_cases hneg:v<0
    · have f64a:decide (-64≤v)=false:=decide_eq_false (by omega)
      have f2048a:decide (-2048≤v)=false:=decide_eq_false (by omega)
      have f2147483648a:decide (-2147483648≤v)=false:=decide_eq_false (by omega)
      clear h1
      clear hneg
      go_enter Tryz.func82,Tryz.ntmps82
      go_wp2_with (first
        | (go_at_call 81;(with_reducible refine (out_put.at_ B g L 15 4 15 4 w0 _ HO.out HB.out HGB.out rfl rfl (by decide) (by decide) (by have:=HL.out;omega)).mono ?_);rintro e w1 ⟨rfl,ho,hb,hk⟩;have HO1:=Aside0.mk ho;have HB1:=Aside0.mk hb;have HK1:=Aside0.mk hk;clear ho hb hk)
        | (go_at_call 81;(with_reducible refine (out_put.at_ B g (L++low 15 4) _ 64 u 64 w0 _ HO1.out HB1.out HGB.out HU.out rfl hu64 (by decide) (by have:=HL.out;simp;omega)).mono ?_);rintro e w2 ⟨rfl,ho,hb,hk⟩;have HO2:=Aside0.mk ho;have HB2:=Aside0.mk hb;have HK2:=Aside0.mk (HK1.out.trans hk);clear ho hb hk))
      refine bodyPost_end (results_none rfl _ _ _) rfl ?_
      exact ⟨rfl,by rw [HE.out,← List.append_assoc];exact HO2.out,HB2.out,HK2.out⟩
    · have f64a:decide (-64≤v)=true:=decide_eq_true (by omega)
      have f64b:decide (v≤63)=false:=decide_eq_false (by omega)
      have f2048a:decide (-2048≤v)=true:=decide_eq_true (by omega)
      have f2048b:decide (v≤2047)=false:=decide_eq_false (by omega)
      have f2147483648a:decide (-2147483648≤v)=true:=decide_eq_true (by omega)
      have f2147483648b:decide (v≤2147483647)=false:=decide_eq_false (by omega)
      clear h1
      clear hneg
      go_enter Tryz.func82,Tryz.ntmps82
      go_wp2_with (first
        | (go_at_call 81;(with_reducible refine (out_put.at_ B g L 15 4 15 4 w0 _ HO.out HB.out HGB.out rfl rfl (by decide) (by decide) (by have:=HL.out;omega)).mono ?_);rintro e w1 ⟨rfl,ho,hb,hk⟩;have HO1:=Aside0.mk ho;have HB1:=Aside0.mk hb;have HK1:=Aside0.mk hk;clear ho hb hk)
        | (go_at_call 81;(with_reducible refine (out_put.at_ B g (L++low 15 4) _ 64 u 64 w0 _ HO1.out HB1.out HGB.out HU.out rfl hu64 (by decide) (by have:=HL.out;simp;omega)).mono ?_);rintro e w2 ⟨rfl,ho,hb,hk⟩;have HO2:=Aside0.mk ho;have HB2:=Aside0.mk hb;have HK2:=Aside0.mk (HK1.out.trans hk);clear ho hb hk))
      refine bodyPost_end (results_none rfl _ _ _) rfl ?_
      exact ⟨rfl,by rw [HE.out,← List.append_assoc];exact HO2.out,HB2.out,HK2.out⟩
theorem not_one (v i:Nat) (hv:v<18446744073709551616) (hi:i≤64):(Go.bits .and .u64 ((v:Int) / 2 ^ i) 1 == 0) = !v.testBit i:=by
  have:=and_one v i hv hi
  have h2:v / 2 ^ i<18446744073709551616:=Nat.lt_of_le_of_lt (Nat.div_le_self _ _) hv
  have e:(v:Int) / 2 ^ i=((v / 2 ^ i:Nat):Int):=by simp
  rw [e] at this ⊢
  rw [show (1:Int)=((1:Nat):Int) from rfl,u64_and_nat _ 1 h2 (by omega),Nat.and_one_is_mod] at this ⊢
  rw [← this]
  rcases Nat.mod_two_eq_zero_or_one (v / 2 ^ i) with h | h <;> rw [h] <;> rfl
theorem hi_bits {x:Nat} (hx:x<18446744073709551616) (h0:x ≠ 0):1≤Lib.bitLen x∧Lib.bitLen x≤64∧x.testBit (Lib.bitLen x - 1)=true∧∀ j,Lib.bitLen x≤j→x.testBit j=false:=by
  have h1:=Lib.bitLen_le x 64 (by decide) hx
  have h2:=bitLen_up x hx
  have h3:1≤Lib.bitLen x:=by
    rcases Nat.eq_zero_or_pos (Lib.bitLen x) with h | h
    · rw [h] at h2
      omega
    · exact h
  refine ⟨h3,h1,?_,fun j hj => Nat.testBit_lt_two_pow (Nat.lt_of_lt_of_le h2 (Nat.pow_le_pow_right (by decide) hj))⟩
  refine Nat.testBit_of_two_pow_le_and_two_pow_add_one_gt ?_ (by rwa [show Lib.bitLen x - 1+1=Lib.bitLen x by omega])
  rcases Nat.lt_or_ge x (2 ^ (Lib.bitLen x - 1)) with h | h
  · have:=Lib.bitLen_le x (Lib.bitLen x - 1) (by omega) h
    omega
  · exact h
theorem lo_bits {x:Nat} (hx:x<18446744073709551616) (h0:x ≠ 0):x.testBit (loZ x)=true∧∀ j,j<loZ x→x.testBit j=false:=by
  have hc:loZ x=Lib.ctzFrom 64 x:=by unfold loZ Lib.ctz;rw [if_neg h0]
  obtain ⟨m,hm,_⟩:=Lib.ctzFrom_spec 64 x (by omega) hx
  rw [← hc] at hm
  constructor
  · rw [show x.testBit (loZ x)=(2 ^ loZ x*(2*m+1)).testBit (loZ x) from congrArg (fun z => z.testBit (loZ x)) hm,Nat.testBit_two_pow_mul]
    simp
  · intro j hj
    rw [show x.testBit j=(2 ^ loZ x*(2*m+1)).testBit j from congrArg (fun z => z.testBit j) hm,Nat.testBit_two_pow_mul]
    simp
    omega
theorem low12 {H D:Nat} (hH:H<64) (hD:D<64):low (H*64+D) 12=low H 6++low D 6:=by
  rw [low_split _ 12 6 (by decide),show (H*64+D) / 2 ^ (12 - 6) % 2 ^ 6=H by rw [show 2 ^ (12 - 6)=64 from rfl,Nat.mul_comm H 64,Nat.mul_add_div (by decide),Nat.div_eq_of_lt hD,Nat.add_zero,Nat.mod_eq_of_lt hH],← low_mod (H*64+D) 6,← low_mod D 6]
  congr 2
  omega
theorem u64n {n:Nat} (h:n<18446744073709551616):IntKind.u64.wrap (n:Int)=(n:Int):=u64wrap h
theorem out_putXor.calls (B g:Nat) (L:List Bool) (x:Nat) (w0 w:World) (hO:OU B w g L) (hB:Below B w0 w) (hgB:B≤g) (hx:x<18446744073709551616) (hL:L.length≤6000000) :
    Calls Tryz.prog 83 #[.pointer (some ⟨g,0,none⟩),.int .u64 (x:Int)] w fun e w' => e = .returned (.tuple #[])∧OU B w' g (L++xorBits x)∧Below B w0 w'∧KeepO g w w':=by
  have HO:=Aside0.mk hO
  have HB:=Aside0.mk hB
  have HGB:=Aside0.mk hgB
  have HL:=Aside0.mk hL
  clear hO hB hgB hL
  by_cases h0:x=0
  · have hb:((x:Int) == 0)=true:=beq_iff_eq.2 (by omega)
    have HX:Aside0 (xorBits x=low 0 1):=⟨by rw [xorBits,if_pos h0]⟩
    clear h0
    go_enter Tryz.func83,Tryz.ntmps83
    go_wp2_with (go_at_call 81;(with_reducible refine (out_put.at_ B g L 0 1 0 1 w0 _ HO.out HB.out HGB.out rfl rfl (by decide) (by decide) (by have:=HL.out;omega)).mono ?_);rintro e w1 ⟨rfl,ho,hb,hk⟩;have HO1:=Aside0.mk ho;have HB1:=Aside0.mk hb;have HK1:=Aside0.mk hk;clear ho hb hk)
    refine bodyPost_ret (results_none rfl _ _ _) rfl ?_
    exact ⟨rfl,by rw [HX.out];exact HO1.out,HB1.out,HK1.out⟩
  · have hb : ((x : Int) == 0) = false := beq_eq_false_iff_ne.2 (by omega)
    obtain ⟨b1,b2,b3,b4⟩:=hi_bits hx h0
    obtain ⟨c3,c4⟩:=lo_bits hx h0
    obtain ⟨z1,z2⟩:=zs hx h0
    obtain ⟨H,hH⟩:∃ H,hiZ x=H:=⟨_,rfl⟩
    obtain ⟨S,hS⟩:∃ S,loZ x=S:=⟨_,rfl⟩
    obtain ⟨D,hD⟩:∃ D,wdZ x=D:=⟨_,rfl⟩
    have hs:H+S+D=64:=by rw [← hH,← hS,← hD];unfold hiZ loZ wdZ;unfold loZ at z1;omega
    have hd:1≤D:=by rw [← hD];unfold wdZ;unfold loZ at z1;omega
    have HX:Aside0 (xorBits x=low 1 1++(low H 6++low (D - 1) 6)++low (x / 2 ^ S) D):=⟨by rw [xorBits,if_neg h0,hH,hS,hD,low12 (by omega) (by omega)]⟩
    have HHI:Aside0 (∀ h:Nat,h≤H→(x.testBit (63 - h)=decide (h=H))):=⟨fun h hh => by
      unfold hiZ at hH
      by_cases e:h=H
      · rw [decide_eq_true e,show 63 - h=Lib.bitLen x - 1 by omega,b3]
      · rw [decide_eq_false e,b4 _ (by omega)]⟩
    have HLO:Aside0 (∀ h:Nat,h≤S→(x.testBit h=decide (h=S))):=⟨fun h hh => by
      by_cases e:h=S
      · rw [decide_eq_true e,e,← hS,c3]
      · rw [decide_eq_false e,c4 _ (by omega)]⟩
    have HXL:=Aside0.mk hx
    clear b1 b2 b3 b4 c3 c4 z1 z2 hH hS hD h0
    go_enter Tryz.func83,Tryz.ntmps83
    go_wp2
    go_loop [4] (fun v4 => ∃ h:Nat,h≤H∧v4 = .int .i64 h) (fun v4 => 64 - (intOf v4).toNat)
    case atStart => exact ⟨0,Nat.zero_le _,rfl⟩
    case round =>
      obtain ⟨h,hh,rfl⟩:=hrel
      have hd63:63 - (h:Int)=((63 - h:Nat):Int):=by omega
      have ht:=not_one x (63 - h) HXL.out (by omega)
      rw [HHI.out h hh] at ht
      by_cases hlt:h=H
      · rw [decide_eq_true hlt] at ht
        subst hlt
        go_wp2
        clear ht hd63
        go_loop [5] (fun v5 => ∃ q:Nat,q≤S∧v5 = .int .i64 q) (fun v5 => 64 - (intOf v5).toNat)
        case atStart => exact ⟨0,Nat.zero_le _,rfl⟩
        case round =>
          obtain ⟨q,hq,rfl⟩:=hrel
          have ht2:=not_one x q HXL.out (by omega)
          rw [HLO.out q hq] at ht2
          by_cases hl2:q=S
          · rw [decide_eq_true hl2] at ht2
            subst hl2
            have hxs:(x:Int) / 2 ^ q=((x / 2 ^ q:Nat):Int):=by simp
            have hxq:x / 2 ^ q<18446744073709551616:=Nat.lt_of_le_of_lt (Nat.div_le_self _ _) HXL.out
            have CA:=Aside0.mk (fun W h1 h2 => out_put.at_ B g L 1 1 1 1 w0 W h1 h2 HGB.out rfl rfl (by decide) (by decide) (by have:=HL.out;omega))
            have CB:=Aside0.mk (fun W h1 h2 => out_put.at_ B g (L++low 1 1) (h:Int) 6 h 6 w0 W h1 h2 HGB.out rfl rfl (by omega) (by decide) (by have:=HL.out;simp;omega))
            have CC:=Aside0.mk (fun W h1 h2 => out_put.at_ B g (L++low 1 1++low h 6) (64 - (h:Int) - (q:Int) - 1) 6 (D - 1) 6 w0 W h1 h2 HGB.out (by omega) rfl (by omega) (by decide) (by have:=HL.out;simp;omega))
            have CD:=Aside0.mk (fun W h1 h2 => out_put.at_ B g (L++low 1 1++low h 6++low (D - 1) 6) ((x:Int) / 2 ^ q) (64 - (h:Int) - (q:Int)) (x / 2 ^ q) D w0 W h1 h2 HGB.out hxs (by omega) hxq (by omega) (by have:=HL.out;simp;omega))
            clear hxs hxq
            go_wp2_with (first
              | (go_at_call 81;(with_reducible refine (CA.out _ HO.out HB.out).mono ?_);rintro e w1 ⟨rfl,ho,hb,hk⟩;have HO1:=Aside0.mk ho;have HB1:=Aside0.mk hb;have HK1:=Aside0.mk hk;clear ho hb hk)
              | (go_at_call 81;(with_reducible refine (CB.out _ HO1.out HB1.out).mono ?_);rintro e w2 ⟨rfl,ho,hb,hk⟩;have HO2:=Aside0.mk ho;have HB2:=Aside0.mk hb;have HK2:=Aside0.mk (HK1.out.trans hk);clear ho hb hk)
              | (go_at_call 81;(with_reducible refine (CC.out _ HO2.out HB2.out).mono ?_);rintro e w3 ⟨rfl,ho,hb,hk⟩;have HO3:=Aside0.mk ho;have HB3:=Aside0.mk hb;have HK3:=Aside0.mk (HK2.out.trans hk);clear ho hb hk)
              | (go_at_call 81;(with_reducible refine (CD.out _ HO3.out HB3.out).mono ?_);rintro e w4 ⟨rfl,ho,hb,hk⟩;have HO4:=Aside0.mk ho;have HB4:=Aside0.mk hb;have HK4:=Aside0.mk (HK3.out.trans hk);clear ho hb hk))
            refine bodyPost_end (results_none rfl _ _ _) rfl ?_
            refine ⟨rfl,?_,HB4.out,HK4.out⟩
            have:=HO4.out
            rw [HX.out]
            simp only [List.append_assoc] at this ⊢
            exact this
          · rw [decide_eq_false hl2] at ht2
            go_wp2
            go_round
            case rel => exact ⟨q+1,by omega,by go_num⟩
            case measure => simp [intOf] <;> omega
      · rw [decide_eq_false hlt] at ht
        go_wp2
        go_round
        case rel => exact ⟨h+1,by omega,by go_num⟩
        case measure => simp [intOf] <;> omega
end Go.Proofs.YtcgbgifbajdhpaaGreatDoor.PA
namespace Go.Proofs.YtcgbgifbajdhpaaGreatDoor.G
open Go.RowKit Go.Proofs.YtcgbgifbajdhpaaGreatDoorW.PrintWords Go.Proofs.YtcgbgifbajdhpaaGreatDoorW.PrintLast Go.Proofs.YtcgbgifbajdhpaaGreatDoorW.PrintMore
def crc_Get.f (l:List Int):Option (Int × Bool):=if okB l=true then (if 1≤l.length∧l.length≤8 then some ((beV 0 l:Nat),true) else some (0,false)) else none
theorem beV_take (l:List Int) (k:Nat) (hk:k<l.length):beV 0 (l.take (k+1))=beV 0 (l.take k)*256+(rd l (k:Int)).toNat:=by
  have e:rd l (k:Int)=l[k]:=by simp [rd,List.getD_eq_getElem?_getD,List.getElem?_eq_getElem hk]
  rw [List.take_succ_eq_append_getElem hk,e]
  unfold beV
  rw [List.foldl_append]
  rfl
theorem beV_take_lt {l:List Int} (hl:okB l=true) (k:Nat):beV 0 (l.take k)<256 ^ k:=by
  have h:=beV_lt (l.take k) (fun x hx => okB_iff.1 hl x (List.mem_of_mem_take hx)) 0 0 (by simp)
  refine Nat.lt_of_lt_of_le h (Nat.pow_le_pow_right (by decide) ?_)
  rw [List.length_take]
  omega
theorem crc_Get.calls (A0:Option Addr) (c0:Nat) (l0:List Int) (r1:Int) (r2:Bool) (w:World) (hr0:Kd.C (Kd.int .u8) w A0 l0.length l0) (hc0:l0.length≤c0) (h:crc_Get.f l0=some (r1,r2)) :
    Calls Tryz.prog 63 #[.slice A0 l0.length c0] w fun e w' => e = .returned (.tuple #[.int .u64 r1,.bool r2])∧Drawn0 w w':=by
  have HR:=Aside0.mk hr0
  clear hr0 hc0
  unfold crc_Get.f at h
  split at h
  case isFalse => cases h
  case isTrue hok =>
  by_cases hl:1≤l0.length∧l0.length≤8
  case neg =>
    rw [if_neg hl] at h
    simp only [Option.some.injEq,Prod.mk.injEq] at h
    obtain ⟨rfl,rfl⟩:=h
    by_cases h0:l0.length=0
    · have e0:((l0.length:Int) == 0)=true:=beq_iff_eq.2 (by omega)
      clear hl h0
      go_enter Tryz.func63,Tryz.ntmps63
      go_wp2
      go_ret2
      exact ⟨rfl,Drawn0.refl _⟩
    · have e0:((l0.length:Int) == 0)=false:=beq_eq_false_iff_ne.2 (by omega)
      have e1:decide ((8:Int)<(l0.length:Int))=true:=decide_eq_true (by omega)
      clear hl h0
      go_enter Tryz.func63,Tryz.ntmps63
      go_wp2
      go_ret2
      exact ⟨rfl,Drawn0.refl _⟩
  case pos =>
    rw [if_pos hl] at h
    simp only [Option.some.injEq,Prod.mk.injEq] at h
    obtain ⟨rfl,rfl⟩:=h
    have e0:((l0.length:Int) == 0)=false:=beq_eq_false_iff_ne.2 (by omega)
    have e1:decide ((8:Int)<(l0.length:Int))=false:=decide_eq_false (by omega)
    go_enter Tryz.func63,Tryz.ntmps63
    go_wp2
    go_loop [4,17] (fun n i => ∃ k:Nat,k≤l0.length∧i = .int .i64 k∧n = .int .u64 (beV 0 (l0.take k):Nat)) (fun _ i => l0.length - (intOf i).toNat)
    case atStart => exact ⟨0,Nat.zero_le _,rfl,rfl⟩
    case round =>
      obtain ⟨k,hk,rfl,rfl⟩:=hrel
      by_cases hlt:k<l0.length
      · obtain ⟨ad,rfl,hc⟩:=Kd.at_int HR.out (k:Int) (by omega) (by omega)
        rw [Int.toNat_natCast] at hc
        have hx:=okB_iff.1 hok _ (rd_mem l0 k hlt)
        have HT:=Aside0.mk (beV_take l0 k hlt)
        have hV:=beV_take_lt hok k
        have h7:beV 0 (l0.take k)<256 ^ 7:=Nat.lt_of_lt_of_le hV (Nat.pow_le_pow_right (by decide) (by omega))
        have HO:=Aside0.mk (or8 _ _ h7 hx.1 hx.2)
        have HV:=Aside0.mk h7
        clear hV h7 hx
        go_wp2
        go_round
        case rel => exact ⟨k+1,by omega,by go_num,by rw [HT.out,← HO.out]⟩
        case measure => simp [intOf];omega
      · obtain rfl:k=l0.length:=by omega
        go_wp2
        go_ret2
        exact ⟨rfl,Drawn0.refl _⟩
end Go.Proofs.YtcgbgifbajdhpaaGreatDoor.G
namespace Go.Proofs.YtcgbgifbajdhpaaGreatDoor.PA
open Go.RowKit Go.Proofs.YtcgbgifbajdhpaaGreatDoor.G Go.Proofs.YtcgbgifbajdhpaaGreatDoorW.PrintWords Go.Proofs.YtcgbgifbajdhpaaGreatDoorW.PrintLast Go.Proofs.YtcgbgifbajdhpaaGreatDoorW.PrintMore
theorem pack_ex (L:List Bool) (hL:L.length≤7000000):∀ n,n≤L.length→∃ b,OkX b n∧Bs b n=L.take n
  | 0,_ => ⟨[],okX_nil,rfl⟩
  | n+1,h => by
    obtain ⟨b,hb,hbs⟩:=pack_ex L hL n (by omega)
    obtain ⟨b',_,h1,h2⟩:=put_ok hb (by have:=hb.near;omega) (if L[n] = true then 1 else 0) 1 (by split <;> decide) (by decide)
    refine ⟨b',h1,?_⟩
    rw [h2,hbs,List.take_succ_eq_append_getElem h]
    congr 1
    cases L[n] <;> rfl
theorem packB_ok (L:List Bool) (hL:L.length≤7000000):OkX (packB L) L.length∧Bs (packB L) L.length=L:=by
  obtain ⟨b,h1,h2⟩:=pack_ex L hL L.length (Nat.le_refl _)
  rw [List.take_length] at h2
  rw [packB_of h1 h2]
  exact ⟨h1,h2⟩
theorem unT_range (l:List Int) (N c:Int) (s:Int × Bool):0≤(unT l N s c).1∧(unT l N s c).1<18446744073709551616:=by
  unfold unT takeR
  split
  · exact ⟨Int.le_refl _,by show (0:Int)<_;decide⟩
  · rename_i h
    split
    · exact ⟨Int.le_refl _,by show (0:Int)<_;decide⟩
    · have:=num_lt64 (win l s.1.toNat c.toNat) (by rw [win_length];omega)
      exact ⟨Int.natCast_nonneg _,by show ((num _:Nat):Int)<_;omega⟩
theorem unT_place {l:List Int} {N:Nat} {c:Int} {s:Int × Bool} (hN:N≤100000000) (h:(unT l (N:Int) s c).2.2=false):s.2=false∧(unT l (N:Int) s c).2.1=s.1+c∧0≤s.1∧s.1+c≤N∧0≤c:=by
  obtain ⟨p,bad⟩:=s
  unfold unT takeR at *
  simp only [Bool.or_eq_false_iff] at h
  obtain ⟨hb,h⟩:=h
  split at h
  · simp at h
  · rename_i h1
    split at h
    · simp at h
    · rename_i h2
      simp only at h1 h2 ⊢
      exact ⟨hb,w64 (by omega) (by omega),by omega,by omega,by omega⟩
theorem headI_place {l:List Int} {n:Nat} {v q:Int}:∀ (m p:Nat),p≤n→headI l n m p=(v,q,0)→(p:Int)+(if m=0 then 0 else 1)≤q∧q≤(n:Int)
  | 0,p,hp,h => by
    simp only [headI,tailI] at h
    split at h
    · simp at h
    · split at h
      · have hw:=(width_le 4).1
        simp only [Prod.mk.injEq] at h
        rw [if_pos rfl]
        omega
      · simp at h
  | m + 1, p, hp, h => by
    rw [if_neg (by omega)]
    simp only [headI] at h
    split at h
    · simp at h
    · split at h
      · have:=headI_place m (p+1) (by omega) h
        split at this <;> omega
      · simp only [tailI] at h
        split at h
        · simp at h
        · split at h
          · have hw:=(width_le (3 - (m:Int))).1
            simp only [Prod.mk.injEq] at h
            omega
          · simp at h
theorem unN_place {l:List Int} {N:Nat} {s:Int × Bool} (h:(unN l (N:Int) s).2.2=false):s.2=false∧s.1+1≤(unN l (N:Int) s).2.1∧0≤s.1∧(unN l (N:Int) s).2.1≤N:=by
  obtain ⟨p,bad⟩:=s
  unfold unN takeI at *
  simp only [Bool.or_eq_false_iff] at h ⊢
  obtain ⟨hb,h⟩:=h
  split at h
  · simp at h
  · rename_i h1
    rw [if_neg h1]
    have e:¬ p<0∧¬ (N:Int)<p:=⟨by omega,by omega⟩
    obtain ⟨v,q,z,hq⟩:∃ v q z,headI l ((N:Int)).toNat 4 p.toNat=(v,q,z):=⟨_,_,_,rfl⟩
    rw [hq] at h ⊢
    have hz:z=0:=by simpa using h
    subst hz
    have:=headI_place 4 p.toNat (by simp;omega) hq
    rw [if_neg (by decide)] at this
    simp only [Int.toNat_natCast] at this
    refine ⟨hb,?_,by omega,?_⟩
    · show p+1≤q
      omega
    · show q≤_
      omega
theorem unV_range (l:List Int) (N:Int) (s:Int × Bool):0≤(unV l N s).1∧(unV l N s).1<18446744073709551616:=by
  unfold unV
  repeat' split
  · exact ⟨Int.le_refl _,by show (0:Int)<_;decide⟩
  · exact ⟨Int.le_refl _,by show (0:Int)<_;decide⟩
  · exact ⟨Int.le_refl _,by show (0:Int)<_;decide⟩
  · unfold shl
    exact u64_wrap_range _
theorem unV_place {l:List Int} {N:Nat} {s:Int × Bool} (hN:N≤100000000) (h:(unV l (N:Int) s).2.2=false):s.2=false∧s.1+1≤(unV l (N:Int) s).2.1∧(unV l (N:Int) s).2.1≤N:=by
  cases hs:s.2 with
  | true => rw [unV,if_pos hs] at h;simp at h
  | false =>
    obtain ⟨a,ha⟩:∃ a,unT l (N:Int) s 1=a:=⟨_,rfl⟩
    obtain ⟨b,hb⟩:∃ b,unT l (N:Int) a.2 6=b:=⟨_,rfl⟩
    obtain ⟨d,hd⟩:∃ d,unT l (N:Int) b.2 6=d:=⟨_,rfl⟩
    obtain ⟨w,hw⟩:∃ w,wrap64 (wrap64 d.1+1)=w:=⟨_,rfl⟩
    obtain ⟨t,ht⟩:∃ t,unT l (N:Int) d.2 w=t:=⟨_,rfl⟩
    unfold unV at h ⊢
    simp only [ha,hb,hd,hw,ht] at h ⊢
    rw [if_neg (by rw [hs];simp)] at h ⊢
    by_cases c1:a.1=0
    · rw [if_pos c1] at h ⊢
      have hpl:=unT_place (l:=l) (N:=N) (c:=1) (s:=s) hN (by rw [ha];exact h)
      rw [ha] at hpl
      exact ⟨trivial,by show s.1+1≤a.2.1;omega,by show a.2.1≤_;omega⟩
    · rw [if_neg c1] at h ⊢
      by_cases c2:(d.2.2 || decide (64<wrap64 (wrap64 b.1+w)))=true
      · rw [if_pos c2] at h
        simp at h
      · rw [if_neg c2] at h ⊢
        have p4:=unT_place (l:=l) (N:=N) (c:=w) (s:=d.2) hN (by rw [ht];exact h)
        have p3:=unT_place (l:=l) (N:=N) (c:=6) (s:=b.2) hN (by rw [hd];exact p4.1)
        have p2:=unT_place (l:=l) (N:=N) (c:=6) (s:=a.2) hN (by rw [hb];exact p3.1)
        have p1:=unT_place (l:=l) (N:=N) (c:=1) (s:=s) hN (by rw [ha];exact p2.1)
        rw [ht] at p4
        rw [hd] at p3
        rw [hb] at p2
        rw [ha] at p1
        exact ⟨trivial,by show s.1+1≤t.2.1;omega,by show t.2.1≤_;omega⟩
noncomputable def decA (xb:List Int) (N p:Int):Int × Int × Bool:=unT xb N (p,false) 64
noncomputable def decB (xb:List Int) (N p:Int):Int × Int × Bool:=unT xb N (decA xb N p).2 64
noncomputable def decN (xb:List Int) (N p:Int):Int × Int × Bool:=unN xb N (p,false)
noncomputable def decV (xb:List Int) (N p:Int):Int × Int × Bool:=unV xb N (decN xb N p).2
noncomputable def decS (xb:List Int) (N:Int):Nat→Int × Bool × List S70 × Int
  | 0 => (0,false,[],0)
  | 1 => ((decB xb N 0).2.1,(decB xb N 0).2.2,if (decB xb N 0).2.2=true then [] else [⟨wrap64 (decA xb N 0).1,(decB xb N 0).1⟩],0)
  | k + 2 => if (decS xb N (k + 1)).2.1 = true then decS xb N (k + 1) else
      ((decV xb N (decS xb N (k+1)).1).2.1,(decV xb N (decS xb N (k+1)).1).2.2,
        if (decV xb N (decS xb N (k+1)).1).2.2=true then (decS xb N (k+1)).2.2.1 else (decS xb N (k+1)).2.2.1 ++ [⟨wrap64 ((rd_T70 (decS xb N (k+1)).2.2.1 (k:Int)).f0+wrap64 ((decS xb N (k+1)).2.2.2+(decN xb N (decS xb N (k+1)).1).1)),Go.bits .xor .u64 (rd_T70 (decS xb N (k+1)).2.2.1 (k:Int)).f1 (decV xb N (decS xb N (k+1)).1).1⟩],
        wrap64 ((decS xb N (k+1)).2.2.2+(decN xb N (decS xb N (k+1)).1).1))
noncomputable def decF (b:List Int):List S70 × Int :=
  if b.length<2 then ([],5) else
  if (decS (b.drop 2) ((8*(b.length - 2):Nat):Int) (beV 0 (b.take 2))).2.1=false∧encF (decS (b.drop 2) ((8*(b.length - 2):Nat):Int) (beV 0 (b.take 2))).2.2.1=(b,0)
    then ((decS (b.drop 2) ((8*(b.length - 2):Nat):Int) (beV 0 (b.take 2))).2.2.1,0) else ([],5)
theorem wrap64_in (x:Int):-9223372036854775808≤wrap64 x∧wrap64 x≤9223372036854775807:=by
  unfold wrap64
  omega
theorem xor_in {a b:Int} (ha:0≤a∧a<18446744073709551616) (hb:0≤b∧b<18446744073709551616):Go.bits .xor .u64 a b=((a.toNat ^^^ b.toNat:Nat):Int)∧a.toNat ^^^ b.toNat<18446744073709551616:=by
  refine ⟨?_,xor_lt ha hb⟩
  obtain ⟨x,hx⟩:=Int.eq_ofNat_of_zero_le ha.1
  obtain ⟨y,hy⟩:=Int.eq_ofNat_of_zero_le hb.1
  rw [hx,hy,u64_xor_nat x y (by omega) (by omega)]
  simp
theorem okS_rd {l:List S70} (h:∀ x ∈ l,okS x) (i:Int):okS (rd_T70 l i):=by
  unfold rd_T70
  rw [List.getD_eq_getElem?_getD]
  cases hq:l[i.toNat]? with
  | none => exact ⟨⟨by decide,by decide⟩,by decide,by decide⟩
  | some x => exact h x (List.mem_of_getElem? hq)
theorem decS_inv (xb:List Int) (N:Nat) (hN:N≤100000000):∀ k,(∀ x ∈ (decS xb (N:Int) k).2.2.1,okS x)∧(decS xb (N:Int) k).2.2.1.length≤N ∧
    ((decS xb (N:Int) k).2.1=false→(decS xb (N:Int) k).2.2.1.length=k∧(k:Int)≤(decS xb (N:Int) k).1∧(decS xb (N:Int) k).1≤N)
  | 0 => ⟨fun x hx => absurd hx (by simp [decS]),by simp [decS],fun _ => ⟨rfl,by simp [decS],by simp [decS]⟩⟩
  | 1 => by
    simp only [decS]
    cases hb:(decB xb (N:Int) 0).2.2 with
    | true => exact ⟨fun x hx => absurd hx (by simp),by simp,fun h => absurd h (by simp)⟩
    | false =>
      have p2:=unT_place (l:=xb) (N:=N) (c:=64) (s:=(decA xb (N:Int) 0).2) hN hb
      have p1:=unT_place (l:=xb) (N:=N) (c:=64) (s:=(0,false)) hN p2.1
      have e2:unT xb (N:Int) (decA xb (N:Int) 0).2 64=decB xb (N:Int) 0:=rfl
      have e1:unT xb (N:Int) (0,false) 64=decA xb (N:Int) 0:=rfl
      rw [e2] at p2
      rw [e1] at p1
      refine ⟨fun x hx => ?_,by simp;omega,fun _ => ⟨by simp,by omega,by omega⟩⟩
      rw [if_neg (by simp),List.mem_singleton] at hx
      subst hx
      exact ⟨wrap64_in _,unT_range xb (N:Int) 64 (decA xb (N:Int) 0).2⟩
  | k + 2 => by
    have ih:=decS_inv xb N hN (k+1)
    simp only [decS]
    obtain ⟨⟨p,bad,l,st⟩,hs⟩:∃ s,decS xb (N:Int) (k+1)=s:=⟨_,rfl⟩
    rw [hs] at ih ⊢
    cases bad with
    | true => rw [if_pos rfl];exact ⟨ih.1,ih.2.1,fun h => absurd h (by simp)⟩
    | false =>
      rw [if_neg (by simp)]
      obtain ⟨i1,i2,i3⟩:=ih
      obtain ⟨i3,i4,i5⟩:=i3 rfl
      simp only at i1 i2 i3 i4 i5 ⊢
      cases hb:(decV xb (N:Int) p).2.2 with
      | true => exact ⟨by rw [if_pos rfl];exact i1,by rw [if_pos rfl];exact i2,fun h => absurd h (by simp)⟩
      | false =>
        have p2:=unV_place hN (s:=(decN xb (N:Int) p).2) hb
        have p1:=unN_place (l:=xb) (N:=N) (s:=(p,false)) p2.1
        have e1:unN xb (N:Int) (p,false)=decN xb (N:Int) p:=rfl
        have e2:unV xb (N:Int) (decN xb (N:Int) p).2=decV xb (N:Int) p:=rfl
        rw [e1] at p1
        rw [e2] at p2
        rw [if_neg (by simp)]
        refine ⟨fun x hx => ?_,by simp;omega,fun _ => ⟨by simp;omega,by omega,by omega⟩⟩
        rcases List.mem_append.1 hx with hx | hx
        · exact i1 x hx
        · rw [List.mem_singleton] at hx
          subst hx
          have hv:=unV_range xb (N:Int) (decN xb (N:Int) p).2
          have hy:=(okS_rd i1 (k:Int)).2
          have hxx:=xor_in hy hv
          refine ⟨wrap64_in _,?_⟩
          show 0≤Go.bits .xor .u64 _ (unV xb (N:Int) (decN xb (N:Int) p).2).1∧_
          constructor
          · show 0≤Go.bits .xor .u64 _ (unV xb (N:Int) (decN xb (N:Int) p).2).1
            rw [hxx.1];omega
          · show Go.bits .xor .u64 _ (unV xb (N:Int) (decN xb (N:Int) p).2).1<_
            rw [hxx.1];have:=hxx.2;omega
theorem okX_full {l:List Int} {n:Nat} (h:OkX l n):OkX l (8*l.length) :=
  ⟨h.bytes,Nat.le_refl _,by omega,fun i h1 h2 => absurd h2 (by omega)⟩
theorem encP_one (l:List S70):∀ k,∃ Z,encP l (k+1)=encP l k++Z
  | 0 => ⟨_,rfl⟩
  | k+1 => ⟨_,rfl⟩
theorem encP_pre (l:List S70) (k:Nat):∀ d,∃ Z,encP l (k+d)=encP l k++Z
  | 0 => ⟨[],by simp⟩
  | d+1 => by
    obtain ⟨Z,hZ⟩:=encP_pre l k d
    obtain ⟨Y,hY⟩:=encP_one l (k+d)
    exact ⟨Z++Y,by rw [← Nat.add_assoc,hY,hZ,List.append_assoc]⟩
theorem Bs_full {l:List Int} {n:Nat} (h:OkX l n):∃ Z,Bs l (8*l.length)=Bs l n++Z:=by
  unfold Bs
  exact ⟨_,win_split l 0 (8*l.length) n h.le⟩
theorem i64_wf {v:Int} (h:-9223372036854775808≤v∧v≤9223372036854775807):(Lit.int .i64 v).wf=true:=by
  simp [Lit.wf,IntKind.min,IntKind.max,IntKind.signed,IntKind.bits]
  omega
theorem unN_part {l:List Int} {N:Nat} {B Z:List Bool} {v:Int} (hX:OkX l N) (hv:(Lit.int .i64 v).wf=true) (h:Bs l N=B++intBits v++Z):unN l (N:Int) ((B.length:Int),false)=(v,((B.length+(intBits v).length:Nat):Int),false):=by
  unfold unN
  rw [takeI_part hX hv h]
  rfl
theorem time_back (x y st:Int) (hx:-9223372036854775808≤x∧x≤9223372036854775807) (hs:-9223372036854775808≤st∧st≤9223372036854775807):wrap64 (st+wrap64 (wrap64 (x - y) - st))=wrap64 (x - y)∧wrap64 (y+wrap64 (x - y))=x:=by
  constructor
  · generalize hd:wrap64 (x - y)=d
    have:-9223372036854775808≤d∧d≤9223372036854775807:=hd ▸ wrap64_in _
    unfold wrap64
    omega
  · unfold wrap64
    omega
theorem stepP_in (l:List S70):∀ k,-9223372036854775808≤stepP l k∧stepP l k≤9223372036854775807
  | 0 => by simp [stepP]
  | 1 => by simp [stepP]
  | k+2 => wrap64_in _
theorem first_back (x:Int) (hx:-9223372036854775808≤x∧x≤9223372036854775807):wrap64 (((IntKind.u64.wrap x).toNat:Nat):Int)=x:=by
  rw [wrap_u64]
  unfold wrap64
  omega
theorem xor_back {x y:Int} (hx:0≤x∧x<18446744073709551616) (hy:0≤y∧y<18446744073709551616):Go.bits .xor .u64 y ((x.toNat ^^^ y.toNat:Nat):Int)=x:=by
  obtain ⟨a,ha⟩:=Int.eq_ofNat_of_zero_le hx.1
  obtain ⟨b,hb⟩:=Int.eq_ofNat_of_zero_le hy.1
  subst ha hb
  rw [Int.toNat_natCast,Int.toNat_natCast,u64_xor_nat b (a ^^^ b) (by omega) (Nat.xor_lt_two_pow (n:=64) (by omega) (by omega)),Nat.xor_comm a b,← Nat.xor_assoc,Nat.xor_self,Nat.zero_xor]
theorem take_succ70 (l:List S70) (k:Nat) (h:k<l.length):l.take (k+1)=l.take k ++ [rd_T70 l (k:Int)]:=by
  have e:rd_T70 l (k:Int)=l[k]:=by simp [rd_T70,List.getD_eq_getElem?_getD,List.getElem?_eq_getElem h]
  rw [List.take_succ_eq_append_getElem h,e]
theorem rd_take70 (l:List S70) (k m:Nat) (h:k<m):rd_T70 (l.take m) (k:Int)=rd_T70 l (k:Int):=by
  simp only [rd_T70,Int.toNat_natCast,List.getD_eq_getElem?_getD,List.getElem?_take,if_pos h]
theorem decS_back {xb:List Int} {NN:Nat} {l:List S70} {Z:List Bool} (hok:∀ x ∈ l,okS x) (hl:l.length≤20000) (hX:OkX xb NN) (hB:Bs xb NN=encP l l.length++Z):∀ k,k≤l.length→decS xb (NN:Int) k=(((encP l k).length:Int),false,l.take k,stepP l k)
  | 0,_ => by simp [decS,encP,stepP]
  | 1,h => by
    obtain ⟨Y,hY⟩:=encP_pre l 1 (l.length - 1)
    rw [show 1+(l.length - 1)=l.length by omega] at hY
    have hm:=hok _ (rd_mem70 l 0 (by omega))
    have hu:=u64_wrap_range (rd_T70 l 0).f0
    obtain ⟨u,eu⟩:=Int.eq_ofNat_of_zero_le hu.1
    obtain ⟨v,ev⟩:=Int.eq_ofNat_of_zero_le hm.2.1
    have ev':(rd_T70 l 0).f1=(v:Int):=ev
    have hv:v<18446744073709551616:=by have:=hm.2.2;rw [ev] at this;omega
    have huu:u<18446744073709551616:=by rw [eu] at hu;omega
    have e1:encP l 1=low u 64++low v 64:=by
      show low (IntKind.u64.wrap (rd_T70 l 0).f0).toNat 64++low (rd_T70 l 0).f1.toNat 64=_
      rw [eu,ev']
      rfl
    rw [hY,e1] at hB
    have a1:=unT_part (c:=64) (B:=[]) (L:=low u 64) (Z:=low v 64++(Y++Z)) hX (low_length _ _) (by decide) (by simp) (by rw [hB];simp only [List.nil_append,List.append_assoc])
    have a2:=unT_part (c:=64) (B:=low u 64) (L:=low v 64) (Z:=Y++Z) hX (low_length _ _) (by decide) (by simp) (by rw [hB];simp only [List.append_assoc])
    rw [num_low,Nat.mod_eq_of_lt huu] at a1
    rw [num_low,Nat.mod_eq_of_lt hv,low_length] at a2
    have eA:decA xb (NN:Int) 0=((u:Int),64,false):=a1
    have eB:decB xb (NN:Int) 0=((v:Int),128,false):=by
      unfold decB
      rw [eA]
      exact a2
    have ef:wrap64 (u:Int)=(rd_T70 l 0).f0:=by
      have:=first_back (rd_T70 l 0).f0 hm.1
      rw [eu] at this
      exact this
    have et:=take_succ70 l 0 (by omega)
    rw [decS,eB,eA,e1,et]
    rw [if_neg (by simp)]
    have es:(⟨wrap64 (u:Int),(v:Int)⟩:S70)=rd_T70 l ((0:Nat):Int):=by
      rw [ef,← ev']
      rfl
    simp only [es]
    simp [stepP]
  | k + 2, h => by
    have ih:=decS_back hok hl hX hB (k+1) (by omega)
    obtain ⟨Y,hY⟩:=encP_pre l (k+2) (l.length - (k+2))
    rw [show k+2+(l.length - (k+2))=l.length by omega] at hY
    have hlen:=encP_len l hok (k+1) (by omega)
    have hx:=hok _ (rd_mem70 l (k+1) (by omega))
    have hy:=hok _ (rd_mem70 l k (by omega))
    have e2:encP l (k+2)=encP l (k+1)++(intBits (wrap64 (wrap64 ((rd_T70 l ((k+1:Nat):Int)).f0 - (rd_T70 l ((k:Nat):Int)).f0) - stepP l (k+1)))++xorBits ((rd_T70 l ((k+1:Nat):Int)).f1.toNat ^^^ (rd_T70 l ((k:Nat):Int)).f1.toNat)):=rfl
    have hst:=stepP_in l (k+1)
    have hsp:stepP l (k+2)=wrap64 ((rd_T70 l ((k+1:Nat):Int)).f0 - (rd_T70 l ((k:Nat):Int)).f0):=rfl
    have et:=take_succ70 l (k+1) (by omega)
    have er:=rd_take70 l k (k+1) (by omega)
    obtain ⟨x,ex⟩:∃ x,rd_T70 l ((k+1:Nat):Int)=x:=⟨_,rfl⟩
    obtain ⟨y,ey⟩:∃ y,rd_T70 l ((k:Nat):Int)=y:=⟨_,rfl⟩
    rw [ex,ey] at e2 hsp
    rw [ex] at hx et
    rw [ey] at hy er
    obtain ⟨st,est⟩:∃ st,stepP l (k+1)=st:=⟨_,rfl⟩
    rw [est] at e2 hst ih
    obtain ⟨v,ev⟩:∃ v,wrap64 (wrap64 (x.f0 - y.f0) - st)=v:=⟨_,rfl⟩
    have hv:(Lit.int .i64 v).wf=true:=ev ▸ i64_wf (wrap64_in _)
    have hxx:=xor_lt hx.2 hy.2
    have htb:=time_back x.f0 y.f0 st hx.1 hst
    have hxb:=xor_back hx.2 hy.2
    rw [ev] at e2 htb
    obtain ⟨X,eX⟩:∃ X,x.f1.toNat ^^^ y.f1.toNat=X:=⟨_,rfl⟩
    rw [eX] at e2 hxx hxb
    rw [hY,e2] at hB
    have a1:=unN_part (B:=encP l (k+1)) (Z:=xorBits X++(Y++Z)) hX hv (by rw [hB];simp only [List.append_assoc])
    have hil:=intBits_len v
    have a2:=unV_part (x:=X) (B:=encP l (k+1)++intBits v) (Z:=Y++Z) hX hxx (by simp;omega) (by rw [hB];simp only [List.append_assoc])
    rw [List.length_append] at a2
    have eN:decN xb (NN:Int) ((encP l (k+1)).length:Int)=(v,(((encP l (k+1)).length+(intBits v).length:Nat):Int),false):=a1
    have eV:decV xb (NN:Int) ((encP l (k+1)).length:Int)=((X:Int),(((encP l (k+1)).length+(intBits v).length+(xorBits X).length:Nat):Int),false):=by
      unfold decV
      rw [eN]
      exact a2
    rw [decS,ih]
    simp only
    rw [if_neg (by simp),eV,eN,er,htb.1,htb.2,hxb,hsp,et,e2]
    simp only [List.length_append]
    rw [if_neg (by simp)]
    simp only [Prod.mk.injEq,true_and,and_true]
    omega
theorem beV_two (n:Nat) (h:n≤65535):beV 0 (beL n 2)=n:=by
  rw [beV_beL]
  omega
theorem dec_enc (l:List S70) (hok:∀ x ∈ l,okS x) (hl:l.length≤20000) (hc:canS l=true):encF l=(encL l,0)∧decF (encL l)=(l,0)∧(encL l).length≤2+20*l.length+1:=by
  have e0:encF l=(encL l,0):=by rw [encF,if_pos hc]
  have hP:=encP_len l hok l.length (Nat.le_refl _)
  obtain ⟨hX,hBs⟩:=packB_ok (encP l l.length) (by omega)
  obtain ⟨Z,hZ⟩:=Bs_full hX
  rw [hBs] at hZ
  have hbl:(encL l).length=2+(packB (encP l l.length)).length:=by rw [encL,List.length_append,beL_length]
  have hn:=hX.near
  refine ⟨e0,?_,by omega⟩
  have hd:(encL l).drop 2=packB (encP l l.length):=by rw [encL,List.drop_left' (beL_length _ _)]
  have ht:(encL l).take 2=beL l.length 2:=by rw [encL,List.take_left' (beL_length _ _)]
  have hs:=decS_back hok hl (okX_full hX) hZ l.length (Nat.le_refl _)
  rw [List.take_length] at hs
  have h8:8*((encL l).length - 2)=8*(packB (encP l l.length)).length:=by omega
  rw [decF,if_neg (by omega),hd,ht,h8,beV_two _ (by omega),hs,if_pos ⟨rfl,e0⟩]
def pkS (L:List Bool):Nat→List Int
  | 0 => []
  | j+1 => orAt (addZ (pkS L j) j) (j / 8) ((if L.getD j false=true then 1 else 0)*2 ^ (8 - j % 8 - 1))
theorem pkS_ok (L:List Bool):∀ j,j≤L.length→OkX (pkS L j) j∧Bs (pkS L j) j=L.take j
  | 0,_ => ⟨okX_nil,rfl⟩
  | j+1,h => by
    obtain ⟨h1,h2⟩:=pkS_ok L j (by omega)
    obtain ⟨h3,h4⟩:=put_step (T:=1) (X:=if L.getD j false=true then 1 else 0) h1 (by decide) (by omega) (by split <;> decide)
    refine ⟨h3,?_⟩
    rw [show pkS L (j+1)=orAt (addZ (pkS L j) j) (j / 8) ((if L.getD j false=true then 1 else 0)*2 ^ (8 - j % 8 - 1)) from rfl,h4,h2,List.take_succ_eq_append_getElem (by omega)]
    congr 1
    rw [List.getD_eq_getElem?_getD,List.getElem?_eq_getElem (by omega),Option.getD_some]
    cases L[j]'(by omega) <;> rfl
theorem pkS_all (L:List Bool):pkS L L.length=packB L:=by
  obtain ⟨h1,h2⟩:=pkS_ok L L.length (Nat.le_refl _)
  rw [List.take_length] at h2
  exact (packB_of h1 h2).symm
theorem pk_false {L:List Bool} {j:Nat} (hj:j<L.length) (hb:L.getD j false=false):pkS L (j+1)=addZ (pkS L j) j:=by
  have h1:=(pkS_ok L j (by omega)).1
  have hz:=addZ_len h1
  have hby:OkL (addZ (pkS L j) j):=by
    unfold addZ
    split
    · intro x hx
      rcases List.mem_append.1 hx with hx | hx
      · exact h1.bytes x hx
      · rw [List.mem_singleton.1 hx]
        exact ⟨by decide,by decide⟩
    · exact h1.bytes
  have ha:=(hby.at (j / 8)).1
  show orAt (addZ (pkS L j) j) (j / 8) _=_
  rw [if_neg (by rw [hb];simp),Nat.zero_mul]
  unfold orAt
  rw [Nat.or_zero,Int.toNat_of_nonneg ha]
  rw [List.getD_eq_getElem?_getD,List.getElem?_eq_getElem (by omega),Option.getD_some]
  exact List.set_getElem_self _
theorem pk_true {L:List Bool} {j m:Nat} (hj:j<L.length) (hb:L.getD j false=true) (B:List Int) (hm:B.length=m) :
    (B++addZ (pkS L j) j).set (m+j / 8) (Go.bits .or .u8 ((addZ (pkS L j) j).getD (j / 8) 0) (128 / 2 ^ (j % 8)))=B++pkS L (j+1)∧(B++addZ (pkS L j) j).length=m+j / 8+1∧(B++addZ (pkS L j) j).getD (m+j / 8) 0=(addZ (pkS L j) j).getD (j / 8) 0:=by
  have h1:=(pkS_ok L j (by omega)).1
  have hz:=addZ_len h1
  have hby:OkL (addZ (pkS L j) j):=by
    unfold addZ
    split
    · intro x hx
      rcases List.mem_append.1 hx with hx | hx
      · exact h1.bytes x hx
      · rw [List.mem_singleton.1 hx]
        exact ⟨by decide,by decide⟩
    · exact h1.bytes
  have ha:=hby.at (j / 8)
  refine ⟨?_,by rw [List.length_append,hz];omega,?_⟩
  · rw [List.set_append_right _ _ (by omega),show m+j / 8 - B.length=j / 8 by omega]
    congr 1
    show _=orAt (addZ (pkS L j) j) (j / 8) _
    unfold orAt
    congr 1
    rw [if_pos hb,Nat.one_mul]
    obtain ⟨a,hA⟩:=Int.eq_ofNat_of_zero_le ha.1
    rw [hA] at ha ⊢
    rw [Int.toNat_natCast,show 8 - j % 8 - 1=7 - j % 8 by omega]
    have e:(128:Int) / 2 ^ (j % 8)=((2 ^ (7 - j % 8):Nat):Int):=by
      have hlt:j % 8<8:=Nat.mod_lt _ (by decide)
      generalize j % 8=q at hlt
      match q,hlt with
      | 0,_ | 1,_ | 2,_ | 3,_ | 4,_ | 5,_ | 6,_ | 7,_ => rfl
    rw [e]
    exact u8_or_nat a _ (by omega) (Nat.lt_of_lt_of_le (Nat.pow_lt_pow_right (by decide) (show 7 - j % 8<8 by omega)) (by decide))
  · rw [List.getD_eq_getElem?_getD,List.getD_eq_getElem?_getD,List.getElem?_append_right (by omega),show m+j / 8 - B.length=j / 8 by omega]
end Go.Proofs.YtcgbgifbajdhpaaGreatDoor.PA
namespace Go.Proofs.YtcgbgifbajdhpaaGreatDoor.G
open Go.RowKit Go.Proofs.YtcgbgifbajdhpaaGreatDoorW.PrintWords Go.Proofs.YtcgbgifbajdhpaaGreatDoorW.PrintLast Go.Proofs.YtcgbgifbajdhpaaGreatDoorW.PrintMore
attribute [local go_sem] max2_int min2_int max_two min_two
def dryrotref01_Put.f (a0 a1:Int):Option (List Int):=crc_Put.f a0 a1
def dryrotref01_Get.f (l:List Int):Option (Int × Bool):=crc_Get.f l
theorem dryrotref01_Put.calls (a0 a1:Int) (r:List Int) (w:World) (h:dryrotref01_Put.f a0 a1=some r) :
    Calls Tryz.prog 34 #[.int .u64 a0,.int .i64 a1] w fun e w' => ∃ v0_:Value,e = .returned (v0_)∧Kd.R (Kd.int .u8) 5 w' w.heap.size (fun _ => True) v0_ r∧Below w.heap.size w w':=by
  unfold dryrotref01_Put.f crc_Put.f at h
  split at h
  case isFalse => cases h
  case isTrue hN =>
    obtain rfl:=Option.some.inj h
    clear h
    obtain ⟨N,rfl⟩:=Int.eq_ofNat_of_zero_le hN.1
    rw [Int.toNat_natCast]
    obtain ⟨j,hj⟩:∃ j:Int,(if a1<0 then 0 else a1)=j:=⟨_,rfl⟩
    obtain ⟨m,hm8,hm,hw⟩:∃ m:Nat,m≤8∧(if 8<j then 8 else j)=(m:Int)∧wid a1=m:=⟨wid a1,wid_le _,by unfold wid;split at hj <;> split <;> omega,rfl⟩
    rw [hw]
    clear hw
    have hm0:(m:Int)≤8:=by omega
    go_enter Tryz.func34,Tryz.ntmps34
    go_wp2_with ((with_reducible refine gate_dst (N:=12) rfl ?_);refine Kd.R_make (Kd.int .u8) _ 5 rfl (N:=12) rfl 24 _ _ rfl (m:Int) rfl rfl Tryz.underlying24 (.int .u8 0) 1 infoU8 rfl (by decide) (by omega) 0 (ok:=fun _ => True) (okp:=fun _ => True) rfl (fun _ hk => hk) trivial (by omega) (by omega) (Below.refl _ _) (Nat.le_refl _) ?_;intro v103 w7 ho8 hb hg_ hnew_;rw [Int.toNat_natCast] at ho8;obtain ⟨g,c9,e9,hgb⟩:=made_form ho8 hnew_;rw [List.length_replicate] at e9;subst e9;have HO:=Aside0.mk ho8;have HB:=Aside0.mk hb;clear ho8 hb hg_ hnew_)
    clear hm hj
    go_loopw [0,7] (fun n i wr => ∃ k:Nat,k≤m∧i = .int .i64 ((m:Int) - 1 - (k:Int))∧n = .int .u64 ((N / 256 ^ k:Nat):Int)∧Aside0 (Kd.R (Kd.int .u8) 5 wr w.heap.size (fun _ => True) (.slice (some ⟨g,0,none⟩) m c9) (List.replicate (m - k) 0++beL N k))∧Aside0 (Below w.heap.size w wr)) (fun _ i _ => (intOf i+1).toNat)
    case atStart => exact ⟨0,Nat.zero_le _,by simp,by simp,⟨by simpa [beL] using HO.out⟩,HB⟩
    case round =>
      clear HO HB
      obtain ⟨k,hk,rfl,rfl,HO,HB⟩:=hrel
      have HS:=fun hlt => Aside0.mk (crc_Put.step (N:=N) (k:=k) (m:=m) hlt)
      have HD:=Aside0.mk (Nat.div_div_eq_div_mul N (256 ^ k) 256)
      have HL:=Aside0.mk (show N / 256 ^ k≤N from Nat.div_le_self _ _)
      generalize N / 256 ^ k=M at HS HD HL ⊢
      by_cases hlt:k<m
      · obtain ⟨hc,hf⟩:=Kd.R_celln 0 HO.out ((m - 1 - k:Nat):Int) (by omega) (by omega)
        have HP:=Aside0.mk (Kd.R_putg HO.out ((m - 1 - k:Nat):Int) ((M % 256:Nat):Int))
        rw [Int.toNat_natCast] at hc hf HP
        have HS:=HS hlt
        have hM:(0:Int)≤(M:Int):=by omega
        have h0:(0:Int)≤(m:Int) - 1 - (k:Int):=by omega
        go_wp2
        go_roundw
        case rel =>
          refine ⟨k+1,by omega,congrArg _ (by omega),congrArg _ ?_,⟨?_⟩,⟨?_⟩⟩
          · rw [Nat.pow_succ,← HD.out]
            have:=HL.out
            simp [IntKind.wrap,IntKind.bits,IntKind.signed]
            omega
          · rw [← HS.out]
            exact HP.out.1
          · exact below_set HB.out (by omega)
        case measure => simp [intOf];omega
      · obtain rfl:k=m:=by omega
        have h0:¬ ((0:Int)≤(k:Int) - 1 - (k:Int)):=by omega
        go_wp2
        go_ret
        exact ⟨_,rfl,by simpa using HO.out,HB.out⟩
theorem dryrotref01_Get.calls (A0:Option Addr) (c0:Nat) (l0:List Int) (r1:Int) (r2:Bool) (w:World) (hr0:Kd.C (Kd.int .u8) w A0 l0.length l0) (hc0:l0.length≤c0) (h:dryrotref01_Get.f l0=some (r1,r2)) :
    Calls Tryz.prog 97 #[.slice A0 l0.length c0] w fun e w' => e = .returned (.tuple #[.int .u64 r1,.bool r2])∧Drawn0 w w':=by
  have HR:=Aside0.mk hr0
  clear hr0 hc0
  unfold dryrotref01_Get.f crc_Get.f at h
  split at h
  case isFalse => cases h
  case isTrue hok =>
  by_cases hl:1≤l0.length∧l0.length≤8
  case neg =>
    rw [if_neg hl] at h
    simp only [Option.some.injEq,Prod.mk.injEq] at h
    obtain ⟨rfl,rfl⟩:=h
    by_cases h0:l0.length=0
    · have e0:decide ((l0.length:Int)<1)=true:=decide_eq_true (by omega)
      clear hl h0
      go_enter Tryz.func97,Tryz.ntmps97
      go_wp2
      go_ret2
      exact ⟨rfl,Drawn0.refl _⟩
    · have e0:decide ((l0.length:Int)<1)=false:=decide_eq_false (by omega)
      have e1:decide ((8:Int)<(l0.length:Int))=true:=decide_eq_true (by omega)
      clear hl h0
      go_enter Tryz.func97,Tryz.ntmps97
      go_wp2
      go_ret2
      exact ⟨rfl,Drawn0.refl _⟩
  case pos =>
    rw [if_pos hl] at h
    simp only [Option.some.injEq,Prod.mk.injEq] at h
    obtain ⟨rfl,rfl⟩:=h
    have e0:decide ((l0.length:Int)<1)=false:=decide_eq_false (by omega)
    have e1:decide ((8:Int)<(l0.length:Int))=false:=decide_eq_false (by omega)
    go_enter Tryz.func97,Tryz.ntmps97
    go_wp2
    go_loop [4,17] (fun n i => ∃ k:Nat,k≤l0.length∧i = .int .i64 k∧n = .int .u64 (beV 0 (l0.take k):Nat)) (fun _ i => l0.length - (intOf i).toNat)
    case atStart => exact ⟨0,Nat.zero_le _,rfl,rfl⟩
    case round =>
      obtain ⟨k,hk,rfl,rfl⟩:=hrel
      by_cases hlt:k<l0.length
      · obtain ⟨ad,rfl,hc⟩:=Kd.at_int HR.out (k:Int) (by omega) (by omega)
        rw [Int.toNat_natCast] at hc
        have hx:=okB_iff.1 hok _ (rd_mem l0 k hlt)
        have HT:=Aside0.mk (beV_take l0 k hlt)
        have hV:=beV_take_lt hok k
        have HV:=Aside0.mk (Nat.lt_of_lt_of_le hV (Nat.pow_le_pow_right (n:=256) (by decide) (show k≤7 by omega)))
        have HX:=Aside0.mk hx
        clear hV hx
        go_wp2
        go_round
        case rel =>
          refine ⟨k+1,by omega,by go_num,congrArg _ ?_⟩
          have:=HV.out
          have:=HX.out
          rw [HT.out]
          simp [IntKind.wrap,IntKind.bits,IntKind.signed]
          omega
        case measure => simp [intOf];omega
      · obtain rfl:k=l0.length:=by omega
        go_wp2
        go_ret2
        exact ⟨rfl,Drawn0.refl _⟩
end Go.Proofs.YtcgbgifbajdhpaaGreatDoor.G
namespace Go.Proofs.YtcgbgifbajdhpaaGreatDoor.PA
open Go.RowKit Go.Proofs.YtcgbgifbajdhpaaGreatDoorW.PrintWords Go.Proofs.YtcgbgifbajdhpaaGreatDoorW.PrintLast Go.Proofs.YtcgbgifbajdhpaaGreatDoorW.PrintMore
attribute [local go_sem] max2_int min2_int max_two min_two max_three min_three max_four min_four   -- for this text's walks alone
def dryrotref11_Can.l0:Nat→List (S70)→Int→Int→Option (Bool)
  | 0,_,_,_ => none
  | k+1,x0,x5,x6 => if x6<x5 then (if x6 > 0 then (if 0≤(wrap64 (x6 - 1)) then (if (wrap64 (x6 - 1))<(x0.length:Int) then (if 0≤x6 then (if x6<(x0.length:Int) then (if ((rd_T70 x0 (wrap64 (x6 - 1))).f0) ≥ ((rd_T70 x0 x6).f0) then (some false) else (dryrotref11_Can.l0 k x0 x5 (wrap64 (x6+1)))) else (none)) else (none)) else (none)) else (none)) else (dryrotref11_Can.l0 k x0 x5 (wrap64 (x6+1)))) else (some (decide ((x0.length:Int)≤65535)))
def dryrotref11_Can.f (k:Nat) (l0:List (S70)):Option (Bool):=dryrotref11_Can.l0 k l0 (l0.length:Int) 0
theorem dryrotref11_Can.mono_l:∀ k,(∀ y0 y1 y2,LeO (dryrotref11_Can.l0 k y0 y1 y2) (dryrotref11_Can.l0 (k+1) y0 y1 y2))
  | 0 => fun _ _ _ r h => by simp [dryrotref11_Can.l0] at h
  | k + 1 => by
    have ih0:=dryrotref11_Can.mono_l k
    · intro y0 y1 y2
      unfold dryrotref11_Can.l0
      repeat' first
      | (with_reducible exact ih0 _ _ _)
      | (with_reducible exact LeO.refl _)
      | (with_reducible exact LeO.none _)
      | (with_reducible refine LeO.ite ?_ ?_)
      | (with_reducible refine LeO.bind ?_ (fun _ => ?_))
      | exact ih0 _ _ _
      | exact LeO.none _
      | refine LeO.ite ?_ ?_
      | refine LeO.bind ?_ (fun _ => ?_)
theorem dryrotref11_Can.mono:∀ a0 k,LeO (dryrotref11_Can.f k a0) (dryrotref11_Can.f (k+1) a0):=by
  intro a0 k
  have ih0:=dryrotref11_Can.mono_l k
  unfold dryrotref11_Can.f
  repeat' first
      | (with_reducible exact ih0 _ _ _)
      | (with_reducible exact LeO.refl _)
      | (with_reducible exact LeO.none _)
      | (with_reducible refine LeO.ite ?_ ?_)
      | (with_reducible refine LeO.bind ?_ (fun _ => ?_))
      | exact ih0 _ _ _
      | exact LeO.none _
      | refine LeO.ite ?_ ?_
      | refine LeO.bind ?_ (fun _ => ?_)
theorem dryrotref11_Can.calls (k:Nat) (A0:Option Addr) (c0:Nat) (l0:List (S70)) (r:Bool) (w:World) (hr0:Kd.C k70 w A0 l0.length l0) (hc0:l0.length≤c0) (h:dryrotref11_Can.f k l0=some r) :
    Calls Tryz.prog 68 #[.slice A0 l0.length c0] w fun e w' => e = .returned (.bool r)∧Drawn0 w w':=by
  have HR0:=Aside0.mk hr0
  have HC0:=Aside0.mk hc0
  clear hr0 hc0
  have H:(dryrotref11_Can.l0 k l0 (l0.length:Int) 0)=some r:=h
  clear h
  have H':=Aside0.mk H
  clear H
  go_enter Tryz.func68,Tryz.ntmps68
  go_wp2
  repeat (go_quiet (fail);try go_wp2)
  go_loopg [6] k (fun kq v6 w' => ∃ (x6_1:Int),v6 = .int .i64 x6_1∧Aside0 (dryrotref11_Can.l0 kq l0 (l0.length:Int) x6_1=some r)∧Aside0 (kq≤k)∧Drawn0 w w')
  case atStart => exact ⟨(0),(by first | rfl | (simp;done) | (simp [*];done)),H',⟨Nat.le_refl _⟩,by repeat (first | exact Drawn0.refl _ | apply Drawn0.step)⟩
  case round =>
    clear H'
    obtain ⟨x6_1,rfl,HA,HK1,⟨m1,rfl⟩⟩:=hrel
    cases gk with
    | zero => exact absurd HA.out (by simp [dryrotref11_Can.l0])
    | succ k1 =>
      have H:=HA.out
      clear HA
      simp only [dryrotref11_Can.l0] at H
      by_cases c2:x6_1<(l0.length:Int)
      · rw [if_pos c2] at H
        have c2b0:decide (x6_1<(l0.length:Int))=true:=decide_eq_true c2
        clear c2
        by_cases c3:x6_1 > 0
        · rw [if_pos c3] at H
          have c3b0:decide (0<x6_1)=true:=decide_eq_true c3
          clear c3
          obtain ⟨ji4,hji4⟩:∃ j_:Int,(wrap64 (x6_1 - 1))=j_:=⟨_,rfl⟩
          replace H:(if 0≤(ji4) then (if (ji4)<(l0.length:Int) then (if 0≤x6_1 then (if x6_1<(l0.length:Int) then (if ((rd_T70 l0 (ji4)).f0) ≥ ((rd_T70 l0 x6_1).f0) then (some false) else (dryrotref11_Can.l0 k1 l0 (l0.length:Int) (wrap64 (x6_1+1)))) else (none)) else (none)) else (none)) else (none))=some r:=by first | (rw [hji4] at H;exact H) | (simp only [hji4] at H ⊢;exact H)
          have hji4w:(IntKind.i64.wrap (x6_1 - 1))=ji4:=(i64_w _).trans hji4
          by_cases c5:0≤(ji4)
          · rw [if_pos c5] at H
            have c5b0:decide (0≤(ji4))=true:=decide_eq_true c5
            clear c5
            by_cases c6:(ji4)<(l0.length:Int)
            · rw [if_pos c6] at H
              have c6b0:decide ((ji4)<(l0.length:Int))=true:=decide_eq_true c6
              clear c6
              by_cases c7:0≤x6_1
              · rw [if_pos c7] at H
                have c7b0:decide (0≤x6_1)=true:=decide_eq_true c7
                clear c7
                by_cases c8:x6_1<(l0.length:Int)
                · rw [if_pos c8] at H
                  have c8b0:decide (x6_1<(l0.length:Int))=true:=decide_eq_true c8
                  clear c8
                  by_cases c9:((rd_T70 l0 (ji4)).f0) ≥ ((rd_T70 l0 x6_1).f0)
                  · rw [if_pos c9] at H
                    have c9b0:decide (((rd_T70 l0 x6_1).f0)≤((rd_T70 l0 (ji4)).f0))=true:=decide_eq_true c9
                    clear c9
                    obtain rfl:=Option.some.inj H
                    have p197:0≤((ji4):Int):=of_decide_eq_true (by first | (with_reducible assumption) | assumption)
                    have q197:(ji4)<(l0.length:Int):=of_decide_eq_true (by first | (with_reducible assumption) | assumption)
                    obtain ⟨ad197,e197,hx197_0,hx197_1⟩:=at_T70 HR0.out (ji4) p197 q197
                    cases e197
                    replace p197:=eq_true p197
                    replace q197:=eq_true q197
                    have p198:0≤(x6_1:Int):=of_decide_eq_true (by first | (with_reducible assumption) | assumption)
                    have q198:x6_1<(l0.length:Int):=of_decide_eq_true (by first | (with_reducible assumption) | assumption)
                    obtain ⟨ad198,e198,hx198_0,hx198_1⟩:=at_T70 HR0.out x6_1 p198 q198
                    obtain rfl:ad197=ad198:=(by injection e198)
                    replace p198:=eq_true p198
                    replace q198:=eq_true q198
                    go_wp2
                    repeat (go_quiet (fail);try go_wp2)
                    go_ret
                    exact ⟨by first | rfl | (simp;done) | (simp only [← hji4] <;> (first | rfl | simp)) | (simp [*];done),by repeat (first | exact Drawn0.refl _ | apply Drawn0.step)⟩
                  · rw [if_neg c9] at H
                    have c9b0:decide (((rd_T70 l0 x6_1).f0)≤((rd_T70 l0 (ji4)).f0))=false:=decide_eq_false c9
                    clear c9
                    have H':=Aside0.mk H
                    clear H
                    have p197:0≤((ji4):Int):=of_decide_eq_true (by first | (with_reducible assumption) | assumption)
                    have q197:(ji4)<(l0.length:Int):=of_decide_eq_true (by first | (with_reducible assumption) | assumption)
                    obtain ⟨ad197,e197,hx197_0,hx197_1⟩:=at_T70 HR0.out (ji4) p197 q197
                    cases e197
                    replace p197:=eq_true p197
                    replace q197:=eq_true q197
                    have p198:0≤(x6_1:Int):=of_decide_eq_true (by first | (with_reducible assumption) | assumption)
                    have q198:x6_1<(l0.length:Int):=of_decide_eq_true (by first | (with_reducible assumption) | assumption)
                    obtain ⟨ad198,e198,hx198_0,hx198_1⟩:=at_T70 HR0.out x6_1 p198 q198
                    obtain rfl:ad197=ad198:=(by injection e198)
                    replace p198:=eq_true p198
                    replace q198:=eq_true q198
                    go_wp2
                    repeat (go_quiet (fail);try go_wp2)
                    go_roundg k1
                    case measure => have:=HK1.out;omega
                    case rel => exact ⟨(wrap64 (x6_1+1)),(by first | rfl | (simp;done) | (simp [*];done)),H',⟨by have:=HK1.out;omega⟩,by repeat (first | exact Drawn0.refl _ | apply Drawn0.step)⟩
                · rw [if_neg c8] at H
                  exact absurd H (by simp)
              · rw [if_neg c7] at H
                exact absurd H (by simp)
            · rw [if_neg c6] at H
              exact absurd H (by simp)
          · rw [if_neg c5] at H
            exact absurd H (by simp)
        · rw [if_neg c3] at H
          have c3b0:decide (0<x6_1)=false:=decide_eq_false c3
          clear c3
          have H':=Aside0.mk H
          clear H
          go_wp2
          repeat (go_quiet (fail);try go_wp2)
          go_roundg k1
          case measure => have:=HK1.out;omega
          case rel => exact ⟨(wrap64 (x6_1+1)),(by first | rfl | (simp;done) | (simp [*];done)),H',⟨by have:=HK1.out;omega⟩,by repeat (first | exact Drawn0.refl _ | apply Drawn0.step)⟩
      · rw [if_neg c2] at H
        have c2b0:decide (x6_1<(l0.length:Int))=false:=decide_eq_false c2
        clear c2
        obtain rfl:=Option.some.inj H
        go_wp2
        repeat (go_quiet (fail);try go_wp2)
        go_ret
        exact ⟨by first | rfl | (simp;done) | (simp [*];done) | (simp;decide +kernel),by repeat (first | exact Drawn0.refl _ | apply Drawn0.step)⟩
end Go.Proofs.YtcgbgifbajdhpaaGreatDoor.PA
namespace Go.Proofs.YtcgbgifbajdhpaaGreatDoor.PA
open Go.RowKit Go.Proofs.YtcgbgifbajdhpaaGreatDoor.G Go.Proofs.YtcgbgifbajdhpaaGreatDoorW.PrintWords Go.Proofs.YtcgbgifbajdhpaaGreatDoorW.PrintLast Go.Proofs.YtcgbgifbajdhpaaGreatDoorW.PrintMore
theorem rcan_from (l:List S70) (hl:l.length≤1000000):∀ d i,i+1+d=l.length→∀ k,d<k→dryrotref11_Can.l0 k l (l.length:Int) ((i+1:Nat):Int)=some (((List.range d).all fun q => decide ((rd_T70 l ((i+q:Nat):Int)).f0<(rd_T70 l ((i+q+1:Nat):Int)).f0)) && decide (l.length≤65535))
  | 0,i,h,k+1,hk => by
    unfold dryrotref11_Can.l0
    rw [if_neg (by omega)]
    simp
    omega
  | d + 1, i, h, k + 1, hk => by
    unfold dryrotref11_Can.l0
    have e1:wrap64 (((i+1:Nat):Int) - 1)=((i:Nat):Int):=by rw [w64 (by omega) (by omega)];omega
    have e2:wrap64 (((i+1:Nat):Int)+1)=((i+1+1:Nat):Int):=by rw [w64 (by omega) (by omega)];omega
    rw [if_pos (by omega),if_pos (by omega),e1,if_pos (by omega),if_pos (by omega),if_pos (by omega),if_pos (by omega),e2,List.range_succ_eq_map,List.all_cons,List.all_map]
    by_cases hh:(rd_T70 l ((i:Nat):Int)).f0 ≥ (rd_T70 l ((i+1:Nat):Int)).f0
    · rw [if_pos hh]
      have h2:¬ (rd_T70 l ((i:Nat):Int)).f0<(rd_T70 l ((i+1:Nat):Int)).f0:=by omega
      have e3:decide ((rd_T70 l ((i+0:Nat):Int)).f0<(rd_T70 l ((i+0+1:Nat):Int)).f0)=false:=decide_eq_false h2
      rw [e3,Bool.false_and,Bool.false_and]
    · rw [if_neg hh,rcan_from l hl d (i+1) (by omega) k (by omega)]
      have h2:(rd_T70 l ((i:Nat):Int)).f0<(rd_T70 l ((i+1:Nat):Int)).f0:=by omega
      have e3:decide ((rd_T70 l ((i+0:Nat):Int)).f0<(rd_T70 l ((i+0+1:Nat):Int)).f0)=true:=decide_eq_true h2
      rw [e3,Bool.true_and]
      congr 3
      funext q
      simp only [Function.comp,show i+1+q=i+(q+1) by omega,Nat.succ_eq_add_one]
theorem rcan_S (l:List S70) (hl:l.length≤1000000) (k:Nat) (hk:l.length+1<k):dryrotref11_Can.f k l=some (canS l):=by
  unfold dryrotref11_Can.f canS
  obtain ⟨k,rfl⟩:∃ k',k=k'+1:=⟨k - 1,by omega⟩
  by_cases h:0<l.length
  · have:=rcan_from l hl (l.length - 1) 0 (by omega) k (by omega)
    simp only [Nat.zero_add] at this
    unfold dryrotref11_Can.l0
    rw [if_pos (by omega),if_neg (by omega)]
    exact (show wrap64 (0+1)=((1:Nat):Int) from w64 (by decide) (by decide)) ▸ this
  · unfold dryrotref11_Can.l0
    rw [if_neg (by omega),show l.length - 1=0 by omega]
    simp
    omega
theorem OU.alloc {B g:Nat} {W:World} {L:List Bool} (h:OU B W g L) (o:Obj):OU B (W.alloc o) g L:=by
  obtain ⟨u,h1,h2⟩:=h
  exact ⟨u,blk_alloc h1 _,Kd.R_alloc h2 _⟩
theorem OU.drew {B g:Nat} {W:World} {L:List Bool} (h:OU B W g L):OU B W.drew g L:=h
theorem OU.lt {B g:Nat} {W:World} {L:List Bool} (h:OU B W g L):g<W.heap.size:=by
  obtain ⟨u,h1,_⟩:=h
  exact blk_lt h1
theorem cells70 {w W:World} {ad:Addr} {n:Nat} {l:List S70} (hr:Kd.C k70 w (some ad) n l) (hb:Below w.heap.size w W) (j:Nat) (hj:j<n):W.cell? (ad.add (j*2))=some (.int .i64 (rd_T70 l (j:Int)).f0)∧W.cell? ⟨(ad.add (j*2)).block,(ad.add (j*2)).off+1,none⟩=some (.int .u64 (rd_T70 l (j:Int)).f1):=by
  obtain ⟨ad',e,h0,h1⟩:=at_T70 (Kd.C_below hr hb) (j:Int) (by omega) (by omega)
  obtain rfl:=Option.some.inj e
  rw [Int.toNat_natCast] at h0 h1
  exact ⟨h0,h1⟩
theorem out_putXor.at_ (B g:Nat) (L:List Bool) (V:Int) (x:Nat) (w0 w:World) (hO:OU B w g L) (hB:Below B w0 w) (hgB:B≤g) (hV:V=(x:Int)) (hx:x<18446744073709551616) (hL:L.length≤6000000) :
    Calls Tryz.prog 83 #[.pointer (some ⟨g,0,none⟩),.int .u64 V] w fun e w' => e = .returned (.tuple #[])∧OU B w' g (L++xorBits x)∧Below B w0 w'∧KeepO g w w':=by
  subst hV
  exact out_putXor.calls B g L x w0 w hO hB hgB hx hL
theorem wrap64_0 (a:Int):wrap64 (wrap64 a - 0)=wrap64 a:=by
  have:=wrap64_in a
  rw [Int.sub_zero]
  exact w64 this.1 this.2
theorem rEncode.bad (A:Option Addr) (c:Nat) (l:List S70) (w:World) (hr:Kd.C k70 w A l.length l) (hc:l.length≤c) (hlen:l.length≤20000) (h:canS l=false) :
    Calls Tryz.prog 48 #[.slice A l.length c] w fun e w' => e = .returned (.tuple #[.slice none 0 0,.int .i64 1])∧Below w.heap.size w w':=by
  have HR:=Aside0.mk hr
  have HC:=Aside0.mk hc
  have HF:Aside0 (dryrotref11_Can.f 100000 l=some false):=⟨by rw [rcan_S l (by omega) _ (by omega),h]⟩
  clear hr hc hlen h
  go_enter Tryz.func48,Tryz.ntmps48
  go_wp2_with (go_at_call 68;(with_reducible refine (dryrotref11_Can.calls 100000 _ _ l false _ HR.out HC.out HF.out).mono ?_);rintro e w1 ⟨rfl,hd⟩;have HB:=Aside0.mk hd.below;clear hd)
  refine bodyPost_ret (results_tmp2 rfl _ _ _) rfl ?_
  exact ⟨rfl,HB.out⟩
theorem rEncode.ok (A:Option Addr) (c:Nat) (l:List S70) (w:World) (hr:Kd.C k70 w A l.length l) (hc:l.length≤c) (hw:∀ x ∈ l,okS x) (hlen:l.length≤20000) (h:canS l=true) :
    Calls Tryz.prog 48 #[.slice A l.length c] w fun e w' => ∃ v:Value,e = .returned (.tuple #[v,.int .i64 0])∧Kd.R (Kd.int .u8) 5 w' w.heap.size (fun _ => True) v (encL l)∧Below w.heap.size w w':=by
  have HR:=Aside0.mk hr
  have HC:=Aside0.mk hc
  have HW:=Aside0.mk hw
  have HLN:=Aside0.mk hlen
  have HF:Aside0 (dryrotref11_Can.f 100000 l=some true):=⟨by rw [rcan_S l (by omega) _ (by omega),h]⟩
  clear hr hc hw h hlen
  go_enter Tryz.func48,Tryz.ntmps48
  go_wp2_with (first
    | (go_at_call 68;(with_reducible refine (dryrotref11_Can.calls 100000 _ _ l true _ HR.out HC.out HF.out).mono ?_);rintro e w1 ⟨rfl,hd⟩;have HB1:=Aside0.mk hd.below;clear hd)
    | ((with_reducible refine gate_dst (N:=14) rfl ?_);refine box_event ?hg (N:=14) ?hd (cs:=#[.slice none 0 0]) (t:=137) ?hr ?_;(case hd => rfl);(case hg => rfl);(case hr => first | (go_simp;done) | (go_simp;rfl));intro g hg w2 hbox hb;have HB2:=Aside0.mk (below_step HB1.out hb);have HBK:=Aside0.mk hbox;have HG:Aside0 (w.heap.size≤g):=⟨by have:=HB1.out.size;omega⟩;clear hb hbox hg))
  have HPK:Aside0 (OU w.heap.size w2 g (encP l 0)):=⟨_,HBK.out,Kd.R_nil _ _ _ _ _⟩
  go_loopw [17] (fun i wr => ∃ k:Nat,k≤l.length∧i = .int .i64 k∧Aside0 (OU w.heap.size wr g (encP l k))∧Aside0 (Below w.heap.size w wr)) (fun i _ => l.length - (intOf i).toNat)
  case atStart => exact ⟨0,Nat.zero_le _,rfl,HPK,HB2⟩
  case round =>
    clear HPK HBK HB2
    obtain ⟨k,hk,rfl,HP,HB⟩:=hrel
    have hl2:l.length≤20000:=HLN.out
    by_cases hlt:k<l.length
    · have hC:=Kd.C_below HR.out HB.out
      obtain ⟨ad,rfl,h0,h1⟩:=at_T70 hC (k:Int) (by omega) (by omega)
      rw [Int.toNat_natCast] at h0 h1
      have hx:=HW.out _ (rd_mem70 l k hlt)
      have hgw:=(HP.out).lt
      have HGN:Aside0 (wr.heap.size ≠ g):=⟨by omega⟩
      have HLE:=Aside0.mk (encP_len l HW.out k hk)
      clear hC hgw
      cases k with
      | zero =>
        obtain ⟨v0,hv0⟩:=Int.eq_ofNat_of_zero_le (u64_wrap_range (rd_T70 l 0).f0).1
        obtain ⟨v1,hv1⟩:=Int.eq_ofNat_of_zero_le hx.2.1
        have CA:=Aside0.mk (fun W h1 h2 => out_put.at_ w.heap.size g [] (IntKind.u64.wrap (rd_T70 l 0).f0) 64 v0 64 w W h1 h2 HG.out hv0 rfl (by have:=(u64_wrap_range (rd_T70 l 0).f0).2;omega) (by decide) (by simp))
        have CB:=Aside0.mk (fun W h1 h2 => out_put.at_ w.heap.size g ([] ++ low v0 64) (rd_T70 l 0).f1 64 v1 64 w W h1 h2 HG.out hv1 rfl (by have:=hx.2.2;omega) (by decide) (by simp))
        have EV:Aside0 ((IntKind.u64.wrap (rd_T70 l 0).f0).toNat=v0∧(rd_T70 l 0).f1.toNat=v1):=⟨by rw [hv0];rfl,by have h_:(rd_T70 l 0).f1=(v1:Int):=hv1;rw [h_];rfl⟩
        clear hv0 hv1 hx
        have h0':wr.cell? ad=some (.int .i64 (rd_T70 l 0).f0):=by simpa [Addr.add] using h0
        have h1':wr.cell? ⟨ad.block,ad.off+1,none⟩=some (.int .u64 (rd_T70 l 0).f1):=by simpa [Addr.add] using h1
        clear h0 h1
        go_wp2_with (first
          | (go_at_call 81;(with_reducible refine (CA.out _ (HP.out.alloc _) (below_alloc HB.out _)).mono ?_);rintro e w3 ⟨rfl,hp,hb,hk⟩;have HP3:=Aside0.mk hp;have BX:=hk wr.heap.size _ _ HGN.out (by decide) (blk_new wr _);have f1:=(blk_cell BX 1).trans rfl;have HB3:=Aside0.mk hb;clear hp hb hk BX)
          | (go_at_call 81;(with_reducible refine (CB.out _ HP3.out HB3.out).mono ?_);rintro e w4 ⟨rfl,hp,hb,hk⟩;have HP4:=Aside0.mk hp;have HB4:=Aside0.mk hb;clear hp hb hk))
        go_roundw
        case rel =>
          refine ⟨1,by omega,by go_num,⟨?_⟩,HB4⟩
          have:=HP4.out
          rw [List.nil_append,← EV.out.1,← EV.out.2] at this
          exact this
        case measure => simp [intOf];omega
      | succ k =>
        have hx1:=HW.out _ (rd_mem70 l k (by omega))
        obtain ⟨x,ex⟩:∃ x,rd_T70 l ((k+1:Nat):Int)=x:=⟨_,rfl⟩
        obtain ⟨y,ey⟩:∃ y,rd_T70 l ((k:Nat):Int)=y:=⟨_,rfl⟩
        rw [ex] at h0 h1 hx
        rw [ey] at hx1
        have hxi:=xor_in hx.2 hx1.2
        obtain ⟨q,eq⟩:∃ q,x.f1.toNat ^^^ y.f1.toNat=q:=⟨_,rfl⟩
        rw [eq] at hxi
        have CI:=Aside0.mk (fun V W h1 h2 => out_putInt.calls w.heap.size g (encP l (k+1)) V w W h1 h2 HG.out (by have:=HLE.out;omega))
        have CX:=Aside0.mk (fun V U W h1 h2 hU => out_putXor.at_ w.heap.size g (encP l (k+1)++intBits V) U q w W h1 h2 HG.out hU hxi.2 (by have:=HLE.out;have:=intBits_len V;rw [List.length_append];omega))
        have HXI:=Aside0.mk hxi.1
        have HST:Aside0 (encP l (k+2)=encP l (k+1)++(intBits (wrap64 (wrap64 (x.f0 - y.f0) - stepP l (k+1)))++xorBits q)):=⟨by rw [← eq,← ex,← ey];rfl⟩
        have HCY:=Aside0.mk (fun W hb => ey ▸ cells70 HR.out (W:=W) hb k (by omega))
        have BX:=Aside0.mk (blk_new wr (.cells #[.int .i64 x.f0,.int .u64 x.f1] 70))
        have HPA:=Aside0.mk (HP.out.alloc (.cells #[.int .i64 x.f0,.int .u64 x.f1] 70))
        have HBA:=Aside0.mk (below_alloc HB.out (.cells #[.int .i64 x.f0,.int .u64 x.f1] 70))
        clear hx hx1 hxi eq
        cases k with
        | zero =>
          rw [show ((0+1:Nat):Int)=1 from rfl] at *
          have y0:(wr.alloc (.cells #[.int .i64 x.f0,.int .u64 x.f1] 70)).cell? ad=some (.int .i64 y.f0):=by simpa [Addr.add] using (HCY.out _ HBA.out).1
          have x0:(wr.alloc (.cells #[.int .i64 x.f0,.int .u64 x.f1] 70)).cell? ⟨wr.heap.size,0,none⟩=some (.int .i64 x.f0):=(blk_cell BX.out 0).trans rfl
          have h0':wr.cell? ⟨ad.block,ad.off+2,none⟩=some (.int .i64 x.f0):=by simpa [Addr.add] using h0
          have h1':wr.cell? ⟨ad.block,ad.off+2+1,none⟩=some (.int .u64 x.f1):=by simpa [Addr.add] using h1
          have hxi:=HXI.out
          have b3:(0:Int)<(l.length:Int):=by omega
          have b4:0<l.length:=by omega
          have hw0:IntKind.i64.wrap 0=0:=by decide
          have hw1:IntKind.i64.wrap (1 - 1)=0:=by decide
          clear h0 h1 ex ey
          go_wp2_with fail
          go_region_held3 (fun W => W.cell? ⟨wr.heap.size,0,none⟩=some (.int .i64 x.f0)∧W.cell? ad=some (.int .i64 y.f0)) (first | exact ⟨x0,y0⟩ | exact ⟨x3,y3⟩)
            (first | (go_at_call 82;(refine (CI.out _ _ ?s1 ?s2).mono ?_);(case s1 => exact HPA.out.drew);(case s2 => exact below_drew1 HBA.out);rintro e w3 ⟨rfl,hp,hb,hk⟩;have bx3:=hk wr.heap.size _ _ HGN.out (by decide) (blk_drew BX.out);have x3:=(blk_cell bx3 0).trans rfl;have y3:w3.cell? ad=some (.int .i64 y.f0):=(by simpa [Addr.add] using (HCY.out _ hb).1);have HP3:=Aside0.mk hp;have HB3:=Aside0.mk hb;have BX3:=Aside0.mk bx3;clear hp hb hk bx3))
          clear x0 y0
          have x1:w3.cell? ⟨wr.heap.size,1,none⟩=some (.int .u64 x.f1):=(blk_cell BX3.out 1).trans rfl
          have y1:w3.cell? ⟨ad.block,ad.off+1,none⟩=some (.int .u64 y.f1):=by simpa [Addr.add] using (HCY.out _ HB3.out).2
          go_wp2_with fail
          go_region_held3 (fun W => W.cell? ⟨wr.heap.size,1,none⟩=some (.int .u64 x.f1)∧W.cell? ⟨ad.block,ad.off+1,none⟩=some (.int .u64 y.f1)) (first | exact ⟨x1,y1⟩ | exact ⟨x4,y4⟩)
            (first | (go_at_call 83;(refine (CX.out _ _ _ HP3.out.drew ?s4 ?s5).mono ?_);(case s4 => exact below_drew1 HB3.out);(case s5 => first | exact hxi | rfl);rintro e w4 ⟨rfl,hp,hb,hk⟩;have bx4:=hk wr.heap.size _ _ HGN.out (by decide) (blk_drew BX3.out);have x4:w4.cell? ⟨wr.heap.size,1,none⟩=some (.int .u64 x.f1):=(blk_cell bx4 1).trans rfl;have y4:w4.cell? ⟨ad.block,ad.off+1,none⟩=some (.int .u64 y.f1):=(by simpa [Addr.add] using (HCY.out _ hb).2);have HP4:=Aside0.mk hp;have HB4:=Aside0.mk hb;clear hp hb hk bx4))
          clear x1 y1 x3 y3
          go_wp2_with fail
          go_roundw
          case rel =>
            refine ⟨0+2,by omega,by go_num,⟨?_⟩,HB4⟩
            have h_:=HP4.out
            simp only [i64_w] at h_
            rw [show stepP l (0+1)=0 from rfl,wrap64_0] at HST
            rw [HST.out,← List.append_assoc]
            exact h_
          case measure => simp [intOf] <;> omega
        | succ k =>
          rw [show ((k+1+1:Nat):Int)=(k:Int)+2 from by omega] at *
          obtain ⟨z,ez⟩:∃ z,rd_T70 l ((k:Nat):Int)=z:=⟨_,rfl⟩
          have HSP:Aside0 (stepP l (k+1+1)=wrap64 (y.f0 - z.f0)):=⟨by rw [← ey,← ez];rfl⟩
          have HCZ:=Aside0.mk (fun W hb => ez ▸ cells70 HR.out (W:=W) hb k (by omega))
          have y0:=(HCY.out _ HBA.out).1
          have z0:=(HCZ.out _ HBA.out).1
          have x0:(wr.alloc (.cells #[.int .i64 x.f0,.int .u64 x.f1] 70)).cell? ⟨wr.heap.size,0,none⟩=some (.int .i64 x.f0):=(blk_cell BX.out 0).trans rfl
          have hxi:=HXI.out
          have b0:(0:Int)≤(k:Int):=by omega
          have b1:(k:Int)<(l.length:Int):=by omega
          have b2:(0:Int)≤(k:Int)+1:=by omega
          have b3:(k:Int)+1<(l.length:Int):=by omega
          have hwk:IntKind.i64.wrap (k:Int)=(k:Int):=(i64_w _).trans (w64 (by omega) (by omega))
          have hwk1:IntKind.i64.wrap ((k:Int)+1)=(k:Int)+1:=(i64_w _).trans (w64 (by omega) (by omega))
          have hwk2:IntKind.i64.wrap ((k:Int)+2 - 1)=(k:Int)+1:=(i64_w _).trans ((w64 (by omega) (by omega)).trans (by omega))
          have hwk3:IntKind.i64.wrap ((k:Int)+2 - 2)=(k:Int):=(i64_w _).trans ((w64 (by omega) (by omega)).trans (by omega))
          have hn1:((k:Int)+1).toNat=k+1:=by omega
          have d0:((k:Int)+2 == 0)=false:=beq_eq_false_iff_ne.2 (by omega)
          have d1:((k:Int)+2 == 1)=false:=beq_eq_false_iff_ne.2 (by omega)
          clear ex ey ez
          go_wp2_with fail
          go_region_held3 (fun W => W.cell? ⟨wr.heap.size,0,none⟩=some (.int .i64 x.f0)∧W.cell? (ad.add ((k+1)*2))=some (.int .i64 y.f0)∧W.cell? (ad.add (k*2))=some (.int .i64 z.f0)) (first | exact ⟨x0,y0,z0⟩ | exact ⟨x3,y3,z3⟩)
            (first | (go_at_call 82;(refine (CI.out _ _ ?s6 ?s7).mono ?_);(case s6 => exact HPA.out.drew);(case s7 => exact below_drew1 HBA.out);rintro e w3 ⟨rfl,hp,hb,hk⟩;have bx3:=hk wr.heap.size _ _ HGN.out (by decide) (blk_drew BX.out);have x3:w3.cell? ⟨wr.heap.size,0,none⟩=some (.int .i64 x.f0):=(blk_cell bx3 0).trans rfl;have y3:=(HCY.out _ hb).1;have z3:=(HCZ.out _ hb).1;have HP3:=Aside0.mk hp;have HB3:=Aside0.mk hb;have BX3:=Aside0.mk bx3;clear hp hb hk bx3))
          clear x0 y0 z0
          have x1:w3.cell? ⟨wr.heap.size,1,none⟩=some (.int .u64 x.f1):=(blk_cell BX3.out 1).trans rfl
          have y1:=(HCY.out _ HB3.out).2
          go_wp2_with fail
          go_region_held3 (fun W => W.cell? ⟨wr.heap.size,1,none⟩=some (.int .u64 x.f1)∧W.cell? ⟨(ad.add ((k+1)*2)).block,(ad.add ((k+1)*2)).off+1,none⟩=some (.int .u64 y.f1)) (first | exact ⟨x1,y1⟩ | exact ⟨x4,y4⟩)
            (first | (go_at_call 83;(refine (CX.out _ _ _ HP3.out.drew ?s9 ?s10).mono ?_);(case s9 => exact below_drew1 HB3.out);(case s10 => first | exact hxi | rfl);rintro e w4 ⟨rfl,hp,hb,hk⟩;have bx4:=hk wr.heap.size _ _ HGN.out (by decide) (blk_drew BX3.out);have x4:w4.cell? ⟨wr.heap.size,1,none⟩=some (.int .u64 x.f1):=(blk_cell bx4 1).trans rfl;have y4:=(HCY.out _ hb).2;have HP4:=Aside0.mk hp;have HB4:=Aside0.mk hb;clear hp hb hk bx4))
          clear x1 y1 x3 y3 z3
          go_wp2_with fail
          go_roundw
          case rel =>
            refine ⟨k+1+2,by omega,by go_num,⟨?_⟩,HB4⟩
            have h_:=HP4.out
            simp only [i64_w] at h_
            rw [← HSP.out] at h_
            rw [HST.out,← List.append_assoc]
            exact h_
          case measure => simp [intOf] <;> omega
    · obtain rfl:k=l.length:=by omega
      have hL7:=encP_len l HW.out l.length (Nat.le_refl _)
      obtain ⟨L,hL⟩:∃ L,encP l l.length=L:=⟨_,rfl⟩
      rw [hL] at HP hL7
      have HEN:Aside0 (encL l=beL l.length 2++pkS L L.length):=⟨by rw [encL,hL,pkS_all]⟩
      have HL7:Aside0 (L.length≤4000000):=⟨by omega⟩
      obtain ⟨u,hu1,hu2⟩:=HP.out
      obtain ⟨A8,c8,rfl⟩:=Kd.R_slice hu2
      have HU1:=Aside0.mk hu1
      have HU2:=Aside0.mk hu2
      have HPF:Aside0 (G.dryrotref01_Put.f (l.length:Int) 2=some (beL l.length 2)):=⟨by have h_:=put_f (q:=(l.length:Int)) (by omega) (by omega) 2;rw [u64n (by omega)] at h_;exact h_⟩
      clear hu1 hu2 hL hL7
      go_wp2_with (go_at_call 34;(with_reducible refine (G.dryrotref01_Put.calls _ _ _ _ HPF.out).mono ?_);rintro e w5 ⟨v5,rfl,hr,hb⟩;have HR5:=Aside0.mk hr;have HB5:=Aside0.mk (below_step HB.out hb);have HU5:=Aside0.mk (Kd.R_below HU2.out hb);have BK5:=Aside0.mk (blk_below HU1.out hb);have z5:w5.cell? ⟨g,0,none⟩=some (.slice A8 L.length c8):=(blk_cell BK5.out 0).trans rfl;clear hr hb)
      have HS5:Aside0 (w.heap.size≤wr.heap.size):=⟨HB.out.size⟩
      clear HP HB HU1 HU2
      obtain ⟨A7,c7,rfl⟩:=Kd.R_slice HR5.out
      have HR6:Aside0 (Kd.R (Kd.int .u8) 5 w5 w.heap.size (fun _ => True) (.slice A7 (beL l.length 2).length c7) (beL l.length 2++pkS L 0)):=⟨by
        rw [show beL l.length 2++pkS L 0=beL l.length 2 from List.append_nil _]
        exact Kd.R_lower HR5.out HS5.out⟩
      go_loopw [7,91] (fun v7 i wx => ∃ j:Nat,j≤L.length∧i = .int .i64 j∧Aside0 (Kd.R (Kd.int .u8) 5 wx w.heap.size (fun _ => True) v7 (beL l.length 2++pkS L j))∧Aside0 (Kd.R Kd.bool 4 wx w.heap.size (fun _ => True) (.slice A8 L.length c8) L)∧Aside0 (Below w.heap.size w wx)) (fun _ i _ => L.length - (intOf i).toNat)
      case atStart => exact ⟨0,Nat.zero_le _,rfl,HR6,HU5,HB5⟩
      case round =>
        clear HR5 HR6 HU5 HB5 BK5 z5
        obtain ⟨j,hj,rfl,HX,HO,HB⟩:=hrel
        have hL7:L.length≤4000000:=HL7.out
        by_cases hlt:j<L.length
        · obtain ⟨ad8,rfl,z8⟩:=Kd.at_bool (Kd.R_reads' HO.out).2.2 (j:Int) (by omega) (by omega)
          rw [Int.toNat_natCast] at z8
          have hbit:rdOf false L (j:Int)=L.getD j false:=by simp [rdOf]
          rw [hbit] at z8
          have hpl:(pkS L j).length=(j+7) / 8:=by have h_:=(pkS_ok L j (by omega)).1;have:=h_.le;have:=h_.near;omega
          have HXL:Aside0 ((beL l.length 2++pkS L j).length=2+(j+7) / 8):=⟨by rw [List.length_append,beL_length,hpl]⟩
          obtain ⟨A7,c7,e7⟩:=Kd.R_slice HX.out
          rw [HXL.out] at e7
          subst e7
          have HAZ:Aside0 (beL l.length 2++addZ (pkS L j) j=if j % 8=0 then beL l.length 2++pkS L j ++ [0] else beL l.length 2++pkS L j):=⟨by unfold addZ;split <;> simp⟩
          have HPF:=Aside0.mk (fun hb => pk_false (L:=L) hlt hb)
          have HPT:=Aside0.mk (fun hb => pk_true (L:=L) (m:=2) hlt hb (beL l.length 2) (beL_length _ _))
          have HAL:Aside0 ((beL l.length 2++addZ (pkS L j) j).length=2+j / 8+1):=⟨by rw [List.length_append,beL_length,addZ_len (pkS_ok L j (by omega)).1];omega⟩
          have HOB:Aside0 (OkL (beL l.length 2++addZ (pkS L j) j)):=⟨fun x hx => by
            rcases List.mem_append.1 hx with hx | hx
            · exact okB_iff.1 (okB_beL _ _) x hx
            · unfold addZ at hx
              split at hx
              · rcases List.mem_append.1 hx with hx | hx
                · exact (pkS_ok L j (by omega)).1.bytes x hx
                · rw [List.mem_singleton.1 hx]
                  exact ⟨by decide,by decide⟩
              · exact (pkS_ok L j (by omega)).1.bytes x hx⟩
          clear hbit hpl
          generalize addZ (pkS L j) j=Z at *
          generalize L.getD j false=bt at *
          go_upto_if 98 with (fail)
          go_cut [7] (fun v7 wc => Aside0 (Kd.R (Kd.int .u8) 5 wc w.heap.size (fun _ => True) v7 (beL l.length 2++Z))∧Aside0 (Kd.R Kd.bool 4 wc w.heap.size (fun _ => True) (.slice (some ad8) L.length c8) L)∧Aside0 (Below w.heap.size w wc))
          case first =>
            by_cases hm:j % 8=0
            · have hmb:((j:Int) % 8 == 0)=true:=beq_iff_eq.2 (by omega)
              have HE:=HAZ.out
              rw [if_pos hm] at HE
              have HE:=Aside0.mk HE
              clear hm
              go_wp2_with ((with_reducible refine gate_builtin (b:=.append) (xs:=#[.tmp 99,.tmp 100]) rfl ?_);at_builtin;refine Kd.R_append (Kd.int .u8) (w0:=w) w.heap.size rfl (.tmp 99) (.tmp 100) 24 5 (.int .u8 0) 1 rfl Tryz.underlying24 infoU8 rfl (by decide) (by omega) (.slice A7 (2+(j+7) / 8) c7) (beL l.length 2++pkS L j) 0 [.int .u8 0] (fun _ => True) (fun _ => False) rfl ?hx ?aP (fun _ hk => hk.elim) (fun _ _ => trivial) HX.out HB.out HB.out.size ?aL ?_;(case hx => first | rfl | (go_simp;done) | (show Value.slice _ 1 1=Value.slice _ 1 1;simp;done));(case aP => exact rfl);(case aL => have:=HXL.out;omega);intro v9 w9 ho hb hg9 hat;have HX9:=Aside0.mk ho;have HB9:=Aside0.mk hb;have HO9:=Aside0.mk (Kd.R_over HO.out HX.out (by decide) hg9);clear ho hb hg9 hat)
              go_meet
              exact ⟨⟨by rw [HE.out];exact HX9.out⟩,HO9,HB9⟩
            · have hmb:((j:Int) % 8 == 0)=false:=beq_eq_false_iff_ne.2 (by omega)
              have HE:=HAZ.out
              rw [if_neg hm] at HE
              have HE:=Aside0.mk HE
              clear hm
              go_wp2_with (fail)
              go_meet
              exact ⟨⟨by rw [HE.out];exact HX.out⟩,HO,HB⟩
          case rest =>
            obtain ⟨HX2,HO2,HB2⟩:=hcut
            clear HX HO HB
            cases bt with
            | false =>
              go_wp2_with fail
              go_roundw
              case rel => exact ⟨j+1,by omega,by go_num,⟨by rw [HPF.out rfl];exact HX2.out⟩,HO2,HB2⟩
              case measure => simp [intOf] <;> omega
            | true =>
              obtain ⟨s1,s2,s3⟩:=HPT.out rfl
              obtain ⟨gb,c9,e9,hgb,hgl,cl,hcl⟩:=Kd.R_form HX2.out (by rw [s2];omega)
              subst e9
              rw [s2] at HX2
              rw [s2]
              obtain ⟨hc,hf⟩:=Kd.R_celln 0 HX2.out ((2+j / 8:Nat):Int) (by omega) (by omega)
              have HP:=Aside0.mk (Kd.R_putg HX2.out ((2+j / 8:Nat):Int) (Go.bits .or .u8 (Z.getD (j / 8) 0) (128 / 2 ^ (j % 8))))
              rw [show rdOf (0:Int) (beL l.length 2++Z) ((2+j / 8:Nat):Int)=Z.getD (j / 8) 0 from s3] at hc
              rw [Int.toNat_natCast] at hc hf HP
              rw [s1] at HP
              obtain ⟨N,hN⟩:∃ N,2+j / 8=N:=⟨_,rfl⟩
              rw [hN] at hc hf HP HX2
              rw [hN]
              obtain ⟨q,hq⟩:∃ q,j % 8=q:=⟨_,rfl⟩
              have hq8:q<8:=hq ▸ Nat.mod_lt _ (by decide)
              have hqi:(j:Int) % 8=(q:Int):=by omega
              rw [hq] at HP
              have hN0:(0:Int)≤(N:Int):=by omega
              have hN1:(N:Int)<(N:Int)+1:=by omega
              have hNw:IntKind.i64.wrap (N:Int)=(N:Int):=(i64_w _).trans (w64 (by omega) (by omega))
              clear s1 s2 s3 hN hq
              clear HPT
              generalize Z.getD (j / 8) 0=ov at *
              go_wp2_with fail
              go_region
              all_goals
                go_wp2_with fail
                go_roundw
                case rel => exact ⟨j+1,by omega,by go_num,⟨Kd.R_drew HP.out.1⟩,⟨Kd.R_drew (Kd.R_over HO2.out HX2.out (by decide) HP.out.2)⟩,⟨below_drew1 (HB2.out.setCell (p:=⟨gb,N,none⟩) hgb _)⟩⟩
                case measure => simp [intOf] <;> omega
        · obtain rfl:j=L.length:=by omega
          obtain ⟨A7,c7,e7⟩:=Kd.R_slice HX.out
          subst e7
          go_wp2_with fail
          refine bodyPost_ret (results_tmp2 rfl _ _ _) rfl ?_
          refine ⟨_,rfl,?_,HB.out⟩
          rw [HEN.out]
          exact HX.out
def canX (x:S51):Bool:=canL x.f0 && (!decide (x.f1.length=0) && canS x.f1)
def okC (l:List S51) (k:Nat):Bool:=canX (rd_T51 l (k:Int)) && (decide (k=0) || decide (cmpL (rd_T51 l ((k - 1:Nat):Int)).f0 (rd_T51 l (k:Int)).f0<0))
def canC (l:List S51):Bool:=(List.range l.length).all (okC l)
theorem canC_bad {l:List S51} {k:Nat} (hk:k<l.length) (h:okC l k=false):canC l=false:=by
  rw [canC,List.all_eq_false]
  exact ⟨k,List.mem_range.2 hk,by rw [h];simp⟩
theorem canC_ok {l:List S51} (h:∀ j,j<l.length→okC l j=true):canC l=true:=by
  rw [canC]
  simp only [List.all_eq_true,List.mem_range]
  exact h
theorem canC_parts {l:List S51} (h:canC l=true):∀ j,j<l.length→okC l j=true:=by
  rw [canC] at h
  simpa only [List.all_eq_true,List.mem_range] using h
theorem okC_x {l:List S51} {k:Nat} (h:canX (rd_T51 l (k:Int))=false):okC l k=false:=by rw [okC,h];rfl
theorem okC_zero {l:List S51} (h:canX (rd_T51 l ((0:Nat):Int))=true):okC l 0=true:=by rw [okC,h];rfl
theorem okC_succ {l:List S51} {k:Nat} (h:canX (rd_T51 l ((k+1:Nat):Int))=true):okC l (k+1)=decide (cmpL (rd_T51 l (k:Int)).f0 (rd_T51 l ((k+1:Nat):Int)).f0<0):=by
  rw [okC,h]
  simp
theorem uptoC_step {l:List S51} {k:Nat} (h:∀ j,j<k→okC l j=true) (hk:okC l k=true):∀ j,j<k+1→okC l j=true:=fun j hj => by
  rcases Nat.lt_or_ge j k with h1 | h1
  · exact h j h1
  · obtain rfl:j=k:=by omega
    exact hk
theorem canX_l {x:S51} (h:canL x.f0=false):canX x=false:=by rw [canX,h];rfl
theorem canX_n {x:S51} (h:x.f1.length=0):canX x=false:=by rw [canX,decide_eq_true h];simp
theorem canX_s {x:S51} (h:canS x.f1=false):canX x=false:=by rw [canX,h];simp
theorem canX_ok {x:S51} (h:canL x.f0=true) (h0:¬ x.f1.length=0) (h1:canS x.f1=true):canX x=true:=by rw [canX,h,h1,decide_eq_false h0];rfl
theorem rd_memZ (l:List S51) (k:Nat) (h:k<l.length):rd_T51 l (k:Int) ∈ l:=by
  have e:rd_T51 l (k:Int)=l[k]:=by simp [rd_T51,List.getD_eq_getElem?_getD,List.getElem?_eq_getElem h]
  rw [e]
  exact List.getElem_mem h
def okZ (l:List S51):Prop:=∀ x ∈ l,okLs x.f0∧x.f0.length≤1000000∧x.f1.length≤1000000∧∀ s ∈ x.f1,okS s
theorem canSc.calls (A:Option Addr) (c n:Nat) (l:List S70) (b:Bool) (w:World) (hn:l.length=n) (hr:Kd.C k70 w A n l) (hc:n≤c) (hl:n≤1000000) (h:canS l=b) :
    Calls Tryz.prog 88 #[.slice A n c] w fun e w' => e = .returned (.bool b)∧Below w.heap.size w w':=by
  subst hn
  exact (codec_Can.calls (l.length+2) A c l b w hr hc (by rw [can_S l (by omega) _ (by omega),h])).mono fun e w' ⟨he,hd⟩ => ⟨he,hd.below⟩
theorem rcanSc.calls (A:Option Addr) (c n:Nat) (l:List S70) (b:Bool) (w:World) (hn:l.length=n) (hr:Kd.C k70 w A n l) (hc:n≤c) (hl:n≤1000000) (h:canS l=b) :
    Calls Tryz.prog 68 #[.slice A n c] w fun e w' => e = .returned (.bool b)∧Below w.heap.size w w':=by
  subst hn
  exact (dryrotref11_Can.calls (l.length+2) A c l b w hr hc (by rw [rcan_S l (by omega) _ (by omega),h])).mono fun e w' ⟨he,hd⟩ => ⟨he,hd.below⟩
theorem canL.calls_at (A:Option Addr) (c n:Nat) (l:List S68) (b:Bool) (w:World) (hn:l.length=n) (hr:Kd.C k68 w A n l) (hc:n≤c) (h:canL l=b) :
    Calls Tryz.prog 87 #[.slice A n c] w fun e w' => e = .returned (.bool b)∧Below w.heap.size w w':=h ▸ canL.calls A c n l w hn hr hc
theorem rcanL.calls_at (A:Option Addr) (c n:Nat) (l:List S68) (b:Bool) (w:World) (hn:l.length=n) (hr:Kd.C k68 w A n l) (hc:n≤c) (hok:okLs l) (h:canL l=b) :
    Calls Tryz.prog 67 #[.slice A n c] w fun e w' => e = .returned (.bool b)∧Below w.heap.size w w':=h ▸ rcanL.calls A c n l w hn hr hc hok
theorem canC.calls (A:Option Addr) (c n:Nat) (l:List S51) (w:World) (hn:l.length=n) (hr:Kd.C k51 w A n l) (hc:n≤c) (hok:okZ l) (hl:n≤1000000) :
    Calls Tryz.prog 53 #[.slice A n c] w fun e w' => e = .returned (.bool (canC l))∧Below w.heap.size w w':=by
  subst hn
  have HR:=Aside0.mk hr
  have HK:=Aside0.mk hok
  clear hr hc hok
  go_enter Tryz.func53,Tryz.ntmps53
  go_wp2
  go_loopw [7] (fun i wr => ∃ (k:Nat),k≤l.length∧i = .int .i64 k∧Aside0 (∀ j,j<k→okC l j=true)∧Aside0 (Below w.heap.size w wr)) (fun i _ => l.length - (intOf i).toNat)
  case atStart => exact ⟨0,Nat.zero_le _,rfl,⟨fun j hj => by omega⟩,⟨Below.refl _ _⟩⟩
  case round =>
    obtain ⟨k,hk,rfl,HO,HB⟩:=hrel
    by_cases hlt:k<l.length
    · have hC := Kd.C_below HR.out HB.out
      obtain ⟨ad,A0,c0,A1,c1,rfl,e0,e1,l0,g0,l1,g1⟩:=at_T51 hC (k:Int) (by omega) (by omega)
      rw [Int.toNat_natCast] at e0 e1
      have HBAD:=Aside0.mk (fun h => canC_bad (l:=l) (k:=k) hlt h)
      have HS:=Aside0.mk (fun h => uptoC_step (l:=l) (k:=k) HO.out h)
      have HSZ:=Aside0.mk (HK.out _ (rd_memZ l k hlt))
      cases k with
      | zero =>
        obtain ⟨x,ex⟩:∃ x,rd_T51 l ((0:Nat):Int)=x:=⟨_,rfl⟩
        have EX:=Aside0.mk ex
        rw [ex] at e0 e1 HSZ g0 l0 g1 l1
        have G0:=Aside0.mk g0
        have L0:=Aside0.mk l0
        have G1:=Aside0.mk g1
        have L1:=Aside0.mk l1
        clear hC ex g0 l0 g1 l1
        have e0z:wr.cell? ad=some (.slice A0 x.f0.length c0):=by simpa [Addr.add] using e0
        have e1z:wr.cell? ⟨ad.block,ad.off+1,none⟩=some (.slice A1 x.f1.length c1):=by simpa [Addr.add] using e1
        clear e0 e1
        have HBA:=Aside0.mk (below_alloc HB.out (.cells #[.slice A0 x.f0.length c0,.slice A1 x.f1.length c1] 51 (0,0)))
        have HBK:=Aside0.mk (blk_new wr (.cells #[.slice A0 x.f0.length c0,.slice A1 x.f1.length c1] 51 (0,0)))
        have HW:=Aside0.mk (below_alloc (Below.refl wr.heap.size wr) (.cells #[.slice A0 x.f0.length c0,.slice A1 x.f1.length c1] 51 (0,0)))
        have hxl:x.f1.length≤1000000:=HSZ.out.2.2.1
        cases h1:canL x.f0 with
        | false =>
          have HF:Aside0 (canC l=false):=⟨HBAD.out (okC_x (EX.out ▸ canX_l h1))⟩
          have C1:=Aside0.mk (fun W (hb:Below wr.heap.size wr W) => canL.calls_at A0 c0 _ x.f0 false W rfl (Kd.C_below G0.out hb) L0.out h1)
          clear h1
          go_wp2_with (first | (go_at_call 87;(with_reducible refine (C1.out _ HW.out).mono ?_);rintro e w1 ⟨rfl,hb⟩;have HB1:=Aside0.mk (below_step HBA.out hb);have HW1:=Aside0.mk (below_step HW.out hb);have HBK1:=Aside0.mk (blk_below HBK.out hb);have b1:=(blk_cell HBK1.out 1).trans rfl;clear hb))
          go_wp2
          go_ret
          exact ⟨by rw [HF.out];rfl,HB1.out⟩
        | true =>
          have C1:=Aside0.mk (fun W (hb:Below wr.heap.size wr W) => canL.calls_at A0 c0 _ x.f0 true W rfl (Kd.C_below G0.out hb) L0.out h1)
          by_cases h2:x.f1.length=0
          · have HF:Aside0 (canC l=false):=⟨HBAD.out (okC_x (EX.out ▸ canX_n h2))⟩
            have h2i:((x.f1.length:Int) == 0)=true:=beq_iff_eq.2 (by omega)
            clear h1 h2
            go_wp2_with (first | (go_at_call 87;(with_reducible refine (C1.out _ HW.out).mono ?_);rintro e w1 ⟨rfl,hb⟩;have HB1:=Aside0.mk (below_step HBA.out hb);have HW1:=Aside0.mk (below_step HW.out hb);have HBK1:=Aside0.mk (blk_below HBK.out hb);have b1:=(blk_cell HBK1.out 1).trans rfl;clear hb))
            go_wp2
            go_ret
            exact ⟨by rw [HF.out];rfl,HB1.out⟩
          · have h2i:((x.f1.length:Int) == 0)=false:=beq_eq_false_iff_ne.2 (by omega)
            cases h3:canS x.f1 with
            | false =>
              have HF:Aside0 (canC l=false):=⟨HBAD.out (okC_x (EX.out ▸ canX_s h3))⟩
              have C2:=Aside0.mk (fun W (hb:Below wr.heap.size wr W) => canSc.calls A1 c1 _ x.f1 false W rfl (Kd.C_below G1.out hb) L1.out HSZ.out.2.2.1 h3)
              clear h1 h2 h3
              go_wp2_with (first | (go_at_call 87;(with_reducible refine (C1.out _ HW.out).mono ?_);rintro e w1 ⟨rfl,hb⟩;have HB1:=Aside0.mk (below_step HBA.out hb);have HW1:=Aside0.mk (below_step HW.out hb);have HBK1:=Aside0.mk (blk_below HBK.out hb);have b1:=(blk_cell HBK1.out 1).trans rfl;clear hb) | (go_at_call 88;(with_reducible refine (C2.out _ HW1.out).mono ?_);rintro e w2 ⟨rfl,hb⟩;have HB2:=Aside0.mk (below_step HB1.out hb);have HW2:=Aside0.mk (below_step HW1.out hb);have HBK2:=Aside0.mk (blk_below HBK1.out hb);clear hb))
              go_wp2
              go_ret
              exact ⟨by rw [HF.out];rfl,HB2.out⟩
            | true =>
              have C2:=Aside0.mk (fun W (hb:Below wr.heap.size wr W) => canSc.calls A1 c1 _ x.f1 true W rfl (Kd.C_below G1.out hb) L1.out HSZ.out.2.2.1 h3)
              have HG:=Aside0.mk (HS.out (okC_zero (EX.out ▸ canX_ok h1 h2 h3)))
              clear h1 h2 h3
              go_wp2_with (first | (go_at_call 87;(with_reducible refine (C1.out _ HW.out).mono ?_);rintro e w1 ⟨rfl,hb⟩;have HB1:=Aside0.mk (below_step HBA.out hb);have HW1:=Aside0.mk (below_step HW.out hb);have HBK1:=Aside0.mk (blk_below HBK.out hb);have b1:=(blk_cell HBK1.out 1).trans rfl;clear hb) | (go_at_call 88;(with_reducible refine (C2.out _ HW1.out).mono ?_);rintro e w2 ⟨rfl,hb⟩;have HB2:=Aside0.mk (below_step HB1.out hb);have HW2:=Aside0.mk (below_step HW1.out hb);have HBK2:=Aside0.mk (blk_below HBK1.out hb);clear hb))
              have aA:=BW.cell ((blk_cell HBK2.out 0).trans rfl)
              go_wp2_with fail
              refine wp_region_bw (by kernel_rfl) (by kernel_rfl) ?_
              repeat (any_goals (first | go_big_quiet_step (fail) | quiet_step (fail)))
              all_goals (refine wpQuiet_nil ?_;intro _ hw';obtain ⟨⟨w3,hb⟩,hw''⟩:=hw';subst hw'';have HB3:=Aside0.mk (below_step HB2.out hb);clear hb)
              go_wp2
              go_roundw
              case rel => exact ⟨0+1,by omega,by go_num,HG,HB3⟩
              case measure => simp [intOf] <;> omega
      | succ k =>
        obtain ⟨ad_,B0,d0,B1,d1,ea,q0,q1,m0,n0,m1,n1⟩:=at_T51 hC ((k:Nat):Int) (by omega) (by omega)
        obtain rfl:=Option.some.inj ea
        rw [Int.toNat_natCast] at q0 q1
        have HSY:=Aside0.mk (HK.out _ (rd_memZ l k (by omega)))
        obtain ⟨x,ex⟩:∃ x,rd_T51 l ((k+1:Nat):Int)=x:=⟨_,rfl⟩
        obtain ⟨y,ey⟩:∃ y,rd_T51 l ((k:Nat):Int)=y:=⟨_,rfl⟩
        have EY:=Aside0.mk ey
        rw [ey] at q0 q1 n0 m0 HSY
        have N0:=Aside0.mk n0
        have M0:=Aside0.mk m0
        clear n0 m0 m1 n1 q1
        have EX:=Aside0.mk ex
        rw [ex] at e0 e1 HSZ g0 l0 g1 l1
        have G0:=Aside0.mk g0
        have L0:=Aside0.mk l0
        have G1:=Aside0.mk g1
        have L1:=Aside0.mk l1
        clear hC ex g0 l0 g1 l1 ey ea
        have HBA:=Aside0.mk (below_alloc HB.out (.cells #[.slice A0 x.f0.length c0,.slice A1 x.f1.length c1] 51 (0,0)))
        have HBK:=Aside0.mk (blk_new wr (.cells #[.slice A0 x.f0.length c0,.slice A1 x.f1.length c1] 51 (0,0)))
        have HW:=Aside0.mk (below_alloc (Below.refl wr.heap.size wr) (.cells #[.slice A0 x.f0.length c0,.slice A1 x.f1.length c1] 51 (0,0)))
        have hxl:x.f1.length≤1000000:=HSZ.out.2.2.1
        have q0a:=cell_alloc_oldR (.cells #[.slice A0 x.f0.length c0,.slice A1 x.f1.length c1] 51 (0,0)) q0
        rw [show ((k+1:Nat):Int)=(k:Int)+1 from by omega] at *
        have gg0:decide ((0:Int)<(k:Int)+1)=true:=decide_eq_true (by omega)
        have hwk:IntKind.i64.wrap ((k:Int)+1 - 1)=(k:Int):=by rw [IntKind.wrap_i64];omega
        have gg1:(0:Int)≤(k:Int):=by omega
        have gg2:(k:Int)<(l.length:Int):=by omega
        cases h1:canL x.f0 with
        | false =>
          have HF:Aside0 (canC l=false):=⟨HBAD.out (okC_x (EX.out ▸ canX_l h1))⟩
          have C1:=Aside0.mk (fun W (hb:Below wr.heap.size wr W) => canL.calls_at A0 c0 _ x.f0 false W rfl (Kd.C_below G0.out hb) L0.out h1)
          clear h1
          go_wp2_with (first | (go_at_call 87;(with_reducible refine (C1.out _ HW.out).mono ?_);rintro e w1 ⟨rfl,hb⟩;have HB1:=Aside0.mk (below_step HBA.out hb);have HW1:=Aside0.mk (below_step HW.out hb);have HBK1:=Aside0.mk (blk_below HBK.out hb);have b1:=(blk_cell HBK1.out 1).trans rfl;clear hb))
          go_wp2
          go_ret
          exact ⟨by rw [HF.out];rfl,HB1.out⟩
        | true =>
          have C1:=Aside0.mk (fun W (hb:Below wr.heap.size wr W) => canL.calls_at A0 c0 _ x.f0 true W rfl (Kd.C_below G0.out hb) L0.out h1)
          by_cases h2:x.f1.length=0
          · have HF:Aside0 (canC l=false):=⟨HBAD.out (okC_x (EX.out ▸ canX_n h2))⟩
            have h2i:((x.f1.length:Int) == 0)=true:=beq_iff_eq.2 (by omega)
            clear h1 h2
            go_wp2_with (first | (go_at_call 87;(with_reducible refine (C1.out _ HW.out).mono ?_);rintro e w1 ⟨rfl,hb⟩;have HB1:=Aside0.mk (below_step HBA.out hb);have HW1:=Aside0.mk (below_step HW.out hb);have HBK1:=Aside0.mk (blk_below HBK.out hb);have b1:=(blk_cell HBK1.out 1).trans rfl;clear hb))
            go_wp2
            go_ret
            exact ⟨by rw [HF.out];rfl,HB1.out⟩
          · have h2i:((x.f1.length:Int) == 0)=false:=beq_eq_false_iff_ne.2 (by omega)
            cases h3:canS x.f1 with
            | false =>
              have HF:Aside0 (canC l=false):=⟨HBAD.out (okC_x (EX.out ▸ canX_s h3))⟩
              have C2:=Aside0.mk (fun W (hb:Below wr.heap.size wr W) => canSc.calls A1 c1 _ x.f1 false W rfl (Kd.C_below G1.out hb) L1.out HSZ.out.2.2.1 h3)
              clear h1 h2 h3
              go_wp2_with (first | (go_at_call 87;(with_reducible refine (C1.out _ HW.out).mono ?_);rintro e w1 ⟨rfl,hb⟩;have HB1:=Aside0.mk (below_step HBA.out hb);have HW1:=Aside0.mk (below_step HW.out hb);have HBK1:=Aside0.mk (blk_below HBK.out hb);have b1:=(blk_cell HBK1.out 1).trans rfl;clear hb) | (go_at_call 88;(with_reducible refine (C2.out _ HW1.out).mono ?_);rintro e w2 ⟨rfl,hb⟩;have HB2:=Aside0.mk (below_step HB1.out hb);have HW2:=Aside0.mk (below_step HW1.out hb);have HBK2:=Aside0.mk (blk_below HBK1.out hb);clear hb))
              go_wp2
              go_ret
              exact ⟨by rw [HF.out];rfl,HB2.out⟩
            | true =>
              have C2:=Aside0.mk (fun W (hb:Below wr.heap.size wr W) => canSc.calls A1 c1 _ x.f1 true W rfl (Kd.C_below G1.out hb) L1.out HSZ.out.2.2.1 h3)
              have HQ:=okC_succ (l:=l) (k:=k) (by rw [show ((k+1:Nat):Int)=(k:Int)+1 from by omega,EX.out];exact canX_ok h1 h2 h3)
              rw [show ((k+1:Nat):Int)=(k:Int)+1 from by omega,EX.out,EY.out] at HQ
              have C3:=Aside0.mk (fun W (hb:Below wr.heap.size wr W) => cmpL.calls B0 A0 d0 c0 _ _ y.f0 x.f0 W rfl rfl (Kd.C_below N0.out hb) (Kd.C_below G0.out hb) HSY.out.2.1)
              clear h1 h2 h3
              by_cases hd:cmpL y.f0 x.f0<0
              · have HG:=Aside0.mk (HS.out (by rw [HQ,decide_eq_true hd]))
                have hd1:decide ((0:Int)≤cmpL y.f0 x.f0)=false:=decide_eq_false (by omega)
                clear HQ hd
                go_wp2_with (first | (go_at_call 87;(with_reducible refine (C1.out _ HW.out).mono ?_);rintro e w1 ⟨rfl,hb⟩;have HB1:=Aside0.mk (below_step HBA.out hb);have HW1:=Aside0.mk (below_step HW.out hb);have HBK1:=Aside0.mk (blk_below HBK.out hb);have b1:=(blk_cell HBK1.out 1).trans rfl;clear hb) | (go_at_call 88;(with_reducible refine (C2.out _ HW1.out).mono ?_);rintro e w2 ⟨rfl,hb⟩;have HB2:=Aside0.mk (below_step HB1.out hb);have HW2:=Aside0.mk (below_step HW1.out hb);have HBK2:=Aside0.mk (blk_below HBK1.out hb);clear hb))
                have aA:=BW.cell ((blk_cell HBK2.out 0).trans rfl)
                have pA:=BW.cell (pw_cell_below HW2.out q0)
                go_wp2_with fail
                refine wp_region_bw (by kernel_rfl) (by kernel_rfl) ?_
                repeat (any_goals (first | go_big_quiet_step ((go_at_call 71;refine bw_of (C3.out _ ?_);exact below_step HW2.out (BW.hb _))) | quiet_step ((go_at_call 71;refine bw_of (C3.out _ ?_);exact below_step HW2.out (BW.hb _)))))
                all_goals (refine wpQuiet_nil ?_;intro _ hw';obtain ⟨⟨w3,hb⟩,hw''⟩:=hw';subst hw'';have HB3:=Aside0.mk (below_step HB2.out hb);clear hb)
                go_wp2
                go_roundw
                case rel => exact ⟨k+1+1,by omega,by go_num,HG,HB3⟩
                case measure => simp [intOf] <;> omega
              · have HF:Aside0 (canC l=false):=⟨HBAD.out (by rw [HQ,decide_eq_false hd])⟩
                have hd1:decide ((0:Int)≤cmpL y.f0 x.f0)=true:=decide_eq_true (by omega)
                clear HQ hd
                go_wp2_with (first | (go_at_call 87;(with_reducible refine (C1.out _ HW.out).mono ?_);rintro e w1 ⟨rfl,hb⟩;have HB1:=Aside0.mk (below_step HBA.out hb);have HW1:=Aside0.mk (below_step HW.out hb);have HBK1:=Aside0.mk (blk_below HBK.out hb);have b1:=(blk_cell HBK1.out 1).trans rfl;clear hb) | (go_at_call 88;(with_reducible refine (C2.out _ HW1.out).mono ?_);rintro e w2 ⟨rfl,hb⟩;have HB2:=Aside0.mk (below_step HB1.out hb);have HW2:=Aside0.mk (below_step HW1.out hb);have HBK2:=Aside0.mk (blk_below HBK1.out hb);clear hb))
                have aA:=BW.cell ((blk_cell HBK2.out 0).trans rfl)
                have pA:=BW.cell (pw_cell_below HW2.out q0)
                go_wp2_with fail
                refine wp_region_bw (by kernel_rfl) (by kernel_rfl) ?_
                repeat (any_goals (first | go_big_quiet_step ((go_at_call 71;refine bw_of (C3.out _ ?_);exact below_step HW2.out (BW.hb _))) | quiet_step ((go_at_call 71;refine bw_of (C3.out _ ?_);exact below_step HW2.out (BW.hb _)))))
                all_goals (refine wpQuiet_nil ?_;intro _ hw';obtain ⟨⟨w3,hb⟩,hw''⟩:=hw';subst hw'';have HB3:=Aside0.mk (below_step HB2.out hb);clear hb)
                go_wp2
                go_ret
                exact ⟨by rw [HF.out];rfl,HB3.out⟩
    · obtain rfl:k=l.length:=by omega
      have HF:Aside0 (canC l=true):=⟨canC_ok HO.out⟩
      go_wp2
      go_ret
      exact ⟨by rw [HF.out];rfl,HB.out⟩
theorem rcanC.calls (A:Option Addr) (c n:Nat) (l:List S51) (w:World) (hn:l.length=n) (hr:Kd.C k51 w A n l) (hc:n≤c) (hok:okZ l) (hl:n≤1000000) :
    Calls Tryz.prog 35 #[.slice A n c] w fun e w' => e = .returned (.bool (canC l))∧Below w.heap.size w w':=by
  subst hn
  have HR:=Aside0.mk hr
  have HK:=Aside0.mk hok
  clear hr hc hok
  go_enter Tryz.func35,Tryz.ntmps35
  go_wp2
  go_loopw [7] (fun i wr => ∃ (k:Nat),k≤l.length∧i = .int .i64 k∧Aside0 (∀ j,j<k→okC l j=true)∧Aside0 (Below w.heap.size w wr)) (fun i _ => l.length - (intOf i).toNat)
  case atStart => exact ⟨0,Nat.zero_le _,rfl,⟨fun j hj => by omega⟩,⟨Below.refl _ _⟩⟩
  case round =>
    obtain ⟨k,hk,rfl,HO,HB⟩:=hrel
    by_cases hlt:k<l.length
    · have hC := Kd.C_below HR.out HB.out
      obtain ⟨ad,A0,c0,A1,c1,rfl,e0,e1,l0,g0,l1,g1⟩:=at_T51 hC (k:Int) (by omega) (by omega)
      rw [Int.toNat_natCast] at e0 e1
      have HBAD:=Aside0.mk (fun h => canC_bad (l:=l) (k:=k) hlt h)
      have HS:=Aside0.mk (fun h => uptoC_step (l:=l) (k:=k) HO.out h)
      have HSZ:=Aside0.mk (HK.out _ (rd_memZ l k hlt))
      cases k with
      | zero =>
        obtain ⟨x,ex⟩:∃ x,rd_T51 l ((0:Nat):Int)=x:=⟨_,rfl⟩
        have EX:=Aside0.mk ex
        rw [ex] at e0 e1 HSZ g0 l0 g1 l1
        have G0:=Aside0.mk g0
        have L0:=Aside0.mk l0
        have G1:=Aside0.mk g1
        have L1:=Aside0.mk l1
        clear hC ex g0 l0 g1 l1
        have e0z:wr.cell? ad=some (.slice A0 x.f0.length c0):=by simpa [Addr.add] using e0
        have e1z:wr.cell? ⟨ad.block,ad.off+1,none⟩=some (.slice A1 x.f1.length c1):=by simpa [Addr.add] using e1
        clear e0 e1
        have HBA:=Aside0.mk (below_alloc HB.out (.cells #[.slice A0 x.f0.length c0,.slice A1 x.f1.length c1] 51 (0,0)))
        have HBK:=Aside0.mk (blk_new wr (.cells #[.slice A0 x.f0.length c0,.slice A1 x.f1.length c1] 51 (0,0)))
        have HW:=Aside0.mk (below_alloc (Below.refl wr.heap.size wr) (.cells #[.slice A0 x.f0.length c0,.slice A1 x.f1.length c1] 51 (0,0)))
        have hxl:x.f1.length≤1000000:=HSZ.out.2.2.1
        have aA:=BW.cell ((blk_cell HBK.out 0).trans rfl)
        have bA:=BW.cell ((blk_cell HBK.out 1).trans rfl)
        cases h1:canL x.f0 with
        | false =>
          have HF:Aside0 (canC l=false):=⟨HBAD.out (okC_x (EX.out ▸ canX_l h1))⟩
          have C1:=Aside0.mk (fun W (hb:Below wr.heap.size wr W) => rcanL.calls_at A0 c0 _ x.f0 false W rfl (Kd.C_below G0.out hb) L0.out HSZ.out.1 h1)
          clear h1
          go_wp2_with fail
          refine wp_region_bw (by kernel_rfl) (by kernel_rfl) ?_
          repeat (any_goals (first | go_big_quiet_step (first | (go_at_call 67;refine bw_of (C1.out _ ?_);exact below_step HW.out (BW.hb _))) | quiet_step (first | (go_at_call 67;refine bw_of (C1.out _ ?_);exact below_step HW.out (BW.hb _)))))
          all_goals (refine wpQuiet_nil ?_;intro _ hw';obtain ⟨⟨w2,hb⟩,hw''⟩:=hw';subst hw'';have HB2:=Aside0.mk (below_step HBA.out hb);clear hb)
          go_wp2
          go_ret
          exact ⟨by rw [HF.out];rfl,HB2.out⟩
        | true =>
          have C1:=Aside0.mk (fun W (hb:Below wr.heap.size wr W) => rcanL.calls_at A0 c0 _ x.f0 true W rfl (Kd.C_below G0.out hb) L0.out HSZ.out.1 h1)
          by_cases h2:x.f1.length=0
          · have HF:Aside0 (canC l=false):=⟨HBAD.out (okC_x (EX.out ▸ canX_n h2))⟩
            have h2i:((x.f1.length:Int) == 0)=true:=beq_iff_eq.2 (by omega)
            clear h1 h2
            go_wp2_with fail
            refine wp_region_bw (by kernel_rfl) (by kernel_rfl) ?_
            repeat (any_goals (first | go_big_quiet_step (first | (go_at_call 67;refine bw_of (C1.out _ ?_);exact below_step HW.out (BW.hb _))) | quiet_step (first | (go_at_call 67;refine bw_of (C1.out _ ?_);exact below_step HW.out (BW.hb _)))))
            all_goals (refine wpQuiet_nil ?_;intro _ hw';obtain ⟨⟨w2,hb⟩,hw''⟩:=hw';subst hw'';have HB2:=Aside0.mk (below_step HBA.out hb);clear hb)
            go_wp2
            go_ret
            exact ⟨by rw [HF.out];rfl,HB2.out⟩
          · have h2i:((x.f1.length:Int) == 0)=false:=beq_eq_false_iff_ne.2 (by omega)
            cases h3:canS x.f1 with
            | false =>
              have HF:Aside0 (canC l=false):=⟨HBAD.out (okC_x (EX.out ▸ canX_s h3))⟩
              have C2:=Aside0.mk (fun W (hb:Below wr.heap.size wr W) => rcanSc.calls A1 c1 _ x.f1 false W rfl (Kd.C_below G1.out hb) L1.out HSZ.out.2.2.1 h3)
              clear h1 h2 h3
              go_wp2_with fail
              refine wp_region_bw (by kernel_rfl) (by kernel_rfl) ?_
              repeat (any_goals (first | go_big_quiet_step (first | (go_at_call 67;refine bw_of (C1.out _ ?_);exact below_step HW.out (BW.hb _)) | (go_at_call 68;refine bw_of (C2.out _ ?_);exact below_step HW.out (BW.hb _))) | quiet_step (first | (go_at_call 67;refine bw_of (C1.out _ ?_);exact below_step HW.out (BW.hb _)) | (go_at_call 68;refine bw_of (C2.out _ ?_);exact below_step HW.out (BW.hb _)))))
              all_goals (refine wpQuiet_nil ?_;intro _ hw';obtain ⟨⟨w2,hb⟩,hw''⟩:=hw';subst hw'';have HB2:=Aside0.mk (below_step HBA.out hb);clear hb)
              go_wp2
              go_ret
              exact ⟨by rw [HF.out];rfl,HB2.out⟩
            | true =>
              have C2:=Aside0.mk (fun W (hb:Below wr.heap.size wr W) => rcanSc.calls A1 c1 _ x.f1 true W rfl (Kd.C_below G1.out hb) L1.out HSZ.out.2.2.1 h3)
              have HG:=Aside0.mk (HS.out (okC_zero (EX.out ▸ canX_ok h1 h2 h3)))
              clear h1 h2 h3
              go_wp2_with fail
              refine wp_region_bw (by kernel_rfl) (by kernel_rfl) ?_
              repeat (any_goals (first | go_big_quiet_step (first | (go_at_call 67;refine bw_of (C1.out _ ?_);exact below_step HW.out (BW.hb _)) | (go_at_call 68;refine bw_of (C2.out _ ?_);exact below_step HW.out (BW.hb _))) | quiet_step (first | (go_at_call 67;refine bw_of (C1.out _ ?_);exact below_step HW.out (BW.hb _)) | (go_at_call 68;refine bw_of (C2.out _ ?_);exact below_step HW.out (BW.hb _)))))
              all_goals (refine wpQuiet_nil ?_;intro _ hw';obtain ⟨⟨w2,hb⟩,hw''⟩:=hw';subst hw'';have HB2:=Aside0.mk (below_step HBA.out hb);clear hb)
              go_wp2
              go_roundw
              case rel => exact ⟨0+1,by omega,by go_num,HG,HB2⟩
              case measure => simp [intOf] <;> omega
      | succ k =>
        obtain ⟨ad_,B0,d0,B1,d1,ea,q0,q1,m0,n0,m1,n1⟩:=at_T51 hC ((k:Nat):Int) (by omega) (by omega)
        obtain rfl:=Option.some.inj ea
        rw [Int.toNat_natCast] at q0 q1
        have HSY:=Aside0.mk (HK.out _ (rd_memZ l k (by omega)))
        obtain ⟨x,ex⟩:∃ x,rd_T51 l ((k+1:Nat):Int)=x:=⟨_,rfl⟩
        obtain ⟨y,ey⟩:∃ y,rd_T51 l ((k:Nat):Int)=y:=⟨_,rfl⟩
        have EY:=Aside0.mk ey
        rw [ey] at q0 q1 n0 m0 HSY
        have N0:=Aside0.mk n0
        have M0:=Aside0.mk m0
        clear n0 m0 m1 n1 q1
        have EX:=Aside0.mk ex
        rw [ex] at e0 e1 HSZ g0 l0 g1 l1
        have G0:=Aside0.mk g0
        have L0:=Aside0.mk l0
        have G1:=Aside0.mk g1
        have L1:=Aside0.mk l1
        clear hC ex g0 l0 g1 l1 ey ea
        have HBA:=Aside0.mk (below_alloc HB.out (.cells #[.slice A0 x.f0.length c0,.slice A1 x.f1.length c1] 51 (0,0)))
        have HBK:=Aside0.mk (blk_new wr (.cells #[.slice A0 x.f0.length c0,.slice A1 x.f1.length c1] 51 (0,0)))
        have HW:=Aside0.mk (below_alloc (Below.refl wr.heap.size wr) (.cells #[.slice A0 x.f0.length c0,.slice A1 x.f1.length c1] 51 (0,0)))
        have hxl:x.f1.length≤1000000:=HSZ.out.2.2.1
        have q0a:=cell_alloc_oldR (.cells #[.slice A0 x.f0.length c0,.slice A1 x.f1.length c1] 51 (0,0)) q0
        rw [show ((k+1:Nat):Int)=(k:Int)+1 from by omega] at *
        have gg0:decide ((0:Int)<(k:Int)+1)=true:=decide_eq_true (by omega)
        have hwk:IntKind.i64.wrap ((k:Int)+1 - 1)=(k:Int):=by rw [IntKind.wrap_i64];omega
        have gg1:(0:Int)≤(k:Int):=by omega
        have gg2:(k:Int)<(l.length:Int):=by omega
        have aA:=BW.cell ((blk_cell HBK.out 0).trans rfl)
        have bA:=BW.cell ((blk_cell HBK.out 1).trans rfl)
        have pA:=BW.cell q0a
        cases h1:canL x.f0 with
        | false =>
          have HF:Aside0 (canC l=false):=⟨HBAD.out (okC_x (EX.out ▸ canX_l h1))⟩
          have C1:=Aside0.mk (fun W (hb:Below wr.heap.size wr W) => rcanL.calls_at A0 c0 _ x.f0 false W rfl (Kd.C_below G0.out hb) L0.out HSZ.out.1 h1)
          clear h1
          go_wp2_with fail
          refine wp_region_bw (by kernel_rfl) (by kernel_rfl) ?_
          repeat (any_goals (first | go_big_quiet_step (first | (go_at_call 67;refine bw_of (C1.out _ ?_);exact below_step HW.out (BW.hb _))) | quiet_step (first | (go_at_call 67;refine bw_of (C1.out _ ?_);exact below_step HW.out (BW.hb _)))))
          all_goals (refine wpQuiet_nil ?_;intro _ hw';obtain ⟨⟨w2,hb⟩,hw''⟩:=hw';subst hw'';have HB2:=Aside0.mk (below_step HBA.out hb);clear hb)
          go_wp2
          go_ret
          exact ⟨by rw [HF.out];rfl,HB2.out⟩
        | true =>
          have C1:=Aside0.mk (fun W (hb:Below wr.heap.size wr W) => rcanL.calls_at A0 c0 _ x.f0 true W rfl (Kd.C_below G0.out hb) L0.out HSZ.out.1 h1)
          by_cases h2:x.f1.length=0
          · have HF:Aside0 (canC l=false):=⟨HBAD.out (okC_x (EX.out ▸ canX_n h2))⟩
            have h2i:((x.f1.length:Int) == 0)=true:=beq_iff_eq.2 (by omega)
            clear h1 h2
            go_wp2_with fail
            refine wp_region_bw (by kernel_rfl) (by kernel_rfl) ?_
            repeat (any_goals (first | go_big_quiet_step (first | (go_at_call 67;refine bw_of (C1.out _ ?_);exact below_step HW.out (BW.hb _))) | quiet_step (first | (go_at_call 67;refine bw_of (C1.out _ ?_);exact below_step HW.out (BW.hb _)))))
            all_goals (refine wpQuiet_nil ?_;intro _ hw';obtain ⟨⟨w2,hb⟩,hw''⟩:=hw';subst hw'';have HB2:=Aside0.mk (below_step HBA.out hb);clear hb)
            go_wp2
            go_ret
            exact ⟨by rw [HF.out];rfl,HB2.out⟩
          · have h2i:((x.f1.length:Int) == 0)=false:=beq_eq_false_iff_ne.2 (by omega)
            cases h3:canS x.f1 with
            | false =>
              have HF:Aside0 (canC l=false):=⟨HBAD.out (okC_x (EX.out ▸ canX_s h3))⟩
              have C2:=Aside0.mk (fun W (hb:Below wr.heap.size wr W) => rcanSc.calls A1 c1 _ x.f1 false W rfl (Kd.C_below G1.out hb) L1.out HSZ.out.2.2.1 h3)
              clear h1 h2 h3
              go_wp2_with fail
              refine wp_region_bw (by kernel_rfl) (by kernel_rfl) ?_
              repeat (any_goals (first | go_big_quiet_step (first | (go_at_call 67;refine bw_of (C1.out _ ?_);exact below_step HW.out (BW.hb _)) | (go_at_call 68;refine bw_of (C2.out _ ?_);exact below_step HW.out (BW.hb _))) | quiet_step (first | (go_at_call 67;refine bw_of (C1.out _ ?_);exact below_step HW.out (BW.hb _)) | (go_at_call 68;refine bw_of (C2.out _ ?_);exact below_step HW.out (BW.hb _)))))
              all_goals (refine wpQuiet_nil ?_;intro _ hw';obtain ⟨⟨w2,hb⟩,hw''⟩:=hw';subst hw'';have HB2:=Aside0.mk (below_step HBA.out hb);clear hb)
              go_wp2
              go_ret
              exact ⟨by rw [HF.out];rfl,HB2.out⟩
            | true =>
              have C2:=Aside0.mk (fun W (hb:Below wr.heap.size wr W) => rcanSc.calls A1 c1 _ x.f1 true W rfl (Kd.C_below G1.out hb) L1.out HSZ.out.2.2.1 h3)
              have HQ:=okC_succ (l:=l) (k:=k) (by rw [show ((k+1:Nat):Int)=(k:Int)+1 from by omega,EX.out];exact canX_ok h1 h2 h3)
              rw [show ((k+1:Nat):Int)=(k:Int)+1 from by omega,EX.out,EY.out] at HQ
              have C3:=Aside0.mk (fun W (hb:Below wr.heap.size wr W) => rcmpL.calls B0 A0 d0 c0 _ _ y.f0 x.f0 W rfl rfl (Kd.C_below N0.out hb) (Kd.C_below G0.out hb) HSY.out.2.1)
              clear h1 h2 h3
              by_cases hd:cmpL y.f0 x.f0<0
              · have HG:=Aside0.mk (HS.out (by rw [HQ,decide_eq_true hd]))
                have hd1:decide ((0:Int)≤cmpL y.f0 x.f0)=false:=decide_eq_false (by omega)
                clear HQ hd
                go_wp2_with fail
                refine wp_region_bw (by kernel_rfl) (by kernel_rfl) ?_
                repeat (any_goals (first | go_big_quiet_step (first | (go_at_call 67;refine bw_of (C1.out _ ?_);exact below_step HW.out (BW.hb _)) | (go_at_call 68;refine bw_of (C2.out _ ?_);exact below_step HW.out (BW.hb _)) | (go_at_call 50;refine bw_of (C3.out _ ?_);exact below_step HW.out (BW.hb _))) | quiet_step (first | (go_at_call 67;refine bw_of (C1.out _ ?_);exact below_step HW.out (BW.hb _)) | (go_at_call 68;refine bw_of (C2.out _ ?_);exact below_step HW.out (BW.hb _)) | (go_at_call 50;refine bw_of (C3.out _ ?_);exact below_step HW.out (BW.hb _)))))
                all_goals (refine wpQuiet_nil ?_;intro _ hw';obtain ⟨⟨w2,hb⟩,hw''⟩:=hw';subst hw'';have HB2:=Aside0.mk (below_step HBA.out hb);clear hb)
                go_wp2
                go_roundw
                case rel => exact ⟨k+1+1,by omega,by go_num,HG,HB2⟩
                case measure => simp [intOf] <;> omega
              · have HF:Aside0 (canC l=false):=⟨HBAD.out (by rw [HQ,decide_eq_false hd])⟩
                have hd1:decide ((0:Int)≤cmpL y.f0 x.f0)=true:=decide_eq_true (by omega)
                clear HQ hd
                go_wp2_with fail
                refine wp_region_bw (by kernel_rfl) (by kernel_rfl) ?_
                repeat (any_goals (first | go_big_quiet_step (first | (go_at_call 67;refine bw_of (C1.out _ ?_);exact below_step HW.out (BW.hb _)) | (go_at_call 68;refine bw_of (C2.out _ ?_);exact below_step HW.out (BW.hb _)) | (go_at_call 50;refine bw_of (C3.out _ ?_);exact below_step HW.out (BW.hb _))) | quiet_step (first | (go_at_call 67;refine bw_of (C1.out _ ?_);exact below_step HW.out (BW.hb _)) | (go_at_call 68;refine bw_of (C2.out _ ?_);exact below_step HW.out (BW.hb _)) | (go_at_call 50;refine bw_of (C3.out _ ?_);exact below_step HW.out (BW.hb _)))))
                all_goals (refine wpQuiet_nil ?_;intro _ hw';obtain ⟨⟨w2,hb⟩,hw''⟩:=hw';subst hw'';have HB2:=Aside0.mk (below_step HBA.out hb);clear hb)
                go_wp2
                go_ret
                exact ⟨by rw [HF.out];rfl,HB2.out⟩
    · obtain rfl:k=l.length:=by omega
      have HF:Aside0 (canC l=true):=⟨canC_ok HO.out⟩
      go_wp2
      go_ret
      exact ⟨by rw [HF.out];rfl,HB.out⟩
theorem unT_six (l:List Int) (N:Int) (s:Int × Bool):0≤(unT l N s 6).1∧(unT l N s 6).1<64:=by
  unfold unT takeR
  split
  · exact ⟨Int.le_refl _,by show (0:Int)<_;decide⟩
  · split
    · exact ⟨Int.le_refl _,by show (0:Int)<_;decide⟩
    · have:=num_lt (win l s.1.toNat 6)
      rw [win_length] at this
      exact ⟨Int.natCast_nonneg _,by show ((num (win l s.1.toNat 6):Nat):Int)<_;omega⟩
theorem take_pair (g:Nat) (A:Option Addr) (c:Nat) (l:List Int) (N k:Int) (s r:Int × Int × Bool) (w0 w:World) (hr:Kd.C (Kd.int .u8) w0 A l.length l) (hc:l.length≤c) (hg:w0.heap.size≤g)
    (hl:OkL l) (hn:l.length≤1000000) (hN:-9223372036854775808≤N∧N≤9223372036854775807) (hU:UP w g A l.length c N s.2.1 s.2.2) (hB:Below w0.heap.size w0 w) (he:unT l N s.2 k=r) :
    Calls Tryz.prog 150 #[.pointer (some ⟨g,0,none⟩),.int .i64 k] w fun e w' => e = .returned (.int .u64 r.1)∧UP w' g A l.length c N r.2.1 r.2.2∧Below w0.heap.size w0 w'∧KeepBut w w' g none:=by
  subst he
  exact unpack_take.calls g A c l N s.2.1 k s.2.2 w0 w hU hr hc hB hg hl hn hN
theorem unpack_value.calls (g:Nat) (A:Option Addr) (c:Nat) (l:List Int) (N p:Int) (bad:Bool) (w0 w:World) (hU:UP w g A l.length c N p bad) (hr:Kd.C (Kd.int .u8) w0 A l.length l) (hc:l.length≤c) (hB:Below w0.heap.size w0 w) (hg:w0.heap.size≤g)
    (hl:OkL l) (hn:l.length≤1000000) (hN:-9223372036854775808≤N∧N≤9223372036854775807) :
    Calls Tryz.prog 152 #[.pointer (some ⟨g,0,none⟩)] w fun e w' => e = .returned (.int .u64 (unV l N (p,bad)).1)∧UP w' g A l.length c N (unV l N (p,bad)).2.1 (unV l N (p,bad)).2.2∧Below w0.heap.size w0 w'∧KeepBut w w' g none:=by
  have CT:=Aside0.mk (fun k s r W hU hB he => take_pair g A c l N k s r w0 W hr hc hg hl hn hN hU hB he)
  have HB:=Aside0.mk hB
  have HU:=Aside0.mk hU
  have HG:=Aside0.mk hg
  have u3:w.cell? ⟨g,3,none⟩=some (.bool bad):=(blk_cell hU 3).trans rfl
  clear hU hr hc hB hg hl hn hN
  cases bad with
  | true =>
    rw [unV,if_pos rfl]
    go_enter Tryz.func152,Tryz.ntmps152
    go_wp2
    go_ret
    exact ⟨rfl,HU.out,HB.out,KeepBut.refl _ _ _⟩
  | false =>
    obtain ⟨a,ha⟩:∃ a,unT l N (p,false) 1=a:=⟨_,rfl⟩
    obtain ⟨b,hb⟩:∃ b,unT l N a.2 6=b:=⟨_,rfl⟩
    obtain ⟨d,hd⟩:∃ d,unT l N b.2 6=d:=⟨_,rfl⟩
    obtain ⟨w_,hw⟩:∃ w,wrap64 (wrap64 d.1+1)=w:=⟨_,rfl⟩
    obtain ⟨t,ht⟩:∃ t,unT l N d.2 w_=t:=⟨_,rfl⟩
    have HE:Aside0 (unV l N (p,false)=if a.1=0 then (0,a.2) else if (d.2.2 || decide (64<wrap64 (wrap64 b.1+w_)))=true then (0,d.2.1,true) else (shl .u64 t.1 (wrap64 (wrap64 (64 - wrap64 b.1) - w_)),t.2)):=⟨by
      unfold unV
      simp only [ha,hb,hd,hw,ht]
      rw [if_neg (by simp)]⟩
    have hb6:=hb ▸ unT_six l N a.2
    have hd6:=hd ▸ unT_six l N b.2
    have hwv:w_=d.1+1:=by rw [← hw,w64 (x:=d.1) (by omega) (by omega),w64 (by omega) (by omega)]
    have HSH:Aside0 (¬ 64<wrap64 (wrap64 b.1+w_)→0≤wrap64 (wrap64 (64 - wrap64 b.1) - w_)):=⟨fun h => by
      rw [w64 (x:=b.1) (by omega) (by omega),w64 (by omega) (by omega)] at h
      rw [w64 (x:=b.1) (by omega) (by omega),w64 (x:=64 - b.1) (by omega) (by omega),w64 (by omega) (by omega)]
      omega⟩
    clear hb6 hd6 hwv
    have HA:=Aside0.mk ha
    have HBE:=Aside0.mk hb
    have HD:=Aside0.mk hd
    have HT:=Aside0.mk ht
    clear ha hb hd ht
    by_cases c1:a.1=0
    · have c1b:(a.1 == 0)=true:=beq_iff_eq.2 c1
      have HC1:=Aside0.mk c1
      clear c1
      go_enter Tryz.func152,Tryz.ntmps152
      go_wp2_with (go_at_call 150;(with_reducible refine (CT.out 1 (0,p,false) a _ HU.out HB.out HA.out).mono ?_);rintro e w1 ⟨rfl,hu,hb,hk⟩;have HU1:=Aside0.mk hu;have HB1:=Aside0.mk hb;have HK1:=Aside0.mk hk;clear hu hb hk)
      go_ret
      rw [HE.out,if_pos HC1.out]
      exact ⟨rfl,HU1.out,HB1.out,HK1.out⟩
    · have c1b:(a.1 == 0)=false:=beq_eq_false_iff_ne.2 c1
      have HC1:=Aside0.mk c1
      clear c1
      cases h2:d.2.2 with
      | true =>
        go_enter Tryz.func152,Tryz.ntmps152
        go_wp2_with (first
            | (go_at_call 150;(with_reducible refine (CT.out 1 (0,p,false) a _ HU.out HB.out HA.out).mono ?_);rintro e w1 ⟨rfl,hu,hb,hk⟩;have HU1:=Aside0.mk hu;have HB1:=Aside0.mk hb;have HK1:=Aside0.mk hk;clear hu hb hk)
            | (go_at_call 150;(with_reducible refine (CT.out 6 a b _ HU1.out HB1.out HBE.out).mono ?_);rintro e w2 ⟨rfl,hu,hb,hk⟩;have HU2:=Aside0.mk hu;have HB2:=Aside0.mk hb;have HK2:=Aside0.mk (HK1.out.trans hk (.inl rfl));clear hu hb hk)
            | (go_at_call 150;(with_reducible refine (CT.out 6 b d _ HU2.out HB2.out HD.out).mono ?_);rintro e w3 ⟨rfl,hu,hb,hk⟩;rw [h2] at hu;have HU3:=Aside0.mk hu;have HB3:=Aside0.mk hb;have HK3:=Aside0.mk (HK2.out.trans hk (.inl rfl));have c3:=(blk_cell hu 3).trans rfl;have f3:=blk_frozen hu 3;clear hu hb hk))
        go_ret
        rw [HE.out,if_neg HC1.out,if_pos (by rw [h2];rfl)]
        exact ⟨rfl,blk_put HU3.out 3 _ rfl,HB3.out.setCell (p:=⟨g,3,none⟩) HG.out _,HK3.out.set_ 3 _⟩
      | false =>
        by_cases hq:64<wrap64 (wrap64 b.1+w_)
        · have hqb:decide (64<wrap64 (wrap64 b.1+w_))=true:=decide_eq_true hq
          go_enter Tryz.func152,Tryz.ntmps152
          go_wp2_with (first
            | (go_at_call 150;(with_reducible refine (CT.out 1 (0,p,false) a _ HU.out HB.out HA.out).mono ?_);rintro e w1 ⟨rfl,hu,hb,hk⟩;have HU1:=Aside0.mk hu;have HB1:=Aside0.mk hb;have HK1:=Aside0.mk hk;clear hu hb hk)
            | (go_at_call 150;(with_reducible refine (CT.out 6 a b _ HU1.out HB1.out HBE.out).mono ?_);rintro e w2 ⟨rfl,hu,hb,hk⟩;have HU2:=Aside0.mk hu;have HB2:=Aside0.mk hb;have HK2:=Aside0.mk (HK1.out.trans hk (.inl rfl));clear hu hb hk)
            | (go_at_call 150;(with_reducible refine (CT.out 6 b d _ HU2.out HB2.out HD.out).mono ?_);rintro e w3 ⟨rfl,hu,hb,hk⟩;rw [h2] at hu;have HU3:=Aside0.mk hu;have HB3:=Aside0.mk hb;have HK3:=Aside0.mk (HK2.out.trans hk (.inl rfl));have c3:=(blk_cell hu 3).trans rfl;have f3:=blk_frozen hu 3;clear hu hb hk))
          go_ret
          rw [HE.out,if_neg HC1.out,if_pos (by rw [h2,hqb];rfl)]
          exact ⟨rfl,blk_put HU3.out 3 _ rfl,HB3.out.setCell (p:=⟨g,3,none⟩) HG.out _,HK3.out.set_ 3 _⟩
        · have hqb:decide (64<wrap64 (wrap64 b.1+w_))=false:=decide_eq_false hq
          have hsh:=HSH.out hq
          have CT4:=Aside0.mk (fun W (hu:UP W g A l.length c N d.2.1 false) hB => CT.out w_ d t W (by rw [h2];exact hu) hB HT.out)
          go_enter Tryz.func152,Tryz.ntmps152
          go_wp2_with (first
            | (go_at_call 150;(with_reducible refine (CT.out 1 (0,p,false) a _ HU.out HB.out HA.out).mono ?_);rintro e w1 ⟨rfl,hu,hb,hk⟩;have HU1:=Aside0.mk hu;have HB1:=Aside0.mk hb;have HK1:=Aside0.mk hk;clear hu hb hk)
            | (go_at_call 150;(with_reducible refine (CT.out 6 a b _ HU1.out HB1.out HBE.out).mono ?_);rintro e w2 ⟨rfl,hu,hb,hk⟩;have HU2:=Aside0.mk hu;have HB2:=Aside0.mk hb;have HK2:=Aside0.mk (HK1.out.trans hk (.inl rfl));clear hu hb hk)
            | (go_at_call 150;(with_reducible refine (CT.out 6 b d _ HU2.out HB2.out HD.out).mono ?_);rintro e w3 ⟨rfl,hu,hb,hk⟩;rw [h2] at hu;have HU3:=Aside0.mk hu;have HB3:=Aside0.mk hb;have HK3:=Aside0.mk (HK2.out.trans hk (.inl rfl));have c3:=(blk_cell hu 3).trans rfl;have f3:=blk_frozen hu 3;clear hu hb hk)
            | (go_at_call 150;(refine (CT4.out _ ?s1 ?s2).mono ?_);(case s1 => exact blk_put HU3.out 3 _ rfl);(case s2 => exact HB3.out.setCell (p:=⟨g,3,none⟩) HG.out _);rintro e w4 ⟨rfl,hu,hb,hk⟩;have HU4:=Aside0.mk hu;have HB4:=Aside0.mk hb;have HK4:=Aside0.mk ((HK3.out.set_ 3 _).trans hk (.inl rfl));clear hu hb hk))
          go_ret
          rw [HE.out,if_neg HC1.out,if_neg (by rw [h2,hqb];simp)]
          exact ⟨rfl,HU4.out,HB4.out,HK4.out⟩
theorem codec_Encode.calls (A:Option Addr) (c:Nat) (l:List S70) (w:World) (hr:Kd.C k70 w A l.length l) (hc:l.length≤c) (hw:∀ x ∈ l,okS x) (hlen:l.length≤20000) (hT:TabZ w) :
    Calls Tryz.prog 61 #[.slice A l.length c] w fun e w' => ∃ v:Value,e = .returned (.tuple #[v,.int .i64 (encF l).2])∧Kd.R (Kd.int .u8) 5 w' w.heap.size (fun _ => True) v (encF l).1∧Below w.heap.size w w':=by
  cases h:canS l with
  | true =>
    refine (codec_Encode.calls_ok A c l w hr hc hw hlen hT h).mono ?_
    rintro e w' ⟨v,b,rfl,h1,h2,h3,h4⟩
    have e1:encF l=(beL l.length 2++b,0):=by rw [encF,if_pos h,encL,packB_of h1 h2]
    rw [e1]
    exact ⟨v,rfl,h3,h4⟩
  | false =>
    refine (codec_Encode.calls_bad A c l w hr hc hlen h).mono ?_
    rintro e w' ⟨rfl,h4⟩
    have e1:encF l=([],1):=by rw [encF,if_neg (by rw [h];simp)]
    rw [e1]
    exact ⟨_,rfl,Kd.R_nil _ _ _ _ _,h4⟩
theorem codec_Encode.calls_at {n:Nat} (A:Option Addr) (c:Nat) (l:List S70) (w:World) (eb:List Int) (ee:Int) (hn:l.length=n) (hr:Kd.C k70 w A l.length l) (hc:n≤c) (hw:∀ x ∈ l,okS x) (hlen:n≤20000) (hT:TabZ w) (he:encF l=(eb,ee)) :
    Calls Tryz.prog 61 #[.slice A n c] w fun e w' => ∃ v:Value,e = .returned (.tuple #[v,.int .i64 ee])∧Kd.R (Kd.int .u8) 5 w' w.heap.size (fun _ => True) v eb∧Below w.heap.size w w':=by
  subst hn
  have:=codec_Encode.calls A c l w hr hc hw hlen hT
  rw [he] at this
  exact this
theorem encF_okB (l:List S70) (hn:l.length≤20000) (hw:∀ x ∈ l,okS x):okB (encF l).1=true:=by
  unfold encF
  split
  · have h1:=encP_len l hw l.length (Nat.le_refl _)
    have h2:=(packB_ok (encP l l.length) (by omega)).1.bytes
    refine okB_iff.2 fun x hx => ?_
    rcases List.mem_append.1 hx with hx | hx
    · exact okB_iff.1 (okB_beL _ _) x hx
    · exact h2 x hx
  · rfl
theorem Equal_at {n m:Nat} (A0:Option Addr) (c0:Nat) (l0:List Int) (A1:Option Addr) (c1:Nat) (l1:List Int) (r:Bool) (w:World) (hn:l0.length=n) (hm:l1.length=m) (hr0:Kd.C (Kd.int .u8) w A0 l0.length l0) (hc0:n≤c0) (hr1:Kd.C (Kd.int .u8) w A1 l1.length l1) (hc1:m≤c1) (h0:okB l0=true) (h1:okB l1=true) (h:decide (l0=l1)=r) :
    Calls Tryz.prog 38 #[.slice A0 n c0,.slice A1 m c1] w fun e w' => e = .returned (.bool r)∧Below w.heap.size w w':=by
  subst hn hm
  exact (G.bytes_Equal.calls A0 c0 l0 A1 c1 l1 r w hr0 hc0 hr1 hc1 (by rw [G.bytes_Equal.f,if_pos ⟨h0,h1⟩,h])).mono fun e w' ⟨he,hd⟩ => ⟨he,hd.below⟩
theorem number_pair (g:Nat) (A:Option Addr) (c:Nat) (l:List Int) (N p:Int) (r:Int × Int × Bool) (w0 w:World) (hr:Kd.C (Kd.int .u8) w0 A l.length l) (hc:l.length≤c) (hg:w0.heap.size≤g)
    (hl:OkL l) (hn:l.length≤1000000) (hN:-9223372036854775808≤N∧N≤9223372036854775807) (hU:UP w g A l.length c N p false) (hB:Below w0.heap.size w0 w) (he:decN l N p=r) :
    Calls Tryz.prog 151 #[.pointer (some ⟨g,0,none⟩)] w fun e w' => e = .returned (.int .i64 r.1)∧UP w' g A l.length c N r.2.1 r.2.2∧Below w0.heap.size w0 w'∧KeepBut w w' g none:=by
  subst he
  exact unpack_number.calls g A c l N p false w0 w hU hr hc hB hg hl hn hN
theorem value_pair (g:Nat) (A:Option Addr) (c:Nat) (l:List Int) (N p:Int) (s r:Int × Int × Bool) (w0 w:World) (hr:Kd.C (Kd.int .u8) w0 A l.length l) (hc:l.length≤c) (hg:w0.heap.size≤g)
    (hl:OkL l) (hn:l.length≤1000000) (hN:-9223372036854775808≤N∧N≤9223372036854775807) (hU:UP w g A l.length c N s.2.1 s.2.2) (hB:Below w0.heap.size w0 w) (hs:decN l N p=s) (he:decV l N p=r) :
    Calls Tryz.prog 152 #[.pointer (some ⟨g,0,none⟩)] w fun e w' => e = .returned (.int .u64 r.1)∧UP w' g A l.length c N r.2.1 r.2.2∧Below w0.heap.size w0 w'∧KeepBut w w' g none:=by
  subst he
  subst hs
  exact unpack_value.calls g A c l N (decN l N p).2.1 (decN l N p).2.2 w0 w hU hr hc hB hg hl hn hN
theorem get2 {b:List Int} (h:okB b=true) (hl:2≤b.length):crc_Get.f (b.take 2)=some (((beV 0 (b.take 2):Nat):Int),true)∧beV 0 (b.take 2)<65536:=by
  refine ⟨?_,beV_take_lt h 2⟩
  have h1:okB (b.take 2)=true:=okB_iff.2 fun x hx => okB_iff.1 h x (List.mem_of_mem_take hx)
  rw [crc_Get.f,if_pos h1,if_pos (by rw [List.length_take];omega)]
theorem Get_at {n:Nat} (A0:Option Addr) (c0:Nat) (l0:List Int) (r1:Int) (r2:Bool) (w:World) (hn:l0.length=n) (hr0:Kd.C (Kd.int .u8) w A0 l0.length l0) (hc0:n≤c0) (h:crc_Get.f l0=some (r1,r2)) :
    Calls Tryz.prog 63 #[.slice A0 n c0] w fun e w' => e = .returned (.tuple #[.int .u64 r1,.bool r2])∧Below w.heap.size w w':=by
  subst hn
  exact (crc_Get.calls A0 c0 l0 r1 r2 w hr0 hc0 h).mono fun e w' ⟨he,hd⟩ => ⟨he,hd.below⟩
theorem decS_stay {xb:List Int} {N:Int} {k:Nat} (h:(decS xb N (k+1)).2.1=true):∀ d,decS xb N (k+1+d)=decS xb N (k+1)
  | 0 => rfl
  | d + 1 => by
    have ih:=decS_stay h d
    have e:decS xb N (k+d+2)=decS xb N (k+d+1):=by
      rw [decS,if_pos]
      rw [show k+d+1=k+1+d by omega,ih]
      exact h
    rw [show k+1+(d+1)=k+d+2 by omega,e,show k+d+1=k+1+d by omega,ih]
theorem codec_Decode.calls (A:Option Addr) (c:Nat) (b:List Int) (w:World) (hr:Kd.C (Kd.int .u8) w A b.length b) (hc:b.length≤c) (hok:okB b=true) (hlen:b.length≤2500) (hT:TabZ w) :
    Calls Tryz.prog 133 #[.slice A b.length c] w fun e w' => ∃ v:Value,e = .returned (.tuple #[v,.int .i64 (decF b).2])∧Kd.R k70 70 w' w.heap.size (fun _ => True) v (decF b).1∧Below w.heap.size w w':=by
  by_cases h2:b.length<2
  · have e0:decF b=([],5):=by rw [decF,if_pos h2]
    rw [e0]
    have d0:decide ((b.length:Int)<2)=true:=decide_eq_true (by omega)
    clear e0 h2 hr hc hT
    go_enter Tryz.func133,Tryz.ntmps133
    go_wp2
    go_step3
    go_wp2
    try rw [Exit.noGoto_ret]
    refine bodyPost_ret (results_tmp2 rfl _ _ _) rfl ?_
    exact ⟨_,rfl,Kd.R_nil _ _ _ _ _,Below.refl _ _⟩
  have d0:decide ((b.length:Int)<2)=false:=decide_eq_false (by omega)
  obtain ⟨xb,hxb⟩:∃ xb,b.drop 2=xb:=⟨_,rfl⟩
  have hxl:xb.length=b.length - 2:=by rw [← hxb,List.length_drop]
  obtain ⟨hget,hn64⟩:=get2 hok (by omega)
  obtain ⟨n,hn⟩:∃ n,beV 0 (b.take 2)=n:=⟨_,rfl⟩
  rw [hn] at hget hn64
  obtain ⟨NN,hNN⟩:∃ N:Nat,8*(b.length - 2)=N:=⟨_,rfl⟩
  have HF:Aside0 (decF b=if (decS xb (NN:Int) n).2.1=false∧encF (decS xb (NN:Int) n).2.2.1=(b,0) then ((decS xb (NN:Int) n).2.2.1,0) else ([],5)):=⟨by rw [decF,if_neg h2,hxb,hNN,hn]⟩
  have hokx:OkL xb:=fun x hx => okB_iff.1 hok x (List.mem_of_mem_drop (hxb ▸ hx))
  obtain ⟨i05,hi05,_,hsz5,_⟩:=info_parts infoU8
  have hto:=cut_to (P:=Tryz.prog) 24 5 .i64 Tryz.underlying24 hi05 A b.length c 2 (by omega) (by omega) hc
  have hfrom:=cut_from (P:=Tryz.prog) 24 5 .i64 Tryz.underlying24 hi05 1 hsz5 A b.length c 2 (by omega) (by omega)
  have hdr:=Kd.C_drop (m:=2) (c:=c) hr (by omega) hc
  rw [hxb] at hdr
  obtain ⟨A',hA'⟩:∃ A',(if c=(2:Int).toNat then A else A.map (·.add ((2:Int).toNat*1)))=A':=⟨_,rfl⟩
  rw [hA'] at hfrom
  have HX:Aside0 (Kd.C (Kd.int .u8) w A' xb.length xb):=⟨by rw [← hA'];exact hdr⟩
  have HXC:Aside0 (xb.length≤c - 2):=⟨by omega⟩
  have HTK:=Aside0.mk (Kd.C_take hr (show 2≤b.length by omega))
  have HTL:Aside0 ((b.take 2).length=2):=⟨by rw [List.length_take];omega⟩
  have HGET:=Aside0.mk hget
  have HRB:=Aside0.mk hr
  have HC:=Aside0.mk hc
  have HOK:=Aside0.mk hok
  have HOX:=Aside0.mk hokx
  have HT:=Aside0.mk hT
  have HXL:=Aside0.mk hxl
  have HNN:=Aside0.mk hNN
  rw [show (2:Int).toNat=2 from rfl,← hxl] at hfrom
  rw [show (2:Int).toNat=2 from rfl] at hto
  have hNe:wrap64 (8*wrap64 ((b.length:Int) - 2))=(NN:Int):=by rw [w64 (x:=(b.length:Int) - 2) (by omega) (by omega),w64 (by omega) (by omega)];omega
  clear hr hc hok hokx hT hA' hdr hget hxl hNN hn hxb
  go_enter Tryz.func133,Tryz.ntmps133
  go_wp2
  go_step3
  go_wp2_with (first
    | (go_at_call 63;(with_reducible refine (Get_at A c (b.take 2) (n:Int) true _ HTL.out HTK.out (by have:=HC.out;omega) HGET.out).mono ?_);rintro e w1 ⟨rfl,hb⟩;have HB1:=Aside0.mk hb;clear hb)
    | ((with_reducible refine gate_dst (N:=30) rfl ?_);refine box_event ?hg (N:=30) ?hd (cs:=#[.slice A' xb.length (c - 2),.int .i64 (NN:Int),.int .i64 0,.bool false]) (t:=201) ?hr ?_;(case hd => rfl);(case hg => rfl);(case hr => first | (go_simp;done) | (go_simp;rfl));intro g hg w2 hbox hb;have HB2:=Aside0.mk (below_step HB1.out hb);have HBK:=Aside0.mk hbox;have HG:Aside0 (w.heap.size≤g):=⟨by have:=HB1.out.size;omega⟩;clear hb hbox hg))
  go_step3
  go_wp2
  -- LOOP
  have hN2:8*((b.length:Int) - 2)=(NN:Int):=by have:=HNN.out;omega
  simp only [hN2]
  have HU0:Aside0 (UP (w1.alloc (.cells #[.slice A' xb.length (c - 2),.int .i64 (NN:Int),.int .i64 0,.bool false] 201)) w1.heap.size A' xb.length (c - 2) (NN:Int) 0 false):=⟨blk_new _ _⟩
  have HB0:=Aside0.mk (below_alloc HB1.out (.cells #[.slice A' xb.length (c - 2),.int .i64 (NN:Int),.int .i64 0,.bool false] 201))
  have HG:Aside0 (w.heap.size≤w1.heap.size):=⟨HB1.out.size⟩
  generalize w1.alloc (.cells #[.slice A' xb.length (c - 2),.int .i64 (NN:Int),.int .i64 0,.bool false] 201)=w2 at *
  generalize w1.heap.size=g at *
  clear hN2 hNe hto hfrom HB1 HTK HTL HGET
  have hNN:-9223372036854775808≤(NN:Int)∧(NN:Int)≤9223372036854775807:=by have:=HNN.out;omega
  have hxbl:xb.length≤1000000:=by have:=HXL.out;omega
  have CT:=Aside0.mk (fun k s r W hU hB he => take_pair g A' (c - 2) xb (NN:Int) k s r w W HX.out HXC.out HG.out HOX.out hxbl hNN hU hB he)
  have CN:=Aside0.mk (fun p r W hU hB he => number_pair g A' (c - 2) xb (NN:Int) p r w W HX.out HXC.out HG.out HOX.out hxbl hNN hU hB he)
  have CV:=Aside0.mk (fun p s r W hU hB hs he => value_pair g A' (c - 2) xb (NN:Int) p s r w W HX.out HXC.out HG.out HOX.out hxbl hNN hU hB hs he)
  have INV:=Aside0.mk (decS_inv xb NN (by have:=HNN.out;omega))
  clear hNN hxbl
  go_loopw [7,8,33] (fun v7 v8 i wr => ∃ (k:Nat) (l:List S70) (p st:Int),k≤n∧i = .int .i64 k∧v8 = .int .i64 st∧Aside0 (decS xb (NN:Int) k=(p,false,l,st))∧Aside0 (Kd.R k70 70 wr w.heap.size (fun q => q ≠ g) v7 l)∧Aside0 (UP wr g A' xb.length (c - 2) (NN:Int) p false)∧Aside0 (Below w.heap.size w wr)) (fun _ _ i _ => n - (intOf i).toNat)
  case atStart => exact ⟨0,[],0,0,Nat.zero_le _,rfl,rfl,⟨rfl⟩,⟨Kd.R_nil _ _ _ _ _⟩,HU0,HB0⟩
  case round =>
    clear HU0 HB0
    obtain ⟨k,l,p,st,hk,rfl,rfl,HS,HOt,HUr,HBr⟩:=hrel
    obtain ⟨A7,c7,e7⟩:=Kd.R_slice HOt.out
    subst e7
    have hinv:=INV.out k
    rw [HS.out] at hinv
    have HOKS:Aside0 (∀ x ∈ l,okS x):=⟨hinv.1⟩
    have HLL:Aside0 (l.length=k):=⟨(hinv.2.2 rfl).1⟩
    have HLEN:Aside0 (l.length≤20000):=⟨by have:=hinv.2.1;have:=HNN.out;simp only at *;omega⟩
    clear hinv
    by_cases hlt:k<n
    · have gne:Aside0 (wr.heap.size ≠ g):=⟨by have:=blk_lt HUr.out;omega⟩
      have HOA:=Aside0.mk (Kd.R_alloc (Kd.R_mono (ok':=fun q => q ≠ g∧q ≠ wr.heap.size) (Kd.R_bound HOt.out) (fun q hq => ⟨hq.1,by have:=hq.2;omega⟩)) (.cells #[.int .i64 0,.int .u64 0] 70))
      have HBA:=Aside0.mk (below_alloc HBr.out (.cells #[.int .i64 0,.int .u64 0] 70))
      have HUA:Aside0 (UP (wr.alloc (.cells #[.int .i64 0,.int .u64 0] 70)) g A' xb.length (c - 2) (NN:Int) p false):=⟨blk_alloc HUr.out _⟩
      have HXA:=Aside0.mk (blk_new wr (.cells #[.int .i64 0,.int .u64 0] 70))
      have HSA:Aside0 (wr.heap.size<(wr.alloc (.cells #[.int .i64 0,.int .u64 0] 70)).heap.size):=⟨by simp⟩
      have HBS:Aside0 (w.heap.size≤wr.heap.size):=⟨HBr.out.size⟩
      clear HOt
      cases k with
      | zero =>
        have hs0:=HS.out
        simp only [decS,Prod.mk.injEq] at hs0
        obtain ⟨rfl,-,hl0,rfl⟩:=hs0
        obtain ⟨a,ha⟩:∃ a,unT xb (NN:Int) (0,false) 64=a:=⟨_,rfl⟩
        obtain ⟨d,hd⟩:∃ d,unT xb (NN:Int) a.2 64=d:=⟨_,rfl⟩
        have HST:Aside0 (decS xb (NN:Int) (0+1)=(d.2.1,d.2.2,if d.2.2=true then l else l ++ [⟨wrap64 a.1,d.1⟩],0)):=⟨by
          rw [← hl0]
          have e1:decA xb (NN:Int) 0=a:=ha
          have e2:decB xb (NN:Int) 0=d:=by unfold decB;rw [e1];exact hd
          simp only [decS,e1,e2,List.nil_append]⟩
        have HA:=Aside0.mk ha
        have HD2:=Aside0.mk hd
        clear ha hd hl0
        cases hbad:d.2.2 with
        | true =>
          have HD:Aside0 (decS xb (NN:Int) n=(d.2.1,true,l,0)):=⟨by
            have h1:=HST.out
            rw [hbad,if_pos rfl] at h1
            have h2:=decS_stay (xb:=xb) (N:=(NN:Int)) (k:=0) (by rw [h1]) (n - (0+1))
            rw [show 0+1+(n - (0+1))=n by omega,h1] at h2
            exact h2⟩
          obtain ⟨eb,ee,henc⟩:∃ eb ee,encF l=(eb,ee):=⟨_,_,rfl⟩
          have HENC:=Aside0.mk henc
          have HEOK:Aside0 (okB eb=true):=⟨by have:=encF_okB l HLEN.out HOKS.out;rw [henc] at this;exact this⟩
          clear henc
          go_wp2_with (first
            | (go_at_call 150;(with_reducible refine (CT.out 64 (0,0,false) a _ HUA.out HBA.out HA.out).mono ?_);rintro e w3 ⟨rfl,hu,hb,hk⟩;have HU3:=Aside0.mk hu;have HB3:=Aside0.mk hb;have HX3:=Aside0.mk ((hk.2 wr.heap.size HSA.out gne.out (by simp)).trans HXA.out);have HS3:Aside0 (wr.heap.size<w3.heap.size):=⟨Nat.lt_of_lt_of_le HSA.out hk.1⟩;have HO3:=Aside0.mk (Kd.R_keep HOA.out hk (fun _ q => q.1));clear hu hb hk)
            | (go_at_call 150;(with_reducible refine (CT.out 64 a d _ HU3.out HB3.out HD2.out).mono ?_);rintro e w4 ⟨rfl,hu,hb,hk⟩;rw [hbad] at hu;have hx4:=(hk.2 wr.heap.size HS3.out gne.out (by simp)).trans HX3.out;have c40:=(blk_cell hx4 0).trans rfl;have c41:=(blk_cell hx4 1).trans rfl;have f40:=blk_frozen hx4 0;have f41:=blk_frozen hx4 1;have HXB:Aside0 (((w4.setCell ⟨wr.heap.size,0,none⟩ (.int .i64 (wrap64 a.1))).setCell ⟨wr.heap.size,1,none⟩ (.int .u64 d.1)).heap[wr.heap.size]? = some (.cells #[.int .i64 (wrap64 a.1),.int .u64 d.1] 70 (0,0))):=⟨blk_put (blk_put hx4 0 _ rfl) 1 _ rfl⟩;have HUt:Aside0 (UP ((w4.setCell ⟨wr.heap.size,0,none⟩ (.int .i64 (wrap64 a.1))).setCell ⟨wr.heap.size,1,none⟩ (.int .u64 d.1)) g A' xb.length (c - 2) (NN:Int) d.2.1 true):=⟨blk_far (p:=⟨wr.heap.size,1,none⟩) (blk_far (p:=⟨wr.heap.size,0,none⟩) hu gne.out.symm _) gne.out.symm _⟩;have HOt:Aside0 (Kd.R k70 70 ((w4.setCell ⟨wr.heap.size,0,none⟩ (.int .i64 (wrap64 a.1))).setCell ⟨wr.heap.size,1,none⟩ (.int .u64 d.1)) w.heap.size (fun q => q ≠ g) (.slice A7 l.length c7) l):=⟨Kd.R_mono (Kd.R_far (p:=⟨wr.heap.size,1,none⟩) (Kd.R_far (p:=⟨wr.heap.size,0,none⟩) (Kd.R_keep HO3.out hk (fun _ q => q.1)) (fun _ q => q.2) _) (fun _ q => q.2) _) (fun _ q => q.1)⟩;have HBt:Aside0 (Below w.heap.size w ((w4.setCell ⟨wr.heap.size,0,none⟩ (.int .i64 (wrap64 a.1))).setCell ⟨wr.heap.size,1,none⟩ (.int .u64 d.1))):=⟨(hb.setCell (p:=⟨wr.heap.size,0,none⟩) HBS.out _).setCell (p:=⟨wr.heap.size,1,none⟩) HBS.out _⟩;have cx3:=(blk_cell HUt.out 3).trans rfl;have cs0:=(blk_cell HXB.out 0).trans rfl;have cs1:=(blk_cell HXB.out 1).trans rfl;clear hu hb hk hx4)
            | (go_at_call 61;(with_reducible refine (codec_Encode.calls_at A7 c7 l _ eb ee rfl (Kd.R_reads' HOt.out).2.2 (Kd.R_reads' HOt.out).2.1 HOKS.out HLEN.out (HT.out.below HBt.out) HENC.out).mono ?_);rintro e w6 ⟨v6,rfl,hr6,hb⟩;obtain ⟨A6,c6,rfl⟩:=Kd.R_slice hr6;have HR6:=Aside0.mk (Kd.R_reads' hr6);have HU6:=Aside0.mk (blk_below HUt.out hb);have HO6:=Aside0.mk (Kd.R_below HOt.out hb);have HB6:=Aside0.mk (below_step HBt.out hb);have c63:=(blk_cell HU6.out 3).trans rfl;clear hr6 hb))
          try rw [Exit.noGoto_ret]
          refine bodyPost_ret (results_tmp2 rfl _ _ _) rfl ?_
          rw [HF.out,HD.out,if_neg (by simp)]
          exact ⟨_,rfl,Kd.R_nil _ _ _ _ _,HB6.out⟩
        | false =>
          go_wp2_with (first
            | (go_at_call 150;(with_reducible refine (CT.out 64 (0,0,false) a _ HUA.out HBA.out HA.out).mono ?_);rintro e w3 ⟨rfl,hu,hb,hk⟩;have HU3:=Aside0.mk hu;have HB3:=Aside0.mk hb;have HX3:=Aside0.mk ((hk.2 wr.heap.size HSA.out gne.out (by simp)).trans HXA.out);have HS3:Aside0 (wr.heap.size<w3.heap.size):=⟨Nat.lt_of_lt_of_le HSA.out hk.1⟩;have HO3:=Aside0.mk (Kd.R_keep HOA.out hk (fun _ q => q.1));clear hu hb hk)
            | (go_at_call 150;(with_reducible refine (CT.out 64 a d _ HU3.out HB3.out HD2.out).mono ?_);rintro e w4 ⟨rfl,hu,hb,hk⟩;rw [hbad] at hu;have hx4:=(hk.2 wr.heap.size HS3.out gne.out (by simp)).trans HX3.out;have c40:=(blk_cell hx4 0).trans rfl;have c41:=(blk_cell hx4 1).trans rfl;have f40:=blk_frozen hx4 0;have f41:=blk_frozen hx4 1;have HXB:Aside0 (((w4.setCell ⟨wr.heap.size,0,none⟩ (.int .i64 (wrap64 a.1))).setCell ⟨wr.heap.size,1,none⟩ (.int .u64 d.1)).heap[wr.heap.size]? = some (.cells #[.int .i64 (wrap64 a.1),.int .u64 d.1] 70 (0,0))):=⟨blk_put (blk_put hx4 0 _ rfl) 1 _ rfl⟩;have HUt:Aside0 (UP ((w4.setCell ⟨wr.heap.size,0,none⟩ (.int .i64 (wrap64 a.1))).setCell ⟨wr.heap.size,1,none⟩ (.int .u64 d.1)) g A' xb.length (c - 2) (NN:Int) d.2.1 false):=⟨blk_far (p:=⟨wr.heap.size,1,none⟩) (blk_far (p:=⟨wr.heap.size,0,none⟩) hu gne.out.symm _) gne.out.symm _⟩;have HOt:Aside0 (Kd.R k70 70 ((w4.setCell ⟨wr.heap.size,0,none⟩ (.int .i64 (wrap64 a.1))).setCell ⟨wr.heap.size,1,none⟩ (.int .u64 d.1)) w.heap.size (fun q => q ≠ g) (.slice A7 l.length c7) l):=⟨Kd.R_mono (Kd.R_far (p:=⟨wr.heap.size,1,none⟩) (Kd.R_far (p:=⟨wr.heap.size,0,none⟩) (Kd.R_keep HO3.out hk (fun _ q => q.1)) (fun _ q => q.2) _) (fun _ q => q.2) _) (fun _ q => q.1)⟩;have HBt:Aside0 (Below w.heap.size w ((w4.setCell ⟨wr.heap.size,0,none⟩ (.int .i64 (wrap64 a.1))).setCell ⟨wr.heap.size,1,none⟩ (.int .u64 d.1))):=⟨(hb.setCell (p:=⟨wr.heap.size,0,none⟩) HBS.out _).setCell (p:=⟨wr.heap.size,1,none⟩) HBS.out _⟩;have cx3:=(blk_cell HUt.out 3).trans rfl;have cs0:=(blk_cell HXB.out 0).trans rfl;have cs1:=(blk_cell HXB.out 1).trans rfl;clear hu hb hk hx4)
            | ((with_reducible refine gate_builtin (b:=.append) (xs:=#[.tmp 70,.tmp 72]) rfl ?_);at_builtin;refine Kd.R_append k70 (w0:=w) w.heap.size rfl (.tmp 70) (.tmp 72) 49 70 (.agg #[.int .i64 0,.int .u64 0]) 16 rfl Tryz.underlying49 info70 rfl (by decide) (by omega) (.slice A7 l.length c7) l (⟨wrap64 a.1,d.1⟩:S70) [.int .i64 (wrap64 a.1),.int .u64 d.1] (fun q => q ≠ g) (fun _ => False) rfl ?hx ?aP (fun _ hk => hk.elim) ?aF HOt.out HBt.out HBt.out.size ?aL ?_;(case hx => first | rfl | (go_simp;done) | (show Value.slice _ 1 1=Value.slice _ 1 1;simp;done));(case aP => exact k70_mkM _ _ _ (⟨wrap64 a.1,d.1⟩:S70));(case aF => exact fun q hq e => by have:=blk_lt HUt.out;omega);(case aL => have:=HLEN.out;omega);intro v9 w9 ho hb hg9 hat;have HO9:=Aside0.mk ho;have HB9:=Aside0.mk hb;have HU9:=Aside0.mk (blk_grown HUt.out hg9 (Kd.R_ne HOt.out HUt.out (by decide)));clear ho hb hg9 hat))
          go_roundw
          case rel => exact ⟨0+1,l ++ [(⟨wrap64 a.1,d.1⟩:S70)],d.2.1,0,by omega,by go_num,rfl,⟨by have h1:=HST.out;rw [hbad,if_neg (by simp)] at h1;exact h1⟩,HO9,HU9,HB9⟩
          case measure => simp [intOf];omega
      | succ k =>
        rw [show ((k+1:Nat):Int)=(k:Int)+1 from by omega] at *
        obtain ⟨a,ha⟩:∃ a,decN xb (NN:Int) p=a:=⟨_,rfl⟩
        obtain ⟨d,hd⟩:∃ d,decV xb (NN:Int) p=d:=⟨_,rfl⟩
        obtain ⟨y,hy⟩:∃ y,rd_T70 l (k:Int)=y:=⟨_,rfl⟩
        have HST:Aside0 (decS xb (NN:Int) (k+1+1)=(d.2.1,d.2.2,if d.2.2=true then l else l ++ [⟨wrap64 (y.f0+wrap64 (st+a.1)),Go.bits .xor .u64 y.f1 d.1⟩],wrap64 (st+a.1))):=⟨by
          rw [decS,HS.out]
          simp only
          rw [if_neg (by simp),ha,hd,hy]⟩
        have hwk:wrap64 (k:Int)=(k:Int):=w64 (by omega) (by omega)
        have hwk':IntKind.i64.wrap (k:Int)=(k:Int):=(i64_w _).trans hwk
        have HA:=Aside0.mk ha
        have HD2:=Aside0.mk hd
        have HY:=Aside0.mk hy
        clear ha hd hy
        go_wp2_with (go_at_call 151;(with_reducible refine (CN.out p a _ HUA.out HBA.out HA.out).mono ?_);rintro e w3 ⟨rfl,hu,hb,hk⟩;have HU3:=Aside0.mk hu;have HB3:=Aside0.mk hb;have HX3:=Aside0.mk ((hk.2 wr.heap.size HSA.out gne.out (by simp)).trans HXA.out);have HS3:Aside0 (wr.heap.size<w3.heap.size):=⟨Nat.lt_of_lt_of_le HSA.out hk.1⟩;have HO3:=Aside0.mk (Kd.R_keep HOA.out hk (fun _ q => q.1));clear hu hb hk)
        go_cut [] (fun wx => Aside0 (wx.heap[wr.heap.size]? = some (.cells #[.int .i64 (wrap64 (y.f0+wrap64 (st+a.1))),.int .u64 (Go.bits .xor .u64 y.f1 d.1)] 70 (0,0)))∧Aside0 (UP wx g A' xb.length (c - 2) (NN:Int) d.2.1 d.2.2)∧Aside0 (Kd.R k70 70 wx w.heap.size (fun q => q ≠ g) (.slice A7 l.length c7) l)∧Aside0 (Below w.heap.size w wx))
        case first =>
          obtain ⟨ad,hh,y0,y1⟩:=at_T70 (Kd.R_reads' HO3.out).2.2 (k:Int) (by omega) (by have:=HLL.out;omega)
          rw [Int.toNat_natCast,HY.out] at y0 y1
          have hk1:(k:Int)+1=(l.length:Int):=by have:=HLL.out;omega
          subst hh
          obtain ⟨inn,hown⟩:=Kd.R_own HO3.out
          have hn1:ad.block ≠ g:=own_blk hown (Kd.R_away HO3.out (fun q hq => hq.1))
          have hn2:ad.block ≠ wr.heap.size:=own_blk hown (Kd.R_away HO3.out (fun q hq => hq.2))
          have HN1:Aside0 ((ad.add (k*2)).block ≠ g∧(ad.add (k*2)).block ≠ wr.heap.size):=⟨by rw [add_block];exact ⟨hn1,hn2⟩⟩
          clear hown hn1 hn2
          have hb0:(0:Int)≤(k:Int):=by omega
          have hb1:(k:Int)<(l.length:Int):=by omega
          clear hk1
          go_region_held3 (fun W => W.cell? (ad.add (k*2))=some (.int .i64 y.f0)∧W.cell? ⟨(ad.add (k*2)).block,(ad.add (k*2)).off+1,none⟩=some (.int .u64 y.f1)) (first | exact ⟨y0,y1⟩ | exact ⟨z0,z1⟩ | exact ⟨(cell_far (p:=⟨wr.heap.size,1,none⟩) HN1.out.2 _).trans ((cell_far (p:=⟨wr.heap.size,0,none⟩) HN1.out.2 _).trans z0),(cell_far (p:=⟨wr.heap.size,1,none⟩) (a:=⟨(ad.add (k*2)).block,(ad.add (k*2)).off+1,none⟩) HN1.out.2 _).trans ((cell_far (p:=⟨wr.heap.size,0,none⟩) (a:=⟨(ad.add (k*2)).block,(ad.add (k*2)).off+1,none⟩) HN1.out.2 _).trans z1)⟩)
            (first | (go_at_call 152;(refine (CV.out p a d _ ?s1 ?s2 HA.out HD2.out).mono ?_);(case s1 => exact HU3.out);(case s2 => exact below_drew1 HB3.out);rintro e w4 ⟨rfl,hu,hb,hk⟩;have z0:=keep_cell hk y0 HN1.out.1;have z1:=keep_cell hk y1 HN1.out.1;have hx4:=(hk.2 wr.heap.size HS3.out gne.out (by simp)).trans HX3.out;have c40:=(blk_cell hx4 0).trans rfl;have c41:=(blk_cell hx4 1).trans rfl;have f40:=blk_frozen hx4 0;have f41:=blk_frozen hx4 1;have HX4:=Aside0.mk hx4;have HU4:=Aside0.mk hu;have HB4:=Aside0.mk hb;have HK4:=Aside0.mk hk;clear hx4 hu hb hk))
          all_goals
            go_wp2_with fail
            go_meet
            refine ⟨⟨?_⟩,⟨?_⟩,⟨?_⟩,⟨?_⟩⟩
            · simp only [i64_w]
              exact blk_put (blk_put HX4.out 0 _ rfl) 1 _ rfl
            · exact blk_far (p:=⟨wr.heap.size,1,none⟩) (blk_far (p:=⟨wr.heap.size,0,none⟩) HU4.out gne.out.symm _) gne.out.symm _
            · exact Kd.R_mono (Kd.R_far (p:=⟨wr.heap.size,1,none⟩) (Kd.R_far (p:=⟨wr.heap.size,0,none⟩) (Kd.R_keep (Kd.R_drew HO3.out) HK4.out (fun _ q => q.1)) (fun _ q => q.2) _) (fun _ q => q.2) _) (fun _ q => q.1)
            · exact (HB4.out.setCell (p:=⟨wr.heap.size,0,none⟩) HBS.out _).setCell (p:=⟨wr.heap.size,1,none⟩) HBS.out _
        case rest =>
          obtain ⟨HXB,HUt,HOt,HBt⟩:=hcut
          have cx3:=(blk_cell HUt.out 3).trans rfl
          have cs0:wc.cell? ⟨wr.heap.size,0,none⟩=some (.int .i64 (wrap64 (y.f0+wrap64 (st+a.1)))):=(blk_cell HXB.out 0).trans rfl
          have cs1:wc.cell? ⟨wr.heap.size,1,none⟩=some (.int .u64 (Go.bits .xor .u64 y.f1 d.1)):=(blk_cell HXB.out 1).trans rfl
          cases hbad:d.2.2 with
          | true =>
            rw [hbad] at cx3
            have HD:Aside0 (decS xb (NN:Int) n=(d.2.1,true,l,wrap64 (st+a.1))):=⟨by
              have h1:=HST.out
              rw [hbad,if_pos rfl] at h1
              have h2:=decS_stay (xb:=xb) (N:=(NN:Int)) (k:=k+1) (by rw [h1]) (n - (k+1+1))
              rw [show k+1+1+(n - (k+1+1))=n by omega,h1] at h2
              exact h2⟩
            obtain ⟨eb,ee,henc⟩:∃ eb ee,encF l=(eb,ee):=⟨_,_,rfl⟩
            have HENC:=Aside0.mk henc
            have HEOK:Aside0 (okB eb=true):=⟨by have:=encF_okB l HLEN.out HOKS.out;rw [henc] at this;exact this⟩
            clear henc
            go_wp2_with (first
              | (go_at_call 61;(with_reducible refine (codec_Encode.calls_at A7 c7 l _ eb ee rfl (Kd.R_reads' HOt.out).2.2 (Kd.R_reads' HOt.out).2.1 HOKS.out HLEN.out (HT.out.below HBt.out) HENC.out).mono ?_);rintro e w6 ⟨v6,rfl,hr6,hb⟩;obtain ⟨A6,c6,rfl⟩:=Kd.R_slice hr6;have HR6:=Aside0.mk (Kd.R_reads' hr6);have HU6:=Aside0.mk (blk_below HUt.out hb);have HO6:=Aside0.mk (Kd.R_below HOt.out hb);have HB6:=Aside0.mk (below_step HBt.out hb);have c63:=(blk_cell HU6.out 3).trans rfl;clear hr6 hb))
            try rw [Exit.noGoto_ret]
            refine bodyPost_ret (results_tmp2 rfl _ _ _) rfl ?_
            rw [HF.out,HD.out,if_neg (by simp)]
            exact ⟨_,rfl,Kd.R_nil _ _ _ _ _,HB6.out⟩
          | false =>
            rw [hbad] at cx3
            go_wp2_with (first
              | ((with_reducible refine gate_builtin (b:=.append) (xs:=#[.tmp 70,.tmp 72]) rfl ?_);at_builtin;refine Kd.R_append k70 (w0:=w) w.heap.size rfl (.tmp 70) (.tmp 72) 49 70 (.agg #[.int .i64 0,.int .u64 0]) 16 rfl Tryz.underlying49 info70 rfl (by decide) (by omega) (.slice A7 l.length c7) l (⟨wrap64 (y.f0+wrap64 (st+a.1)),Go.bits .xor .u64 y.f1 d.1⟩:S70) [.int .i64 (wrap64 (y.f0+wrap64 (st+a.1))),.int .u64 (Go.bits .xor .u64 y.f1 d.1)] (fun q => q ≠ g) (fun _ => False) rfl ?hx ?aP (fun _ hk => hk.elim) ?aF HOt.out HBt.out HBt.out.size ?aL ?_;(case hx => first | rfl | (go_simp;done) | (show Value.slice _ 1 1=Value.slice _ 1 1;simp;done));(case aP => exact k70_mkM _ _ _ (⟨wrap64 (y.f0+wrap64 (st+a.1)),Go.bits .xor .u64 y.f1 d.1⟩:S70));(case aF => exact fun q hq e => by have:=blk_lt HUt.out;omega);(case aL => have:=HLEN.out;omega);intro v9 w9 ho hb hg9 hat;have HO9:=Aside0.mk ho;have HB9:=Aside0.mk hb;have HU9:=Aside0.mk (blk_grown HUt.out hg9 (Kd.R_ne HOt.out HUt.out (by decide)));clear ho hb hg9 hat))
            go_roundw
            case rel => exact ⟨k+1+1,l ++ [(⟨wrap64 (y.f0+wrap64 (st+a.1)),Go.bits .xor .u64 y.f1 d.1⟩:S70)],d.2.1,wrap64 (st+a.1),by omega,by go_num,rfl,⟨by have h1:=HST.out;rw [hbad,if_neg (by simp)] at h1;exact h1⟩,HO9,⟨by rw [← hbad];exact HU9.out⟩,HB9⟩
            case measure => simp [intOf];omega
    · obtain rfl:k=n:=by omega
      have HD:=Aside0.mk HS.out
      have HUt:=HUr
      have HBt:=HBr
      have cx3:=(blk_cell HUt.out 3).trans rfl
      obtain ⟨eb,ee,henc⟩:∃ eb ee,encF l=(eb,ee):=⟨_,_,rfl⟩
      have HENC:=Aside0.mk henc
      have HEOK:Aside0 (okB eb=true):=⟨by have:=encF_okB l HLEN.out HOKS.out;rw [henc] at this;exact this⟩
      clear henc
      by_cases hee:ee=0
      · subst hee
        have hee0:((0:Int) != 0)=false:=rfl
        cases heq:decide (eb=b) with
        | false =>
          have HEQ:=Aside0.mk heq
          go_wp2_with (first
            | (go_at_call 61;(with_reducible refine (codec_Encode.calls_at A7 c7 l _ eb 0 rfl (Kd.R_reads' HOt.out).2.2 (Kd.R_reads' HOt.out).2.1 HOKS.out HLEN.out (HT.out.below HBt.out) HENC.out).mono ?_);rintro e w6 ⟨v6,rfl,hr6,hb⟩;obtain ⟨A6,c6,rfl⟩:=Kd.R_slice hr6;have HR6:=Aside0.mk (Kd.R_reads' hr6);have HU6:=Aside0.mk (blk_below HUt.out hb);have HO6:=Aside0.mk (Kd.R_below HOt.out hb);have HB6:=Aside0.mk (below_step HBt.out hb);have c63:=(blk_cell HU6.out 3).trans rfl;clear hr6 hb)
            | (go_at_call 38;(with_reducible refine (Equal_at A6 c6 eb A c b false _ rfl rfl HR6.out.2.2 HR6.out.2.1 (Kd.C_below HRB.out HB6.out) HC.out HEOK.out HOK.out HEQ.out).mono ?_);rintro e w7 ⟨rfl,hb⟩;have HB7:=Aside0.mk (below_step HB6.out hb);clear hb))
          try rw [Exit.noGoto_ret]
          refine bodyPost_ret (results_tmp2 rfl _ _ _) rfl ?_
          rw [HF.out,HD.out,if_neg (by rw [HENC.out];intro q;have:=of_decide_eq_false HEQ.out;exact this (congrArg Prod.fst q.2))]
          exact ⟨_,rfl,Kd.R_nil _ _ _ _ _,HB7.out⟩
        | true =>
          have HEQ:=Aside0.mk heq
          go_wp2_with (first
            | (go_at_call 61;(with_reducible refine (codec_Encode.calls_at A7 c7 l _ eb 0 rfl (Kd.R_reads' HOt.out).2.2 (Kd.R_reads' HOt.out).2.1 HOKS.out HLEN.out (HT.out.below HBt.out) HENC.out).mono ?_);rintro e w6 ⟨v6,rfl,hr6,hb⟩;obtain ⟨A6,c6,rfl⟩:=Kd.R_slice hr6;have HR6:=Aside0.mk (Kd.R_reads' hr6);have HU6:=Aside0.mk (blk_below HUt.out hb);have HO6:=Aside0.mk (Kd.R_below HOt.out hb);have HB6:=Aside0.mk (below_step HBt.out hb);have c63:=(blk_cell HU6.out 3).trans rfl;clear hr6 hb)
            | (go_at_call 38;(with_reducible refine (Equal_at A6 c6 eb A c b true _ rfl rfl HR6.out.2.2 HR6.out.2.1 (Kd.C_below HRB.out HB6.out) HC.out HEOK.out HOK.out HEQ.out).mono ?_);rintro e w7 ⟨rfl,hb⟩;have HB7:=Aside0.mk (below_step HB6.out hb);have HO7:=Aside0.mk (Kd.R_below HO6.out hb);clear hb))
          try rw [Exit.noGoto_ret]
          refine bodyPost_ret (results_tmp2 rfl _ _ _) rfl ?_
          rw [HF.out,HD.out,if_pos ⟨rfl,by rw [HENC.out];exact congrArg (fun z => (z,(0:Int))) (of_decide_eq_true HEQ.out)⟩]
          exact ⟨_,rfl,Kd.R_mono HO7.out (fun _ _ => trivial),HB7.out⟩
      · have hee0:(ee != 0)=true:=bne_iff_ne.2 hee
        have HEE:=Aside0.mk hee
        clear hee
        go_wp2_with (first
          | (go_at_call 61;(with_reducible refine (codec_Encode.calls_at A7 c7 l _ eb ee rfl (Kd.R_reads' HOt.out).2.2 (Kd.R_reads' HOt.out).2.1 HOKS.out HLEN.out (HT.out.below HBt.out) HENC.out).mono ?_);rintro e w6 ⟨v6,rfl,hr6,hb⟩;obtain ⟨A6,c6,rfl⟩:=Kd.R_slice hr6;have HR6:=Aside0.mk (Kd.R_reads' hr6);have HU6:=Aside0.mk (blk_below HUt.out hb);have HO6:=Aside0.mk (Kd.R_below HOt.out hb);have HB6:=Aside0.mk (below_step HBt.out hb);have c63:=(blk_cell HU6.out 3).trans rfl;clear hr6 hb))
        try rw [Exit.noGoto_ret]
        refine bodyPost_ret (results_tmp2 rfl _ _ _) rfl ?_
        rw [HF.out,HD.out,if_neg (by rw [HENC.out];intro q;exact HEE.out (congrArg Prod.snd q.2))]
        exact ⟨_,rfl,Kd.R_nil _ _ _ _ _,HB6.out⟩
def partS (l:List S70) (j:Nat):List S70:=(l.take (j*20+plen l.length j)).drop (j*20)
theorem partS_len (l:List S70) (j:Nat):(partS l j).length=plen l.length j:=by
  unfold partS plen
  rw [List.length_drop,List.length_take]
  omega
theorem partS_mem {l:List S70} {j:Nat} {x:S70} (h:x ∈ partS l j):x ∈ l:=List.mem_of_mem_take (List.mem_of_mem_drop h)
theorem partS_rd (l:List S70) (j i:Nat) (h:i<plen l.length j):rd_T70 (partS l j) (i:Int)=rd_T70 l ((j*20+i:Nat):Int):=by
  simp only [rd_T70,Int.toNat_natCast,List.getD_eq_getElem?_getD,partS,List.getElem?_drop,List.getElem?_take]
  rw [if_pos (by omega)]
theorem canS_part {l:List S70} (h:canS l=true) (j:Nat):canS (partS l j)=true:=by
  unfold canS at h ⊢
  rw [partS_len]
  simp only [Bool.and_eq_true,List.all_eq_true,List.mem_range,decide_eq_true_eq] at h ⊢
  refine ⟨fun i hi => ?_,by unfold plen;omega⟩
  rw [partS_rd l j i (by omega),partS_rd l j (i+1) (by omega)]
  exact h.1 (j*20+i) (by unfold plen at hi;omega)
theorem encL_len {q:List S70} (hq:q.length≤20) (hok:∀ x ∈ q,okS x) (hc:canS q=true):(encL q).length≤410:=by
  have h1:=(pkS_ok (encP q q.length) _ (Nat.le_refl _)).1
  rw [pkS_all] at h1
  rw [encL,List.length_append,beL_length]
  have h3:=encP_len q hok q.length (Nat.le_refl _)
  have:=h1.near
  omega
noncomputable def encPart (u:List Int) (q:List S70):List Int:=beL (u.length+(encL q).length) 4++(u++(encL q))
noncomputable def encPs (u:List Int) (l:List S70) (k:Nat):List Int:=(List.range k).flatMap fun j => encPart u (partS l j)
noncomputable def encSer (x:S51):List Int:=encPs (encLb x.f0) x.f1 ((x.f1.length+19) / 20)
noncomputable def encC (l:List S51):List Int:=l.flatMap encSer
theorem encPs_step (u:List Int) (l:List S70) (k:Nat):encPs u l (k+1)=encPs u l k++encPart u (partS l k):=by
  simp [encPs,List.range_succ,List.flatMap_append]
theorem encPart_len {u:List Int} {q:List S70} (hu:u.length≤600) (hq:q.length≤20) (hok:∀ x ∈ q,okS x) (hc:canS q=true):(encPart u q).length≤1014:=by
  have:=encL_len hq hok hc
  rw [encPart,List.length_append,List.length_append,beL_length]
  omega
theorem encPs_len {u:List Int} {l:List S70} (hu:u.length≤600) (hok:∀ x ∈ l,okS x) (hc:canS l=true):∀ k,(encPs u l k).length≤1014*k
  | 0 => by simp [encPs]
  | k+1 => by
    have ih:=encPs_len hu hok hc k
    have:=encPart_len (q:=partS l k) hu (by rw [partS_len];unfold plen;omega) (fun x hx => hok x (partS_mem hx)) (canS_part hc k)
    rw [encPs_step,List.length_append]
    omega
theorem encC_step (l:List S51) (k:Nat) (h:k<l.length):encC (l.take (k+1))=encC (l.take k)++encSer (rd_T51 l (k:Int)):=by
  have e:rd_T51 l (k:Int)=l[k]:=by simp [rd_T51,List.getD_eq_getElem?_getD,List.getElem?_eq_getElem h]
  rw [List.take_succ_eq_append_getElem h,e,encC,encC,List.flatMap_append]
  simp
theorem encLb_len {l:List S68} (h:canL l=true):(encLb l).length≤600:=by
  have h1:=encK_len h l.length (Nat.le_refl _)
  have h2:=(canL_parts h).2.1
  rw [encK_all] at h1
  omega
theorem encC_mono (l:List S51) (k:Nat):(encC (l.take k)).length≤(encC l).length:=by
  have h:encC l=encC (l.take k)++encC (l.drop k):=by
    unfold encC
    rw [← List.flatMap_append,List.take_append_drop]
  rw [h,List.length_append]
  omega
noncomputable def encYs (u:List Int) (l:List S70) (ks:List Nat):List Int:=ks.flatMap fun j => encPart u (partS l j)
theorem encYs_snoc (u:List Int) (l:List S70) (ks:List Nat) (k:Nat):encYs u l (ks ++ [k])=encYs u l ks++encPart u (partS l k):=by simp [encYs,List.flatMap_append]
theorem encYs_len {u:List Int} {l:List S70} (hu:u.length≤600) (hok:∀ x ∈ l,okS x) (hc:canS l=true):∀ ks:List Nat,(encYs u l ks).length≤1014*ks.length
  | [] => by simp [encYs]
  | k :: ks => by
    have ih:=encYs_len hu hok hc ks
    have:=encPart_len (q:=partS l k) hu (by rw [partS_len];unfold plen;omega) (fun x hx => hok x (partS_mem hx)) (canS_part hc k)
    have e:encYs u l (k :: ks)=encPart u (partS l k)++encYs u l ks:=rfl
    rw [e,List.length_append,List.length_cons]
    omega
structure But (O B:Nat) (a b:World):Prop where
  os:b.os=a.os
  tape:b.tape=a.tape
  output:b.output=a.output
  size:a.heap.size≤b.heap.size
  block:∀ k,k<B→k ≠ O→b.heap[k]? = a.heap[k]?
theorem But.refl (O B:Nat) (a:World):But O B a a:=⟨rfl,rfl,rfl,Nat.le_refl _,fun _ _ _ => rfl⟩
theorem But.trans {O B:Nat} {a b c:World} (h:But O B a b) (k:But O B b c):But O B a c :=
  ⟨k.os.trans h.os,k.tape.trans h.tape,k.output.trans h.output,Nat.le_trans h.size k.size,fun i hi hn => (k.block i hi hn).trans (h.block i hi hn)⟩
theorem But.of_below {O B:Nat} {a b:World} (h:Below B a b):But O B a b:=⟨h.os,h.tape,h.output,h.size,fun k hk _ => h.block k hk⟩
theorem But.below {O B n:Nat} {a b:World} (h:But O B a b) (h1:n≤O) (h2:n≤B):Below n a b:=⟨h.os,h.tape,h.output,h.size,fun k hk => h.block k (by omega) (by omega)⟩
theorem But.setCell {O B:Nat} {a b:World} (h:But O B a b) (i:Nat) (v:Value):But O B a (b.setCell ⟨O,i,none⟩ v) :=
  ⟨h.os,h.tape,h.output,by simpa using h.size,fun k hk hn => (Below.heap_setCell b ⟨O,i,none⟩ v k hn).trans (h.block k hk hn)⟩
theorem But.grown {O B:Nat} {a b c:World} {row:Option Nat} (h:But O B a b) (hg:b.grownBy c row) (hB:B≤a.heap.size) (hr:∀ r,row=some r→B≤r):But O B a c :=
  ⟨hg.os.trans h.os,hg.tape.trans h.tape,hg.output.trans h.output,Nat.le_trans h.size hg.size,fun k hk hn => (hg.block k (by have:=h.size;omega) (fun e => by have:=hr k e.symm;omega)).trans (h.block k hk hn)⟩
theorem R_turn {α:Type} {d:Kd α} {e base:Nat} {w1 w2:World} {v:Value} {xs:List α} {row:Option Nat} (h:Kd.R d e w1 base (fun _ => True) v xs) (hg:w1.grownBy w2 row) (hr:∀ r,row=some r→∃ o:Obj,w1.heap[r]? = some o∧o.isCells=false):Kd.R d e w2 base (fun _ => True) v xs :=
  Kd.R_mono (Kd.R_grown (Kd.R_bound h) hg (fun k hk he => by
    obtain ⟨o,ho,hc⟩:=hr k he.symm
    obtain ⟨q,_,cells,hcl⟩:=hk.2.2.2
    rw [hcl] at ho
    injection ho with ho
    subst ho
    cases hc)) (fun _ _ => trivial)
def markD (D:Nat):Deferred:={ target:=.collected D,args:=#[] }
theorem leaves_marks {F:Fence} {n:Nat} {P:Program} {fn:Func} {tmps:Array Value} {R:Ending→World→Prop} (M:World→Prop) (hend:∀ W,M W→LeavesInM F n P fn tmps R [] .returning W) :
    ∀ (Ds:List Nat) (W:World),Ds.Nodup→(∀ D ∈ Ds,W.heap[D]? = some (.deferred (some [])))→(∀ D ∈ Ds,∀ W,M W→W.heap[D]? = some (.deferred (some []))→M (W.putObj D (.deferred none)))→M W→LeavesInM F n P fn tmps R (Ds.map markD) .returning W
  | [],W,_,_,_,hM => hend W hM
  | D :: Ds,W,hn,hD,hS,hM => by
    have h0:=hD D (by simp)
    refine ⟨by simp,.inl ⟨D,_,rfl,run_takeDeferred h0,?_⟩⟩
    rw [List.nodup_cons] at hn
    refine leaves_marks M hend Ds _ hn.2 (fun D' h' => ?_) (fun D' h' => hS D' (by simp [h'])) (hS D (by simp) W hM h0)
    rw [World.putObj_heap_other (fun e => hn.1 (by subst e;exact h'))]
    exact hD D' (by simp [h'])
theorem codec_Decode.calls_at {n:Nat} (A:Option Addr) (c:Nat) (b:List Int) (w:World) (rl:List S70) (re:Int) (hn:b.length=n) (hr:Kd.C (Kd.int .u8) w A b.length b) (hc:n≤c) (hok:okB b=true) (hlen:n≤2500) (hT:TabZ w) (he:decF b=(rl,re)) :
    Calls Tryz.prog 133 #[.slice A n c] w fun e w' => ∃ v:Value,e = .returned (.tuple #[v,.int .i64 re])∧Kd.R k70 70 w' w.heap.size (fun _ => True) v rl∧Below w.heap.size w w':=by
  subst hn
  have:=codec_Decode.calls A c b w hr hc hok hlen hT
  rw [he] at this
  exact this
theorem encL_ok (l:List S70) (hl:l.length≤20000) (hok:∀ x ∈ l,okS x) (hc:canS l=true):okB (encL l)=true:=by
  have h:=encF_okB l hl hok
  rw [(dec_enc l hok hl hc).1] at h
  exact h
theorem strOfNums_bytes (s:ByteArray):strOfNums (bytesOf s)=s:=by
  apply ByteArray.ext
  apply Array.ext'
  simp [strOfNums,bytesOf,Function.comp_def]
theorem pieceD_enc (s:ByteArray) (y:List Int):pieceD (encT s++y)=some (s,y):=by
  have hl:(bytesOf s).length=s.size:=bytesOf_length s
  simp only [encT,List.cons_append,pieceD]
  rw [Int.toNat_natCast,if_neg (by rw [List.length_append,hl];omega),← hl,List.take_left',List.drop_left',strOfNums_bytes]
  · rfl
  · rfl
theorem decLN_enc (l:List S68) (r:List Int):∀ k,k≤l.length→decLN (l.flatMap encX++r) k=some (l.take k,(l.drop k).flatMap encX++r)
  | 0,_ => by simp [decLN]
  | k+1,h => by
    rw [decLN,decLN_enc l r k (by omega),List.drop_eq_getElem_cons (by omega:k<l.length),List.take_succ_eq_append_getElem (by omega:k<l.length)]
    simp only [Option.bind_some,List.flatMap_cons,encX,List.append_assoc]
    rw [pieceD_enc]
    simp only [Option.bind_some]
    rw [pieceD_enc]
    rfl
theorem decLb_enc (l:List S68) (r:List Int) (h:canL l=true):decLb (encLb l++r)=(l,r,0):=by
  have h1:=decLN_enc l r l.length (Nat.le_refl _)
  rw [List.take_length,List.drop_length] at h1
  simp only [List.flatMap_nil,List.nil_append] at h1
  simp only [encLb,List.cons_append,decLb,Int.toNat_natCast]
  rw [h1]
  simp only [h,if_true]
theorem encLb_okB {l:List S68} (h:canL l=true):okB (encLb l)=true:=by
  have hp:=canL_parts h
  have hb:∀ s:ByteArray,∀ x ∈ bytesOf s,0≤x∧x<256:=fun s x hx => by
    simp only [bytesOf,List.mem_map] at hx
    obtain ⟨c,_,rfl⟩:=hx
    exact ⟨by omega,by have:=c.toNat_lt;omega⟩
  have ht:∀ s:ByteArray,s.size<256→∀ x ∈ encT s,0≤x∧x<256:=fun s hs x hx => by
    rcases List.mem_cons.1 hx with rfl | hx
    · omega
    · exact hb s x hx
  refine okB_iff.2 fun x hx => ?_
  rcases List.mem_cons.1 hx with rfl | hx
  · have:=hp.2.1
    omega
  · obtain ⟨y,hy,hx⟩:=List.mem_flatMap.1 hx
    obtain ⟨k,hk,rfl⟩:=List.mem_iff_getElem.1 hy
    have hs:=okAt_sizes (hp.2.2 k hk)
    have e:rd_T68 l (k:Int)=l[k]:=by simp [rd_T68,List.getD_eq_getElem?_getD,List.getElem?_eq_getElem hk]
    rw [e] at hs
    rcases List.mem_append.1 hx with hx | hx
    · exact ht _ (by omega) x hx
    · exact ht _ (by omega) x hx
theorem beL_okB (N i:Nat):okB (beL N i)=true:=okB_iff.2 fun x hx => beL_byte N i x hx
theorem okB_app {a b:List Int} (ha:okB a=true) (hb:okB b=true):okB (a++b)=true:=okB_iff.2 fun x hx => (List.mem_append.1 hx).elim (okB_iff.1 ha x) (okB_iff.1 hb x)
end Go.Proofs.YtcgbgifbajdhpaaGreatDoor.PA
namespace Go.Proofs.YtcgbgifbajdhpaaGreatDoor.PA
def partsX (x:S51):List S51:=(List.range ((x.f1.length+19) / 20)).map (fun j => ⟨x.f0,partS x.f1 j⟩)
def partsL (l:List S51):List S51:=l.flatMap partsX
noncomputable def encPj (p:S51):List Int:=encPart (encLb p.f0) p.f1
theorem encC_parts (l:List S51):encC l=(partsL l).flatMap encPj:=by
  rw [encC,partsL,List.flatMap_assoc]
  congr 1
  funext x
  rw [encSer,encPs,partsX,List.flatMap_map]
  rfl
end Go.Proofs.YtcgbgifbajdhpaaGreatDoor.PA
namespace Go.Proofs.YtcgbgifbajdhpaaGreatDoor.G
open Go.ChangeShapes Go.WideShapes Go.Deep Go.RowKit Go.Proofs.YtcgbgifbajdhpaaGreatDoor.PA Go.Proofs.YtcgbgifbajdhpaaGreatDoorW.PrintWords
section
variable {H:Type} {enc:TypeId × Value→H} {P:Program} {w:World} {base:Nat} {spare:Nat→Bool} {held:Bool}
theorem open_slice_fields {t e:TypeId} {fs:Array Field} {fuel:Nat} {cs:List Value} {x:DataW H × List MemPlace} (ht:P.underlying t=some (.slice e)) (he:P.underlying e=some (.struct fs))
    (hone:oneCellFields P fs=true) (hC:P.cellsOf e=fs.size) (h:DataW.trod enc P w base spare held fuel t cs=some x) :
    (cs=[.slice none 0 0] ∧ x=(.nil,[])) ∨
    ∃ (a:Addr) (len cap m:Nat) (D:Nat→DataW H) (Pl:Nat→List MemPlace),cs=[.slice (some a) len cap] ∧ base≤a.block∧len≤cap∧cap≤maxLen∧m=(if spare a.block then cap else len) ∧
      x=(.slice ((List.range len).map D) ((List.range (m - len)).map fun j => D (len+j)),MemPlace.row a (m*fs.size)++(List.range m).flatMap Pl) ∧
      ∀ i,i<m→∃ (ys:List (DataW H × List MemPlace)) (n:Nat),D i = .agg (ys.map (·.1))∧Pl i=ys.flatMap (·.2)∧ys.length=fs.size ∧
        ∀ (j:Nat) (f:Field),fs[j]? = some f→∃ (v:Value) (y:DataW H × List MemPlace),w.cell? (a.add (i*fs.size+j))=some v∧ys[j]? = some y∧DataW.trod enc P w base spare held n f.type [v] = some y:=by
  rcases open_slice ht h with h0 | ⟨a,len,cap,m,n,D,Pl,hcs,hb,hl,hm,hmm,hx,hi⟩
  · exact .inl h0
  · refine .inr ⟨a,len,cap,m,D,Pl,hcs,hb,hl,hm,hmm,by rw [hC] at hx;exact hx,fun i him => ?_⟩
    obtain ⟨cs',hc,ht'⟩:=hi i him
    rw [hC] at hc
    obtain ⟨ys,n',hn',hy,hlen,hyl,hf⟩:=DataW.trod_struct he ht'
    obtain ⟨_,hcl,hat⟩:=World.cells?_some hc
    simp only [Prod.mk.injEq] at hy
    refine ⟨ys,n',hy.1,hy.2,hyl,fun j f hj => ?_⟩
    obtain ⟨ho,hk⟩:=hone_of hone j f hj
    have hjl:j<fs.size:=(Array.getElem?_eq_some_iff.1 hj).1
    have hcell:=hat j hjl
    have hv:cs'[j]? = some (cs'[j]'(by omega)):=List.getElem?_eq_getElem (by omega)
    have h1:=hf j f hj
    rw [ho,hk] at h1
    have hone':(cs'.drop j).take 1=[cs'[j]'(by omega)]:=by
      rw [List.drop_eq_getElem_cons (by omega)]
      rfl
    rw [hone'] at h1
    have hys:ys[j]? = some (ys[j]'(by omega)):=List.getElem?_eq_getElem (by omega)
    refine ⟨_,_,?_,hys,h1.trans hys⟩
    rw [← Go.Deep.add_add,hcell,hv]
end
section
variable {H:Type} {enc:TypeId × Value→H} {w:World}
theorem choose_list {α:Type} (Q:Nat→α→Prop):∀ n,(∀ i,i<n→∃ x,Q i x)→∃ l:List α,l.length=n∧∀ i x,l[i]? = some x→Q i x
  | 0,_ => ⟨[],rfl,fun i x h => by simp at h⟩
  | n + 1, h => by
    obtain ⟨l,hl,hq⟩:=choose_list Q n (fun i hi => h i (by omega))
    obtain ⟨x,hx⟩:=h n (by omega)
    refine ⟨l ++ [x],by simp [hl],fun i y hy => ?_⟩
    rcases Nat.lt_trichotomy i n with hi | hi | hi
    · rw [List.getElem?_append_left (by omega)] at hy
      exact hq i y hy
    · subst hi
      rw [List.getElem?_append_right (by omega),hl] at hy
      simp at hy
      exact hy ▸ hx
    · rw [List.getElem?_eq_none (by simp;omega)] at hy
      cases hy
theorem open_rows49 {v:Value} {d:DataW H} {p:List MemPlace} (hv:∃ a len cap,v = .slice a len cap) (h:DataW.Trod enc Tryz.prog w 0 (fun _ => true) true 49 v d p) :
    ∃ (A:Option Addr) (c:Nat) (l:List S70),v = .slice A l.length c∧k70.C w A l.length l∧l.length≤c∧∀ x ∈ l,okS x:=by
  obtain ⟨a,len,cap,rfl⟩:=hv
  obtain ⟨fuel,hf⟩:=h
  rcases open_slice_fields Tryz.underlying49 Tryz.underlying70 (by kernel_rfl) (by kernel_rfl) hf with ⟨hcs,_⟩ | ⟨x,l,c,m,D,Pl,hcs,_,hl,hm,hmm,_,hi⟩
  · simp [Value.cells] at hcs
    obtain ⟨rfl,rfl,rfl⟩:=hcs
    exact ⟨none,0,[],rfl,⟨rfl,by simp,fun h => by simp at h⟩,Nat.le_refl _,fun x hx => by cases hx⟩
  · simp [Value.cells] at hcs
    obtain ⟨rfl,rfl,rfl⟩:=hcs
    simp only [if_true] at hmm
    subst hmm
    obtain ⟨xs,hxl,hxs⟩:=choose_list (fun i (s:S70) => okS s∧∃ cs,cs.length=2∧k70.K w s cs∧∀ j u,cs[j]? = some u→w.cell? (x.add (i*2+j))=some u) len (fun i hil => by
      obtain ⟨ys,n,_,_,_,hfld⟩:=hi i (by omega)
      obtain ⟨v0,y0,c0,_,t0⟩:=hfld 0 _ rfl
      obtain ⟨v1,y1,c1,_,t1⟩:=hfld 1 _ rfl
      obtain ⟨a0,hc0,_,w0⟩:=DataW.trod_int Tryz.underlying3 t0
      obtain rfl:v0 = .int .i64 a0:=by simpa using hc0
      obtain ⟨a1,hc1,_,w1⟩:=DataW.trod_int Tryz.underlying65 t1
      obtain rfl:v1 = .int .u64 a1:=by simpa using hc1
      refine ⟨⟨a0,a1⟩,⟨i64_bd w0,u64_bd w1⟩,_,rfl,k70_mk w ⟨a0,a1⟩,fun j u hj => ?_⟩
      match j,hj with
      | 0,hj => injection hj with hj;subst hj;exact c0
      | 1,hj => injection hj with hj;subst hj;exact c1
      | n+2,hj => simp at hj)
    have hmx:maxLen≤9223372036854775807:=by decide
    refine ⟨some x,m,xs,by rw [hxl],⟨rfl,by rw [hxl];omega,fun _ => ⟨x,rfl,fun j p hj => ?_⟩⟩,by omega,fun s hs => ?_⟩
    · obtain ⟨_,cs,h1,h2,h3⟩:=hxs j p hj
      exact ⟨cs,h1,h2,h3⟩
    · obtain ⟨j,hj⟩:=List.getElem?_of_mem hs
      exact (hxs j s hj).1
end
end Go.Proofs.YtcgbgifbajdhpaaGreatDoor.G
namespace Go.Proofs.YtcgbgifbajdhpaaGreatDoor.PA
open Go.RowKit Go.Proofs.YtcgbgifbajdhpaaGreatDoor.G Go.Proofs.YtcgbgifbajdhpaaGreatDoorW.PrintWords Go.Proofs.YtcgbgifbajdhpaaGreatDoorW.PrintLast Go.Proofs.YtcgbgifbajdhpaaGreatDoorW.PrintMore
theorem equalL.calls (A0:Option Addr) (c0:Nat) (A1:Option Addr) (c1 n:Nat) (l:List S68) (w:World) (hn:l.length=n) (hr0:Kd.C k68 w A0 n l) (hr1:Kd.C k68 w A1 n l) (hl:n≤1000000) :
    Calls Tryz.prog 41 #[.slice A0 n c0,.slice A1 n c1] w fun e w' => e = .returned (.bool true)∧Below w.heap.size w w':=by
  subst hn
  have HR0:=Aside0.mk hr0
  have HR1:=Aside0.mk hr1
  clear hr0 hr1
  have hnn:((l.length:Int) != (l.length:Int))=false:=by simp
  go_enter Tryz.func41,Tryz.ntmps41
  go_wp2
  go_loopw [13] (fun i wr => ∃ k:Nat,k≤l.length∧i = .int .i64 k∧Aside0 (Below w.heap.size w wr)) (fun i _ => l.length - (intOf i).toNat)
  case atStart => exact ⟨0,Nat.zero_le _,rfl,⟨Below.refl _ _⟩⟩
  case round =>
    obtain ⟨k,hk,rfl,HB⟩:=hrel
    by_cases hlt:k<l.length
    · obtain ⟨ad,rfl,e0,e1⟩:=at_T68 (Kd.C_below HR0.out HB.out) (k:Int) (by omega) (by omega)
      obtain ⟨ae,rfl,g0,g1⟩:=at_T68 (Kd.C_below HR1.out HB.out) (k:Int) (by omega) (by omega)
      rw [Int.toNat_natCast] at e0 e1 g0 g1
      generalize rd_T68 l (k:Int)=x at e0 e1 g0 g1
      go_wp2
      go_region
      go_wp2
      go_roundw
      case rel => exact ⟨k+1,by omega,by go_num,⟨below_drew HB.out⟩⟩
      case measure => simp [intOf];omega
    · obtain rfl:k=l.length:=by omega
      go_wp2
      go_ret
      exact ⟨rfl,HB.out⟩
end Go.Proofs.YtcgbgifbajdhpaaGreatDoor.PA
namespace Go.Proofs.YtcgbgifbajdhpaaGreatDoor.PA
open Go.RowKit Go.Proofs.YtcgbgifbajdhpaaGreatDoorW.PrintWords Go.Proofs.YtcgbgifbajdhpaaGreatDoorW.PrintLast Go.Proofs.YtcgbgifbajdhpaaGreatDoorW.PrintMore
attribute [local go_sem] max2_int min2_int max_two min_two max_three min_three max_four min_four   -- for this text's walks alone
theorem eqA70 (d:Nat) (w:World) (x0 y0:Int) (x1 y1:Int) :
    (Op.equalIn (d+2) 70 (.agg #[.int .i64 x0,.int .u64 x1]) (.agg #[.int .i64 y0,.int .u64 y1])).run Tryz.prog w = .ok (x0 == y0 && (x1 == y1)) w:=by
  refine eqA_of Tryz.underlying70 (by kernel_rfl) ?_
  refine eqf_cons (by rfl) (by go_simp;rfl) (by go_simp;rfl) (by go_simp) ?_
  exact eqf_last (by rfl) (by go_simp;rfl) (by go_simp;rfl) (by go_simp)
end Go.Proofs.YtcgbgifbajdhpaaGreatDoor.PA
