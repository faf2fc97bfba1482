/- Lemmas and contracts that the law DumpRows leans on (packed by a program of this session out of its texts and the print's words). -/
import Derived.Test.YtcgbgifbajdhpaaGreatDoorZE9
import Derived.Test.YtcgbgifbajdhpaaGreatDoorZE7
import Derived.Test.YtcgbgifbajdhpaaGreatDoorZE3
import Derived.SizedLaws
import Derived.ChangeSlices
set_option linter.unusedVariables false
set_option linter.unusedSimpArgs false
set_option maxHeartbeats 8000000
set_option maxRecDepth 100000
namespace Go.Proofs.YtcgbgifbajdhpaaGreatDoor.PA
open Go.RowKit Go.Proofs.YtcgbgifbajdhpaaGreatDoor.G Go.Proofs.YtcgbgifbajdhpaaGreatDoorW.au Go.Proofs.YtcgbgifbajdhpaaGreatDoorW.aI Go.Proofs.YtcgbgifbajdhpaaGreatDoorW.aJ
attribute [local go_sem] Oper.semAt_some
theorem Pj (A:Option Addr) (n c hi:Nat) (h2:hi≤n) (hc:n≤c) :
 ∀ j:Int,j=(hi:Int)→∀ W:World,(Instr.slice 57 (.slice A n c) none (some (.int .i64 j)) none).run Tryz.prog W = .ok (.slice A hi c) W:=by
 intro j hj W
 subst hj
 obtain⟨i0,hi0,hsz⟩:=uS
 have h1:=rO (P:=Tryz.prog) 57 92 .i64 Tryz.underlying57 hi0 A n c (hi:Int) (by omega) (by omega) hc W
 rwa [Int.toNat_natCast] at h1
theorem OB (ad:Addr) (len c lo:Nat) (h1:lo≤len) (i:Int) (hi':i=(lo:Int)) :
 ∀ W:World,(Instr.slice 57 (.slice (some ad) len c) (some (.int .i64 i)) none none).run Tryz.prog W = .ok (.slice (if c=lo then some ad else (some ad).map (·.add (lo*kR.sz))) (len-lo) (c-lo)) W:=by
 subst hi'
 intro W
 obtain⟨i0,hi0,hsz⟩:=uS
 have hu:=Tryz.underlying57
 have hel:Tryz.prog.elem 57=92:=by simp[Program.elem,hu]
 have hu':Tryz.prog.underlying 57=some (.slice (Tryz.prog.elem 57)):=by rw[hel];exact hu
 rw[run_slice_l W 57 (some ad) len c hu' .i64 (lo:Int) (by omega) (by omega),hel]
 simp[sizeOf,typeInfo,hi0,hsz,sliced,Result.andThen,Pz]
theorem PL.calls (A:Option Addr) (c n:Nat) (l:List cB) (q:Int) (eb:List (List SR)) (ee:Int) (w:World) (hn:l.length=n) (hr:Kd.C mK w A n l) (hc:n≤c) (hok:Hq l) (hl:n≤1000) (ht:tot l≤10000) (hq:q<9223372036854775808) (he:pJ l q=(eb,ee)) :
 Calls Tryz.prog 26 #[.slice A n c,.int .i64 q] w fun e w'=>∃ v:Value,e = .returned (.tuple #[v,.int .i64 ee])∧Kd.N FR 57 w' w.heap.size (fun _=>True) v eb∧Below w.heap.size w w':=by
 subst hn
 have HR:=ah.mk hr
 have HCAN:=ah.mk (PN.calls A c l.length l w rfl hr hc hok (by omega))
 have HLB:ah (∀ x∈l,x.f0.length≤1000000∧x.f1.length≤1000000):=⟨fun x hx=>⟨(hok x hx).2.1,(hok x hx).2.2.1⟩⟩
 clear hr hok
 by_cases hcan:gQ l=true
 rotate_left
 ·rw[pJ,if_neg (fun h=>hcan h.1)] at he
  cases he
  rw[Bool.not_eq_true] at hcan
  rw[hcan] at HCAN
  clear HLB HR
  go_enter Tryz.func26,Tryz.ntmps26
  go_wp2_with (first|(go_at_call 35;(with_reducible refine HCAN.o.mono ?_);rintro e w1 ⟨rfl,hb⟩;have HB1:=ah.mk hb;clear hb))
  refine bodyPost_ret (results_tmp2 rfl _ _ _) rfl ?_
  exact⟨_,rfl,Kd.kV _ _ _ _ _,HB1.o⟩
 ·rw[hcan] at HCAN
  by_cases hq1:q<1
  ·rw[pJ,if_neg (fun h=>by have:=h.2;omega)] at he
   cases he
   clear HLB HR
   go_enter Tryz.func26,Tryz.ntmps26
   go_wp2_with (first|(go_at_call 35;(with_reducible refine HCAN.o.mono ?_);rintro e w1 ⟨rfl,hb⟩;have HB1:=ah.mk hb;clear hb))
   refine bodyPost_ret (results_tmp2 rfl _ _ _) rfl ?_
   exact⟨_,rfl,Kd.kV _ _ _ _ _,HB1.o⟩
  ·rw[pJ,if_pos ⟨hcan,by omega⟩] at he
   cases he
   obtain⟨m,rfl⟩:∃ m:Nat,q=(m:Int):=⟨q.toNat,by omega⟩
   rw[Int.toNat_natCast]
   have hm1:1≤m:=by omega
   have hm2:m<9223372036854775808:=by omega
   have HTT:ah (tot l≤10000):=⟨ht⟩
   clear hcan ht hq
   go_enter Tryz.func26,Tryz.ntmps26
   go_wp2_with (first|(go_at_call 35;(with_reducible refine HCAN.o.mono ?_);rintro e w1 ⟨rfl,hb⟩;have HB1:=ah.mk hb;clear hb))
   clear HCAN
   go_loopg [6,22] l.length (fun kx s6 s22 wr=>∃ k:Nat,s22 = .int .i64 k∧k≤l.length∧l.length-k≤kx∧ah (Kd.N kR 92 wr w.heap.size (fun _=>True) s6 (iE (l.take k)))∧ah (Below w.heap.size w wr))
   case atStart=>exact⟨0,rfl,Nat.zero_le _,by omega,⟨Kd.kV _ _ _ _ _⟩,HB1⟩
   case round=>
    obtain⟨k,rfl,hk,hkx,HN,HB⟩:=hrel
    clear HB1
    obtain⟨wo,hwo⟩:∃ wo,wo=wr:=⟨_,rfl⟩
    subst hwo
    by_cases hlt:k<l.length
    ·obtain⟨ad,A0,c0,A3,c3,rfl,x0,x1,l0,g0,l3,g3⟩:=iR HR.o (k:Int) (by omega) (by omega)
     rw[Int.toNat_natCast] at x0 x1
     replace x0:=aV HB.o x0
     replace x1:=aV HB.o x1
     have HWS:ah (w.heap.size≤wo.heap.size):=⟨HB.o.size⟩
     have HRT:=ah.mk (mY l k hlt)
     have hxl:(aK l (k:Int)).f0.length≤1000000∧(aK l (k:Int)).f1.length≤1000000:=HLB.o _ (by rw[dZ hlt];exact List.getElem_mem hlt)
     have HTK:ah ((iE (l.take k)).length+(aK l (k:Int)).f1.length≤10000):=⟨by
      have h1:=lM l (k+1)
      rw[← kF,mY l k hlt,List.length_append,mD] at h1
      have:=HTT.o
      omega⟩
     generalize aK l (k:Int)=x at *
     have HXL:=ah.mk hxl
     have hkz:(k:Int)<(l.length:Int):=by omega
     have HG0:=ah.mk g0
     have HG3:=ah.mk g3
     have HL0:=ah.mk l0
     have HBK:=ah.mk (bI wo (.cells #[.slice A0 x.f0.length c0,.slice A3 x.f1.length c3] 51 (0,0)))
     have HWA:=ah.mk (aj HB.o (.cells #[.slice A0 x.f0.length c0,.slice A3 x.f1.length c3] 51 (0,0)))
     have HNA:=ah.mk (Kd.iJ HN.o (.cells #[.slice A0 x.f0.length c0,.slice A3 x.f1.length c3] 51 (0,0)))
     have HSA:ah ((wo.alloc (.cells #[.slice A0 x.f0.length c0,.slice A3 x.f1.length c3] 51 (0,0))).heap.size=wo.heap.size+1):=⟨World.size_alloc ..⟩
     clear g0 g3 l0 l3 hxl
     generalize hn1:x.f1.length=n1 at *
     generalize hn0:x.f0.length=n0 at *
     have HN1:=ah.mk hn1
     have HN0:=ah.mk hn0
     have hn1b:n1≤1000000:=HXL.o.2
     clear hn1 hn0
     obtain⟨W1,hW1⟩:∃ W1,W1=wo.alloc (.cells #[.slice A0 n0 c0,.slice A3 n1 c3] 51 (0,0)):=⟨_,rfl⟩
     rw[← hW1] at HBK HWA HNA HSA
     have HW1:=ah.mk hW1
     clear hW1
     go_wp2_with fail
     rw[← HW1.o]
     go_loopg [6,29] n1 (fun ky s6 s29 wy=>∃ j:Nat,s29 = .int .i64 j∧j≤n1∧n1-j≤ky∧ah (Kd.N kR 92 wy w.heap.size (fun _=>True) s6 (iE (l.take k)++jY ⟨x.f0,x.f1.take j⟩))∧ah (wy.heap[wo.heap.size]? = some (.cells #[.slice A0 n0 c0,.slice A3 n1 c3] 51 (0,0)))∧ah (Below w.heap.size w wy))
     case atStart=>exact⟨0,rfl,Nat.zero_le _,by omega,⟨by rw[List.take_zero];simpa [jY] using HNA.o⟩,HBK,HWA⟩
     case round=>
      clear HN HNA HBK HWA
      obtain⟨j,rfl,hj,hjx,HN,HKB,HBy⟩:=hrel
      by_cases hlt2:j<n1
      ·obtain⟨ae,rfl,y0,y1⟩:=gP (Kd.aH HG3.o HBy.o) (j:Int) (by omega) (by omega)
       rw[Int.toNat_natCast] at y0 y1
       have HRS:=ah.mk (xu x j (by have:=HN1.o;omega))
       generalize aR x.f1 (j:Int)=s at *
       obtain⟨R0,hR0⟩:∃ R0,iE (l.take k)++jY ⟨x.f0,x.f1.take j⟩=R0:=⟨_,rfl⟩
       have HR0L:ah (R0.length≤10000):=⟨by
        rw[← hR0,List.length_append,mD,List.length_take]
        have:=HTK.o
        omega⟩
       have HRN:ah (iE (l.take k)++jY ⟨x.f0,x.f1.take (j+1)⟩=R0++[uD x.f0 s]):=⟨by rw[HRS.o,← List.append_assoc,hR0]⟩
       rw[hR0] at HN
       clear hR0 HRS
       have hjz:(j:Int)<(n1:Int):=by omega
       have HNB:=ah.mk (Kd.iJ HN.o (.cells #[.int .i64 s.f0,.int .u64 s.f1] 70 (0,0)))
       have HKA:=ah.mk (aU HKB.o (.cells #[.int .i64 s.f0,.int .u64 s.f1] 70 (0,0)))
       have HKX:=ah.mk (bI wr (.cells #[.int .i64 s.f0,.int .u64 s.f1] 70 (0,0)))
       have HBA:=ah.mk (aj HBy.o (.cells #[.int .i64 s.f0,.int .u64 s.f1] 70 (0,0)))
       have HSX:ah ((wr.alloc (.cells #[.int .i64 s.f0,.int .u64 s.f1] 70 (0,0))).heap.size=wr.heap.size+1):=⟨World.size_alloc ..⟩
       obtain⟨W2,hW2⟩:∃ W2,W2=wr.alloc (.cells #[.int .i64 s.f0,.int .u64 s.f1] 70 (0,0)):=⟨_,rfl⟩
       rw[← hW2] at HNB HKA HKX HBA HSX
       have HW2:=ah.mk hW2
       clear hW2
       go_wp2_with fail
       rw[← HW2.o]
       have HS:ah (M8 wo.heap.size (.slice A0 n0 c0) wr.heap.size (.int .i64 s.f0) (.int .u64 s.f1) W2.drew):=⟨(av HKA.o 0).trans rfl,(av HKX.o 0).trans rfl,(av HKX.o 1).trans rfl⟩
       have CL:ah (Calls Tryz.prog 51 #[.slice A0 n0 c0] W2.drew fun e w'=>∃ v0_:Value,e = .returned (v0_)∧Kd.R iM 68 w' W2.drew.heap.size (fun _=>True) v0_ x.f0∧Below W2.drew.heap.size W2.drew w'):=⟨OT.calls A0 c0 x.f0 n0 W2.drew HN0.o (by rw[HN0.o];exact Kd.aH HG0.o (dG HBA.o)) (by rw[HN0.o];exact HXL.o.1)⟩
       refine iB (by kernel_rfl) (bq.start (n:=11) (S:=M8 wo.heap.size (.slice A0 n0 c0) wr.heap.size (.int .i64 s.f0) (.int .u64 s.f1)) (by decide) ?_)
       refine bq.take' (i:=0) (v:=?_) rfl rfl (by kernel_rfl) (fun _ _ _ h=>by cases h.1) (Or.inl ⟨by rfl,?_⟩) HS.o ?_
       rotate_left
       ·(intro W' hW';have c0:=hW'.1;have c1:=hW'.2.1;have c2:=hW'.2.2;go_simp;try (with_reducible rfl))
       try simp only[List.setIfInBounds_toArray,List.set_cons_zero,List.set_cons_succ]
       refine bq.take' (i:=1) (v:=?_) rfl rfl (by kernel_rfl) (fun _ _ _ h=>by cases h.1) (Or.inl ⟨by rfl,?_⟩) HS.o ?_
       rotate_left
       ·(intro W' hW';have c0:=hW'.1;have c1:=hW'.2.1;have c2:=hW'.2.2;go_simp;try (with_reducible rfl))
       try simp only[List.setIfInBounds_toArray,List.set_cons_zero,List.set_cons_succ]
       refine bq.take' (i:=2) (v:=?_) rfl rfl (by kernel_rfl) (fun _ _ _ h=>by cases h.1) (Or.inl ⟨by rfl,?_⟩) HS.o ?_
       rotate_left
       ·(intro W' hW';have c0:=hW'.1;have c1:=hW'.2.1;have c2:=hW'.2.2;go_simp;try (with_reducible rfl))
       try simp only[List.setIfInBounds_toArray,List.set_cons_zero,List.set_cons_succ]
       refine bq.take' (i:=4) (v:=?_) rfl rfl (by kernel_rfl) (fun _ _ _ h=>by cases h.1) (Or.inl ⟨by rfl,?_⟩) HS.o ?_
       rotate_left
       ·(intro W' hW';have c0:=hW'.1;have c1:=hW'.2.1;have c2:=hW'.2.2;go_simp;try (with_reducible rfl))
       try simp only[List.setIfInBounds_toArray,List.set_cons_zero,List.set_cons_succ]
       refine bq.take' (i:=5) (v:=?_) rfl rfl (by kernel_rfl) (fun _ _ _ h=>by cases h.1) (Or.inl ⟨by rfl,?_⟩) HS.o ?_
       rotate_left
       ·(intro W' hW';have c0:=hW'.1;have c1:=hW'.2.1;have c2:=hW'.2.2;go_simp;try (with_reducible rfl))
       try simp only[List.setIfInBounds_toArray,List.set_cons_zero,List.set_cons_succ]
       refine bq.take' (i:=6) (v:=?_) rfl rfl (by kernel_rfl) (fun _ _ _ h=>by cases h.1) (Or.inl ⟨by rfl,?_⟩) HS.o ?_
       rotate_left
       ·(intro W' hW';have c0:=hW'.1;have c1:=hW'.2.1;have c2:=hW'.2.2;go_simp;try (with_reducible rfl))
       try simp only[List.setIfInBounds_toArray,List.set_cons_zero,List.set_cons_succ]
       refine bq.take' (i:=7) (v:=?_) rfl rfl (by kernel_rfl) (fun _ _ _ h=>by cases h.1) (Or.inl ⟨by rfl,?_⟩) HS.o ?_
       rotate_left
       ·(intro W' hW';have c0:=hW'.1;have c1:=hW'.2.1;have c2:=hW'.2.2;go_simp;try (with_reducible rfl))
       try simp only[List.setIfInBounds_toArray,List.set_cons_zero,List.set_cons_succ]
       refine bq.one (i:=3) rfl (by kernel_rfl) (by rfl) (fun K1 hK1=>?_)
       go_simp
       refine CL.o.mono ?_
       rintro e w3 ⟨v3,rfl,hr3,hb3⟩
       obtain⟨Al,cl,rfl⟩:=Kd.bD hr3
       rw[HN0.o] at hr3 ⊢
       have HB3:=ah.mk (ak (dG (Below.refl W2.heap.size W2)) hb3)
       have HS3:ah (M8 wo.heap.size (.slice A0 n0 c0) wr.heap.size (.int .i64 s.f0) (.int .u64 s.f1) w3):=⟨aV hb3 HS.o.1,aV hb3 HS.o.2.1,aV hb3 HS.o.2.2⟩
       have HRL:=ah.mk hr3
       refine hK1 _ _ HS3.o ?_
       clear hr3 hb3 hK1 CL
       refine bq.take' (i:=8) (v:=?_) rfl rfl (by kernel_rfl) (fun _ _ _ h=>by cases h.1) (Or.inl ⟨by rfl,?_⟩) HS3.o ?_
       rotate_left
       ·(intro W' hW';have c0:=hW'.1;have c1:=hW'.2.1;have c2:=hW'.2.2;go_simp;try (with_reducible rfl))
       try simp only[List.setIfInBounds_toArray,List.set_cons_zero,List.set_cons_succ]
       refine bq.one (i:=9) rfl (by kernel_rfl) (by rfl) (fun K2 hK2=>?_)
       go_simp
       refine hK2 _ _ ⟨dh _ HS3.o.1,dh _ HS3.o.2.1,dh _ HS3.o.2.2⟩ ?_
       clear hK2
       refine bq.one (i:=10) rfl (by kernel_rfl) (by rfl) (fun K3 hK3=>?_)
       have HFL:ah (Kd.F iM w3 (fun k=>W2.heap.size≤k∧k<w3.heap.size) Al x.f0.length x.f0):=⟨by rw[← HN0.o] at HRL;exact Kd.Qa (Kd.dL (Kd.gM HRL.o) (fun k hk=>⟨hk.2.1,hk.2.2.1⟩))⟩
       have HLL:ah (x.f0.length≤cl):=⟨by rw[← HN0.o] at HRL;exact (Kd.aX HRL.o).2.1⟩
       have HN3:=ah.mk (Kd.iO HNB.o HB3.o)
       have HVL:=ah.mk (Kd.DN HNB.o)
       have HBB:ah (Below w.heap.size w w3):=⟨ak HBA.o HB3.o⟩
       have h0s:w.heap.size≤w3.heap.size:=HBB.o.size
       have HFK:=ah.mk (J4 w3 (fun k=>W2.heap.size≤k∧k<w3.heap.size) (uD x.f0 s) HLL.o HFL.o)
       have HFK2:ah (Kd.FK kR w3 (fun k=>W2.heap.size≤k∧k<w3.heap.size) (uD x.f0 s) [.slice Al n0 cl,.int .i64 s.f0,.int .u64 s.f1]):=⟨by have h1:=HFK.o;rw[show (uD x.f0 s).f0.length=n0 from HN0.o] at h1;exact h1⟩
       refine su (c:=Region.wanted _ _=true) (by rfl) (Kd.iF (ops := #[]) (W:=w3) kR (w0:=w) w.heap.size (by rfl) (.tmp 33) (.tmp 42) 57 92 (.agg #[.slice none 0 0,.int .i64 0,.int .u64 0]) 40 rfl Tryz.underlying57 zZ rfl (by decide) (by decide) u6 R0 (uD x.f0 s) _ (fun _=>True) (fun k=>W2.heap.size≤k∧k<w3.heap.size) rfl rfl HFK2.o ?ap1 ?ap2 HN3.o HBB.o ?ap3 ?ap4 ?ap5)
       case ap1=>exact fun k hk=>⟨trivial,fun e=>by have:=HVL.o k e.symm;omega⟩
       case ap2=>exact fun _ _=>trivial
       case ap3=>exact h0s
       case ap4=>(have:=HR0L.o;omega)
       case ap5=>
        intro v7 w7 hn7 hb7 hg7 hat7
        have HN7:=ah.mk hn7
        have HKB3:=ah.mk (aG HKA.o HB3.o)
        have HKX3:=ah.mk (aG HKX.o HB3.o)
        have HVW:=ah.mk (Kd.DN HN.o)
        have HVB:=ah.mk (Kd.uJ HN3.o)
        have HK7:=ah.mk (dM HKB3.o hg7 (fun e=>by
         obtain⟨cells,h2⟩:=HVB.o _ e.symm
         rw[HKB3.o] at h2
         injection h2 with h2
         injection h2 with _ h2
         exact absurd h2 (by decide)))
        have HX7:=ah.mk (dM HKX3.o hg7 (fun e=>by have:=HVW.o _ e.symm;omega))
        have HS7:ah (M8 wo.heap.size (.slice A0 n0 c0) wr.heap.size (.int .i64 s.f0) (.int .u64 s.f1) w7):=⟨(av HK7.o 0).trans rfl,(av HX7.o 0).trans rfl,(av HX7.o 1).trans rfl⟩
        refine hK3 _ _ HS7.o ?_
        clear hn7 hK3
        simp only[Act.put,List.setIfInBounds_toArray,List.set_cons_zero,List.set_cons_succ]
        refine bq.last rfl (by kernel_rfl) (by rfl) (fun K4 hK4=>?_)
        go_simp
        refine hK4 _ _ ⟨rfl,?_⟩
        clear hK4
        go_wp2
        go_roundg (n1-(j+1))
        case measure=>omega
        case rel=>exact⟨j+1,by go_num,hlt2,Nat.le_refl _,⟨by rw[HRN.o];exact HN7.o⟩,HK7,⟨hb7⟩⟩
      ·obtain rfl:j=n1:=by omega
       have hjz:¬ (j:Int)<(j:Int):=by omega
       have HNK:ah (Kd.N kR 92 wr w.heap.size (fun _=>True) u6 (iE (l.take (k+1)))):=⟨by
        have h1:=HN.o
        rw[← HN1.o,List.take_length] at h1
        rw[HRT.o]
        exact h1⟩
       go_wp2
       go_roundg (l.length-(k+1))
       case measure=>omega
       case rel=>exact⟨k+1,by go_num,hlt,Nat.le_refl _,HNK,HBy⟩
    ·obtain rfl:k=l.length:=by omega
     have hkz:¬ ((l.length:Int)<(l.length:Int)):=by omega
     rw[List.take_length] at HN
     have HRLN:ah ((iE l).length≤10000):=⟨by rw[kF];exact HTT.o⟩
     clear HLB HTT hlt hk hkx HR
     obtain⟨RL,hRLE⟩:∃ RL,iE l=RL:=⟨_,rfl⟩
     rw[hRLE] at HN HRLN
     have HRLE:=ah.mk hRLE
     clear hRLE
     obtain⟨A6,c6,rfl,hc6,_⟩:=Kd.jH HN.o
     have HFA:=ah.mk (Kd.mE (Kd.P9 HN.o))
     have hsw:w.heap.size≤wo.heap.size:=HB.o.size
     have hRL:=HRLN.o
     clear HN hkz
     go_wp2_with fail
     go_loopg [6,11] RL.length (fun kx s6 s11 wr=>∃ (k:Nat) (Ai:Option Addr) (ci:Nat) (L:List SR),ah (L=RL.drop (k*m))∧ah (k=0∨(k-1)*m<RL.length)∧L.length≤kx∧s6 = .slice Ai L.length ci∧L.length≤ci∧ah (Kd.F kR wo (fun k=>True∧k<wo.heap.size) Ai L.length L)∧ah (Kd.N FR 57 wr wo.heap.size (fun _=>True) s11 (zT m RL k))∧ah (Below wo.heap.size wo wr))
     case atStart=>exact⟨0,A6,c6,RL,⟨by simp⟩,⟨.inl rfl⟩,Nat.le_refl _,rfl,hc6,HFA,⟨Kd.kV _ _ _ _ _⟩,⟨Below.refl _ _⟩⟩
     case round=>
      clear HFA hc6
      obtain⟨k,Ai,ci,L,HL,HK,hkx,rfl,hci,HF,HN,HBr⟩:=hrel
      have HLL:ah (L.length=RL.length-k*m):=⟨by rw[HL.o,List.length_drop]⟩
      by_cases hlt:0<L.length
      ·obtain⟨ad,rfl⟩:∃ ad,Ai=some ad:=by
        obtain⟨ad,e,_⟩:=(Kd.vv HF.o).2.2 hlt
        exact⟨ad,e⟩
       obtain⟨qn,hqn⟩:∃ qn,min m L.length=qn:=⟨_,rfl⟩
       have hqm:min (m:Int) (L.length:Int)=(qn:Int):=by omega
       have hql:qn≤L.length:=by omega
       have hq1:1≤qn:=by omega
       have HP:ah (L.take qn=jh m RL k):=⟨by rw[jh,← HL.o,← hqn,List.take_eq_take_iff];omega⟩
       have HD:ah (L.drop qn=RL.drop ((k+1)*m)):=⟨by
        rw[HL.o,List.drop_drop,Nat.succ_mul]
        have h1:=HLL.o
        rcases Nat.le_total m L.length with h2 | h2
        ·rw[show qn=m from by omega]
        ·rw[List.drop_eq_nil_of_le (by omega),List.drop_eq_nil_of_le (by omega)]⟩
       have HKK:ah (k+1=0∨(k+1-1)*m<RL.length):=⟨.inr (by rw[Nat.add_sub_cancel];have:=HLL.o;omega)⟩
       have hpos:(L.length:Int)>0:=by omega
       have hcutH:=Pj (some ad) L.length ci qn hql hci (qn:Int) rfl
       have hcutT:=OB ad L.length ci qn hql (qn:Int) rfl
       have HFT:=ah.mk (Kd.zn (W1:=wr.drew) (Kd.IW HF.o hql) (fun k hk hlt=>HBr.o.block k hlt))
       have hFD:=Kd.OV HF.o hql hci
       obtain⟨AT,hAT⟩:∃ AT,(if ci=qn then some ad else (some ad).map (·.add (qn*kR.sz)))=AT:=⟨_,rfl⟩
       rw[hAT] at hcutT hFD
       obtain⟨cT,hcT⟩:∃ cT,ci-qn=cT:=⟨_,rfl⟩
       rw[hcT] at hcutT
       have HFD:=ah.mk hFD
       have hcT2:L.length-qn≤cT:=by omega
       clear hAT hFD hcT
       have HPL:ah ((L.take qn).length=qn):=⟨by rw[List.length_take];omega⟩
       have HDL:ah ((L.drop qn).length=L.length-qn):=⟨List.length_drop ..⟩
       have HXL:ah ((zT m RL k).length≤10000):=⟨by
        rw[zT,List.length_map,List.length_range]
        have h1:=HLL.o
        have h2:=(mh (n:=RL.length) (j:=k) hm1).2 (by omega)
        have h3:=sj RL.length hm1
        omega⟩
       have HVB:=ah.mk (Kd.zo HN.o)
       have HN2:=ah.mk (Kd.jR HN.o)
       have HB2:=ah.mk (dG HBr.o)
       go_wp2_with fail
       refine iB (by kernel_rfl) (bq.start (n:=10) (S:=fun _=>True) (by decide) ?_)
       refine bq.take' (i:=0) (v:=?_) rfl rfl (by kernel_rfl) (fun _ _ _ h=>by cases h.1) (Or.inl ⟨by rfl,?_⟩) trivial ?_
       rotate_left
       ·(intro W' hW';have c0:True:=hW';go_simp;try (with_reducible rfl))
       try simp only[List.setIfInBounds_toArray,List.set_cons_zero,List.set_cons_succ]
       refine bq.take' (i:=1) (v:=?_) rfl rfl (by kernel_rfl) (fun _ _ _ h=>by cases h.1) (Or.inl ⟨by rfl,?_⟩) trivial ?_
       rotate_left
       ·(intro W' hW';have c0:True:=hW';go_simp;try (with_reducible rfl))
       try simp only[List.setIfInBounds_toArray,List.set_cons_zero,List.set_cons_succ]
       refine bq.take' (i:=2) (v:=?_) rfl rfl (by kernel_rfl) (fun _ _ _ h=>by cases h.1) (Or.inl ⟨by rfl,?_⟩) trivial ?_
       rotate_left
       ·(intro W' hW';have c0:True:=hW';go_simp;try (with_reducible rfl))
       try simp only[List.setIfInBounds_toArray,List.set_cons_zero,List.set_cons_succ]
       refine bq.take' (i:=3) (v:=?_) rfl rfl (by kernel_rfl) (fun _ _ _ h=>by cases h.1) (Or.inl ⟨by rfl,?_⟩) trivial ?_
       rotate_left
       ·(intro W' hW';have c0:=hcutH W';go_simp;try (with_reducible rfl))
       try simp only[List.setIfInBounds_toArray,List.set_cons_zero,List.set_cons_succ]
       refine bq.take' (i:=6) (v:=?_) rfl rfl (by kernel_rfl) (fun _ _ _ h=>by cases h.1) (Or.inl ⟨by rfl,?_⟩) trivial ?_
       rotate_left
       ·(intro W' hW';have c0:True:=hW';go_simp;try (with_reducible rfl))
       try simp only[List.setIfInBounds_toArray,List.set_cons_zero,List.set_cons_succ]
       refine bq.take' (i:=7) (v:=?_) rfl rfl (by kernel_rfl) (fun _ _ _ h=>by cases h.1) (Or.inl ⟨by rfl,?_⟩) trivial ?_
       rotate_left
       ·(intro W' hW';have c0:True:=hW';go_simp;try (with_reducible rfl))
       try simp only[List.setIfInBounds_toArray,List.set_cons_zero,List.set_cons_succ]
       refine bq.take' (i:=8) (v:=?_) rfl rfl (by kernel_rfl) (fun _ _ _ h=>by cases h.1) (Or.inl ⟨by rfl,?_⟩) trivial ?_
       rotate_left
       ·(intro W' hW';have c0:=hcutT W';go_simp;try (with_reducible rfl))
       try simp only[List.setIfInBounds_toArray,List.set_cons_zero,List.set_cons_succ]
       refine bq.one (i:=4) rfl (by kernel_rfl) (by rfl) (fun K1 hK1=>?_)
       go_simp
       refine hK1 _ _ trivial ?_
       clear hK1
       refine bq.one (i:=5) rfl (by kernel_rfl) (by rfl) (fun K2 hK2=>?_)
       have HFK:ah (Kd.FK FR wr.drew (fun k=>True∧k<wo.heap.size) (jh m RL k) [.slice (some ad) qn ci]):=⟨by
        have h1:=Kd.nJ (e:=92) (l:=L.take qn) (A:=some ad) (c:=ci) (by have:=HPL.o;omega) HFT.o
        rw[HPL.o,HP.o] at h1
        exact h1⟩
       refine su (c:=Region.wanted _ _=true) (by rfl) (Kd.iF (ops := #[]) (W:=wr.drew) FR (w0:=wo) wo.heap.size (by rfl) (.tmp 53) (.tmp 57) 53 57 (.slice none 0 0) 24 rfl Tryz.underlying53 FL rfl (by decide) (by decide) u11 (zT m RL k) (jh m RL k) _ (fun _=>True) (fun k=>True∧k<wo.heap.size) rfl rfl HFK.o ?ap1 ?ap2 HN2.o HB2.o ?ap3 ?ap4 ?ap5)
       case ap1=>
        intro k hk
        exact⟨trivial,fun e=>by have h1:=HVB.o k e.symm;have h2:=hk.2;omega⟩
       case ap2=>exact fun _ _=>trivial
       case ap3=>exact HB2.o.size
       case ap4=>(have:=HXL.o;omega)
       case ap5=>
        intro v7 w7 hn7 hb7 hg7 hat7
        have HN7:=ah.mk hn7
        have HB7:=ah.mk hb7
        refine hK2 _ _ trivial ?_
        clear hn7 hb7 hg7 hat7 hK2
        simp only[Act.put,List.setIfInBounds_toArray,List.set_cons_zero,List.set_cons_succ]
        refine bq.take' (i:=9) (v:=?_) rfl rfl (by kernel_rfl) (fun _ _ _ h=>by cases h.1) (Or.inl ⟨by rfl,?_⟩) trivial ?_
        rotate_left
        ·(intro W' hW';have c0:True:=hW';go_simp;try (with_reducible rfl))
        try simp only[List.setIfInBounds_toArray,List.set_cons_zero,List.set_cons_succ]
        refine bq.last rfl (by kernel_rfl) (by rfl) (fun K4 hK4=>?_)
        go_simp
        refine hK4 _ _ ⟨rfl,?_⟩
        clear hK4
        go_wp2
        go_roundg (L.length-qn)
        case measure=>omega
        case rel=>exact⟨k+1,AT,cT,L.drop qn,HD,HKK,by rw[HDL.o];exact Nat.le_refl _,by rw[HDL.o],by rw[HDL.o];exact hcT2,HFD,⟨by rw[GH];exact HN7.o⟩,HB7⟩
      ·have hneg:¬ (L.length:Int)>0:=by omega
       have hdone:jw m RL.length=k:=yS hm1 (by have:=HLL.o;omega) HK.o
       have HNF:ah (Kd.N FR 57 wr w.heap.size (fun _=>True) u11 (zU m RL)):=⟨by
        rw[zU,hdone]
        exact Kd.zq HN.o hsw⟩
       go_wp2
       refine bodyPost_ret (results_tmp2 rfl _ _ _) rfl ?_
       exact⟨_,rfl,by rw[HRLE.o];exact HNF.o,HB.o.trans (HBr.o.mono hsw)⟩
theorem PU.calls (A0 A1:Option Addr) (c0 c1:Nat) (x:SR) (w:World) (hr0:Kd.C iM w A0 x.f0.length x.f0) (hr1:Kd.C iM w A1 x.f0.length x.f0) (hl:x.f0.length≤1000000) :
 Calls Tryz.prog 58 #[.agg #[.slice A0 x.f0.length c0,.int .i64 x.f1,.int .u64 x.f2],.agg #[.slice A1 x.f0.length c1,.int .i64 x.f1,.int .u64 x.f2]] w fun e w'=>e = .returned (.bool true)∧Below w.heap.size w w':=by
 obtain⟨o0,ho0⟩:∃ o0:Obj,Obj.cells #[.slice A0 x.f0.length c0,.int .i64 x.f1,.int .u64 x.f2] 92=o0:=⟨_,rfl⟩
 obtain⟨o1,ho1⟩:∃ o1:Obj,Obj.cells #[.slice A1 x.f0.length c1,.int .i64 x.f1,.int .u64 x.f2] 92=o1:=⟨_,rfl⟩
 have HB0:=ah.mk (aj (aj (Below.refl w.heap.size w) o0) o1)
 have EQ:=ah.mk (JQ.calls A0 c0 A1 c1 x.f0.length x.f0 ((w.alloc o0).alloc o1) rfl (Kd.aH hr0 HB0.o) (Kd.aH hr1 HB0.o) hl)
 have H0:ah (((w.alloc o0).alloc o1).heap[w.heap.size]? = some o0):=⟨aU (bI w o0) o1⟩
 have H1:ah (((w.alloc o0).alloc o1).heap[w.heap.size+1]? = some o1):=⟨by have:=bI (w.alloc o0) o1;rwa [World.size_alloc] at this⟩
 subst ho0 ho1
 clear hr0 hr1
 go_enter Tryz.func58,Tryz.ntmps58
 go_wp2_with (first|(go_at_call 41;(with_reducible refine EQ.o.mono ?_);rintro e w1 ⟨rfl,hb⟩;have HB1:=ah.mk (ak HB0.o hb);have b0:=aG H0.o hb;have b1:=aG H1.o hb;have x1:=(av b0 1).trans rfl;have x2:=(av b0 2).trans rfl;have y1:=(av b1 1).trans rfl;have y2:=(av b1 2).trans rfl;clear hb b0 b1))
 go_ret
 exact⟨rfl,HB1.o⟩
theorem Pn.calls (A B:Option Addr) (c d n:Nat) (l:List SR) (w:World) (hn:l.length=n) (hr:Kd.C kR w A n l) (hs:Kd.C kR w B n l) (hl:n≤1000000) (hok:∀ x∈l,x.f0.length≤1000000) :
 Calls Tryz.prog 57 #[.slice A n c,.slice B n d,.func (.func 58) #[] #[]] w fun e w'=>e = .returned (.bool true)∧Below w.heap.size w w':=by
 subst hn
 have HR:=ah.mk hr
 have HS:=ah.mk hs
 have HOK:=ah.mk hok
 clear hr hs hok
 have hnn:((l.length:Int) != (l.length:Int))=false:=by simp
 go_enter Tryz.func57,Tryz.ntmps57
 go_wp2
 go_loopg [17] l.length (fun kx s17 wr=>∃ (k:Nat),s17 = .int .i64 k∧k≤l.length∧l.length-k≤kx∧ah (Below w.heap.size w wr))
 case atStart=>exact⟨0,rfl,Nat.zero_le _,Nat.le_refl _,⟨Below.refl _ _⟩⟩
 case round=>
  obtain⟨k,rfl,hk,hkx,HB⟩:=hrel
  by_cases hlt:k<l.length
  ·obtain⟨ad,A0,c0,rfl,hx,l0,g0⟩:=O8 (Kd.aH HR.o HB.o) (k:Int) (by omega) (by omega)
   obtain⟨ae,B0,d0,rfl,hy,m0,h0⟩:=O8 (Kd.aH HS.o HB.o) (k:Int) (by omega) (by omega)
   rw[Int.toNat_natCast] at hx hy
   have hkz:(k:Int)<(l.length:Int):=by omega
   have hxl:(yc l (k:Int)).f0.length≤1000000:=by
    have e:yc l (k:Int)=l[k]:=by simp[yc,List.getD_eq_getElem?_getD,List.getElem?_eq_getElem hlt]
    rw[e]
    exact HOK.o _ (List.getElem_mem hlt)
   generalize yc l (k:Int)=x at *
   have x0:wr.cell? (ad.add (k*3))=some (.slice A0 x.f0.length c0):=hx 0 _ rfl
   have x1:wr.cell? ⟨(ad.add (k*3)).block,(ad.add (k*3)).off+1,none⟩=some (.int .i64 x.f1):=by rw[← gD _ _ 1 (by omega)];exact hx 1 _ rfl
   have x2:wr.cell? ⟨(ad.add (k*3)).block,(ad.add (k*3)).off+2,none⟩=some (.int .u64 x.f2):=by rw[← gD _ _ 2 (by omega)];exact hx 2 _ rfl
   have y0:wr.cell? (ae.add (k*3))=some (.slice B0 x.f0.length d0):=hy 0 _ rfl
   have y1:wr.cell? ⟨(ae.add (k*3)).block,(ae.add (k*3)).off+1,none⟩=some (.int .i64 x.f1):=by rw[← gD _ _ 1 (by omega)];exact hy 1 _ rfl
   have y2:wr.cell? ⟨(ae.add (k*3)).block,(ae.add (k*3)).off+2,none⟩=some (.int .u64 x.f2):=by rw[← gD _ _ 2 (by omega)];exact hy 2 _ rfl
   have EE:=ah.mk (fun W (hb:Below wr.heap.size wr W)=>PU.calls A0 B0 c0 d0 x W (Kd.aH g0 hb) (Kd.aH h0 hb) hxl)
   obtain⟨o0,ho0⟩:∃ o0:Obj,Obj.cells #[.slice A0 x.f0.length c0,.int .i64 x.f1,.int .u64 x.f2] 92=o0:=⟨_,rfl⟩
   obtain⟨o1,ho1⟩:∃ o1:Obj,Obj.cells #[.slice B0 x.f0.length d0,.int .i64 x.f1,.int .u64 x.f2] 92=o1:=⟨_,rfl⟩
   have HB0:=ah.mk (aj (aj (Below.refl wr.heap.size wr) o0) o1)
   have z0:=aV (aj (Below.refl wr.heap.size wr) o0) y0
   have z1:=aV (aj (Below.refl wr.heap.size wr) o0) y1
   have z2:=aV (aj (Below.refl wr.heap.size wr) o0) y2
   subst ho0 ho1
   clear g0 h0 l0 m0 y0 y1 y2 hx hy hxl
   generalize x.f0.length=n0 at *
   go_wp2_with (first|(go_at_call 58;(with_reducible refine (EE.o _ HB0.o).mono ?_);rintro e w2 ⟨rfl,hb⟩;have HB2:=ah.mk (ak HB.o (ak HB0.o hb));clear hb))
   go_roundg (l.length-(k+1))
   case measure=>omega
   case rel=>exact⟨k+1,by go_num,by omega,Nat.le_refl _,HB2⟩
  ·obtain rfl:k=l.length:=by omega
   have hkz:¬ (l.length:Int)<(l.length:Int):=by omega
   go_wp2
   go_ret
   exact⟨rfl,HB.o⟩
theorem MK.calls (A B:Option Addr) (c d n:Nat) (l:List SR) (w:World) (hn:l.length=n) (hr:Kd.C kR w A n l) (hs:Kd.C kR w B n l) (hl:n≤1000000) (hok:∀ x∈l,x.f0.length≤1000000) :
 Calls Tryz.prog 27 #[.slice A n c,.slice B n d] w fun e w'=>e = .returned (.bool true)∧Below w.heap.size w w':=by
 have EE:=ah.mk (Pn.calls A B c d n l w hn hr hs hl hok)
 clear hn hr hs hok
 go_enter Tryz.func27,Tryz.ntmps27
 go_wp2_with (first|(go_at_call 57;(with_reducible refine EE.o.mono ?_);rintro e w2 ⟨rfl,hb⟩;have HB2:=ah.mk hb;clear hb))
 go_ret
 exact⟨rfl,HB2.o⟩
end Go.Proofs.YtcgbgifbajdhpaaGreatDoor.PA
namespace Go.Proofs.YtcgbgifbajdhpaaGreatDoor.PA
open Go.RowKit Go.Proofs.YtcgbgifbajdhpaaGreatDoorW.au Go.Proofs.YtcgbgifbajdhpaaGreatDoorW.aI Go.Proofs.YtcgbgifbajdhpaaGreatDoorW.aJ
attribute [local go_sem] eG eH gq gu eT eU fU fV   -- for this text's walks alone
abbrev q1 := @bC
abbrev q2 := @bg
abbrev q3 := @aU
abbrev q4 := @aj
abbrev q5 := @ay
abbrev q6 := @aD
abbrev q7 := @bf
abbrev qb := @List.setIfInBounds_toArray
abbrev qc := @List.set_cons_zero
abbrev qd := @List.set_cons_succ
theorem Qj {w:World} {g:Nat} {t:TypeId} {a b:Value} (h:w.heap[g]? = some (.cells #[a,b] t (0,0))):w.cell? ⟨g,0,none⟩=some a:=(av h 0).trans rfl
theorem Qk {w:World} {g:Nat} {t:TypeId} {a b:Value} (h:w.heap[g]? = some (.cells #[a,b] t (0,0))):w.cell? ⟨g,1,none⟩=some b:=(av h 1).trans rfl
def aW.l0:Nat→Int→Int→List (cB)→List (cB)→Int→Int→Option ((List (cB)))
 | 0,_,_,_,_,_,_=>none
 | k+1,x1,x2,x7,x10,x11,x12=>if x12<x11 then (if 0≤x12 then (if x12<(x10.length:Int) then (if x12<x1 then (if (((aK x10 x12).f0).length:Int)≤10 then (if 0≤(mn (((aK x10 x12).f1).length:Int) x2) then (if (mn (((aK x10 x12).f1).length:Int) x2)≤(((aK x10 x12).f1).length:Int) then (if x7.length<2932031007402 then (aW.l0 k x1 x2 (x7++[(⟨(aK x10 x12).f0,(((aK x10 x12).f1).take ((mn (((aK x10 x12).f1).length:Int) x2):Int).toNat)⟩:cB)]) x10 x11 (wrap64 (x12+1))) else (none)) else (none)) else (none)) else (aW.l0 k x1 x2 x7 x10 x11 (wrap64 (x12+1)))) else (aW.l0 k x1 x2 x7 x10 x11 (wrap64 (x12+1)))) else (none)) else (none)) else (some x7)
def aW.f (k:Nat) (l0:List (cB)) (a1:Int) (a2:Int):Option ((List (cB))):=aW.l0 k a1 a2 ([]:List (cB)) l0 (l0.length:Int) 0
theorem aW.fA:∀ k,(∀ y0 y1 y2 y3 y4 y5,bV (aW.l0 k y0 y1 y2 y3 y4 y5) (aW.l0 (k+1) y0 y1 y2 y3 y4 y5))
 | 0=>fun _ _ _ _ _ _ r h=>by simp[aW.l0] at h
 | k+1=>by
  have ih0:=aW.fA k
  ·
   intro y0 y1 y2 y3 y4 y5
   unfold aW.l0
   repeat' first
   | (with_reducible exact ih0 _ _ _ _ _ _)
   | (with_reducible exact bV.refl _)
   | (with_reducible exact bV.none _)
   | (with_reducible refine bV.ite ?_ ?_)
   | (with_reducible refine bV.bind ?_ (fun _=>?_))
   | exact ih0 _ _ _ _ _ _
   | exact bV.none _
   | refine bV.ite ?_ ?_
   | refine bV.bind ?_ (fun _=>?_)
theorem aW.mono:∀ a0 a1 a2 k,bV (aW.f k a0 a1 a2) (aW.f (k+1) a0 a1 a2):=by
 intro a0 a1 a2 k
 have ih0:=aW.fA k
 unfold aW.f
 repeat' first
  | (with_reducible exact ih0 _ _ _ _ _ _)
  | (with_reducible exact bV.refl _)
  | (with_reducible exact bV.none _)
  | (with_reducible refine bV.ite ?_ ?_)
  | (with_reducible refine bV.bind ?_ (fun _=>?_))
  | exact ih0 _ _ _ _ _ _
  | exact bV.none _
  | refine bV.ite ?_ ?_
  | refine bV.bind ?_ (fun _=>?_)
def aW.T6:Bool × List (List Nat × List Nat):=(true,[([],[]),([],[]),([1],[1]),([],[]),([3],[3]),([],[]),([5],[5]),([6],[6]),([],[]),([7,8],[7,8]),([4,9],[4,9]),([2,10],[2,10]),([11],[11]),([0,12],[0,12]),([13,13,0,1,2,3,4,5,6,7,8,9,10,11,12,13],[0,13])])
def aW.B6:List Nat:=[0,0,2,0,8,0,32,96,0,480,1016,2046,4094,8191,16383]
theorem aW.Qp:lW .any (opsOf Tryz.f8 6)=aW.T6:=by kernel_rfl
theorem aW.O9:ru aW.T6.2 aW.B6=true:=by kernel_rfl
theorem aW.calls (k:Nat) (P0_:Nat→Prop) (A0:Option Addr) (c0:Nat) (l0:List (cB)) (a1:Int) (a2:Int) (r:List (cB)) (w:World) (hs0:Kd.V mK 51 w w.heap.size (fun k_=>P0_ k_) (.slice A0 l0.length c0) l0) (h:aW.f k l0 a1 a2=some r) :
 Calls Tryz.prog 8 #[.slice A0 l0.length c0,.int .i64 a1,.int .i64 a2] w fun e w'=>∃ v0_:Value,e = .returned (v0_)∧Kd.N mK 51 w' w.heap.size (fun k_=>(P0_ k_∨w.heap.size≤k_)) v0_ r∧Below w.heap.size w w':=by
 have hu51:=Tryz.underlying51
 have HO0:=ah.mk (show Kd.V mK 51 w w.heap.size (fun k_=>(P0_ k_∨w.heap.size≤k_)) (.slice A0 l0.length c0) l0 from Kd.gJ hs0 (fun k_ hk => .inl hk))
 have HB:=ah.mk (Below.refl w.heap.size w)
 have H:(aW.l0 k a1 a2 ([]:List (cB)) l0 (l0.length:Int) 0)=some r:=h
 clear h
 have H':=ah.mk H
 clear H
 go_enter Tryz.func8,Tryz.ntmps8
 go_wp2
 go_loopg [7,12] k (fun kq v7 v12 w'=>∃ (x7_1:List (cB)) (x12_1:Int),v12 = .int .i64 x12_1∧ah (aW.l0 kq a1 a2 x7_1 l0 (l0.length:Int) x12_1=some r)∧ah (kq≤k)∧ah (Kd.N mK 51 w' w.heap.size (fun k_=>(P0_ k_∨w.heap.size≤k_)) v7 x7_1)∧ah (Kd.V mK 51 w' w.heap.size (fun k_=>(P0_ k_∨w.heap.size≤k_)∧some k_≠(v7:Value).ownBlock) (.slice A0 l0.length c0) l0)∧ah (Below w.heap.size w w'))
 case atStart=>exact⟨(([]:List (cB))),(0),(by first | rfl | (simp;done)|(simp[*];done)),H',⟨Nat.le_refl _⟩,⟨by first | exact Kd.O5 _ _ _ _ _ | exact Kd.kV _ _ _ _ _ | exact Kd.O6 _ _ _ _ _ | exact Kd.O4 _ _ _ _ _ | exact Kd.fP _ _ _ _ _⟩,⟨by (with_reducible repeat (first | apply Kd.fC | apply Kd.fD | apply Kd.fQ));exact Kd.gJ HO0.o (fun _ hk=>⟨hk,(by simp[Value.ownBlock])⟩)⟩,⟨by repeat (first|(with_reducible first | exact HB.o | apply q4 | apply q5 | apply q6)|exact HB.o)⟩⟩
 case round=>
  clear H'
  try clear p2
  obtain⟨x7_1,x12_1,rfl,HA,HK1,HO_7,HO_10,HB⟩:=hrel
  cases gk with
  | zero=>exact absurd HA.o (by simp[aW.l0])
  | succ k1=>
   have H:=HA.o
   clear HA
   simp only[aW.l0] at H
   by_cases c4:x12_1<(l0.length:Int)
   ·
    rw[if_pos c4] at H
    have c4b0:decide (x12_1<(l0.length:Int))=true:=decide_eq_true c4
    clear c4
    by_cases c5:0≤x12_1
    ·
     rw[if_pos c5] at H
     have c5b0:decide (0≤x12_1)=true:=decide_eq_true c5
     clear c5
     by_cases c6:x12_1<(l0.length:Int)
     ·
      rw[if_pos c6] at H
      have c6b0:decide (x12_1<(l0.length:Int))=true:=decide_eq_true c6
      clear c6
      by_cases c7:x12_1<a1
      ·
       rw[if_pos c7] at H
       have c7b0:decide (x12_1<a1)=true:=decide_eq_true c7
       clear c7
       by_cases c8:(((aK l0 x12_1).f0).length:Int)≤10
       ·
        rw[if_pos c8] at H
        have c8b0:decide ((((aK l0 x12_1).f0).length:Int)≤10)=true:=decide_eq_true c8
        have c8b1:decide (((aK l0 x12_1).f0).length≤10)=true:=decide_eq_true (by omega)
        clear c8
        obtain⟨ji9,hji9⟩:∃ j_:Int,(mn (((aK l0 x12_1).f1).length:Int) a2)=j_:=⟨_,rfl⟩
        replace H:(if 0≤(ji9) then (if (ji9)≤(((aK l0 x12_1).f1).length:Int) then (if x7_1.length<2932031007402 then (aW.l0 k1 a1 a2 (x7_1++[(⟨(aK l0 x12_1).f0,(((aK l0 x12_1).f1).take ((ji9):Int).toNat)⟩:cB)]) l0 (l0.length:Int) (wrap64 (x12_1+1))) else (none)) else (none)) else (none))=some r:=by first|(rw[hji9] at H;exact H)|(simp only[hji9] at H ⊢;exact H)
        have hji9_:(if a2<(((aK l0 x12_1).f1).length:Int) then a2 else (((aK l0 x12_1).f1).length:Int))=ji9:=hji9
        by_cases c10:0≤(ji9)
        ·
         rw[if_pos c10] at H
         have c10b0:=eq_true c10
         have c10b1:decide (0≤(ji9))=true:=decide_eq_true c10
         clear c10
         by_cases c11:(ji9)≤(((aK l0 x12_1).f1).length:Int)
         ·
          rw[if_pos c11] at H
          have c11b0:=eq_true c11
          have c11b1:decide ((ji9)≤(((aK l0 x12_1).f1).length:Int))=true:=decide_eq_true c11
          clear c11
          obtain⟨y103,hy103⟩:∃ y_:List (bN),y_=(((aK l0 x12_1).f1).take ((ji9):Int).toNat):=⟨_,rfl⟩
          replace H:(if x7_1.length<2932031007402 then (aW.l0 k1 a1 a2 (x7_1++[(⟨(aK l0 x12_1).f0,y103⟩:cB)]) l0 (l0.length:Int) (wrap64 (x12_1+1))) else (none))=some r:=by first|(rw[hy103];with_reducible exact H)|(have H2_:=(Option.bind_some _ _).symm.trans H;rw[hy103];with_reducible exact H2_)|(have H2_:=(Option.bind_some _ _).symm.trans H;with_reducible exact H2_)|with_reducible exact H | (rw[hy103];exact H)|exact H
          have Ny103:=ah.mk hy103
          clear hy103
          by_cases c12:x7_1.length<2932031007402
          ·
           rw[if_pos c12] at H
           have LMc12:=ah.mk c12
           clear c12
           obtain⟨y108,hy108⟩:∃ y_:List (cB),y_=(x7_1++[(⟨(aK l0 x12_1).f0,y103⟩:cB)]):=⟨_,rfl⟩
           replace H:(aW.l0 k1 a1 a2 y108 l0 (l0.length:Int) (wrap64 (x12_1+1)))=some r:=by first|(rw[hy108];with_reducible exact H)|(have H2_:=(Option.bind_some _ _).symm.trans H;rw[hy108];with_reducible exact H2_)|(have H2_:=(Option.bind_some _ _).symm.trans H;with_reducible exact H2_)|with_reducible exact H | (rw[hy108];exact H)|exact H
           have Ny108:=ah.mk hy108
           clear hy108
           have H':=ah.mk H
           clear H
           have p101:0≤(x12_1:Int):=of_decide_eq_true (by first|(with_reducible assumption)|assumption)
           have q101:x12_1<(l0.length:Int):=of_decide_eq_true (by first|(with_reducible assumption)|assumption)
           obtain⟨ad101,A101_0,c101_0,A101_1,c101_1,e101,hx101_0,hx101_1,hl101_0,hi101_0,hl101_1,hi101_1⟩:=iR (Kd.jM HO_10.o).2.2 x12_1 p101 q101
           cases e101
           obtain⟨ce101,hce101,hMe101,hcc101⟩:=Kd.Je HO_10.o z51 x12_1 p101 (by first | exact q101 | exact of_decide_eq_true (by first|(with_reducible assumption)|assumption)|(have e_:=(Kd.jM HO_10.o).1;omega))
           obtain⟨ua101_0,uc101_0,ua101_1,uc101_1,rfl,ul101_0,ge101_0,ul101_1,ge101_1⟩:=rZ hMe101
           have hv101_0:=hcc101 0 _ rfl
           rw[Nat.add_zero] at hv101_0
           replace hv101_0:=Option.some.inj (hv101_0.symm.trans hx101_0)
           injection hv101_0 with hva_ hvn_ hvc_
           rw[hva_] at ge101_0
           rw[hvc_] at ul101_0
           have HL101_0:=ah.mk (show Kd.V iM 68 _ w.heap.size _ _ ((aK l0 x12_1).f0) from Kd.Bl ul101_0 ge101_0)
           clear hva_ hvn_ hvc_ ge101_0 ul101_0
           have hv101_1:=hcc101 1 _ rfl
           rw[gD _ _ 1 (by omega)] at hv101_1
           replace hv101_1:=Option.some.inj (hv101_1.symm.trans hx101_1)
           injection hv101_1 with hva_ hvn_ hvc_
           rw[hva_] at ge101_1
           rw[hvc_] at ul101_1
           have HL101_1:=ah.mk (show Kd.V jg 70 _ w.heap.size _ _ ((aK l0 x12_1).f1) from Kd.Bl ul101_1 ge101_1)
           clear hva_ hvn_ hvc_ ge101_1 ul101_1
           clear hcc101 hce101
           have HR101_0:=ah.mk hi101_0
           have HC101_0:=ah.mk hl101_0
           clear hi101_0 hl101_0
           have HR101_1:=ah.mk hi101_1
           have HC101_1:=ah.mk hl101_1
           clear hi101_1 hl101_1
           replace p101:=eq_true p101
           replace q101:=eq_true q101
           try go_wp2_with (first|((with_reducible refine bM (N:=9) rfl ?_);(try (refine dI (by rfl) ?_;dsimp only));refine cZ ?hg (N:=9) ?hd (cs := #[.slice none 0 0,.slice none 0 0]) (t:=51) ?hr ?_;(case hd=>rfl);(case hg=>rfl);(case hr=>first|(go_simp;done)|(go_simp;rfl));intro gb102 hg w13 hbox hb;have n0_:=ah.mk (Kd.iO (Kd.vB (by (with_reducible repeat (first | apply Kd.iJ | apply Kd.j3 | apply Kd.jR));exact HO_7.o) gb102 (Nat.le_of_eq hg.symm)) hb);have n1_:=ah.mk (Kd.ko (Kd.jm (by (with_reducible repeat (first | apply Kd.fC | apply Kd.fD | apply Kd.fQ));exact HO_10.o) gb102 (Nat.le_of_eq hg.symm)) hb);have n2_:=ah.mk (Kd.ko (Kd.jm (by (with_reducible repeat (first | apply Kd.fC | apply Kd.fD | apply Kd.fQ));exact HL101_0.o) gb102 (Nat.le_of_eq hg.symm)) hb);have n3_:=ah.mk (Kd.ko (Kd.jm (by (with_reducible repeat (first | apply Kd.fC | apply Kd.fD | apply Kd.fQ));exact HL101_1.o) gb102 (Nat.le_of_eq hg.symm)) hb);have n4_:=ah.mk (Kd.aH (by repeat (first|(with_reducible exact HR101_0.o)|(with_reducible refine Kd.bW ?_ _)|(with_reducible refine Kd.dA ?_ _)|(with_reducible refine Kd.dF ?_)|exact HR101_0.o)) hb);have n5_:=ah.mk (Kd.aH (by repeat (first|(with_reducible exact HR101_1.o)|(with_reducible refine Kd.bW ?_ _)|(with_reducible refine Kd.dA ?_ _)|(with_reducible refine Kd.dF ?_)|exact HR101_1.o)) hb);have n6_:=ah.mk (ak (by repeat (first|(with_reducible first | exact HB.o | apply q4 | apply q5 | apply q6)|exact HB.o)) hb);have n7_:=ah.mk (hbox);have n8_:=ah.mk ((by rw[hg];exact (aZ (by repeat (first|(with_reducible first | exact HB.o | apply q4 | apply q5 | apply q6)|exact HB.o))):w.heap.size≤gb102));have n9_:=ah.mk ((by rw[hg];exact (aZ (by repeat (first|(with_reducible first | exact HB.o | apply q4 | apply q5 | apply q6)|exact HB.o))):w.heap.size≤gb102));clear HO_7;clear HO_10;clear HL101_0;clear HL101_1;clear HR101_0;clear HR101_1;clear HB;have HO_7:=n0_;have HO_10:=n1_;have HL101_0:=n2_;have HL101_1:=n3_;have HR101_0:=n4_;have HR101_1:=n5_;have HB:=n6_;have BK102:=n7_;have GW102:=n8_;have GE102:=n9_;clear n0_ n1_ n2_ n3_ n4_ n5_ n6_ n7_ n8_ n9_;clear hb hbox hg;have hcz14_0:=Qj BK102.o;have hcz14_1:=Qk BK102.o;have hfz14_0:=aC BK102.o 0;have hfz14_1:=aC BK102.o 1))
           have n0_:ah (Kd.N mK 51 ((w13.setCell ⟨gb102,0,none⟩ (.slice A101_0 ((aK l0 x12_1).f0).length c101_0)).setCell ⟨gb102,1,none⟩ (.slice A101_1 ((aK l0 x12_1).f1).length c101_1)) w.heap.size (fun k_=>(P0_ k_∨w.heap.size≤k_)∧k_≠gb102) u7 x7_1):=⟨by (with_reducible repeat (first | apply Kd.iJ | apply Kd.j3 | apply Kd.jR));exact Kd.mF (Kd.sV (p:=⟨gb102,1,none⟩) (Kd.sV (p:=⟨gb102,0,none⟩) (Kd.mF HO_7.o (fun k_ hk=>(⟨hk,hk.2⟩:_∧k_≠gb102))) (fun _ hk=>hk.2) (.slice A101_0 ((aK l0 x12_1).f0).length c101_0)) (fun _ hk=>hk.2) (.slice A101_1 ((aK l0 x12_1).f1).length c101_1)) (fun _ hk=>⟨hk.1.1,hk.1.2⟩)⟩
           have n1_:ah (Kd.V mK 51 ((w13.setCell ⟨gb102,0,none⟩ (.slice A101_0 ((aK l0 x12_1).f0).length c101_0)).setCell ⟨gb102,1,none⟩ (.slice A101_1 ((aK l0 x12_1).f1).length c101_1)) w.heap.size (fun k_=>(P0_ k_∨w.heap.size≤k_)∧some k_≠(u7:Value).ownBlock∧k_≠gb102) (.slice (some ad101) l0.length c0) l0):=⟨by (with_reducible repeat (first | apply Kd.fC | apply Kd.fD | apply Kd.fQ));exact Kd.gJ (Kd.o9 (p:=⟨gb102,1,none⟩) (Kd.o9 (p:=⟨gb102,0,none⟩) (Kd.gJ HO_10.o (fun k_ hk=>(⟨hk,hk.2⟩:_∧k_≠gb102))) (fun _ hk=>hk.2) (.slice A101_0 ((aK l0 x12_1).f0).length c101_0)) (fun _ hk=>hk.2) (.slice A101_1 ((aK l0 x12_1).f1).length c101_1)) (fun _ hk=>⟨hk.1.1.1,⟨hk.1.1.2,hk.1.2⟩⟩)⟩
           have n2_:ah (Kd.V iM 68 ((w13.setCell ⟨gb102,0,none⟩ (.slice A101_0 ((aK l0 x12_1).f0).length c101_0)).setCell ⟨gb102,1,none⟩ (.slice A101_1 ((aK l0 x12_1).f1).length c101_1)) w.heap.size (fun k_=>(P0_ k_∨w.heap.size≤k_)∧some k_≠(u7:Value).ownBlock∧k_≠gb102) (.slice A101_0 ((aK l0 x12_1).f0).length c101_0) ((aK l0 x12_1).f0)):=⟨by (with_reducible repeat (first | apply Kd.fC | apply Kd.fD | apply Kd.fQ));exact Kd.gJ (Kd.o9 (p:=⟨gb102,1,none⟩) (Kd.o9 (p:=⟨gb102,0,none⟩) (Kd.gJ HL101_0.o (fun k_ hk=>(⟨hk,hk.2⟩:_∧k_≠gb102))) (fun _ hk=>hk.2) (.slice A101_0 ((aK l0 x12_1).f0).length c101_0)) (fun _ hk=>hk.2) (.slice A101_1 ((aK l0 x12_1).f1).length c101_1)) (fun _ hk=>⟨hk.1.1.1,⟨hk.1.1.2,hk.1.2⟩⟩)⟩
           have n3_:ah (Kd.V jg 70 ((w13.setCell ⟨gb102,0,none⟩ (.slice A101_0 ((aK l0 x12_1).f0).length c101_0)).setCell ⟨gb102,1,none⟩ (.slice A101_1 ((aK l0 x12_1).f1).length c101_1)) w.heap.size (fun k_=>(P0_ k_∨w.heap.size≤k_)∧some k_≠(u7:Value).ownBlock∧k_≠gb102) (.slice A101_1 ((aK l0 x12_1).f1).length c101_1) ((aK l0 x12_1).f1)):=⟨by (with_reducible repeat (first | apply Kd.fC | apply Kd.fD | apply Kd.fQ));exact Kd.gJ (Kd.o9 (p:=⟨gb102,1,none⟩) (Kd.o9 (p:=⟨gb102,0,none⟩) (Kd.gJ HL101_1.o (fun k_ hk=>(⟨hk,hk.2⟩:_∧k_≠gb102))) (fun _ hk=>hk.2) (.slice A101_0 ((aK l0 x12_1).f0).length c101_0)) (fun _ hk=>hk.2) (.slice A101_1 ((aK l0 x12_1).f1).length c101_1)) (fun _ hk=>⟨hk.1.1.1,⟨hk.1.1.2,hk.1.2⟩⟩)⟩
           have n4_:ah (((w13.setCell ⟨gb102,0,none⟩ (.slice A101_0 ((aK l0 x12_1).f0).length c101_0)).setCell ⟨gb102,1,none⟩ (.slice A101_1 ((aK l0 x12_1).f1).length c101_1)).heap[gb102]? = some (.cells #[.slice A101_0 ((aK l0 x12_1).f0).length c101_0,.slice A101_1 ((aK l0 x12_1).f1).length c101_1] 51 (0,0))):=⟨by (with_reducible repeat (first | refine q1 ?_ _ | refine q2 ?_ | refine q3 ?_ _));refine bK (cs := #[.slice A101_0 ((aK l0 x12_1).f0).length c101_0,.slice none 0 0]) ?_ 1 _ rfl;(with_reducible repeat (first | refine q1 ?_ _ | refine q2 ?_ | refine q3 ?_ _));refine bK (cs := #[.slice none 0 0,.slice none 0 0]) ?_ 0 _ rfl;(with_reducible repeat (first | refine q1 ?_ _ | refine q2 ?_ | refine q3 ?_ _));exact BK102.o⟩
           have n5_:ah (Below w.heap.size w ((w13.setCell ⟨gb102,0,none⟩ (.slice A101_0 ((aK l0 x12_1).f0).length c101_0)).setCell ⟨gb102,1,none⟩ (.slice A101_1 ((aK l0 x12_1).f1).length c101_1))):=⟨by repeat (first|(with_reducible first | exact HB.o | apply q4 | apply q5 | apply q6 | refine q7 ?_ GE102.o)|exact HB.o)⟩
           (try clear HO_7)
           (try clear HO_10)
           (try clear HL101_0)
           (try clear HL101_1)
           (try clear BK102)
           (try clear HB)
           generalize ((w13.setCell ⟨gb102,0,none⟩ (.slice A101_0 ((aK l0 x12_1).f0).length c101_0)).setCell ⟨gb102,1,none⟩ (.slice A101_1 ((aK l0 x12_1).f1).length c101_1))=w15 at n0_ n1_ n2_ n3_ n4_ n5_ ⊢
           have HO_7:=n0_
           have HO_10:=n1_
           have HL101_0:=n2_
           have HL101_1:=n3_
           have BK102:=n4_
           have HB:=n5_
           clear n0_ n1_ n2_ n3_ n4_ n5_
           have n0_:=ah.mk (Kd.jR HO_7.o)
           have n1_:=ah.mk (Kd.fQ HO_10.o)
           have n2_:=ah.mk (Kd.fQ HL101_0.o)
           have n3_:=ah.mk (Kd.fQ HL101_1.o)
           have n4_:=ah.mk (q2 BK102.o)
           have n5_:=ah.mk (q6 HB.o)
           clear HO_7
           clear HO_10
           clear HL101_0
           clear HL101_1
           clear BK102
           clear HB
           have HO_7:=n0_
           have HO_10:=n1_
           have HL101_0:=n2_
           have HL101_1:=n3_
           have BK102:=n4_
           have HB:=n5_
           clear n0_ n1_ n2_ n3_ n4_ n5_
           have q17:((ji9):Int)≤((((aK l0 x12_1).f1).length:Int):Int):=of_decide_eq_true (by first|(with_reducible assumption)|assumption)
           obtain⟨i017,hi017,_,hsz17,_⟩:=info_parts wI
           have hroom17:((aK l0 x12_1).f1).length≤c101_1:=HC101_1.o
           have hC17:Kd.F jg _ _ A101_1 ((aK l0 x12_1).f1).length ((aK l0 x12_1).f1):=(Kd.Jd (base:=w.heap.size) HL101_1.o).2.2
           have hcut17:=rO (P:=Tryz.prog) 49 70 .i64 Tryz.underlying49 hi017 A101_1 ((aK l0 x12_1).f1).length c101_1 (ji9) (of_decide_eq_true (by first|(with_reducible assumption)|assumption)) q17 hroom17
           have hr17:=Kd.IW (m:=((ji9):Int).toNat) hC17 (by omega)
           have hy17:y103.length=((ji9):Int).toNat:=(by rw[Ny103.o,List.length_take];omega)
           rw[← Ny103.o] at hr17
           rw[← hy17] at hcut17
           have HO107:=ah.mk (show Kd.V jg 70 _ w.heap.size _ (.slice A101_1 y103.length c101_1) y103 from Kd.Bl (by omega) hr17)
           have HC107:=ah.mk (show y103.length≤c101_1 from by omega)
           clear hr17 hC17 hroom17 hi017 hsz17
           have KY17:=ah.mk hy17
           clear hy17
           replace q17:=eq_true q17
           refine EZ (n:=15) (S:=fun w'=>w'.cell? ⟨gb102,0,none⟩=some (.slice A101_0 ((aK l0 x12_1).f0).length c101_0)∧w'.cell? ⟨gb102,1,none⟩=some (.slice A101_1 ((aK l0 x12_1).f1).length c101_1)) (ds:=[]) #[false,false,false,false,false,false,false,false,false,false,false,false,false,false,false] (by kernel_rfl) rfl rfl ⟨(av BK102.o 0).trans rfl,(av BK102.o 1).trans rfl⟩ (fun hHeld=>?_);refine IC aW.Qp aW.O9 (fun HT_ HW_=>?_)
           generalize w15.drew=w16 at HO_7 HO_10 HL101_0 HL101_1 BK102 HB HO107 hHeld ⊢
           refine gZ (i:=0) (N:=some 26) (v:=?_) (a':=?_) #[true,false,false,false,false,false,false,false,false,false,false,false,false,false,false] rfl rfl (lQ HT_.o (by kernel_rfl)) (fun _ _ _ h=>h) (Or.inl ⟨by rfl,?_⟩) ?_ ?_
           rotate_left
           ·
            intro w'
            go_simp
            with_reducible rfl
           rotate_left
           ·
            simp only[Act.put,qb,qc,qd,dw,fu]
            rfl
           refine gZ (i:=1) (N:=some 27) (v:=?_) (a':=?_) #[true,true,false,false,false,false,false,false,false,false,false,false,false,false,false] rfl rfl (lQ HT_.o (by kernel_rfl)) (fun _ _ _ h=>h) (Or.inl ⟨by rfl,?_⟩) ?_ ?_
           rotate_left
           ·
            intro w'
            go_simp
            with_reducible rfl
           rotate_left
           ·
            simp only[Act.put,qb,qc,qd,dw,fu]
            rfl
           refine gZ (i:=3) (N:=some 29) (v:=?_) (a':=?_) #[true,true,false,true,false,false,false,false,false,false,false,false,false,false,false] rfl rfl (lQ HT_.o (by kernel_rfl)) (fun _ _ _ h=>h) (Or.inl ⟨by rfl,?_⟩) ?_ ?_
           rotate_left
           ·
            intro w'
            go_simp
            with_reducible rfl
           rotate_left
           ·
            simp only[Act.put,qb,qc,qd,dw,fu]
            rfl
           refine gZ (i:=5) (N:=some 31) (v:=?_) (a':=?_) #[true,true,false,true,false,true,false,false,false,false,false,false,false,false,false] rfl rfl (lQ HT_.o (by kernel_rfl)) (fun _ _ _ h=>h) (Or.inl ⟨by rfl,?_⟩) ?_ ?_
           rotate_left
           ·
            intro w'
            go_simp
            with_reducible rfl
           rotate_left
           ·
            simp only[Act.put,qb,qc,qd,dw,fu]
            rfl
           refine gZ (i:=8) (N:=some 34) (v:=?_) (a':=?_) #[true,true,false,true,false,true,false,false,true,false,false,false,false,false,false] rfl rfl (lQ HT_.o (by kernel_rfl)) (fun _ _ _ h=>h) (Or.inl ⟨by rfl,?_⟩) ?_ ?_
           rotate_left
           ·
            intro w'
            go_simp
            with_reducible rfl
           rotate_left
           ·
            simp only[Act.put,qb,qc,qd,dw,fu]
            rfl
           refine uh (i:=2) (N:=some 28) (v:=?_) (a':=?_) #[true,true,true,true,false,true,false,false,true,false,false,false,false,false,false] rfl rfl (xD HT_.o HW_.o (by kernel_rfl)) (fun _ _ _ h=>h) (Or.inl ⟨by rfl,?_⟩) hHeld ?_ ?_
           rotate_left
           ·
            rintro w' ⟨s0,s1⟩
            go_simp
            with_reducible rfl
           rotate_left
           ·
            simp only[Act.put,qb,qc,qd,dw,fu]
            rfl
           refine uh (i:=4) (N:=some 30) (v:=?_) (a':=?_) #[true,true,true,true,true,true,false,false,true,false,false,false,false,false,false] rfl rfl (xD HT_.o HW_.o (by kernel_rfl)) (fun _ _ _ h=>h) (Or.inl ⟨by rfl,?_⟩) hHeld ?_ ?_
           rotate_left
           ·
            rintro w' ⟨s0,s1⟩
            go_simp
            with_reducible rfl
           rotate_left
           ·
            simp only[Act.put,qb,qc,qd,dw,fu]
            rfl
           refine uh (i:=6) (N:=some 32) (v:=?_) (a':=?_) #[true,true,true,true,true,true,true,false,true,false,false,false,false,false,false] rfl rfl (xD HT_.o HW_.o (by kernel_rfl)) (fun _ _ _ h=>h) (Or.inl ⟨by rfl,?_⟩) hHeld ?_ ?_
           rotate_left
           ·
            rintro w' ⟨s0,s1⟩
            go_simp
            with_reducible rfl
           rotate_left
           ·
            simp only[Act.put,qb,qc,qd,dw,fu]
            rfl
           refine gZ (i:=7) (N:=some 33) (v:=?_) (a':=?_) #[true,true,true,true,true,true,true,true,true,false,false,false,false,false,false] rfl rfl (lQ HT_.o (by kernel_rfl)) (fun _ _ _ h=>h) (Or.inl ⟨by rfl,?_⟩) ?_ ?_
           rotate_left
           ·
            intro w'
            go_simp
            with_reducible rfl
           rotate_left
           ·
            simp only[Act.put,qb,qc,qd,dw,fu]
            rfl
           refine gZ (i:=9) (N:=some 35) (v:=?_) (a':=?_) #[true,true,true,true,true,true,true,true,true,true,false,false,false,false,false] rfl rfl (lQ HT_.o (by kernel_rfl)) (fun _ _ _ h=>h) (Or.inl ⟨by rfl,?_⟩) ?_ ?_
           rotate_left
           ·
            intro w'
            go_simp
            with_reducible rfl
           rotate_left
           ·
            simp only[Act.put,qb,qc,qd,dw,fu]
            rfl
           refine gZ (i:=10) (N:=some 36) (v:=?_) (a':=?_) #[true,true,true,true,true,true,true,true,true,true,true,false,false,false,false] rfl rfl (lQ HT_.o (by kernel_rfl)) (fun _ _ _ h=>h) (Or.inl ⟨by rfl,?_⟩) ?_ ?_
           rotate_left
           ·
            intro w'
            go_simp
            with_reducible rfl
           rotate_left
           ·
            simp only[Act.put,qb,qc,qd,dw,fu]
            rfl
           refine gZ (i:=11) (N:=some 37) (v:=?_) (a':=?_) #[true,true,true,true,true,true,true,true,true,true,true,true,false,false,false] rfl rfl (lQ HT_.o (by kernel_rfl)) (fun _ _ _ h=>h) (Or.inl ⟨by rfl,?_⟩) ?_ ?_
           rotate_left
           ·
            intro w'
            go_simp
            with_reducible rfl
           rotate_left
           ·
            simp only[Act.put,qb,qc,qd,dw,fu]
            rfl
           refine Ms (i:=12) (N:=some 38) #[true,true,true,true,true,true,true,true,true,true,true,true,true,false,false] rfl rfl (Kl HT_.o (by kernel_rfl)) (by decide) (fun K hK=>?_)
           refine OM (w1:=?_) (v:=?_) (by rfl) rfl ?_ ?_
           rotate_left 2
           ·
            go_simp
            constructor
            ·
             rfl
            ·
             rfl
           refine hK.o _ _ ⟨(av (q3 BK102.o _) 0).trans rfl,(av (q3 BK102.o _) 1).trans rfl⟩ (fun hHeld=>?_)
           clear hK K
           refine CP (a':=?_) ?_ ?_
           rotate_left
           ·
            show Act.put _ (some 38) _=_
            simp only[Act.put,qb,qc,qd,dw,fu]
            rfl
           refine Ms (i:=13) (N:=some 39) #[true,true,true,true,true,true,true,true,true,true,true,true,true,true,false] rfl rfl (Kl HT_.o (by kernel_rfl)) (by decide) (fun K hK=>?_)
           refine Kd.iF mK (w0:=w) w.heap.size (by rfl) (.tmp 26) (.tmp 38) 22 51 (.agg #[(.slice none 0 0),(.slice none 0 0)]) 48 rfl Tryz.underlying22 wH rfl (by decide) (by omega) u7 x7_1 (⟨(aK l0 x12_1).f0,y103⟩:cB) [.slice A101_0 ((aK l0 x12_1).f0).length c101_0,.slice A101_1 y103.length c101_1] (fun k_=>(P0_ k_∨w.heap.size≤k_)∧k_≠gb102) (fun k_=>((fun k_=>(P0_ k_∨w.heap.size≤k_)∧k_≠gb102)) k_∧some k_≠(u7:Value).ownBlock) rfl rfl ?aP (fun _ hk=>hk) ?aF ?aO ?aB ?aS ?aL ?_
           (case aP=>exact (Mh _ _ (⟨(aK l0 x12_1).f0,y103⟩:cB) (Kd.jM (Kd.gJ (ok':=(fun k_=>((fun k_=>(P0_ k_∨w.heap.size≤k_)∧k_≠gb102)) k_∧some k_≠(u7:Value).ownBlock)) (HL101_0.o) (fun k_ hk=>⟨⟨hk.1,hk.2.2⟩,hk.2.1⟩))).2.1 (Kd.Qg (Kd.gJ (ok':=(fun k_=>((fun k_=>(P0_ k_∨w.heap.size≤k_)∧k_≠gb102)) k_∧some k_≠(u7:Value).ownBlock)) (HL101_0.o) (fun k_ hk=>⟨⟨hk.1,hk.2.2⟩,hk.2.1⟩))) (Kd.jM (Kd.gJ (ok':=(fun k_=>((fun k_=>(P0_ k_∨w.heap.size≤k_)∧k_≠gb102)) k_∧some k_≠(u7:Value).ownBlock)) (HO107.o) (fun k_ hk=>⟨⟨hk.1,hk.2.2⟩,hk.2.1⟩))).2.1 (Kd.Qg (Kd.gJ (ok':=(fun k_=>((fun k_=>(P0_ k_∨w.heap.size≤k_)∧k_≠gb102)) k_∧some k_≠(u7:Value).ownBlock)) (HO107.o) (fun k_ hk=>⟨⟨hk.1,hk.2.2⟩,hk.2.1⟩)))))
           (case aB=>exact (by repeat (first|(with_reducible first | exact HB.o | apply q4 | apply q5 | apply q6 | refine q7 ?_ GE102.o)|exact HB.o)))
           (case aF=>exact (fun k_ hk=>⟨(.inr (Nat.le_trans (aZ (by repeat (first|(with_reducible first | exact HB.o | apply q4 | apply q5 | apply q6 | refine q7 ?_ GE102.o)|exact HB.o))) hk)),Kd.Od (g:=gb102) (o := .cells #[.slice A101_0 ((aK l0 x12_1).f0).length c101_0,.slice A101_1 ((aK l0 x12_1).f1).length c101_1] 51 (0,0)) (by (with_reducible repeat (first | refine q1 ?_ _ | refine q2 ?_ | refine q3 ?_ _));exact BK102.o) k_ hk⟩))
           (case aO=>exact (by (with_reducible repeat (first | apply Kd.iJ | apply Kd.j3 | apply Kd.jR));exact HO_7.o))
           (case aS=>exact (aZ (by repeat (first|(with_reducible first | exact HB.o | apply q4 | apply q5 | apply q6 | refine q7 ?_ GE102.o)|exact HB.o))))
           (case aL=>have:=LMc12.o;omega)
           intro v109 w18 ho hb hg hat
           rw[← Ny108.o] at ho
           have n0_:=ah.mk (Kd.qy (ok:=(fun k_=>(P0_ k_∨w.heap.size≤k_)∧k_≠gb102)) (by (with_reducible repeat (first | apply Kd.fC | apply Kd.fD | apply Kd.fQ));exact Kd.gJ HO_10.o (fun _ hk=>⟨⟨hk.1,hk.2.2⟩,hk.2.1⟩)) hg hat)
           have n1_:=ah.mk (Kd.qy (ok:=(fun k_=>(P0_ k_∨w.heap.size≤k_)∧k_≠gb102)) (by (with_reducible repeat (first | apply Kd.fC | apply Kd.fD | apply Kd.fQ));exact Kd.gJ HL101_0.o (fun _ hk=>⟨⟨hk.1,hk.2.2⟩,hk.2.1⟩)) hg hat)
           have n2_:=ah.mk (Kd.qy (ok:=(fun k_=>(P0_ k_∨w.heap.size≤k_)∧k_≠gb102)) (by (with_reducible repeat (first | apply Kd.fC | apply Kd.fD | apply Kd.fQ));exact Kd.gJ HL101_1.o (fun _ hk=>⟨⟨hk.1,hk.2.2⟩,hk.2.1⟩)) hg hat)
           have n3_:=ah.mk (dM (g:=gb102) (o := .cells #[.slice A101_0 ((aK l0 x12_1).f0).length c101_0,.slice A101_1 ((aK l0 x12_1).f1).length c101_1] 51 (0,0)) (by (with_reducible repeat (first | refine q1 ?_ _ | refine q2 ?_ | refine q3 ?_ _));exact BK102.o) hg (Kd.NK HO_7.o (fun _ hk=>hk.2)))
           have n4_:=ah.mk (Kd.qy (ok:=(fun k_=>(P0_ k_∨w.heap.size≤k_)∧k_≠gb102)) (by (with_reducible repeat (first | apply Kd.fC | apply Kd.fD | apply Kd.fQ));exact Kd.gJ HO107.o (fun _ hk=>⟨⟨hk.1,hk.2.2⟩,hk.2.1⟩)) hg hat)
           have n5_:=ah.mk (hb)
           have n6_:=ah.mk (ho)
           clear HO_10
           clear HL101_0
           clear HL101_1
           clear BK102
           clear HO107
           clear HB
           clear HO_7
           have HO_10:=n0_
           have HL101_0:=n1_
           have HL101_1:=n2_
           have BK102:=n3_
           have HO107:=n4_
           have HB:=n5_
           have HO110:=n6_
           clear n0_ n1_ n2_ n3_ n4_ n5_ n6_
           clear ho hb hg hat
           refine hK.o _ _ ⟨(av BK102.o 0).trans rfl,(av BK102.o 1).trans rfl⟩ (fun hHeld=>?_)
           clear hK K
           refine CP (a':=?_) ?_ ?_
           rotate_left
           ·
            show Act.put _ (some 39) _=_
            simp only[Act.put,qb,qc,qd,dw,fu]
            rfl
           refine gZ (i:=14) (N:=some 7) (v:=?_) (a':=?_) #[true,true,true,true,true,true,true,true,true,true,true,true,true,true,true] rfl rfl (lQ HT_.o (by kernel_rfl)) (fun _ _ _ h=>h) (Or.inl ⟨by rfl,?_⟩) ?_ ?_
           rotate_left
           ·
            intro w'
            go_simp
            with_reducible rfl
           rotate_left
           ·
            simp only[Act.put,qb,qc,qd,dw,fu]
            rfl
           refine JG (LZ HT_.o (by kernel_rfl)) ?_
           try go_wp2
           go_roundg k1
           case measure=>have:=HK1.o;omega
           case rel=>exact⟨(y108),(wrap64 (x12_1+1)),(by first | rfl | (simp;done)|(simp[*];done)),H',⟨by have:=HK1.o;omega⟩,⟨by (with_reducible repeat (first | apply Kd.iJ | apply Kd.j3 | apply Kd.jR));exact Kd.mF HO110.o (fun _ hk=>hk.1)⟩,⟨by (with_reducible repeat (first | apply Kd.fC | apply Kd.fD | apply Kd.fQ));exact Kd.gJ HO_10.o (fun _ hk=>⟨hk.1.1,hk.2⟩)⟩,⟨by repeat (first|(with_reducible first | exact HB.o | apply q4 | apply q5 | apply q6 | refine q7 ?_ GE102.o)|exact HB.o)⟩⟩
          ·
           rw[if_neg c12] at H
           exact absurd H (by simp)
         ·
          rw[if_neg c11] at H
          exact absurd H (by simp)
        ·
         rw[if_neg c10] at H
         exact absurd H (by simp)
       ·
        rw[if_neg c8] at H
        have c8b0:decide ((((aK l0 x12_1).f0).length:Int)≤10)=false:=decide_eq_false c8
        have c8b1:decide (((aK l0 x12_1).f0).length≤10)=false:=decide_eq_false (by omega)
        clear c8
        have H':=ah.mk H
        clear H
        have p101:0≤(x12_1:Int):=of_decide_eq_true (by first|(with_reducible assumption)|assumption)
        have q101:x12_1<(l0.length:Int):=of_decide_eq_true (by first|(with_reducible assumption)|assumption)
        obtain⟨ad101,A101_0,c101_0,A101_1,c101_1,e101,hx101_0,hx101_1,hl101_0,hi101_0,hl101_1,hi101_1⟩:=iR (Kd.jM HO_10.o).2.2 x12_1 p101 q101
        cases e101
        obtain⟨ce101,hce101,hMe101,hcc101⟩:=Kd.Je HO_10.o z51 x12_1 p101 (by first | exact q101 | exact of_decide_eq_true (by first|(with_reducible assumption)|assumption)|(have e_:=(Kd.jM HO_10.o).1;omega))
        obtain⟨ua101_0,uc101_0,ua101_1,uc101_1,rfl,ul101_0,ge101_0,ul101_1,ge101_1⟩:=rZ hMe101
        have hv101_0:=hcc101 0 _ rfl
        rw[Nat.add_zero] at hv101_0
        replace hv101_0:=Option.some.inj (hv101_0.symm.trans hx101_0)
        injection hv101_0 with hva_ hvn_ hvc_
        rw[hva_] at ge101_0
        rw[hvc_] at ul101_0
        have HL101_0:=ah.mk (show Kd.V iM 68 _ w.heap.size _ _ ((aK l0 x12_1).f0) from Kd.Bl ul101_0 ge101_0)
        clear hva_ hvn_ hvc_ ge101_0 ul101_0
        have hv101_1:=hcc101 1 _ rfl
        rw[gD _ _ 1 (by omega)] at hv101_1
        replace hv101_1:=Option.some.inj (hv101_1.symm.trans hx101_1)
        injection hv101_1 with hva_ hvn_ hvc_
        rw[hva_] at ge101_1
        rw[hvc_] at ul101_1
        have HL101_1:=ah.mk (show Kd.V jg 70 _ w.heap.size _ _ ((aK l0 x12_1).f1) from Kd.Bl ul101_1 ge101_1)
        clear hva_ hvn_ hvc_ ge101_1 ul101_1
        clear hcc101 hce101
        have HR101_0:=ah.mk hi101_0
        have HC101_0:=ah.mk hl101_0
        clear hi101_0 hl101_0
        have HR101_1:=ah.mk hi101_1
        have HC101_1:=ah.mk hl101_1
        clear hi101_1 hl101_1
        replace p101:=eq_true p101
        replace q101:=eq_true q101
        go_wp2_with (first|((with_reducible refine bM (N:=9) rfl ?_);(try (refine dI (by rfl) ?_;dsimp only));refine cZ ?hg (N:=9) ?hd (cs := #[.slice none 0 0,.slice none 0 0]) (t:=51) ?hr ?_;(case hd=>rfl);(case hg=>rfl);(case hr=>first|(go_simp;done)|(go_simp;rfl));intro gb102 hg w19 hbox hb;have n0_:=ah.mk (Kd.iO (Kd.vB (by (with_reducible repeat (first | apply Kd.iJ | apply Kd.j3 | apply Kd.jR));exact HO_7.o) gb102 (Nat.le_of_eq hg.symm)) hb);have n1_:=ah.mk (Kd.ko (Kd.jm (by (with_reducible repeat (first | apply Kd.fC | apply Kd.fD | apply Kd.fQ));exact HO_10.o) gb102 (Nat.le_of_eq hg.symm)) hb);have n2_:=ah.mk (Kd.ko (Kd.jm (by (with_reducible repeat (first | apply Kd.fC | apply Kd.fD | apply Kd.fQ));exact HL101_0.o) gb102 (Nat.le_of_eq hg.symm)) hb);have n3_:=ah.mk (Kd.ko (Kd.jm (by (with_reducible repeat (first | apply Kd.fC | apply Kd.fD | apply Kd.fQ));exact HL101_1.o) gb102 (Nat.le_of_eq hg.symm)) hb);have n4_:=ah.mk (Kd.aH (by repeat (first|(with_reducible exact HR101_0.o)|(with_reducible refine Kd.bW ?_ _)|(with_reducible refine Kd.dA ?_ _)|(with_reducible refine Kd.dF ?_)|exact HR101_0.o)) hb);have n5_:=ah.mk (Kd.aH (by repeat (first|(with_reducible exact HR101_1.o)|(with_reducible refine Kd.bW ?_ _)|(with_reducible refine Kd.dA ?_ _)|(with_reducible refine Kd.dF ?_)|exact HR101_1.o)) hb);have n6_:=ah.mk (ak (by repeat (first|(with_reducible first | exact HB.o | apply q4 | apply q5 | apply q6)|exact HB.o)) hb);have n7_:=ah.mk (hbox);have n8_:=ah.mk ((by rw[hg];exact (aZ (by repeat (first|(with_reducible first | exact HB.o | apply q4 | apply q5 | apply q6)|exact HB.o))):w.heap.size≤gb102));have n9_:=ah.mk ((by rw[hg];exact (aZ (by repeat (first|(with_reducible first | exact HB.o | apply q4 | apply q5 | apply q6)|exact HB.o))):w.heap.size≤gb102));clear HO_7;clear HO_10;clear HL101_0;clear HL101_1;clear HR101_0;clear HR101_1;clear HB;have HO_7:=n0_;have HO_10:=n1_;have HL101_0:=n2_;have HL101_1:=n3_;have HR101_0:=n4_;have HR101_1:=n5_;have HB:=n6_;have BK102:=n7_;have GW102:=n8_;have GE102:=n9_;clear n0_ n1_ n2_ n3_ n4_ n5_ n6_ n7_ n8_ n9_;clear hb hbox hg;have hcz20_0:=Qj BK102.o;have hcz20_1:=Qk BK102.o;have hfz20_0:=aC BK102.o 0;have hfz20_1:=aC BK102.o 1))
        go_roundg k1
        case measure=>have:=HK1.o;omega
        case rel=>exact⟨(x7_1),(wrap64 (x12_1+1)),(by first | rfl | (simp;done)|(simp[*];done)),H',⟨by have:=HK1.o;omega⟩,⟨by (with_reducible repeat (first | apply Kd.iJ | apply Kd.j3 | apply Kd.jR));exact Kd.mF (Kd.sV (p:=⟨gb102,1,none⟩) (Kd.sV (p:=⟨gb102,0,none⟩) (Kd.mF HO_7.o (fun k_ hk=>(⟨hk,hk.2⟩:_∧k_≠gb102))) (fun _ hk=>hk.2) (.slice A101_0 ((aK l0 x12_1).f0).length c101_0)) (fun _ hk=>hk.2) (.slice A101_1 ((aK l0 x12_1).f1).length c101_1)) (fun _ hk=>hk.1.1)⟩,⟨by (with_reducible repeat (first | apply Kd.fC | apply Kd.fD | apply Kd.fQ));exact Kd.gJ (Kd.o9 (p:=⟨gb102,1,none⟩) (Kd.o9 (p:=⟨gb102,0,none⟩) (Kd.gJ HO_10.o (fun k_ hk=>(⟨hk,hk.2⟩:_∧k_≠gb102))) (fun _ hk=>hk.2) (.slice A101_0 ((aK l0 x12_1).f0).length c101_0)) (fun _ hk=>hk.2) (.slice A101_1 ((aK l0 x12_1).f1).length c101_1)) (fun _ hk=>⟨hk.1.1.1,hk.1.1.2⟩)⟩,⟨by repeat (first|(with_reducible first | exact HB.o | apply q4 | apply q5 | apply q6 | refine q7 ?_ GE102.o)|exact HB.o)⟩⟩
      ·
       rw[if_neg c7] at H
       have c7b0:decide (x12_1<a1)=false:=decide_eq_false c7
       clear c7
       have H':=ah.mk H
       clear H
       have p101:0≤(x12_1:Int):=of_decide_eq_true (by first|(with_reducible assumption)|assumption)
       have q101:x12_1<(l0.length:Int):=of_decide_eq_true (by first|(with_reducible assumption)|assumption)
       obtain⟨ad101,A101_0,c101_0,A101_1,c101_1,e101,hx101_0,hx101_1,hl101_0,hi101_0,hl101_1,hi101_1⟩:=iR (Kd.jM HO_10.o).2.2 x12_1 p101 q101
       cases e101
       obtain⟨ce101,hce101,hMe101,hcc101⟩:=Kd.Je HO_10.o z51 x12_1 p101 (by first | exact q101 | exact of_decide_eq_true (by first|(with_reducible assumption)|assumption)|(have e_:=(Kd.jM HO_10.o).1;omega))
       obtain⟨ua101_0,uc101_0,ua101_1,uc101_1,rfl,ul101_0,ge101_0,ul101_1,ge101_1⟩:=rZ hMe101
       have hv101_0:=hcc101 0 _ rfl
       rw[Nat.add_zero] at hv101_0
       replace hv101_0:=Option.some.inj (hv101_0.symm.trans hx101_0)
       injection hv101_0 with hva_ hvn_ hvc_
       rw[hva_] at ge101_0
       rw[hvc_] at ul101_0
       have HL101_0:=ah.mk (show Kd.V iM 68 _ w.heap.size _ _ ((aK l0 x12_1).f0) from Kd.Bl ul101_0 ge101_0)
       clear hva_ hvn_ hvc_ ge101_0 ul101_0
       have hv101_1:=hcc101 1 _ rfl
       rw[gD _ _ 1 (by omega)] at hv101_1
       replace hv101_1:=Option.some.inj (hv101_1.symm.trans hx101_1)
       injection hv101_1 with hva_ hvn_ hvc_
       rw[hva_] at ge101_1
       rw[hvc_] at ul101_1
       have HL101_1:=ah.mk (show Kd.V jg 70 _ w.heap.size _ _ ((aK l0 x12_1).f1) from Kd.Bl ul101_1 ge101_1)
       clear hva_ hvn_ hvc_ ge101_1 ul101_1
       clear hcc101 hce101
       have HR101_0:=ah.mk hi101_0
       have HC101_0:=ah.mk hl101_0
       clear hi101_0 hl101_0
       have HR101_1:=ah.mk hi101_1
       have HC101_1:=ah.mk hl101_1
       clear hi101_1 hl101_1
       replace p101:=eq_true p101
       replace q101:=eq_true q101
       go_wp2_with (first|((with_reducible refine bM (N:=9) rfl ?_);(try (refine dI (by rfl) ?_;dsimp only));refine cZ ?hg (N:=9) ?hd (cs := #[.slice none 0 0,.slice none 0 0]) (t:=51) ?hr ?_;(case hd=>rfl);(case hg=>rfl);(case hr=>first|(go_simp;done)|(go_simp;rfl));intro gb102 hg w21 hbox hb;have n0_:=ah.mk (Kd.iO (Kd.vB (by (with_reducible repeat (first | apply Kd.iJ | apply Kd.j3 | apply Kd.jR));exact HO_7.o) gb102 (Nat.le_of_eq hg.symm)) hb);have n1_:=ah.mk (Kd.ko (Kd.jm (by (with_reducible repeat (first | apply Kd.fC | apply Kd.fD | apply Kd.fQ));exact HO_10.o) gb102 (Nat.le_of_eq hg.symm)) hb);have n2_:=ah.mk (Kd.ko (Kd.jm (by (with_reducible repeat (first | apply Kd.fC | apply Kd.fD | apply Kd.fQ));exact HL101_0.o) gb102 (Nat.le_of_eq hg.symm)) hb);have n3_:=ah.mk (Kd.ko (Kd.jm (by (with_reducible repeat (first | apply Kd.fC | apply Kd.fD | apply Kd.fQ));exact HL101_1.o) gb102 (Nat.le_of_eq hg.symm)) hb);have n4_:=ah.mk (Kd.aH (by repeat (first|(with_reducible exact HR101_0.o)|(with_reducible refine Kd.bW ?_ _)|(with_reducible refine Kd.dA ?_ _)|(with_reducible refine Kd.dF ?_)|exact HR101_0.o)) hb);have n5_:=ah.mk (Kd.aH (by repeat (first|(with_reducible exact HR101_1.o)|(with_reducible refine Kd.bW ?_ _)|(with_reducible refine Kd.dA ?_ _)|(with_reducible refine Kd.dF ?_)|exact HR101_1.o)) hb);have n6_:=ah.mk (ak (by repeat (first|(with_reducible first | exact HB.o | apply q4 | apply q5 | apply q6)|exact HB.o)) hb);have n7_:=ah.mk (hbox);have n8_:=ah.mk ((by rw[hg];exact (aZ (by repeat (first|(with_reducible first | exact HB.o | apply q4 | apply q5 | apply q6)|exact HB.o))):w.heap.size≤gb102));have n9_:=ah.mk ((by rw[hg];exact (aZ (by repeat (first|(with_reducible first | exact HB.o | apply q4 | apply q5 | apply q6)|exact HB.o))):w.heap.size≤gb102));clear HO_7;clear HO_10;clear HL101_0;clear HL101_1;clear HR101_0;clear HR101_1;clear HB;have HO_7:=n0_;have HO_10:=n1_;have HL101_0:=n2_;have HL101_1:=n3_;have HR101_0:=n4_;have HR101_1:=n5_;have HB:=n6_;have BK102:=n7_;have GW102:=n8_;have GE102:=n9_;clear n0_ n1_ n2_ n3_ n4_ n5_ n6_ n7_ n8_ n9_;clear hb hbox hg;have hcz22_0:=Qj BK102.o;have hcz22_1:=Qk BK102.o;have hfz22_0:=aC BK102.o 0;have hfz22_1:=aC BK102.o 1))
       go_roundg k1
       case measure=>have:=HK1.o;omega
       case rel=>exact⟨(x7_1),(wrap64 (x12_1+1)),(by first | rfl | (simp;done)|(simp[*];done)),H',⟨by have:=HK1.o;omega⟩,⟨by (with_reducible repeat (first | apply Kd.iJ | apply Kd.j3 | apply Kd.jR));exact Kd.mF (Kd.sV (p:=⟨gb102,1,none⟩) (Kd.sV (p:=⟨gb102,0,none⟩) (Kd.mF HO_7.o (fun k_ hk=>(⟨hk,hk.2⟩:_∧k_≠gb102))) (fun _ hk=>hk.2) (.slice A101_0 ((aK l0 x12_1).f0).length c101_0)) (fun _ hk=>hk.2) (.slice A101_1 ((aK l0 x12_1).f1).length c101_1)) (fun _ hk=>hk.1.1)⟩,⟨by (with_reducible repeat (first | apply Kd.fC | apply Kd.fD | apply Kd.fQ));exact Kd.gJ (Kd.o9 (p:=⟨gb102,1,none⟩) (Kd.o9 (p:=⟨gb102,0,none⟩) (Kd.gJ HO_10.o (fun k_ hk=>(⟨hk,hk.2⟩:_∧k_≠gb102))) (fun _ hk=>hk.2) (.slice A101_0 ((aK l0 x12_1).f0).length c101_0)) (fun _ hk=>hk.2) (.slice A101_1 ((aK l0 x12_1).f1).length c101_1)) (fun _ hk=>⟨hk.1.1.1,hk.1.1.2⟩)⟩,⟨by repeat (first|(with_reducible first | exact HB.o | apply q4 | apply q5 | apply q6 | refine q7 ?_ GE102.o)|exact HB.o)⟩⟩
     ·
      rw[if_neg c6] at H
      exact absurd H (by simp)
    ·
     rw[if_neg c5] at H
     exact absurd H (by simp)
   ·
    rw[if_neg c4] at H
    have c4b0:decide (x12_1<(l0.length:Int))=false:=decide_eq_false c4
    clear c4
    obtain rfl:=Option.some.inj H
    go_wp2
    go_ret
    exact⟨_,by first | rfl | (simp[bF,bG]<;>rfl)|(simp[*,bF,bG]<;>rfl),by (with_reducible repeat (first | apply Kd.iJ | apply Kd.j3 | apply Kd.jR));exact HO_7.o,by repeat (first|(with_reducible first | exact HB.o | apply q4 | apply q5 | apply q6)|exact HB.o)⟩
end Go.Proofs.YtcgbgifbajdhpaaGreatDoor.PA
namespace Go.Proofs.YtcgbgifbajdhpaaGreatDoor.PA
open Go.RowKit Go.Proofs.YtcgbgifbajdhpaaGreatDoor.G Go.Proofs.YtcgbgifbajdhpaaGreatDoorW.au Go.Proofs.YtcgbgifbajdhpaaGreatDoorW.aI Go.Proofs.YtcgbgifbajdhpaaGreatDoorW.aJ
def Lp (l:List cB) (m2:Nat) (x:cB):Prop:=(∃ y∈l,x.f0=y.f0∧∀ s∈x.f1,s∈y.f1)∧x.f0.length≤10∧x.f1.length≤m2
theorem vY (l:List cB) (hl:l.length≤2932031007402) (m1 m2:Nat):∀ d i,i+d=l.length→∀ (out:List cB),out.length≤i→out.length≤m1→(∀ x∈out,Lp l m2 x)→∃ r,(∀ k,d<k→aW.l0 k (m1:Int) (m2:Int) out l (l.length:Int) (i:Int)=some r)∧r.length≤m1∧∀ x∈r,Lp l m2 x
 | 0,i,h,out,h1,h2,h3=>by
   refine⟨out,fun k hk=>?_,h2,h3⟩
   cases k with
   | zero=>omega
   | succ k=>rw[aW.l0,if_neg (by omega)]
 | d+1,i,h,out,h1,h2,h3=>by
   have hi:i<l.length:=by omega
   have hw:wrap64 ((i:Int)+1)=((i+1:Nat):Int):=by unfold wrap64;omega
   have hm:=mV l i hi
   have hmn:0≤mn ((aK l (i:Int)).f1.length:Int) (m2:Int)∧mn ((aK l (i:Int)).f1.length:Int) (m2:Int)≤((aK l (i:Int)).f1.length:Int)∧mn ((aK l (i:Int)).f1.length:Int) (m2:Int)≤(m2:Int):=by
    unfold mn
    split<;>omega
   by_cases hc:(i:Int)<(m1:Int)∧((aK l (i:Int)).f0.length:Int)≤10
   ·obtain⟨r,h4,h5,h6⟩:=vY l hl m1 m2 d (i+1) (by omega) (out++[⟨(aK l (i:Int)).f0,(aK l (i:Int)).f1.take (mn ((aK l (i:Int)).f1.length:Int) (m2:Int)).toNat⟩]) (by rw[List.length_append];simp;omega) (by rw[List.length_append];simp;omega) (fun x hx=>by
     rcases List.mem_append.1 hx with hx | hx
     ·exact h3 x hx
     ·simp only[List.mem_cons,List.not_mem_nil,or_false] at hx
      subst hx
      refine⟨⟨_,hm,rfl,fun s hs=>List.mem_of_mem_take hs⟩,by simp only;omega,?_⟩
      simp only[List.length_take]
      omega)
    refine⟨r,fun k hk=>?_,h5,h6⟩
    cases k with
    | zero=>omega
    | succ k=>rw[aW.l0,if_pos (by omega),if_pos (by omega),if_pos (by omega),if_pos hc.1,if_pos hc.2,if_pos hmn.1,if_pos hmn.2.1,if_pos (by omega),hw];exact h4 k (by omega)
   ·obtain⟨r,h4,h5,h6⟩:=vY l hl m1 m2 d (i+1) (by omega) out (by omega) h2 h3
    refine⟨r,fun k hk=>?_,h5,h6⟩
    cases k with
    | zero=>omega
    | succ k=>
      rw[aW.l0,if_pos (by omega),if_pos (by omega),if_pos (by omega),hw]
      by_cases hc1:(i:Int)<(m1:Int)
      ·rw[if_pos hc1,if_neg (fun h=>hc ⟨hc1,h⟩)];exact h4 k (by omega)
      ·rw[if_neg hc1];exact h4 k (by omega)
theorem Pv (l:List cB) (hl:l.length≤2932031007402) (m1 m2:Nat):∃ r,aW.f (l.length+1) l (m1:Int) (m2:Int)=some r∧r.length≤m1∧∀ x∈r,Lp l m2 x:=by
 obtain⟨r,h1,h2,h3⟩:=vY l hl m1 m2 l.length 0 (by omega) [] (Nat.zero_le _) (Nat.zero_le _) (fun x hx=>by cases hx)
 exact⟨r,h1 _ (by omega),h2,h3⟩
def okW (l:List cB):Prop:=∀ x∈l,Ey x.f0∧∀ s∈x.f1,sD s
theorem L8 {l r:List cB} (hw:okW l) (m2:Nat) (h2:m2≤1000000) (h:∀ x∈r,Lp l m2 x):Hq r:=fun x hx=>by
 obtain⟨⟨y,hy,e0,e1⟩,h0,h1⟩:=h x hx
 refine⟨by rw[e0];exact (hw y hy).1,by omega,by omega,fun s hs=>(hw y hy).2 s (e1 s hs)⟩
end Go.Proofs.YtcgbgifbajdhpaaGreatDoor.PA
namespace Go.Proofs.YtcgbgifbajdhpaaGreatDoor.G
open Go.ChangeShapes Go.WideShapes Go.Deep Go.RowKit Go.Proofs.YtcgbgifbajdhpaaGreatDoor.PA Go.Proofs.YtcgbgifbajdhpaaGreatDoorW.au
theorem kL {H:Type} {P:Program} {e:TypeId} {n:Nat} {x:DataW H}:∀ {l:List (DataW H)},x∈l→n∈DataW.weights P e x→n∈DataW.weightsAll P e l
 | y::r,hx,hn=>by
   rw[DataW.weightsAll,List.mem_append]
   rcases List.mem_cons.1 hx with h | h
   ·subst h;exact .inl hn
   ·exact .inr (kL h hn)
section
variable {H:Type} {enc:TypeId × Value→H} {w:World}
theorem Kh:Ey ([]:List eP):=fun x h=>by cases h
theorem ER {n:Nat} {v:Value} {y:DataW H × List MemPlace} (hsz:∀ m∈DataW.weights Tryz.prog 46 y.1,m≤reachBytes) (h:DataW.trod enc Tryz.prog w 0 (fun _=>true) true n 46 [v]=some y) :
 ∃ (A:Option Addr) (c:Nat) (l:List eP),v = .slice A l.length c∧l.length≤c∧iM.C w A l.length l∧Ey l:=by
 rcases iL Tryz.underlying46 Tryz.underlying68 (by kernel_rfl) (by kernel_rfl) h with ⟨hcs,_⟩ | ⟨x,l,c,m,D,Pl,hcs,_,hl,hm,hmm,hdx,hi⟩
 ·simp only[List.cons.injEq,and_true] at hcs
  exact⟨none,0,[],hcs,Nat.le_refl _,⟨rfl,by simp,fun h=>by simp at h⟩,Kh⟩
 ·simp only[List.cons.injEq,and_true] at hcs
  subst hcs
  simp only[if_true] at hmm
  subst hmm
  have hd:y.1 = .slice ((List.range l).map D) ((List.range (m-l)).map fun j=>D (l+j)):=by rw[hdx]
  obtain⟨xs,hxl,hxs⟩:=kY (fun i (s:eP)=>(s.f0.size≤140737488355328∧s.f1.size≤140737488355328)∧∃ cs,cs.length=2∧iM.K w s cs∧∀ j u,cs[j]? = some u→w.cell? (x.add (i*2+j))=some u) l (fun i hil=>by
   obtain⟨ys,n,hDi,_,_,hfld⟩:=hi i (by omega)
   obtain⟨v0,y0,c0,hy0,t0⟩:=hfld 0 _ rfl
   obtain⟨v1,y1,c1,hy1,t1⟩:=hfld 1 _ rfl
   obtain⟨s0,e0,d0,_⟩:=DataW.trod_string Tryz.underlying9 t0
   obtain⟨s1,e1,d1,_⟩:=DataW.trod_string Tryz.underlying9 t1
   obtain rfl:v0 = .string s0:=by simpa using e0
   obtain rfl:v1 = .string s1:=by simpa using e1
   have hw:(DataW.weightsEach Tryz.prog [9,9] (ys.map (·.1))).all (· ≤ reachBytes)=true:=by
    rw[List.all_eq_true]
    intro k hk
    have:=hsz k (by
     rw[hd,DataW.weights,Tryz.underlying46]
     exact List.mem_cons_of_mem _ (List.mem_append_left _ (kL (List.mem_map.2 ⟨i,List.mem_range.2 hil,rfl⟩) (by rw[hDi,DataW.weights,Tryz.underlying68];exact hk))))
    exact decide_eq_true this
   have z0:=sized_string (j:=0) hw rfl (bytes:=s0.data.toList) (by rw[List.getElem?_map,hy0,d0];rfl)
   have z1:=sized_string (j:=1) hw rfl (bytes:=s1.data.toList) (by rw[List.getElem?_map,hy1,d1];rfl)
   rw[Array.length_toList] at z0 z1
   have hrb:reachBytes≤140737488355328:=by decide
   refine⟨⟨s0,s1⟩,⟨Nat.le_trans z0 hrb,Nat.le_trans z1 hrb⟩,_,rfl,Et w ⟨s0,s1⟩,fun j u hj=>?_⟩
   match j,hj with
   | 0,hj=>injection hj with hj;subst hj;exact c0
   | 1,hj=>injection hj with hj;subst hj;exact c1
   | n+2,hj=>simp at hj)
  have hmx:maxLen≤9223372036854775807:=by decide
  refine⟨some x,m,xs,by rw[hxl],by omega,⟨rfl,by rw[hxl];omega,fun _=>⟨x,rfl,fun j p hj=>?_⟩⟩,fun s hs=>?_⟩
  ·obtain⟨_,cs,h1,h2,h3⟩:=hxs j p hj
   exact⟨cs,h1,h2,h3⟩
  ·obtain⟨j,hj⟩:=List.getElem?_of_mem hs
   exact (hxs j s hj).1
theorem Dp {n:Nat} {v:Value} {y:DataW H × List MemPlace} (h:DataW.trod enc Tryz.prog w 0 (fun _=>true) true n 49 [v]=some y) :
 ∃ (A:Option Addr) (c:Nat) (l:List bN),v = .slice A l.length c∧l.length≤c∧jg.C w A l.length l∧∀ x∈l,sD x:=by
 have hv:∃ a len cap,v = .slice a len cap:=by
  rcases iL Tryz.underlying49 Tryz.underlying70 (by kernel_rfl) (by kernel_rfl) h with ⟨hcs,_⟩ | ⟨x,l,c,m,D,Pl,hcs,_⟩
  ·simp only[List.cons.injEq,and_true] at hcs
   exact⟨_,_,_,hcs⟩
  ·simp only[List.cons.injEq,and_true] at hcs
   exact⟨_,_,_,hcs⟩
 have hT:DataW.Trod enc Tryz.prog w 0 (fun _=>true) true 49 v y.1 y.2:=by
  obtain⟨a,len,cap,rfl⟩:=hv
  exact⟨n,h⟩
 obtain⟨A,c,l,h1,h2,h3,h4⟩:=CY hv hT
 exact⟨A,c,l,h1,h3,h2,h4⟩
theorem Ah {v:Value} {d:DataW H} {p:List MemPlace} (hv:∃ a len cap,v = .slice a len cap) {ts:List TypeId} {ds:List (DataW H)} (hsz:(DataW.weightsEach Tryz.prog (22::ts) (d::ds)).all (· ≤ reachBytes)=true) (h:DataW.Trod enc Tryz.prog w 0 (fun _=>true) true 22 v d p) :
 ∃ (A:Option Addr) (c:Nat) (l:List cB),v = .slice A l.length c∧mK.C w A l.length l∧l.length≤c∧okW l∧l.length*48≤140737488355328:=by
 obtain⟨a,len,cap,rfl⟩:=hv
 obtain⟨fuel,hf⟩:=h
 rcases iL Tryz.underlying22 Tryz.underlying51 (by kernel_rfl) (by kernel_rfl) hf with ⟨hcs,_⟩ | ⟨x,l,c,m,D,Pl,hcs,_,hl,hm,hmm,hdx,hi⟩
 ·simp[Value.cells] at hcs
  obtain⟨rfl,rfl,rfl⟩:=hcs
  exact⟨none,0,[],rfl,⟨rfl,by simp,fun h=>by simp at h⟩,Nat.le_refl _,(fun x hx=>by cases hx),by simp⟩
 ·simp[Value.cells] at hcs
  obtain⟨rfl,rfl,rfl⟩:=hcs
  simp only[if_true] at hmm
  subst hmm
  have hd:d = .slice ((List.range len).map D) ((List.range (m-len)).map fun j=>D (len+j)):=(Prod.mk.inj hdx).1
  have hall:∀ k∈DataW.weights Tryz.prog 22 d,k≤reachBytes:=fun k hk=>by
   have:=List.all_eq_true.1 hsz k (by rw[DataW.weightsEach,List.mem_append];exact .inl hk)
   exact of_decide_eq_true this
  have h48:=hall ((((List.range len).map D).length+((List.range (m-len)).map fun j=>D (len+j)).length)*Tryz.prog.bytesOf 51) (by rw[hd,DataW.weights,Tryz.underlying22];exact List.mem_cons_self ..)
  obtain⟨xs,hxl,hxs⟩:=kY (fun i (s:cB)=>(Ey s.f0∧∀ q∈s.f1,sD q)∧∃ cs,cs.length=2∧mK.K w s cs∧∀ j u,cs[j]? = some u→w.cell? (x.add (i*2+j))=some u) len (fun i hil=>by
   obtain⟨ys,n,hDi,_,_,hfld⟩:=hi i (by omega)
   obtain⟨v0,y0,c0,hy0,t0⟩:=hfld 0 _ rfl
   obtain⟨v1,y1,c1,hy1,t1⟩:=hfld 1 _ rfl
   obtain⟨A0,q0,l0,rfl,hq0,hC0,hw0⟩:=ER (fun k hk=>hall k (by
    rw[hd,DataW.weights,Tryz.underlying22]
    refine List.mem_cons_of_mem _ (List.mem_append_left _ (kL (List.mem_map.2 ⟨i,List.mem_range.2 hil,rfl⟩) ?_))
    rw[hDi,DataW.weights,Tryz.underlying51]
    exact DataW.weights_mem_each (j:=0) (ts:=[46,49]) rfl (by rw[List.getElem?_map,hy0];rfl) k hk)) t0
   obtain⟨A1,q1,l1,rfl,hq1,hC1,hw1⟩:=Dp t1
   refine⟨⟨l0,l1⟩,⟨hw0,hw1⟩,_,rfl,wL w ⟨l0,l1⟩ hq0 hC0 hq1 hC1,fun j u hj=>?_⟩
   match j,hj with
   | 0,hj=>injection hj with hj;subst hj;exact c0
   | 1,hj=>injection hj with hj;subst hj;exact c1
   | n+2,hj=>simp at hj)
  have hmx:maxLen≤9223372036854775807:=by decide
  have hbo:Tryz.prog.bytesOf 51=48:=by kernel_rfl
  have hrb:reachBytes≤140737488355328:=by decide
  refine⟨some x,m,xs,by rw[hxl],⟨rfl,by rw[hxl];omega,fun _=>⟨x,rfl,fun j p hj=>?_⟩⟩,by omega,fun s hs=>?_,?_⟩
  ·obtain⟨_,cs,h1,h2,h3⟩:=hxs j p hj
   exact⟨cs,h1,h2,h3⟩
  ·obtain⟨j,hj⟩:=List.getElem?_of_mem hs
   exact (hxs j s hj).1
  ·rw[hbo] at h48
   simp only[List.length_map,List.length_range] at h48
   rw[hxl]
   omega
end
end Go.Proofs.YtcgbgifbajdhpaaGreatDoor.G
