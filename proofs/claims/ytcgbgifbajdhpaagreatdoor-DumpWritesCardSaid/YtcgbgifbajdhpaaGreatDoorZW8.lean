/- Lemmas and contracts that the law DumpWrites leans on (packed by a program of this session out of its texts and the print's words). -/
import Derived.Test.YtcgbgifbajdhpaaGreatDoorZW7
import Derived.Test.YtcgbgifbajdhpaaGreatDoorZW4
import Derived.Shelf.SlSortCmp.InsertionK
import Derived.Shelf.Lay
import Derived.Ground.SlsfProg
import Derived.Test.YtcgbgifbajdhpaaGreatDoorZW6
import Derived.Deep.LoopGhost
import Derived.Test.YtcgbgifbajdhpaaGreatDoorZW5
import Derived.Test.YtcgbgifbajdhpaaGreatDoorZW2
import Derived.Deep.RegionHeld3
set_option linter.unusedVariables false
set_option linter.unusedSimpArgs false
set_option maxHeartbeats 8000000
set_option maxRecDepth 100000
namespace Go.Proofs.YtcgbgifbajdhpaaGreatDoor.PA
open Go.RowKit Go.Proofs.YtcgbgifbajdhpaaGreatDoor.G Go.Proofs.YtcgbgifbajdhpaaGreatDoorW.PrintWords Go.Proofs.YtcgbgifbajdhpaaGreatDoorW.PrintLast Go.Proofs.YtcgbgifbajdhpaaGreatDoorW.PrintMore
def zP:Pt:=⟨0,⟨[],[]⟩⟩
def kP:Kd Pt:=Kd.iso (Kd.pair (Kd.int .i64) (Kd.pair (Kd.slice 68 k68) (Kd.slice 70 k70))) (fun x:Pt => ((x.num:Int),x.ser.f0,x.ser.f1))
theorem kP_open {w:World} {x:Pt} {cs:List Value} (h:kP.K w x cs):∃ A0 c0 A1 c1,cs=[.int .i64 x.num,.slice A0 x.ser.f0.length c0,.slice A1 x.ser.f1.length c1] ∧ x.ser.f0.length≤c0∧k68.C w A0 x.ser.f0.length x.ser.f0∧x.ser.f1.length≤c1∧k70.C w A1 x.ser.f1.length x.ser.f1:=by
  obtain ⟨_,_,rfl,rfl,⟨_,_,rfl,⟨A0,c0,rfl,l0,g0⟩,⟨A1,c1,rfl,l1,g1⟩⟩⟩:=h
  exact ⟨A0,c0,A1,c1,rfl,l0,g0,l1,g1⟩
theorem kP_mk (w:World) (x:Pt) {A0 A1:Option Addr} {c0 c1:Nat} (l0:x.ser.f0.length≤c0) (g0:k68.C w A0 x.ser.f0.length x.ser.f0) (l1:x.ser.f1.length≤c1) (g1:k70.C w A1 x.ser.f1.length x.ser.f1):kP.K w x [.int .i64 x.num,.slice A0 x.ser.f0.length c0,.slice A1 x.ser.f1.length c1] :=
  ⟨[.int .i64 x.num],_,rfl,rfl,⟨[.slice A0 x.ser.f0.length c0],_,rfl,⟨A0,c0,rfl,l0,g0⟩,⟨A1,c1,rfl,l1,g1⟩⟩⟩
theorem kP_mkF (W:World) (ok:Nat→Prop) (x:Pt) {A0 A1:Option Addr} {c0 c1:Nat} (l0:x.ser.f0.length≤c0) (g0:Kd.F k68 W ok A0 x.ser.f0.length x.ser.f0) (l1:x.ser.f1.length≤c1) (g1:Kd.F k70 W ok A1 x.ser.f1.length x.ser.f1):Kd.FK kP W ok x [.int .i64 x.num,.slice A0 x.ser.f0.length c0,.slice A1 x.ser.f1.length c1]:=fun W2 hW => kP_mk W2 x l0 (g0 W2 hW) l1 (g1 W2 hW)
theorem info_P:(Tryz.prog.info? 123).map (fun i => (i.zero,i.size,i.bytes))=some (some (.agg #[.int .i64 0,.slice none 0 0,.slice none 0 0]),3,56):=by kernel_rfl
def CU (W:World) (p:Nat) (v:Value):Prop:=W.heap[p]? = some (.cells #[v] 120 (0,0))
def TS (p:Nat) (v:Value) (g:Nat) (q:Int) (h:Nat) (x0 x1:Value) (W:World):Prop:=W.cell? ⟨p,0,none⟩=some v∧W.cell? ⟨g,1,none⟩=some (.int .i64 q)∧W.cell? ⟨h,0,none⟩=some x0∧W.cell? ⟨h,1,none⟩=some x1
theorem take.calls (p m:Nat) (f:Fr) (v:Value) (out:List Pt) (A:Option Addr) (c base:Nat) (w0 w:World) (hm:f.pay.length=m) (hr:Kd.C (Kd.int .u8) w A m f.pay) (hc:m≤c) (hl:m≤1000) (hok:okB f.pay=true) (hT:TabZ w)
    (hW:CU w p v) (hv:Kd.N kP 123 w base (fun k => p<k) v out) (hol:out.length≤1000000000) (hB:Below base w0 w) (hbase:base≤p) :
    Calls Tryz.prog 74 #[.pointer (some ⟨p,0,none⟩),.agg #[.int .i64 f.kind,.int .i64 f.num,.slice A m c]] w fun e w' => e = .returned (.tuple #[])∧∃ v':Value,CU w' p v'∧Kd.N kP 123 w' base (fun k => p<k) v' (out++(partD f).toList)∧Below base w0 w':=by
  have HW:=Aside0.mk hW
  have HV:=Aside0.mk hv
  have HB:=Aside0.mk hB
  have hpl:p<w.heap.size:=blk_lt hW
  have HF:=Aside0.mk (blk_new w (.cells #[.int .i64 f.kind,.int .i64 f.num,.slice A m c] 80 (0,0)))
  have HBA:=Aside0.mk (below_alloc (Below.refl w.heap.size w) (.cells #[.int .i64 f.kind,.int .i64 f.num,.slice A m c] 80 (0,0)))
  have hse:=fun W (hb:Below w.heap.size w W) => series.calls f A c m W hm (Kd.C_below hr hb) hc hok hl (hT.below hb)
  cases hp:partD f with
  | none =>
    have SE:Aside0 (∀ W,Below w.heap.size w W→Calls Tryz.prog 112 #[.agg #[.int .i64 f.kind,.int .i64 f.num,.slice A m c]] W fun e w' => ∃ (A1 A2:Option Addr) (n1 c1 n2 c2:Nat),e = .returned (.tuple #[.agg #[.slice A1 n1 c1,.slice A2 n2 c2],.bool false])∧Below W.heap.size W w'):=⟨fun W hb => (hse W hb).mono fun e w' ⟨A1,A2,n1,c1,n2,c2,ok,he,hb2,h⟩ => by
      rcases h with ⟨rfl,_⟩ | ⟨_,s,h,_⟩
      · exact ⟨A1,A2,n1,c1,n2,c2,he,hb2⟩
      · rw [hp] at h;cases h⟩
    clear hse hr hok hT hW hv hB hp
    go_enter Tryz.func74,Tryz.ntmps74
    go_wp2_with (go_at_call 112;(with_reducible refine (SE.out _ HBA.out).mono ?_);rintro e w1 ⟨A1,A2,n1,c1,n2,c2,rfl,hb⟩;have HB1:=Aside0.mk (below_step HBA.out hb);clear hb)
    refine bodyPost_end (results_none rfl _ _ _) rfl ?_
    have HB2:=Aside0.mk (below_alloc HB1.out (.cells #[.slice A1 n1 c1,.slice A2 n2 c2] 51 (0,0)))
    exact ⟨rfl,v,blk_below HW.out HB2.out,by rw [Option.toList_none,List.append_nil];exact Kd.N_below HV.out HB2.out,HB.out.trans (HB2.out.mono (by omega))⟩
  | some q =>
    obtain ⟨num,s0⟩:=q
    have hnum:num=f.num:=by
      unfold partD at hp
      split at hp
      · obtain ⟨s,_,h⟩:=Option.map_eq_some_iff.1 hp
        cases h;rfl
      · cases hp
    subst hnum
    have SE:Aside0 (∀ W,Below w.heap.size w W→Calls Tryz.prog 112 #[.agg #[.int .i64 f.kind,.int .i64 f.num,.slice A m c]] W fun e w' => ∃ (A1 A2:Option Addr) (c1 c2:Nat),e = .returned (.tuple #[.agg #[.slice A1 s0.f0.length c1,.slice A2 s0.f1.length c2],.bool true])∧Below W.heap.size W w'∧Kd.R k68 68 w' W.heap.size (fun _ => True) (.slice A1 s0.f0.length c1) s0.f0∧Kd.R k70 70 w' W.heap.size (fun _ => True) (.slice A2 s0.f1.length c2) s0.f1):=⟨fun W hb => (hse W hb).mono fun e w' ⟨A1,A2,n1,c1,n2,c2,ok,he,hb2,h⟩ => by
      rcases h with ⟨_,h⟩ | ⟨rfl,s,h,_,_,h1,h2⟩
      · rw [hp] at h;cases h
      · rw [hp] at h;cases h
        obtain ⟨_,_,e1⟩:=Kd.R_slice h1
        obtain ⟨_,_,e2⟩:=Kd.R_slice h2
        cases e1;cases e2
        exact ⟨A1,A2,c1,c2,he,hb2,h1,h2⟩⟩
    clear hse hr hok hT hW hv hB hp
    go_enter Tryz.func74,Tryz.ntmps74
    go_wp2_with (go_at_call 112;(with_reducible refine (SE.out _ HBA.out).mono ?_);rintro e w1 ⟨A1,A2,c1,c2,rfl,hb,h1,h2⟩;have HB1:=Aside0.mk (below_step HBA.out hb);have HS1:=Aside0.mk h1;have HS2:=Aside0.mk h2;have HF1:=Aside0.mk (blk_below HF.out hb);have HZ1:Aside0 (w.heap.size+1≤w1.heap.size):=⟨by have:=hb.size;rw [World.size_alloc] at this;exact this⟩;clear hb h1 h2)
    have HB2:=Aside0.mk (below_alloc HB1.out (.cells #[.slice A1 s0.f0.length c1,.slice A2 s0.f1.length c2] 51 (0,0)))
    have HWp:Aside0 (CU (w1.alloc (.cells #[.slice A1 s0.f0.length c1,.slice A2 s0.f1.length c2] 51 (0,0))) p v):=⟨blk_below HW.out HB2.out⟩
    have HFb:=Aside0.mk (blk_alloc HF1.out (.cells #[.slice A1 s0.f0.length c1,.slice A2 s0.f1.length c2] 51 (0,0)))
    have HSb:=Aside0.mk (blk_new w1 (.cells #[.slice A1 s0.f0.length c1,.slice A2 s0.f1.length c2] 51 (0,0)))
    have HR1:=Aside0.mk (Kd.R_alloc HS1.out (.cells #[.slice A1 s0.f0.length c1,.slice A2 s0.f1.length c2] 51 (0,0)))
    have HR2:=Aside0.mk (Kd.R_alloc HS2.out (.cells #[.slice A1 s0.f0.length c1,.slice A2 s0.f1.length c2] 51 (0,0)))
    have HV2:=Aside0.mk (Kd.N_below HV.out HB2.out)
    have HBb2:=Aside0.mk (HB.out.trans (HB2.out.mono (show base≤w.heap.size by omega)))
    have HVL:=Aside0.mk (Kd.N_lt HV.out)
    have hs2:Aside0 ((w1.alloc (.cells #[.slice A1 s0.f0.length c1,.slice A2 s0.f1.length c2] 51 (0,0))).heap.size=w1.heap.size+1):=⟨World.size_alloc ..⟩
    generalize w1.alloc (.cells #[.slice A1 s0.f0.length c1,.slice A2 s0.f1.length c2] 51 (0,0))=W1 at *
    have HS:Aside0 (TS p v w.heap.size f.num w1.heap.size (.slice A1 s0.f0.length c1) (.slice A2 s0.f1.length c2) W1.drew):=⟨(blk_cell HWp.out 0).trans rfl,(blk_cell HFb.out 1).trans rfl,(blk_cell HSb.out 0).trans rfl,(blk_cell HSb.out 1).trans rfl⟩
    clear HF HF1 HB1 HS1 HS2 SE HBA
    refine wp_region_hd (by kernel_rfl) (GHead.start (n:=13) (S:=TS p v w.heap.size f.num w1.heap.size (.slice A1 s0.f0.length c1) (.slice A2 s0.f1.length c2)) (by decide) ?_)
    refine GHead.take' (i:=0) (v:=?_) rfl rfl (by kernel_rfl) (fun _ _ _ h => by cases h.1) (Or.inl ⟨by rfl,?_⟩) HS.out ?_
    rotate_left
    · (intro W' hW';have c0:=hW'.1;have c1:=hW'.2.1;have c2:=hW'.2.2.1;have c3:=hW'.2.2.2;go_simp;try (with_reducible rfl))
    try simp only [List.setIfInBounds_toArray,List.set_cons_zero,List.set_cons_succ]
    refine GHead.take' (i:=1) (v:=?_) rfl rfl (by kernel_rfl) (fun _ _ _ h => by cases h.1) (Or.inl ⟨by rfl,?_⟩) HS.out ?_
    rotate_left
    · (intro W' hW';have c0:=hW'.1;have c1:=hW'.2.1;have c2:=hW'.2.2.1;have c3:=hW'.2.2.2;go_simp;try (with_reducible rfl))
    try simp only [List.setIfInBounds_toArray,List.set_cons_zero,List.set_cons_succ]
    refine GHead.take' (i:=2) (v:=?_) rfl rfl (by kernel_rfl) (fun _ _ _ h => by cases h.1) (Or.inl ⟨by rfl,?_⟩) HS.out ?_
    rotate_left
    · (intro W' hW';have c0:=hW'.1;have c1:=hW'.2.1;have c2:=hW'.2.2.1;have c3:=hW'.2.2.2;go_simp;try (with_reducible rfl))
    try simp only [List.setIfInBounds_toArray,List.set_cons_zero,List.set_cons_succ]
    refine GHead.take' (i:=3) (v:=?_) rfl rfl (by kernel_rfl) (fun _ _ _ h => by cases h.1) (Or.inl ⟨by rfl,?_⟩) HS.out ?_
    rotate_left
    · (intro W' hW';have c0:=hW'.1;have c1:=hW'.2.1;have c2:=hW'.2.2.1;have c3:=hW'.2.2.2;go_simp;try (with_reducible rfl))
    try simp only [List.setIfInBounds_toArray,List.set_cons_zero,List.set_cons_succ]
    refine GHead.take' (i:=4) (v:=?_) rfl rfl (by kernel_rfl) (fun _ _ _ h => by cases h.1) (Or.inl ⟨by rfl,?_⟩) HS.out ?_
    rotate_left
    · (intro W' hW';have c0:=hW'.1;have c1:=hW'.2.1;have c2:=hW'.2.2.1;have c3:=hW'.2.2.2;go_simp;try (with_reducible rfl))
    try simp only [List.setIfInBounds_toArray,List.set_cons_zero,List.set_cons_succ]
    refine GHead.take' (i:=5) (v:=?_) rfl rfl (by kernel_rfl) (fun _ _ _ h => by cases h.1) (Or.inl ⟨by rfl,?_⟩) HS.out ?_
    rotate_left
    · (intro W' hW';have c0:=hW'.1;have c1:=hW'.2.1;have c2:=hW'.2.2.1;have c3:=hW'.2.2.2;go_simp;try (with_reducible rfl))
    try simp only [List.setIfInBounds_toArray,List.set_cons_zero,List.set_cons_succ]
    refine GHead.take' (i:=6) (v:=?_) rfl rfl (by kernel_rfl) (fun _ _ _ h => by cases h.1) (Or.inl ⟨by rfl,?_⟩) HS.out ?_
    rotate_left
    · (intro W' hW';have c0:=hW'.1;have c1:=hW'.2.1;have c2:=hW'.2.2.1;have c3:=hW'.2.2.2;go_simp;try (with_reducible rfl))
    try simp only [List.setIfInBounds_toArray,List.set_cons_zero,List.set_cons_succ]
    refine GHead.take' (i:=7) (v:=?_) rfl rfl (by kernel_rfl) (fun _ _ _ h => by cases h.1) (Or.inl ⟨by rfl,?_⟩) HS.out ?_
    rotate_left
    · (intro W' hW';have c0:=hW'.1;have c1:=hW'.2.1;have c2:=hW'.2.2.1;have c3:=hW'.2.2.2;go_simp;try (with_reducible rfl))
    try simp only [List.setIfInBounds_toArray,List.set_cons_zero,List.set_cons_succ]
    refine GHead.take' (i:=8) (v:=?_) rfl rfl (by kernel_rfl) (fun _ _ _ h => by cases h.1) (Or.inl ⟨by rfl,?_⟩) HS.out ?_
    rotate_left
    · (intro W' hW';have c0:=hW'.1;have c1:=hW'.2.1;have c2:=hW'.2.2.1;have c3:=hW'.2.2.2;go_simp;try (with_reducible rfl))
    try simp only [List.setIfInBounds_toArray,List.set_cons_zero,List.set_cons_succ]
    refine GHead.one (i:=9) rfl (by kernel_rfl) (by rfl) (fun K1 hK1 => ?_)
    go_simp
    refine hK1 _ _ ⟨cell_alloc_old _ HS.out.1,cell_alloc_old _ HS.out.2.1,cell_alloc_old _ HS.out.2.2.1,cell_alloc_old _ HS.out.2.2.2⟩ ?_
    clear hK1
    refine GHead.one (i:=10) rfl (by kernel_rfl) (by rfl) (fun K2 hK2 => ?_)
    have HF4:=Aside0.mk (Kd.F_drew (Kd.R_F (Kd.R_mono (Kd.R_bound HR1.out) (ok':=fun k => w.heap.size≤k∧k<W1.heap.size) (fun k hk => ⟨by have h2:=hk.2.1;rw [World.size_alloc] at h2;omega,hk.2.2.1⟩))))
    have HF5:=Aside0.mk (Kd.F_drew (Kd.R_F (Kd.R_mono (Kd.R_bound HR2.out) (ok':=fun k => w.heap.size≤k∧k<W1.heap.size) (fun k hk => ⟨by have h2:=hk.2.1;rw [World.size_alloc] at h2;omega,hk.2.2.1⟩))))
    have HL4:=Aside0.mk (Kd.R_reads' HR1.out).2.1
    have HL5:=Aside0.mk (Kd.R_reads' HR2.out).2.1
    refine of_if' (c:=Region.wanted _ _=true) (by rfl) (Kd.N_append_step (ops:=#[]) (W:=W1.drew) kP (w0:=w0) base (by rfl) (.tmp 16) (.tmp 21) 118 123 (.agg #[.int .i64 0,.slice none 0 0,.slice none 0 0]) 56 rfl Tryz.underlying118 info_P rfl (by decide) (by decide) v out ⟨f.num,s0⟩ _ (fun k => p<k) (fun k => w.heap.size≤k∧k<W1.heap.size) rfl rfl (kP_mkF _ _ ⟨f.num,s0⟩ HL4.out HF4.out HL5.out HF5.out) ?ap1 ?ap2 (Kd.N_drew HV2.out) (below_drew HBb2.out) ?ap3 ?ap4 ?ap5)
    case ap1 => exact fun k hk => ⟨by omega,fun e => by have:=HVL.out k e.symm;omega⟩
    case ap2 => exact fun k hk => by have h1:W1.heap.size≤k:=hk;have h2:=HZ1.out;have h3:=hs2.out;show p<k;omega
    case ap3 => show base≤W1.heap.size;have h2:=HZ1.out;have h3:=hs2.out;omega
    case ap4 => omega
    case ap5 =>
      intro v7 w7 hn7 hb7 hg7 hat7
      obtain ⟨n7,A7,c7,rfl⟩:∃ n A c,v7 = .slice A n c:=by obtain ⟨A7,c7,h⟩:=Kd.N_slice hn7;exact ⟨_,A7,c7,h⟩
      have HW7:Aside0 (CU w7 p v):=⟨blk_grown (show W1.drew.heap[p]? = _ from HWp.out) hg7 (fun e => by have h1:p<p:=HV.out.1 p e.symm;omega)⟩
      have HF7:=Aside0.mk (blk_grown (show W1.drew.heap[w.heap.size]? = _ from HFb.out) hg7 (fun e => by have:=HVL.out _ e.symm;omega))
      have HS7:=Aside0.mk (blk_grown (show W1.drew.heap[w1.heap.size]? = _ from HSb.out) hg7 (fun e => by have:=HVL.out _ e.symm;have h2:=HZ1.out;omega))
      have HSS:Aside0 (TS p v w.heap.size f.num w1.heap.size (.slice A1 s0.f0.length c1) (.slice A2 s0.f1.length c2) w7):=⟨(blk_cell HW7.out 0).trans rfl,(blk_cell HF7.out 1).trans rfl,(blk_cell HS7.out 0).trans rfl,(blk_cell HS7.out 1).trans rfl⟩
      have HN7:=Aside0.mk hn7
      have HB7:=Aside0.mk hb7
      refine hK2 _ _ HSS.out ?_
      clear hn7 hb7 hg7 hat7 hK2
      simp only [Act.put,List.setIfInBounds_toArray,List.set_cons_zero,List.set_cons_succ]
      refine GHead.take' (i:=11) (v:=?_) rfl rfl (by kernel_rfl) (fun _ _ _ h => by cases h.1) (Or.inl ⟨by rfl,?_⟩) HSS.out ?_
      rotate_left
      · (intro W' hW';have c0:=hW'.1;have c1:=hW'.2.1;have c2:=hW'.2.2.1;have c3:=hW'.2.2.2;go_simp;try (with_reducible rfl))
      try simp only [List.setIfInBounds_toArray,List.set_cons_zero,List.set_cons_succ]
      refine GHead.take' (i:=12) (v:=?_) rfl rfl (by kernel_rfl) (fun _ _ _ h => by cases h.1) (Or.inl ⟨by rfl,?_⟩) HSS.out ?_
      rotate_left
      · (intro W' hW';have c0:=hW'.1;have c1:=hW'.2.1;have c2:=hW'.2.2.1;have c3:=hW'.2.2.2;go_simp;try (with_reducible rfl))
      try simp only [List.setIfInBounds_toArray,List.set_cons_zero,List.set_cons_succ]
      refine GHead.last rfl (by kernel_rfl) (by rfl) (fun K3 hK3 => ?_)
      have b0:=HSS.out.1
      have f0:=blk_frozen HW7.out 0
      go_simp
      refine hK3 _ _ ⟨rfl,?_⟩
      clear b0 f0
      first | refine bodyPost_end (results_none rfl _ _ _) rfl ?_ | trace_state
      refine ⟨rfl,_,blk_put HW7.out 0 _ rfl,?_,HB7.out.setCell (p:=⟨p,0,none⟩) hbase _⟩
      exact Kd.N_far HN7.out (p:=⟨p,0,none⟩) (fun k hk e => by have h1:p<k:=hk;have h2:k=p:=e;omega) _
end Go.Proofs.YtcgbgifbajdhpaaGreatDoor.PA
namespace Go.Proofs
open Go.Shelf Go.RowKit Go.Lib Go.Sort
def Tryz.insPart_ren:Go.Shelf.Ren:=⟨fun | 20 => 134 | n => n,fun | 24 => 123 | 22 => 118 | 3 => 3 | 25 => 125 | 4 => 4 | 0 => 0 | n => n,fun | n => n⟩
theorem Tryz.insPart:Go.Proofs.SlLaysF0.n20 Tryz.prog Tryz.insPart_ren:={
  mixed:=by kernel_rfl
  f20:=⟨Tryz.f134.name,by decide,Tryz.func134.trans (congrArg some (by kernel_rfl))⟩
  t0:=Tryz.underlying0
  a0:=Tryz.isAgg0
  z0:=Tryz.sizeOf0
  v0:=Tryz.zeroValue0
  t3:=Tryz.underlying3
  a3:=Tryz.isAgg3
  z3:=Tryz.sizeOf3
  v3:=Tryz.zeroValue3
  t4:=Tryz.underlying4
  a4:=Tryz.isAgg4
  z4:=Tryz.sizeOf4
  v4:=Tryz.zeroValue4
  t22:=Tryz.underlying118
  a22:=Tryz.isAgg118
  z22:=Tryz.sizeOf118
  v22:=Tryz.zeroValue118
  t25:=Tryz.underlying125
  a25:=Tryz.isAgg125
  z25:=Tryz.sizeOf125
  v25:=Tryz.zeroValue125 }
end Go.Proofs
namespace Go.Proofs.YtcgbgifbajdhpaaGreatDoor.PA
open Go.Shelf Go.RowKit Go.Lib Go.Sort
theorem isAggQ:∀ w,(isAgg 123).run Tryz.prog w = .ok true w:=fun w => by kernel_rfl
theorem sizeOfQ:∀ w,(Go.sizeOf 123).run Tryz.prog w = .ok 3 w:=fun w => by kernel_rfl
structure EP where
  num:Int
  A0:Option Addr
  n0:Nat
  c0:Nat
  A1:Option Addr
  n1:Nat
  c1:Nat
def zEP:EP:=⟨0,none,0,0,none,0,0⟩
instance:Inhabited EP:=⟨zEP⟩
def encQ (x:EP):List Value:=[.int .i64 x.num,.slice x.A0 x.n0 x.c0,.slice x.A1 x.n1 x.c1]
theorem encQ_len (x:EP):(encQ x).length=3:=rfl
theorem encQ_one (x:EP):∀ v ∈ encQ x,v.oneCell'=true:=by
  intro v hv
  simp only [encQ,List.mem_cons,List.not_mem_nil,or_false] at hv
  rcases hv with rfl | rfl | rfl <;> rfl
def cfQ (a b:EP):Int:=cmpI a.num b.num
def keyQ (a:EP):Int:=a.num
theorem cfQ_key (x y:EP):cfQ x y<0↔keyQ x<keyQ y:=by
  unfold cfQ cmpI keyQ
  by_cases h:x.num<y.num
  · simp [h]
  · by_cases h2:y.num<x.num <;> simp [h,h2]
theorem cmpQ.calls (a b:EP) (W:World):Calls Tryz.prog 76 #[.agg (encQ a).toArray,.agg (encQ b).toArray] W fun e w' => e = .returned (.int .i64 (cfQ a b))∧∃ q os',w'=grow (W.drewN q) os':=by
  unfold encQ
  simp only [List.toArray]
  go_enter Tryz.func76,Tryz.ntmps76
  have h0:(a.num != a.num)=false:=by simp
  have h1:(b.num != b.num)=false:=by simp
  by_cases h2:a.num<b.num
  · have d2:decide (a.num<b.num)=true:=decide_eq_true h2
    have HC:Aside (cfQ a b = -1):=by show cfQ a b = -1;unfold cfQ cmpI;rw [if_pos h2]
    clear h2
    go_wp2_with (first | go_in)
    go_ret
    exact ⟨by rw [show cfQ a b = -1 from HC];rfl,0,_,by rw [alloc_eq_grow,alloc_eq_grow,grow_grow];rfl⟩
  · have d2:decide (a.num<b.num)=false:=decide_eq_false h2
    by_cases h3:b.num<a.num
    · have d3:decide (b.num<a.num)=true:=decide_eq_true h3
      have HC:Aside (cfQ a b=1):=by show cfQ a b=1;unfold cfQ cmpI;rw [if_neg h2,if_pos h3]
      clear h2 h3
      go_wp2_with (first | go_in)
      go_ret
      exact ⟨by rw [show cfQ a b=1 from HC];rfl,0,_,by rw [alloc_eq_grow,alloc_eq_grow,grow_grow];rfl⟩
    · have d3:decide (b.num<a.num)=false:=decide_eq_false h3
      have HC:Aside (cfQ a b=0):=by show cfQ a b=0;unfold cfQ cmpI;rw [if_neg h2,if_neg h3]
      clear h2 h3
      go_wp2_with (first | go_in)
      go_ret
      exact ⟨by rw [show cfQ a b=0 from HC];rfl,0,_,by rw [alloc_eq_grow,alloc_eq_grow,grow_grow];rfl⟩
theorem cmpQ.lays (blk off size:Nat) (w:World):CmpLays Tryz.prog 76 #[] encQ 3 cfQ blk off size w:=fun _ _ _ _ x y => cmpQ.calls x y _
theorem cmpQ.enters:∀ args w,(callFunc 76 args).run Tryz.prog w = .ok (.enter 76 args) w:=enters_of Tryz.func76 (by kernel_rfl) rfl
theorem stableQ.calls (blk off cap:Nat) (d:Array EP) (w:World) (R:RowK encQ 3 w blk off d) (hsz:d.size<20) :
    Calls Tryz.prog 113 #[.slice (some ⟨blk,off,none⟩) d.size cap,.int .i64 d.size,.func (.func 76) #[] #[]] w fun e w' => e = .returned (.tuple #[])∧∃ d',SWK encQ 3 w blk off d' w'∧MG keyQ d 0 d.size d'∧Srt keyQ d' 0 d.size:=by
  have hlt:∀ x y,ltOf cfQ x y=true↔keyQ x<keyQ y:=fun x y => by unfold ltOf;rw [decide_eq_true_iff];exact cfQ_key x y
  have INS:Calls Tryz.prog 134 #[.slice (some ⟨blk,off,none⟩) d.size cap,.int .i64 0,.int .i64 d.size,.func (.func 76) #[] #[]] w fun e w' => e = .returned (.tuple #[])∧∃ d',SWK encQ 3 w blk off d' w'∧MG keyQ d 0 d.size d'∧Srt keyQ d' 0 d.size:=by
    have h:=AnyQ.insertionSortCmpFunc Tryz.insPart 3 isAggQ sizeOfQ encQ (fun _ => rfl) encQ_one cfQ 76 #[] blk off cap 0 d.size d w cmpQ.enters (cmpQ.lays _ _ _ _) R.hH R.hblk (Nat.zero_le _) (by omega) (by omega)
    refine Calls.mono h ?_
    rintro e w' ⟨he,n,os,rfl⟩
    have hz:(Sort.insertionSort (ltOf cfQ) d 0 d.size).size=d.size:=(ins_MG (fun x y => (hlt x y).1) d 0 d.size (by omega) (by omega)).1
    exact ⟨he,_,(SWK.start R.hH).on R.hblk n _ os hz,ins_MG (fun x y => (hlt x y).1) d 0 d.size (by omega) (by omega),ins_Srt hlt d 0 d.size (by omega) (by omega)⟩
  have IN:=YtcgbgifbajdhpaaGreatDoorW.PrintWords.Aside0.mk INS
  clear INS hlt R
  generalize d.size=n at *
  have hn20:¬ ((20:Int)≤(n:Int)):=by omega
  have hn21:¬ ((20:Int)<(n:Int)):=by omega
  go_enter Tryz.func113,Tryz.ntmps113
  go_wp2
  go_loopg [7,8] 0 (fun kx s7 s8 wr => s7 = .int .i64 0∧s8 = .int .i64 20∧wr=w)
  case atStart => exact ⟨rfl,rfl,rfl⟩
  case round =>
    obtain ⟨rfl,rfl,rfl⟩:=hrel
    go_wp2_with (first | (go_at_call 134;refine IN.out.mono ?_;rintro _ w1 ⟨rfl,hS⟩;have S1:=YtcgbgifbajdhpaaGreatDoorW.PrintWords.Aside0.mk hS;clear hS))
    go_loopg [6,7,8,9] 0 (fun kx s6 s7 s8 s9 wq => s6 = .int .i64 20∧wq=w1)
    case atStart => exact ⟨rfl,rfl⟩
    case round =>
      obtain ⟨rfl,rfl⟩:=hrel
      go_wp2
      go_end0
      exact ⟨rfl,S1.out⟩
theorem sortQ.calls (blk off cap:Nat) (d:Array EP) (w:World) (R:RowK encQ 3 w blk off d) (hsz:d.size<20) :
    Calls Tryz.prog 75 #[.slice (some ⟨blk,off,none⟩) d.size cap,.func (.func 76) #[] #[]] w fun e w' => e = .returned (.tuple #[])∧∃ d',SWK encQ 3 w blk off d' w'∧MG keyQ d 0 d.size d'∧Srt keyQ d' 0 d.size:=by
  have HI:=YtcgbgifbajdhpaaGreatDoorW.PrintWords.Aside0.mk (stableQ.calls blk off cap d w R hsz)
  clear R hsz
  generalize d.size=n at *
  go_enter Tryz.func75,Tryz.ntmps75
  go_wp2_with (first | (go_at_call 113;refine HI.out.mono ?_;rintro e w' ⟨rfl,hw'⟩;have HW:=YtcgbgifbajdhpaaGreatDoorW.PrintWords.Aside0.mk hw';clear hw'))
  go_end0
  exact ⟨rfl,HW.out⟩
end Go.Proofs.YtcgbgifbajdhpaaGreatDoor.PA
namespace Go.Proofs.YtcgbgifbajdhpaaGreatDoor.PA
open Go.RowKit Go.Lib Go.Sort
section
variable {α β:Type}
def insK (key:α→Int) (p:α):List α→List α
  | [] => [p]
  | q :: l => if key p<key q then p :: q :: l else q :: insK key p l
def srtK (key:α→Int) (l:List α):List α:=l.foldl (fun a p => insK key p a) []
def atK (key:α→Int) (v:Int) (l:List α):List α:=l.filter (fun x => decide (key x=v))
def Up (key:α→Int) (l:List α):Prop:=l.Pairwise (fun x y => key x≤key y)
theorem insK_mem (key:α→Int) (p x:α):∀ l:List α,x ∈ insK key p l↔x=p∨x ∈ l
  | [] => by simp [insK]
  | q :: l => by
    rw [insK]
    split
    · simp
    · rw [List.mem_cons,insK_mem key p x l,List.mem_cons]
      constructor
      · rintro (h | h | h) <;> simp [h]
      · rintro (h | h | h) <;> simp [h]
theorem insK_up (key:α→Int) (p:α):∀ l:List α,Up key l→Up key (insK key p l)
  | [],_ => List.pairwise_singleton _ _
  | q :: l,h => by
    obtain ⟨h1,h2⟩:=List.pairwise_cons.1 h
    rw [insK]
    split
    · rename_i hp
      refine List.pairwise_cons.2 ⟨fun x hx => ?_,h⟩
      rcases List.mem_cons.1 hx with rfl | hx
      · omega
      · have:=h1 x hx;omega
    · rename_i hp
      refine List.pairwise_cons.2 ⟨fun x hx => ?_,insK_up key p l h2⟩
      rcases (insK_mem key p x l).1 hx with rfl | hx
      · omega
      · exact h1 x hx
theorem atK_none {key:α→Int} {v:Int} {l:List α} (h:∀ x ∈ l,key x ≠ v):atK key v l=[]:=by
  unfold atK
  rw [List.filter_eq_nil_iff]
  intro x hx
  simpa using h x hx
theorem insK_at (key:α→Int) (p:α) (v:Int):∀ l:List α,Up key l→atK key v (insK key p l)=atK key v l++(if key p=v then [p] else [])
  | [],_ => by
    by_cases h:key p=v <;> simp [insK,atK,h]
  | q :: l,h => by
    obtain ⟨h1,h2⟩:=List.pairwise_cons.1 h
    rw [insK]
    split
    · rename_i hp
      by_cases hv:key p=v
      · have hn:atK key v (q :: l)=[]:=atK_none (fun x hx => by
          rcases List.mem_cons.1 hx with rfl | hx
          · omega
          · have:=h1 x hx;omega)
        rw [hn,if_pos hv]
        show (p :: q :: l).filter _=_
        rw [List.filter_cons,if_pos (by simpa using hv)]
        show p :: atK key v (q :: l)=_
        rw [hn];rfl
      · rw [if_neg hv,List.append_nil]
        show (p :: q :: l).filter _=_
        rw [List.filter_cons,if_neg (by simpa using hv)];rfl
    · have ih:=insK_at key p v l h2
      show (q :: insK key p l).filter _=(q :: l).filter _++_
      rw [List.filter_cons,List.filter_cons]
      split
      · rw [List.cons_append]
        exact congrArg (q :: ·) ih
      · exact ih
theorem fold_up (key:α→Int):∀ (l a:List α),Up key a→Up key (l.foldl (fun a p => insK key p a) a)∧∀ v,atK key v (l.foldl (fun a p => insK key p a) a)=atK key v a++atK key v l
  | [],a,h => ⟨h,fun v => by simp [atK]⟩
  | p :: l,a,h => by
    obtain ⟨h1,h2⟩:=fold_up key l (insK key p a) (insK_up key p a h)
    refine ⟨h1,fun v => ?_⟩
    rw [List.foldl_cons,h2 v,insK_at key p v a h,List.append_assoc]
    congr 1
    show _=(p :: l).filter _
    rw [List.filter_cons]
    by_cases hv:key p=v <;> simp [hv,atK]
theorem srtK_up (key:α→Int) (l:List α):Up key (srtK key l):=(fold_up key l [] List.Pairwise.nil).1
theorem srtK_at (key:α→Int) (l:List α) (v:Int):atK key v (srtK key l)=atK key v l:=by
  rw [srtK,(fold_up key l [] List.Pairwise.nil).2 v];rfl
theorem mem_atK {key:α→Int} {x:α} {l:List α}:x ∈ atK key (key x) l↔x ∈ l:=by simp [atK]
theorem up_ext (key:α→Int):∀ (a b:List α),Up key a→Up key b→(∀ v,atK key v a=atK key v b)→a=b
  | [],[],_,_,_ => rfl
  | [],y :: b,_,_,h => by
    have h1:y ∈ atK key (key y) (y :: b):=mem_atK.2 List.mem_cons_self
    rw [← h (key y)] at h1
    simp [atK] at h1
  | x :: a,[],_,_,h => by
    have h1:x ∈ atK key (key x) (x :: a):=mem_atK.2 List.mem_cons_self
    rw [h (key x)] at h1
    simp [atK] at h1
  | x :: a,y :: b,ha,hb,h => by
    obtain ⟨ha1,ha2⟩:=List.pairwise_cons.1 ha
    obtain ⟨hb1,hb2⟩:=List.pairwise_cons.1 hb
    have hx:x ∈ y :: b:=mem_atK.1 (by rw [← h (key x)];exact mem_atK.2 List.mem_cons_self)
    have hy:y ∈ x :: a:=mem_atK.1 (by rw [h (key y)];exact mem_atK.2 List.mem_cons_self)
    have h1:key y≤key x:=by
      rcases List.mem_cons.1 hx with rfl | hx
      · exact Int.le_refl _
      · exact hb1 x hx
    have h2:key x≤key y:=by
      rcases List.mem_cons.1 hy with rfl | hy
      · exact Int.le_refl _
      · exact ha1 y hy
    have hk:key y=key x:=by omega
    have h3:=h (key x)
    have e1:atK key (key x) (x :: a)=x :: atK key (key x) a:=by
      show (x :: a).filter _=_
      rw [List.filter_cons,if_pos (by simp)];rfl
    have e2:atK key (key x) (y :: b)=y :: atK key (key x) b:=by
      show (y :: b).filter _=_
      rw [List.filter_cons,if_pos (by simp [hk])];rfl
    rw [e1,e2] at h3
    injection h3 with h4 h5
    subst h4
    rw [up_ext key a b ha2 hb2 (fun v => by
      by_cases hv:key x=v
      · subst hv;exact h5
      · have h6:=h v
        have e3:∀ c:List α,atK key v (x :: c)=atK key v c:=fun c => by
          show (x :: c).filter _=_
          rw [List.filter_cons,if_neg (by simpa using hv)];rfl
        rwa [e3,e3] at h6)]
theorem insK_map (f:β→α) (key:α→Int) (p:β):∀ l:List β,(insK (fun x => key (f x)) p l).map f=insK key (f p) (l.map f)
  | [] => rfl
  | q :: l => by
    rw [insK,List.map_cons,insK]
    split
    · rfl
    · rw [List.map_cons,insK_map f key p l]
theorem srtK_map (f:β→α) (key:α→Int) (l:List β):(srtK (fun x => key (f x)) l).map f=srtK key (l.map f):=by
  have:∀ (l a:List β),(l.foldl (fun a p => insK (fun x => key (f x)) p a) a).map f=(l.map f).foldl (fun a p => insK key p a) (a.map f):=by
    intro l
    induction l with
    | nil => intro a;rfl
    | cons p l ih => intro a;rw [List.foldl_cons,ih,insK_map,List.map_cons,List.foldl_cons]
  exact this l []
theorem insK_len (key:α→Int) (p:α):∀ l:List α,(insK key p l).length=l.length+1
  | [] => rfl
  | q :: l => by
    rw [insK]
    split
    · rfl
    · rw [List.length_cons,insK_len key p l,List.length_cons]
theorem srtK_len (key:α→Int) (l:List α):(srtK key l).length=l.length:=by
  have:∀ (l a:List α),(l.foldl (fun a p => insK key p a) a).length=a.length+l.length:=by
    intro l
    induction l with
    | nil => intro a;rfl
    | cons p l ih => intro a;rw [List.foldl_cons,ih,insK_len,List.length_cons];omega
  have h:=this l []
  rw [List.length_nil,Nat.zero_add] at h
  exact h
end
theorem insPt_eq (p:Pt):∀ l:List Pt,insPt p l=insK (fun q => (q.num:Int)) p l
  | [] => rfl
  | q :: l => by
    rw [insPt,insK,insPt_eq p l]
    by_cases h:p.num<q.num
    · rw [if_pos h,if_pos (by omega)]
    · rw [if_neg h,if_neg (by omega)]
theorem sortPt_eq (l:List Pt):sortPt l=srtK (fun q => (q.num:Int)) l:=by
  unfold sortPt srtK
  congr 1
  funext a p
  exact insPt_eq p a
end Go.Proofs.YtcgbgifbajdhpaaGreatDoor.PA
namespace Go.Proofs.YtcgbgifbajdhpaaGreatDoor.PA
open Go.RowKit Go.Proofs.YtcgbgifbajdhpaaGreatDoor.G Go.Proofs.YtcgbgifbajdhpaaGreatDoorW.PrintWords Go.Proofs.YtcgbgifbajdhpaaGreatDoorW.PrintLast Go.Proofs.YtcgbgifbajdhpaaGreatDoorW.PrintMore
def flatQ (l:List EP):List Value:=l.flatMap encQ
theorem flatQ_cons (x:EP) (l:List EP):flatQ (x :: l) = .int .i64 x.num :: .slice x.A0 x.n0 x.c0 :: .slice x.A1 x.n1 x.c1 :: flatQ l:=rfl
theorem flatQ_len:∀ (l:List EP),(flatQ l).length=l.length*3
  | [] => rfl
  | x :: l => by rw [flatQ_cons,List.length_cons,List.length_cons,List.length_cons,flatQ_len l,List.length_cons];omega
theorem flatQ_get:∀ (l:List EP) (j:Nat),j<l.length*3→(flatQ l)[j]? = (encQ (l.getD (j / 3) zEP))[j % 3]?
  | [],j,h => by simp at h
  | x :: l,0,_ => rfl
  | x :: l,1,_ => rfl
  | x :: l,2,_ => rfl
  | x :: l,j+3,h => by
    rw [flatQ_cons,List.getElem?_cons_succ,List.getElem?_cons_succ,List.getElem?_cons_succ,flatQ_get l j (by rw [List.length_cons] at h;omega),show (j+3) / 3=j / 3+1 from by omega,show (j+3) % 3=j % 3 from by omega]
    rfl
theorem getD_arrQ (d:Array EP) (i:Nat):d.toList.getD i zEP=d[i]! := by
  rw [List.getD_eq_getElem?_getD,getElem!_def]
  simp only [Array.getElem?_toList]
  cases d[i]? <;> rfl
theorem encQ_get (x:EP) (j:Nat) (h:j<3):(encQ x)[j]? = some (encQ x)[j]! := by
  rcases (show j=0∨j=1∨j=2 from by omega) with rfl | rfl | rfl <;> rfl
theorem swk_blockQ {w W:World} {g:Nat} {d:Array EP} (h:SWK encQ 3 w g 0 d W) (hg:g<w.heap.size) {cur:Array Value} (hh:w.heap[g]? = some (.cells cur 123 (0,0))) :
    w.grownBy W (some g)∧∃ cur',W.heap[g]? = some (.cells cur' 123 (0,0))∧cur'.size=cur.size:=by
  obtain ⟨n,os,rfl⟩:=h
  refine ⟨⟨rfl,rfl,rfl,by unfold Go.Proofs.sortWorldK Sort.putRowK Sort.grow;simp [Sort.ahead],fun k hk hne => ?_⟩,?_⟩
  · unfold Go.Proofs.sortWorldK Sort.putRowK
    rw [Sort.heap_grow_old _ _ (by simp;exact hk)]
    show (Sort.mapBlock _ g _).heap[k]? = _
    unfold Sort.mapBlock
    simp [Array.getElem?_modify,Sort.ahead]
    intro e
    exact absurd (by rw [e]) hne
  · unfold Go.Proofs.sortWorldK Sort.putRowK
    rw [Sort.heap_grow_old _ _ (by simp;exact hg)]
    show ∃ cur',(Sort.mapBlock _ g _).heap[g]? = _∧_
    unfold Sort.mapBlock
    have hh':(Sort.ahead w n).heap[g]? = some (.cells cur 123 (0,0)):=hh
    refine ⟨_,by rw [Array.getElem?_modify,if_pos rfl,hh'];rfl,?_⟩
    simp [Sort.putCells]
theorem swk_ownsQ {w W:World} {base g cap m:Nat} {d:Array EP} (h:SWK encQ 3 w g 0 d W) (hg:g<w.heap.size) {cur:Array Value} (hh:w.heap[g]? = some (.cells cur 123 (0,0))) (hc:cur.size=cap*3) {d0:Array EP} (R:Go.Proofs.RowK encQ 3 w g 0 d0) (hs:d.size=d0.size) (hb:base≤g) (hm:m≤d.size) (hd:d.size≤cap) (hx:cap≤maxLen) :
    W.ownsRow base 123 3 (.slice (some ⟨g,0,none⟩) m cap) m (flatQ (segA d 0 m)):=by
  obtain ⟨_,cur',h1,h2⟩:=swk_blockQ h hg hh
  have hl:(segA d 0 m).length=m:=by rw [seg_len,Nat.sub_zero]
  refine ⟨by rw [flatQ_len,hl],.inr ⟨g,cap,cur',rfl,hb,h1,by omega,hx,by omega,?_⟩⟩
  apply List.ext_getElem?
  intro j
  by_cases hj:j<m*3
  · have hH:=h.holds R.hblk R.hH hs
    have hc2:=(hH j (by rw [Sort.size_flatK];omega)).1
    rw [Nat.zero_add,blk_cell h1,Sort.get_flatK _ _ _ _ (by omega)] at hc2
    rw [List.getElem?_take,if_pos hj,flatQ_get _ _ (by rw [hl];exact hj),encQ_get _ _ (Nat.mod_lt _ (by omega))]
    have e2:(segA d 0 m).getD (j / 3) zEP=d[j / 3]! := by
      rw [List.getD_eq_getElem?_getD]
      unfold segA
      simp [show j / 3<m from by omega]
    rw [e2]
    simpa using hc2
  · rw [List.getElem?_eq_none (by rw [List.length_take];omega),List.getElem?_eq_none (by rw [flatQ_len,hl];omega)]
theorem getD_arrQ' (l:List EP) (i:Nat):l.getD i zEP=l.toArray[i]! := by rw [← getD_arrQ]
theorem reps_flat {sz:Nat}:∀ (rows:List (List Value)) (inner:List Value),Reps (fun x cs => cs=x∧cs.length=sz∧∀ u ∈ cs,u.oneCell'=true) sz rows inner→inner=rows.flatten
  | [],inner,h => by
    have h1:=h.1
    rw [List.length_nil,Nat.zero_mul] at h1
    rw [List.length_eq_zero_iff.1 h1];rfl
  | r :: rs,inner,h => by
    have h0:=(h.2 0 r rfl).1
    have hlen:=h.1
    rw [List.length_cons,Nat.add_mul,Nat.one_mul] at hlen
    have h1:=reps_flat (sz:=sz) rs (inner.drop sz) ⟨by rw [List.length_drop];omega,fun j p hj => by
      have h2:=h.2 (j+1) p (by simpa using hj)
      rw [List.drop_drop,show sz+j*sz=(j+1)*sz by rw [Nat.add_mul];omega]
      exact h2⟩
    rw [Nat.zero_mul,List.drop_zero] at h0
    rw [List.flatten_cons,← h1,← h0,List.take_append_drop]
theorem flat_reps {sz:Nat}:∀ (rows:List (List Value)),(∀ r ∈ rows,r.length=sz∧∀ u ∈ r,u.oneCell'=true)→Reps (fun x cs => cs=x∧cs.length=sz∧∀ u ∈ cs,u.oneCell'=true) sz rows rows.flatten
  | [],_ => ⟨by simp,fun j p h => by simp at h⟩
  | r :: rs,h => by
    have h1:=flat_reps rs (fun x hx => h x (List.mem_cons_of_mem _ hx))
    have h0:=h r List.mem_cons_self
    refine ⟨by rw [List.flatten_cons,List.length_append,h1.1,h0.1,List.length_cons,Nat.add_mul];omega,fun j p hj => ?_⟩
    cases j with
    | zero =>
      simp only [List.getElem?_cons_zero,Option.some.injEq] at hj
      subst hj
      rw [Nat.zero_mul,List.drop_zero,List.flatten_cons,List.take_left' h0.1]
      exact ⟨rfl,h0⟩
    | succ j =>
      rw [List.getElem?_cons_succ] at hj
      have h2:=h1.2 j p hj
      rw [List.flatten_cons,show (j+1)*sz=r.length+j*sz by rw [h0.1,Nat.add_mul];omega,List.drop_append,List.drop_eq_nil_of_le (by omega),List.nil_append,Nat.add_sub_cancel_left]
      exact h2
abbrev ZP (W:World) (ok:Nat→Prop):={ z:EP × Pt // z.1.num=(z.2.num:Int)∧Kd.FK kP W ok z.2 (encQ z.1) }
theorem zip_rows {W:World} {ok:Nat→Prop}:∀ (out:List Pt) (rows:List (List Value)),rows.length=out.length→(∀ (j:Nat) (x:Pt) (c:List Value),out[j]? = some x→rows[j]? = some c→Kd.FK kP W ok x c)→∃ zs:List (ZP W ok),zs.map (·.1.2)=out∧zs.map (fun z => encQ z.1.1)=rows
  | [],rows,hl,_ => ⟨[],rfl,by rw [List.length_eq_zero_iff.1 hl];rfl⟩
  | x :: out,[],hl,_ => by simp at hl
  | x :: out,c :: rows,hl,h => by
    obtain ⟨zs,h1,h2⟩:=zip_rows out rows (by simpa using hl) (fun j y d hy hd => h (j+1) y d (by simpa using hy) (by simpa using hd))
    have hf:=h 0 x c rfl rfl
    obtain ⟨A0,c0,A1,c1,hc,_⟩:=kP_open (Kd.FK_now hf)
    subst hc
    refine ⟨⟨(⟨x.num,A0,x.ser.f0.length,c0,A1,x.ser.f1.length,c1⟩,x),rfl,hf⟩ :: zs,by rw [List.map_cons,h1],by rw [List.map_cons,h2];rfl⟩
theorem insNil.calls (c:Nat) (w:World):Calls Tryz.prog 134 #[.slice none 0 c,.int .i64 0,.int .i64 0,.func (.func 76) #[] #[]] w fun e w' => e = .returned (.tuple #[])∧Below w.heap.size w w':=by
  go_enter Tryz.func134,Tryz.ntmps134
  go_wp2
  go_loopg [8] 0 (fun kx s8 wr => s8 = .int .i64 1∧wr=w)
  case atStart => exact ⟨rfl,rfl⟩
  case round =>
    obtain ⟨rfl,rfl⟩:=hrel
    go_wp2
    go_end0
    exact ⟨rfl,Below.refl _ _⟩
theorem sortNil.calls (c:Nat) (w:World):Calls Tryz.prog 75 #[.slice none 0 c,.func (.func 76) #[] #[]] w fun e w' => e = .returned (.tuple #[])∧Below w.heap.size w w':=by
  have ST:Aside0 (Calls Tryz.prog 113 #[.slice none 0 c,.int .i64 0,.func (.func 76) #[] #[]] w fun e w' => e = .returned (.tuple #[])∧Below w.heap.size w w'):=⟨by
    have IN:=Aside0.mk (insNil.calls c w)
    go_enter Tryz.func113,Tryz.ntmps113
    go_wp2
    go_loopg [7,8] 0 (fun kx s7 s8 wr => s7 = .int .i64 0∧s8 = .int .i64 20∧wr=w)
    case atStart => exact ⟨rfl,rfl,rfl⟩
    case round =>
      obtain ⟨rfl,rfl,rfl⟩:=hrel
      go_wp2_with (first | (go_at_call 134;refine IN.out.mono ?_;rintro _ w1 ⟨rfl,hS⟩;have S1:=Aside0.mk hS;clear hS))
      go_loopg [6,7,8,9] 0 (fun kx s6 s7 s8 s9 wq => s6 = .int .i64 20∧wq=w1)
      case atStart => exact ⟨rfl,rfl⟩
      case round =>
        obtain ⟨rfl,rfl⟩:=hrel
        go_wp2
        go_end0
        exact ⟨rfl,S1.out⟩⟩
  go_enter Tryz.func75,Tryz.ntmps75
  go_wp2_with (first | (go_at_call 113;refine ST.out.mono ?_;rintro e w' ⟨rfl,hw'⟩;have HW:=Aside0.mk hw';clear hw'))
  go_end0
  exact ⟨rfl,HW.out⟩
theorem sortRow.calls {v:Value} {out:List Pt} {W:World} {base:Nat} {ok:Nat→Prop} (h:Kd.N kP 123 W base ok v out) (hl:out.length<20) :
    Calls Tryz.prog 75 #[v,.func (.func 76) #[] #[]] W fun e w' => e = .returned (.tuple #[])∧Kd.N kP 123 w' base ok v (sortPt out)∧W.grownBy w' v.ownBlock:=by
  obtain ⟨h0,rows,hrl,hR,hf⟩:=h
  obtain ⟨zs,hz1,hz2⟩:=zip_rows out rows hrl hf
  obtain ⟨hR0,inner,ho,hr⟩:=hR
  have hin:inner=rows.flatten:=reps_flat (sz:=3) rows inner hr
  have hfl:rows.flatten=flatQ (zs.map (·.1.1)):=by
    rw [← hz2,flatQ,List.flatMap_map,List.flatMap_def]
  have hzl:zs.length=out.length:=by rw [← hz1,List.length_map]
  have hrz:rows.length=zs.length:=by rw [← hz2,List.length_map]
  rcases ho.2 with ⟨rfl,hn0⟩ | ⟨g,cap,cur,rfl,hb,hh,h1,h2,h3,h4⟩
  · have hout:out=[]:=List.length_eq_zero_iff.1 (by omega)
    subst hout
    exact (sortNil.calls 0 W).mono fun e w' ⟨he,hb⟩ => ⟨he,Kd.N_nil _ _ _ _ _,⟨hb.os,hb.tape,hb.output,hb.size,fun k hk _ => hb.block k hk⟩⟩
  · have hqs:(zs.map (·.1.1)).toArray.size=rows.length:=by simp [hrz]
    have hg:g<W.heap.size:=blk_lt hh
    have R:Go.Proofs.RowK encQ 3 W g 0 (zs.map (·.1.1)).toArray:=by
      refine ⟨encQ_len,encQ_one,fun j hj => ?_,hg⟩
      rw [Sort.size_flatK] at hj
      have hj':j<(zs.map (·.1.1)).length*3:=by simpa using hj
      refine ⟨?_,blk_frozen hh _⟩
      rw [Nat.zero_add,blk_cell hh,Sort.get_flatK _ _ _ _ hj]
      have e1:cur[j]? = (flatQ (zs.map (·.1.1)))[j]? := by
        rw [← hfl,← hin,← h4,List.getElem?_take,if_pos (by rw [List.length_map] at hj';rw [hrz];exact hj')]
        simp
      rw [e1,flatQ_get _ j hj',encQ_get _ _ (Nat.mod_lt _ (by omega)),getD_arrQ' _ _]
      rfl
    refine Calls.mono (by have h5:=sortQ.calls g 0 cap (zs.map (·.1.1)).toArray W R (by omega);rw [hqs] at h5;exact h5) ?_
    rintro e w' ⟨rfl,d',hS,hM,hT⟩
    have hds:d'.size=rows.length:=hM.1.trans hqs
    have hd:d'.toList=srtK keyQ (zs.map (·.1.1)):=by
      refine up_ext keyQ _ _ ?_ (srtK_up _ _) (fun v => ?_)
      · rw [Up,List.pairwise_iff_getElem]
        intro i j hi hj hij
        have:=hT i j (Nat.zero_le _) hij (by simp at hj;omega)
        simpa [getElem!_pos,show i<d'.size by simpa using hi,show j<d'.size by simpa using hj] using this
      · rw [srtK_at]
        have h6:=hM.2.2 v
        have h7:segA d' 0 rows.length=d'.toList:=by rw [← hds];exact seg_all d'
        have h8:segA (zs.map (·.1.1)).toArray 0 rows.length=(zs.map (·.1.1)).toArray.toList:=by rw [← hqs];exact seg_all _
        rw [h7,h8] at h6
        exact h6
    have hkey:(fun z:ZP W (fun k => ok k∧some k ≠ (Value.slice (some ⟨g,0,none⟩) rows.length cap).ownBlock) => keyQ z.1.1)=fun z => ((z.1.2.num:Nat):Int):=by funext z;exact z.2.1
    have hd2:d'.toList=(srtK (fun z => keyQ z.1.1) zs).map (·.1.1):=by rw [hd,srtK_map (fun z:ZP W _ => z.1.1) keyQ zs]
    have ho2:sortPt out=(srtK (fun z => keyQ z.1.1) zs).map (·.1.2):=by rw [sortPt_eq,← hz1,hkey,srtK_map (fun z:ZP W _ => z.1.2) (fun q => (q.num:Int)) zs]
    generalize hzs:srtK (fun z => keyQ z.1.1) zs=zs' at hd2 ho2
    have hzl':zs'.length=rows.length:=by
      have:=congrArg List.length hd2
      rw [List.length_map] at this
      rw [← this,← hds];simp
    obtain ⟨hgr,_⟩:=swk_blockQ hS hg hh
    have hO:=swk_ownsQ hS hg hh h3 R (hM.1) hb (Nat.le_refl d'.size) (by omega) h2
    have hf':segA d' 0 d'.size=zs'.map (·.1.1):=by rw [seg_all,hd2]
    rw [hf',hds] at hO
    have hfl':flatQ (zs'.map (·.1.1))=(zs'.map (fun z => encQ z.1.1)).flatten:=by rw [flatQ,List.flatMap_map,List.flatMap_def]
    rw [hfl'] at hO
    have HRR:Reps (fun x cs => cs=x∧cs.length=3∧∀ (u:Value),u ∈ cs→u.oneCell'=true) 3 (zs'.map (fun z => encQ z.1.1)) (zs'.map (fun z => encQ z.1.1)).flatten:=flat_reps (sz:=3) _ (fun r hr' => by
      obtain ⟨z,_,rfl⟩:=List.mem_map.1 hr'
      exact ⟨rfl,encQ_one _⟩)
    have HL':(zs'.map (fun z => encQ z.1.1)).length=rows.length:=by rw [List.length_map,hzl']
    rw [← HL'] at hO h0 ⊢
    have HRW:(Kd.raw kP.sz).R 123 w' base (fun k => some k=(Value.slice (some ⟨g,0,none⟩) (zs'.map (fun z => encQ z.1.1)).length cap).ownBlock) (.slice (some ⟨g,0,none⟩) (zs'.map (fun z => encQ z.1.1)).length cap) (zs'.map (fun z => encQ z.1.1)):=⟨fun k hk => hk.symm,_,hO,HRR⟩
    refine ⟨rfl,⟨h0,_,by rw [ho2,List.length_map,List.length_map],HRW,fun j x c hx hc => ?_⟩,hgr⟩
    · rw [ho2,List.getElem?_map] at hx
      rw [List.getElem?_map] at hc
      cases hzj:zs'[j]? with
      | none => rw [hzj] at hx;cases hx
      | some z =>
        rw [hzj] at hx hc
        cases hx
        cases hc
        exact Kd.FK_grown z.2.2 hgr (fun k hk => hk.2)
theorem kP_ser {W:World} {ok:Nat→Prop} {x:Pt} {A0 A1:Option Addr} {c0 c1:Nat} (h:Kd.FK kP W ok x [.int .i64 x.num,.slice A0 x.ser.f0.length c0,.slice A1 x.ser.f1.length c1]):Kd.FK k51 W ok x.ser [.slice A0 x.ser.f0.length c0,.slice A1 x.ser.f1.length c1]:=fun W' hW => by
  obtain ⟨B0,d0,B1,d1,he,h1,h2,h3,h4⟩:=kP_open (h W' hW)
  injection he with _ he
  injection he with e1 he
  injection he with e2 _
  injection e1 with e1 _ e3
  injection e2 with e2 _ e4
  subst e1 e2 e3 e4
  exact k51_mk W' x.ser h1 h2 h3 h4
def FoundInv (w:World) (fs:List Fr) (W:World):Prop:=∃ v,CU W w.heap.size v∧Kd.N kP 123 W w.heap.size (fun k => w.heap.size<k) v (fs.filterMap partD)∧Below w.heap.size w W
theorem foundThru (A:Option Addr) (c n:Nat) (b:List Int) (w:World) (hn:b.length=n) (hr:Kd.C (Kd.int .u8) w A n b) (hc:n≤c) (hok:okB b=true) (hlen:n≤1000000) (hT:TabQ w) (hZ:TabZ w) :
    Calls Tryz.prog 44 #[.slice A n c,.func (.func 74) #[.pointer (some ⟨w.heap.size,0,none⟩)] #[]] (w.alloc (.cells #[.slice none 0 0] 120 (0,0))) fun e w' => e = .returned (.tuple #[])∧FoundInv w (frsL b) w':=by
  refine thrTake.calls w.heap.size A c n b _ (FoundInv w) hn hc hok (by omega) (fun fs W ⟨v,_,_,hb⟩ => Kd.C_below hr hb) (fun fs W ⟨v,_,_,hb⟩ => hT.below hb) (fun fs W W' ⟨v,h1,h2,h3⟩ hb => ⟨v,blk_below h1 hb,Kd.N_below h2 hb,below_step h3 hb⟩)
    (fun fs f W A' c' ⟨v,h1,h2,h3⟩ hl hpl hpo hC hcc => ?_) ⟨.slice none 0 0,blk_new _ _,Kd.N_nil _ _ _ _ _,below_alloc (Below.refl _ _) _⟩
  have hll:(fs.filterMap partD).length≤1000000000:=Nat.le_trans (List.length_filterMap_le ..) (by rw [List.length_cons] at hl;omega)
  refine (take.calls w.heap.size f.pay.length f v (fs.filterMap partD) A' c' w.heap.size w W rfl hC hcc hpl hpo (hZ.below h3) h1 h2 hll h3 (Nat.le_refl _)).mono fun e w' ⟨he,v',g1,g2,g3⟩ => ⟨he,v',g1,?_,g3⟩
  rw [List.filterMap_append,show [f].filterMap partD=(partD f).toList by cases h:partD f <;> simp [h]]
  exact g2
theorem found.calls (A:Option Addr) (c n:Nat) (b:List Int) (w:World) (hn:b.length=n) (hr:Kd.C (Kd.int .u8) w A n b) (hc:n≤c) (hok:okB b=true) (hlen:n≤1000000) (hT:TabQ w) (hZ:TabZ w) (hfew:(ptsL b).length<20) :
    Calls Tryz.prog 37 #[.slice A n c] w fun e w' => ∃ v:Value,e = .returned v∧Kd.N k51 51 w' w.heap.size (fun k => w.heap.size<k) v (foundL b)∧Below w.heap.size w w':=by
  have TH:=Aside0.mk (foundThru A c n b w hn hr hc hok hlen hT hZ)
  have HFW:=Aside0.mk hfew
  obtain ⟨S,hS⟩:∃ S,sortPt (ptsL b)=S:=⟨_,rfl⟩
  have HFL:Aside0 (foundL b=S.map (·.ser)):=⟨by rw [foundL,hS]⟩
  have HSS:=Aside0.mk hS
  clear hr hc hok hT hZ hn hfew hS
  go_enter Tryz.func37,Tryz.ntmps37
  go_wp2_with (first | (go_at_call 44;(with_reducible refine TH.out.mono ?_);rintro e w1 ⟨rfl,v1,hu,hn1,hb⟩;obtain ⟨n1,A1,c1,rfl⟩:∃ n A c,v1 = .slice A n c:=(by obtain ⟨A1,c1,h⟩:=Kd.N_slice hn1;exact ⟨_,A1,c1,h⟩);have HU1:=Aside0.mk hu;have HN1:Aside0 (Kd.N kP 123 w1 w.heap.size (fun k => w.heap.size<k) (.slice A1 n1 c1) (ptsL b)):=⟨hn1⟩;have HB1:=Aside0.mk hb;have q0:=(blk_cell hu 0).trans rfl;clear hu hn1 hb) | (go_at_call 75;(with_reducible refine (sortRow.calls HN1.out HFW.out).mono ?_);rintro e w2 ⟨rfl,hn2,hg⟩;have HN2:=Aside0.mk hn2;have HG2:=Aside0.mk hg;have HU2:=Aside0.mk (blk_grown HU1.out hg (fun e => by have h1:w.heap.size<w.heap.size:=HN1.out.1 _ e.symm;omega));clear q0;have q0:=(blk_cell HU2.out 0).trans rfl;clear hn2 hg))
  rw [HSS.out] at HN2
  obtain ⟨A2,c2,hv2⟩:=Kd.N_slice HN2.out
  cases hv2
  have HW2:Aside0 (Below w.heap.size w w2):=⟨Below.grown HB1.out HG2.out HB1.out.size (fun k e => Nat.le_of_lt (HN2.out.1 k e))⟩
  have hpw:w.heap.size<w2.heap.size:=blk_lt HU2.out
  have HCF:=Aside0.mk (Kd.F_bound (Kd.N_F HN2.out))
  have HSL:Aside0 (S.length≤1000):=⟨by
    have h1:=congrArg List.length HSS.out
    have h2:=HFW.out
    have h3:(sortPt (ptsL b)).length=(ptsL b).length:=by rw [sortPt_eq];exact srtK_len _ _
    omega⟩
  clear q0
  go_loopg [5,25] S.length (fun kx s5 s25 wr => ∃ (k:Nat),s25 = .int .i64 k∧k≤S.length∧S.length - k≤kx∧Aside0 (Kd.N k51 51 wr w2.heap.size (fun k => w.heap.size<k) s5 ((S.take k).map (·.ser)))∧Aside0 (Below w2.heap.size w2 wr))
  case atStart => exact ⟨0,rfl,Nat.zero_le _,by omega,⟨by rw [List.take_zero];exact Kd.N_nil _ _ _ _ _⟩,⟨Below.refl _ _⟩⟩
  case round =>
    obtain ⟨k,rfl,hk,hkx,HN,HB⟩:=hrel
    by_cases hlt:k<S.length
    · obtain ⟨ad,cs,rfl,hcl,hFK,hcc,_⟩:=Kd.F_get (Kd.F_below HCF.out HB.out) zP (k:Int) (by omega) (by omega)
      rw [Int.toNat_natCast] at hFK hcc
      obtain ⟨A0,c0,A3,c3,rfl,_⟩:=kP_open (Kd.FK_now hFK)
      have x0:wr.cell? (ad.add (k*3))=some (.int .i64 (S.getD k zP).num):=hcc 0 _ rfl
      have x1:wr.cell? ⟨(ad.add (k*3)).block,(ad.add (k*3)).off+1,none⟩=some (.slice A0 (S.getD k zP).ser.f0.length c0):=by rw [← add_field _ _ 1 (by omega)];exact hcc 1 _ rfl
      have x2:wr.cell? ⟨(ad.add (k*3)).block,(ad.add (k*3)).off+2,none⟩=some (.slice A3 (S.getD k zP).ser.f1.length c3):=by rw [← add_field _ _ 2 (by omega)];exact hcc 2 _ rfl
      have HTF:Aside0 ((S.take (k+1)).map (·.ser)=(S.take k).map (·.ser) ++ [(S.getD k zP).ser]):=⟨by
        rw [List.take_add_one,List.map_append]
        simp [List.getD_eq_getElem?_getD,List.getElem?_eq_getElem hlt]⟩
      have HFK:=Aside0.mk (kP_ser hFK)
      have hkz:(k:Int)<(S.length:Int):=by omega
      have HTL:Aside0 (((S.take k).map (·.ser)).length≤1000):=⟨by rw [List.length_map,List.length_take];have:=HSL.out;omega⟩
      have HBS:=Aside0.mk (Kd.N_base HN.out)
      clear hcc hFK hcl
      generalize S.getD k zP=s at *
      have hs1:=HB.out.size
      have hsl8:=HSL.out
      go_wp2_with (first | ((with_reducible refine gate_dst (N:=33) rfl ?_);go_must (refine Kd.N_append k51 (w0:=w2) w2.heap.size rfl (.tmp 29) (.tmp 32) 22 51 (.agg #[.slice none 0 0,.slice none 0 0]) 48 rfl Tryz.underlying22 info51 rfl (by decide) (by decide) u5 _ s.ser _ (fun k => w.heap.size<k) (fun k => w.heap.size<k∧k<w2.heap.size) rfl (by rw [World.size_alloc];rfl) (Kd.FK_below HFK.out (below_alloc (Below.refl _ _) _)) ?h4 ?h5 (Kd.N_alloc HN.out _) (HB.out.alloc hs1 _) ?h7 ?h6 ?_);(case h4 => exact fun k hk => ⟨hk.1,fun e => by have:=HBS.out k e.symm;omega⟩);(case h5 => exact fun k hk => by rw [World.size_alloc] at hk;omega);(case h6 => (have:=HTL.out;omega));(case h7 => (rw [World.size_alloc];omega));intro v4 w4 hn4 hb4 hg4 hat4;have HN4:=Aside0.mk hn4;have HB4:=Aside0.mk hb4;clear hn4 hb4 hg4 hat4))
      go_roundg (S.length - (k+1))
      case measure => omega
      case rel => exact ⟨k+1,by go_num,hlt,Nat.le_refl _,⟨by rw [HTF.out];exact HN4.out⟩,HB4⟩
    · obtain rfl:k=S.length:=by omega
      rw [List.take_length] at HN
      have hkz:¬ ((S.length:Int)<(S.length:Int)):=by omega
      go_wp2_with fail
      go_ret
      exact ⟨_,rfl,by rw [HFL.out];exact Kd.N_lower HN.out (Nat.le_of_lt hpw),HW2.out.trans (HB.out.mono (Nat.le_of_lt hpw))⟩
def kSB:Kd (List Int):=Kd.slice 5 (Kd.int .u8)
theorem info_SB:(Tryz.prog.info? 24).map (fun i => (i.zero,i.size,i.bytes))=some (some (.slice none 0 0),1,24):=by kernel_rfl
theorem cut3 (A:Option Addr) (n c lo hi:Nat) (h1:lo<hi) (h2:hi≤n) (hc:n≤c) :
    ∀ i j:Int,i=(lo:Int)→j=(hi:Int)→∀ W:World,(Instr.slice 24 (.slice A n c) (some (.int .i64 i)) (some (.int .i64 j)) (some (.int .i64 j))).run Tryz.prog W = .ok (.slice (A.map (·.add lo)) (hi - lo) (hi - lo)) W:=by
  intro i j hi' hj' W
  subst hi' hj'
  obtain ⟨i0,hi0,hsz⟩:=infoN5
  have hu:=Tryz.underlying24
  have hel:Tryz.prog.elem 24=5:=by simp [Program.elem,hu]
  have hu':Tryz.prog.underlying 24=some (.slice (Tryz.prog.elem 24)):=by rw [hel];exact hu
  rw [run_slice_lhm W 24 A n c hu' .i64 .i64 .i64 (lo:Int) (hi:Int) (hi:Int) (by omega) (by omega) (by omega) (by omega),hel]
  simp only [sizeOf,typeInfo,Sem.run_bind,hi0,sliced,Result.andThen,hsz,Int.toNat_natCast]
  cases A <;> simp [go_sem,hi0,hsz,Nat.ne_of_gt h1]
theorem segN_pay (p:S51) (h:okP p) (R:List Int):encPj p++R=beL (payP p).length 4++(payP p++R)∧(payP p).length≤1000∧0<(payP p).length:=by
  refine ⟨?_,(payP_ok h).2,?_⟩
  · rw [encPj,encPart,payP,List.length_append]
    simp only [List.append_assoc]
  · rw [payP,List.length_append,encLb]
    simp only [List.length_cons]
    omega
theorem split.calls (A:Option Addr) (c n:Nat) (P:List S51) (w:World) (hok:∀ p ∈ P,okP p) (hn:(P.flatMap encPj).length=n) (hr:Kd.C (Kd.int .u8) w A n (P.flatMap encPj)) (hc:n≤c) (hlen:n≤600000000) (hP:P.length≤1000000) :
    Calls Tryz.prog 29 #[.slice A n c] w fun e w' => ∃ v:Value,e = .returned v∧Kd.N kSB 24 w' w.heap.size (fun _ => True) v (P.map payP)∧Below w.heap.size w w':=by
  subst hn
  have HOK:=Aside0.mk hok
  have HF:=Aside0.mk (Kd.C_F (Kd.heap_int .u8) hr)
  clear hok hr
  go_enter Tryz.func29,Tryz.ntmps29
  go_wp2
  go_loopg [0,3] P.length (fun kx s0 s3 wr => ∃ (dn td:List S51) (Ai:Option Addr) (ci:Nat),Aside0 (P=dn++td)∧td.length≤kx∧s0 = .slice Ai (td.flatMap encPj).length ci∧(td.flatMap encPj).length≤ci∧(td.flatMap encPj).length≤600000000∧Aside0 (Kd.F (Kd.int .u8) w (fun k => k<w.heap.size) Ai (td.flatMap encPj).length (td.flatMap encPj))∧Aside0 (Kd.N kSB 24 wr w.heap.size (fun _ => True) s3 (dn.map payP))∧Aside0 (Below w.heap.size w wr))
  case atStart => exact ⟨[],P,A,c,⟨rfl⟩,Nat.le_refl _,rfl,hc,hlen,HF,⟨Kd.N_nil _ _ _ _ _⟩,⟨Below.refl _ _⟩⟩
  case round =>
    clear hc hlen HF
    obtain ⟨dn,td,Ai,ci,HPD,hkx,rfl,hci,hlen,HF,HN,HB⟩:=hrel
    cases td with
    | nil =>
      have HN':Aside0 (Kd.N kSB 24 wr w.heap.size (fun _ => True) u3 (P.map payP)):=⟨by rw [HPD.out,List.append_nil];exact HN.out⟩
      obtain ⟨Av,cv,rfl⟩:=Kd.N_slice HN'.out
      go_wp2
      go_ret
      exact ⟨_,rfl,HN'.out,HB.out⟩
    | cons p td =>
      have hp:okP p:=HOK.out p (by rw [HPD.out];simp)
      obtain ⟨hS,hm1,hm0⟩:=segN_pay p hp (td.flatMap encPj)
      rw [show (p :: td).flatMap encPj=beL (payP p).length 4++(payP p++td.flatMap encPj) from hS] at HF hci hlen ⊢
      have hdl:dn.length+1≤1000000:=by have:=hP;rw [HPD.out] at this;simp at this;omega
      have HQ:Aside0 (okB (payP p)=true):=⟨(payP_ok hp).1⟩
      have HMP:Aside0 ((dn ++ [p]).map payP=dn.map payP ++ [payP p]):=⟨by simp⟩
      have HDL:Aside0 ((dn.map payP).length=dn.length):=⟨List.length_map ..⟩
      clear hS hp
      generalize hR:td.flatMap encPj=R at *
      generalize payP p=q at *
      have h4:(beL q.length 4).length=4:=beL_length _ _
      have hlS:(beL q.length 4++(q++R)).length=4+q.length+R.length:=by rw [List.length_append,List.length_append,h4];omega
      have hS4:(beL q.length 4++(q++R)).take 4=beL q.length 4:=List.take_left' h4
      have hSm:((beL q.length 4++(q++R)).take (4+q.length)).drop 4=q:=by
        rw [← List.append_assoc,List.take_left' (by rw [List.length_append,h4]),List.drop_left' h4]
      have hSd:(beL q.length 4++(q++R)).drop (4+q.length)=R:=by
        rw [← List.append_assoc,List.drop_left' (by rw [List.length_append,h4])]
      have GET:Aside0 (Calls Tryz.prog 63 #[.slice Ai 4 ci] wr fun e w' => e = .returned (.tuple #[.int .u64 ((q.length:Nat):Int),.bool true])∧Below wr.heap.size wr w'):=⟨by
        have hC:=Kd.C_below (Kd.F_now HF.out) HB.out
        have h1:=crc_Get.calls Ai ci (beL q.length 4) ((q.length:Nat):Int) true wr (by have h2:=Kd.C_take hC (m:=4) (by omega);rwa [hS4] at h2) (by omega) (by rw [crc_Get.f,if_pos (beL_okB _ _),if_pos (by omega),beV_small (by omega)])
        rw [h4] at h1
        exact h1.mono fun e w' ⟨he,hd⟩ => ⟨he,hd.below⟩⟩
      obtain ⟨A',c',r,hr,HCR,hc',_,hcut⟩:=cutB2 Ai ci (beL q.length 4++(q++R)) (4+q.length) (by omega) hci
      have hrR:r=R:=by rw [hr.out,hSd]
      subst hrR
      have hcut1:=hcut ((4:Int)+(q.length:Int)) (by omega)
      have hcut3:=cut3 Ai (beL q.length 4++(q++r)).length ci 4 (4+q.length) (by omega) (by omega) hci 4 ((4:Int)+(q.length:Int)) rfl (by omega)
      rw [Nat.add_sub_cancel_left] at hcut3
      have HFR:Aside0 (Kd.F (Kd.int .u8) w (fun k => k<w.heap.size) A' r.length r):=⟨Kd.F_imp HF.out HCR.out⟩
      have HFK:Aside0 (Kd.FK kSB wr (fun k => k<w.heap.size) q [.slice (Ai.map (·.add 4)) q.length q.length]):=⟨Kd.FK_slice_mk (Nat.le_refl _) (Kd.F_below (Kd.F_imp HF.out (fun W hW => by
        have h1:=Kd.C_mid (c:=ci) (lo:=4) (hi:=4+q.length) hW (by omega) (by omega) hci
        rw [if_neg (by omega),hSm] at h1
        exact h1)) HB.out)⟩
      have hsum:IntKind.i64.wrap (4+(q.length:Int))=4+(q.length:Int):=by rw [IntKind.wrap_i64];omega
      have hwq:IntKind.i64.wrap ((q.length:Nat):Int)=(q.length:Int):=by rw [IntKind.wrap_i64];omega
      have HBS:=Aside0.mk (Kd.N_base HN.out)
      have hpos:((beL q.length 4++(q++r)).length:Int) > 0:=by omega
      have h4S:4≤(beL q.length 4++(q++r)).length:=by omega
      generalize hnS:(beL q.length 4++(q++r)).length=nS at *
      have hrl:r.length≤600000000:=by omega
      clear hr HCR hcut hSd hSm hS4 HF h4 hlS hnS
      go_wp2_with (first | (go_at_call 63;(with_reducible refine GET.out.mono ?_);rintro e w1 ⟨rfl,hb⟩;have HB1:=Aside0.mk (below_step HB.out hb);have HN1:=Aside0.mk (Kd.N_below HN.out hb);have HF1:=Aside0.mk (Kd.FK_step HFK.out (fun k hk hlt => hb.block k hlt));clear hb) | ((with_reducible refine gate_dst (N:=25) rfl ?_);go_must (refine Kd.N_append kSB (w0:=w) w.heap.size rfl (.tmp 19) (.tmp 24) 58 24 (.slice none 0 0) 24 rfl Tryz.underlying58 info_SB rfl (by decide) (by decide) u3 (dn.map payP) q _ (fun _ => True) (fun k => k<w.heap.size) rfl rfl HF1.out ?h4 ?h5 HN1.out HB1.out HB1.out.size ?h6 ?_);(case h4 => exact fun k hk => ⟨trivial,fun e => by have:=HBS.out k e.symm;omega⟩);(case h5 => exact fun _ _ => trivial);(case h6 => (rw [HDL.out];omega));intro v4 w4 hn4 hb4 hg4 hat4;have HN4:=Aside0.mk hn4;have HB4:=Aside0.mk hb4;clear hn4 hb4 hg4 hat4))
      go_roundg td.length
      case measure => simp at hkx;omega
      case rel => exact ⟨dn ++ [p],td,A',c',⟨by rw [HPD.out];simp⟩,Nat.le_refl _,by rw [hR],by rw [hR];exact hc',by rw [hR];exact hrl,by rw [hR];exact HFR,⟨by rw [HMP.out];exact HN4.out⟩,HB4⟩
attribute [local go_sem] Oper.semAt_some
theorem chunkF.calls (A1:Option Addr) (n1 c1:Nat) (W:World) :
    Calls Tryz.prog 60 #[.slice A1 n1 c1,.int .i64 20] W fun e w' => e = .returned (.func (.func 90) #[] #[.pointer (some ⟨W.heap.size,0,none⟩),.pointer (some ⟨W.heap.size+1,0,none⟩)])∧w'=(W.alloc (.cells #[.slice A1 n1 c1] 49)).alloc (.cells #[.int .i64 20] 3):=by
  go_enter Tryz.func60,Tryz.ntmps60
  go_wp2
  go_ret
  exact ⟨rfl,rfl⟩
theorem encC.calls (A:Option Addr) (c n:Nat) (l:List S51) (w:World) (hn:l.length=n) (hr:Kd.C k51 w A n l) (hc:n≤c) (hok:okZ l) (hl:n≤1000000) (hM:canC l=true→(encC l).length≤500000000) (hT:TabZ w) (h:canC l=true) :
    Calls Tryz.prog 28 #[.slice A n c] w fun e w' => ∃ v:Value,e = .returned (.tuple #[v,.int .i64 0])∧Kd.R (Kd.int .u8) 5 w' w.heap.size (fun _ => True) v (encC l)∧Below w.heap.size w w':=by
  subst hn
  have HR:=Aside0.mk hr
  have HK:=Aside0.mk hok
  have HT:=Aside0.mk hT
  have HCAN:Aside0 (Calls Tryz.prog 53 #[.slice A l.length c] w fun e w' => e = .returned (.bool true)∧Below w.heap.size w w'):=⟨h ▸ canC.calls A c l.length l w rfl hr hc hok (by omega)⟩
  have HP:=Aside0.mk (canC_parts h)
  have HEC:=Aside0.mk (hM h)
  clear hr hok hT h hM
  refine (callsIn_wide (n:=5)).1 (callsIn_of_wp_marks Tryz.func28 rfl trivial ?_ rfl)
  simp only [Tryz.ntmps28,List.size_toArray,List.length_cons,List.length_nil,Nat.reduceAdd,Nat.reduceSub,Array.replicate_succ,Array.replicate_zero,List.push_toArray,List.append_toArray,List.nil_append,List.cons_append]
  refine wpIn_wide.2 ?_
  go_wp2_with (first | (go_at_call 53;(with_reducible refine HCAN.out.mono ?_);rintro e w1 ⟨rfl,hb⟩;have HB1:=Aside0.mk hb;clear hb))
  have HB0:=Aside0.mk (below_alloc HB1.out (.cells #[.slice none 0 0] 24))
  have HO0:(w1.alloc (.cells #[.slice none 0 0] 24)).heap[w1.heap.size]? = some (.cells #[.slice none 0 0] 24 (0,0)):=World.alloc_heap_new _ _
  have HV0:Aside0 (Kd.R (Kd.int .u8) 5 (w1.alloc (.cells #[.slice none 0 0] 24)) w.heap.size (fun _ => True) (.slice none 0 0) (encC (l.take 0))):=⟨Kd.R_nil _ _ _ _ _⟩
  refine wp_loop_ghost_k (fun gk a wr => ∃ (k:Nat) (Ds:List Nat) (u6 u7 u8 u18 u19 u20 u21 u22 u23 u24 u25 u26 u27 u28 u29 u48:Value),(k+gk=l.length∧Ds.Nodup∧(∀ D ∈ Ds,w1.heap.size<D∧wr.heap[D]? = some (.deferred (some [])))∧Aside0 (Below w.heap.size w wr)∧∃ v:Value,wr.heap[w1.heap.size]? = some (.cells #[v] 24 (0,0))∧Aside0 (Kd.R (Kd.int .u8) 5 wr w.heap.size (fun _ => True) v (encC (l.take k))))∧a = { tmps:=#[.slice A l.length c,undef,.slice none 0 0,.int .i64 0,.pointer (some ⟨w1.heap.size,0,none⟩),undef,u6,u7,u8,undef,undef,undef,.slice A l.length c,.bool true,.bool false,.slice A l.length c,.int .i64 (l.length:Int),.int .i64 (k:Int),u18,u19,u20,u21,u22,u23,u24,u25,u26,u27,u28,u29,undef,undef,undef,undef,undef,undef,undef,undef,undef,undef,undef,undef,undef,undef,undef,undef,undef,undef,u48,undef],defers:=Ds.map markD }) l.length ?start ?round
  case start => exact ⟨0,[],_,_,_,_,_,_,_,_,_,_,_,_,_,_,_,_,⟨Nat.zero_add _,List.nodup_nil,(fun D h => by cases h),HB0,_,HO0,HV0⟩,rfl⟩
  case round =>
    clear HB0 HO0 HV0
    rintro gk a wr ⟨k,Ds,u6,u7,u8,u18,u19,u20,u21,u22,u23,u24,u25,u26,u27,u28,u29,u48,⟨hk,hnd,hD,HB,v,hO,HV⟩,rfl⟩ J K hJ hK
    dsimp only
    by_cases hlt:k<l.length
    · obtain ⟨ad,A0,c0,A1,c1,rfl,e0,e1,l0,g0,l1,g1⟩:=at_T51 HR.out (k:Int) (by omega) (by omega)
      rw [Int.toNat_natCast] at e0 e1
      have e0:=pw_cell_below HB.out e0
      have e1:=pw_cell_below HB.out e1
      have HX:=Aside0.mk (HK.out _ (rd_memZ l k hlt))
      have HX60:=Aside0.mk (HK.out _ (rd_memZ l k hlt)).2.2.1
      have HCX:=Aside0.mk (HP.out k hlt)
      obtain ⟨x,ex⟩:∃ x,rd_T51 l (k:Int)=x:=⟨_,rfl⟩
      have EX:=Aside0.mk ex
      rw [ex] at e0 e1 HX g0 l0 g1 l1 HX60
      have G0:=Aside0.mk g0
      have L0:=Aside0.mk l0
      have G1:=Aside0.mk g1
      have L1:=Aside0.mk l1
      obtain ⟨a1,hA1,_⟩:=g1.2.2 (Nat.pos_of_ne_zero (by
        have h1:=HCX.out
        rw [okC,ex,canX] at h1
        simp only [Bool.and_eq_true,Bool.not_eq_true',decide_eq_false_iff_not] at h1
        exact h1.1.2.1))
      clear ex g0 l0 g1 l1
      subst hA1
      have HCL:Aside0 (canL x.f0=true∧canS x.f1=true∧¬ x.f1.length=0):=⟨by
        have h1:=HCX.out
        rw [okC,EX.out,canX] at h1
        simp only [Bool.and_eq_true,Bool.not_eq_true',decide_eq_false_iff_not] at h1
        exact ⟨h1.1.1,h1.1.2.2,h1.1.2.1⟩⟩
      have HBW:=Aside0.mk (below_alloc (Below.refl wr.heap.size wr) (.cells #[.slice A0 x.f0.length c0,.slice (some a1) x.f1.length c1] 51 (0,0)))
      have HBK:=Aside0.mk (blk_new wr (.cells #[.slice A0 x.f0.length c0,.slice (some a1) x.f1.length c1] 51 (0,0)))
      have CE:=Aside0.mk (fun W (hb:Below wr.heap.size wr W) => encLb.calls A0 c0 _ x.f0 W rfl (Kd.C_below G0.out (below_step HB.out hb)) L0.out HCL.out.1)
      go_wp2_with (first | (go_at_call 59;(with_reducible refine (CE.out _ HBW.out).mono ?_);rintro e w2 ⟨v5,rfl,hr5,hb⟩;obtain ⟨a5,c5,rfl⟩:=Kd.R_slice1 hr5 (by simp [encLb]);have HR5:=Aside0.mk hr5;have HB2:=Aside0.mk (below_step HBW.out hb);have HBK2:=Aside0.mk (blk_below HBK.out hb);have b1:=cell_alloc_old (.cells #[.slice (some a5) (encLb x.f0).length c5] 24) ((blk_cell HBK2.out 1).trans rfl);clear hb hr5) | (go_at_call 60;(with_reducible refine (chunkF.calls (some a1) _ c1 _).mono ?_);rintro e w3 ⟨rfl,rfl⟩))
      obtain ⟨W0,hW0⟩:∃ W0,(((w2.alloc (.cells #[.slice (some a5) (encLb x.f0).length c5] 24)).alloc (.cells #[.slice (some a1) x.f1.length c1] 49)).alloc (.cells #[.int .i64 20] 3))=W0:=⟨_,rfl⟩
      have hs0:W0.heap.size=w2.heap.size+3:=by rw [← hW0];simp
      have H2W:Aside0 (Below w2.heap.size w2 W0):=⟨by rw [← hW0];exact below_alloc (below_alloc (below_alloc (Below.refl _ _) _) _) _⟩
      have HU:Aside0 (W0.heap[w2.heap.size]? = some (.cells #[.slice (some a5) (encLb x.f0).length c5] 24 (0,0))):=⟨by
        rw [← hW0];exact ((Below.heap_alloc _ _ _ (by simp;omega)).trans (Below.heap_alloc _ _ _ (by simp))).trans (World.alloc_heap_new w2 _)⟩
      have HX1:Aside0 (W0.cell? ⟨w2.heap.size+1,0,none⟩=some (.slice (some a1) x.f1.length c1)):=⟨by
        have h0:W0.heap[w2.heap.size+1]? = some (.cells #[.slice (some a1) x.f1.length c1] 49 (0,0)):=by
          rw [← hW0]
          refine (Below.heap_alloc _ _ _ (by simp)).trans ?_
          have:=World.alloc_heap_new (w2.alloc (.cells #[.slice (some a5) (encLb x.f0).length c5] 24)) (.cells #[.slice (some a1) x.f1.length c1] 49)
          rwa [World.size_alloc] at this
        exact (cell_of_row W0 _ 0 _ _ _ h0).trans rfl⟩
      have HX2:Aside0 (W0.cell? ⟨w2.heap.size+1+1,0,none⟩=some (.int .i64 20)):=⟨by
        have h0:W0.heap[w2.heap.size+1+1]? = some (.cells #[.int .i64 20] 3 (0,0)):=by
          rw [← hW0]
          have:=World.alloc_heap_new ((w2.alloc (.cells #[.slice (some a5) (encLb x.f0).length c5] 24)).alloc (.cells #[.slice (some a1) x.f1.length c1] 49)) (.cells #[.int .i64 20] 3)
          rwa [World.size_alloc,World.size_alloc] at this
        exact (cell_of_row W0 _ 0 _ _ _ h0).trans rfl⟩
      rw [hW0]
      have HrW:=Aside0.mk (below_step HB2.out H2W.out)
      have hsz:w1.heap.size<wr.heap.size:=(Array.getElem?_eq_some_iff.1 hO).1
      have hszr:wr.heap.size≤w2.heap.size:=HB2.out.size
      have hszw:w.heap.size≤w1.heap.size:=HB1.out.size
      have hO0:W0.heap[w1.heap.size]? = some (.cells #[v] 24 (0,0)):=(HrW.out.block _ hsz).trans hO
      have HV0:=Aside0.mk (Kd.R_below HV.out HrW.out)
      have HR50:=Aside0.mk (Kd.R_bound (Kd.R_lower (Kd.R_below HR5.out H2W.out) (base':=wr.heap.size) (by simp)))
      have HBT:=Aside0.mk (below_step HB.out HrW.out)
      have hD0:∀ D ∈ Ds,w1.heap.size<D∧D<W0.heap.size∧W0.heap[D]? = some (.deferred (some [])):=fun D h => by
        have h1:=hD D h
        have h2:=(Array.getElem?_eq_some_iff.1 h1.2).1
        exact ⟨h1.1,by have:=HrW.out.size;omega,(HrW.out.block D h2).trans h1.2⟩
      have HEL:Aside0 ((encLb x.f0).length≤600):=⟨encLb_len HCL.out.1⟩
      have HPL:Aside0 ((encC (l.take k)).length≤500000000):=⟨Nat.le_trans (encC_mono l k) HEC.out⟩
      have HOS:Aside0 (∀ s ∈ x.f1,okS s):=⟨HX.out.2.2.2⟩
      have hn3:(x.f1.length+19) / 20≤50001:=by have:=HX60.out;omega
      have hTW:=Aside0.mk (HT.out.below HBT.out)
      clear hW0 HBK HBK2 b1 e0 e1 G0 L0 HBW CE hO hD
      generalize hu:encLb x.f0=u at *
      refine wpIn_wide.1 (wpIn_rangeFunc_ownF (F:=Fence.wide) (n:=5) rfl (by decide) (gf:=90) (lb:=#[.pointer (some ⟨w2.heap.size+1,0,none⟩),.pointer (some ⟨w2.heap.size+1+1,0,none⟩)]) rfl trivial (enters_of Tryz.func90 (by kernel_rfl) rfl)
        (chunkIt_stops 4 (by decide) (w2.heap.size+1) (w2.heap.size+1+1) a1 x.f1.length c1 (by have:=HX60.out;omega) L1.out W0 (by omega) (by omega) HX1.out HX2.out) KeepB.trans (keepB_b (by omega) (by omega)) (Below.refl _ _) (fun _ => rfl)
        (fun pre W => (∃ vo,W.heap[w1.heap.size]? = some (.cells #[vo] 24 (0,0))∧Kd.R (Kd.int .u8) 5 W w.heap.size (fun _ => True) vo (encC (l.take k)++encYs u x.f1 (partsN pre)))∧But w1.heap.size W0.heap.size W0 W)
        (fun _ _ _ => False) ?own (fun _ _ _ _ _ hs _ _ => hs) ?first _ (fun lp y W K hK => by dsimp only [encPt];gi_wp2;exact hK) ?body ?done ?stop)
      case own =>
        rintro s W W' row ⟨⟨vo,ho,hv⟩,hb⟩ hg hr
        refine ⟨⟨vo,?_,R_turn hv hg (fun r e => (hr r e).2)⟩,hb.grown hg (Nat.le_refl _) (fun r e => (hr r e).1)⟩
        refine (hg.block _ (Array.getElem?_eq_some_iff.1 ho).1 (fun e => ?_)).trans ho
        have:=(hr _ e.symm).1
        omega
      case first => exact ⟨⟨v,hO0,by have:=HV0.out;simpa [encYs,partsN] using this⟩,But.refl _ _ _⟩
      case stop => exact fun _ _ _ _ _ _ h => h.elim
      case done =>
        rintro D ys W hDs hys ⟨⟨vo,ho,hv⟩,hbut⟩ hDn
        have HBn:Aside0 (Below w.heap.size w W):=⟨HBT.out.trans (hbut.below (by omega) (by omega))⟩
        have HVn:Aside0 (Kd.R (Kd.int .u8) 5 W w.heap.size (fun _ => True) vo (encC (l.take (k+1)))):=⟨by
          rw [encC_step l k hlt,EX.out]
          have e:encYs u x.f1 (partsN ys)=encSer x:=by rw [hys,encSer,hu];rfl
          rwa [e] at hv⟩
        have HDn:Aside0 ((D :: Ds).Nodup∧∀ D' ∈ D :: Ds,w1.heap.size<D'∧W.heap[D']? = some (.deferred (some []))):=⟨by
          refine ⟨List.nodup_cons.2 ⟨fun h => by have:=hD0 D h;omega,hnd⟩,fun D' h => ?_⟩
          rcases List.mem_cons.1 h with rfl | h
          · exact ⟨by omega,hDn⟩
          · exact ⟨(hD0 D' h).1,(hbut.block D' (hD0 D' h).2.1 (by have:=(hD0 D' h).1;omega)).trans (hD0 D' h).2.2⟩⟩
        clear hbut hv hDn hys hD0
        go_wp2
        have hkl:Value.int .i64 ((k:Int)+1) = .int .i64 ((k+1:Nat):Int):=by congr 1
        rw [hkl]
        exact Handed.intro (gk - 1) (by omega) (hJ _ _ _ ⟨k+1,D :: Ds,_,_,_,_,_,_,_,_,_,_,_,_,_,_,_,_,⟨by omega,HDn.out.1,HDn.out.2,HBn,vo,ho,HVn⟩,rfl⟩)
      case body =>
        rintro lp pre ⟨j,hj⟩ W ⟨⟨vo,ho,hv⟩,hbut⟩ hlen
        dsimp only
        have hbw:Below w.heap.size w W:=HBT.out.trans (hbut.below (by omega) (by omega))
        obtain ⟨q,hq⟩:∃ q,partS x.f1 j=q:=⟨_,rfl⟩
        obtain ⟨m,hm⟩:∃ m,plen x.f1.length j=m:=⟨_,rfl⟩
        have hql:q.length=m:=by rw [← hq,partS_len,hm]
        have hm20:1≤m∧m≤20∧j*20+m≤x.f1.length:=by rw [← hm];unfold plen;omega
        have HQO:Aside0 (∀ s ∈ q,okS s):=⟨fun s hs => HOS.out s (partS_mem (hq ▸ hs))⟩
        have HQC:Aside0 (canS q=true):=⟨hq ▸ canS_part HCL.out.2.1 j⟩
        have HQ:Aside0 (Kd.C k70 W (some (a1.add (j*20*2))) q.length q):=⟨by
          have h1:=Kd.C_mid (c:=c1) (lo:=j*20) (hi:=j*20+m) (Kd.C_below G1.out hbw) (by omega) hm20.2.2 L1.out
          rw [if_neg (by have:=L1.out;omega)] at h1
          have e:(x.f1.take (j*20+m)).drop (j*20)=q:=by rw [← hq,← hm];rfl
          rw [e] at h1
          exact h1⟩
        have ENC:=Aside0.mk (codec_Encode.calls_at (n:=m) (some (a1.add (j*20*2))) m q W (encL q) 0 hql HQ.out (Nat.le_refl _) HQO.out (by omega) (HT.out.below hbw) (by rw [encF,if_pos HQC.out]))
        have HQL:Aside0 ((encL q).length≤410∧0<(encL q).length):=⟨encL_len (by omega) HQO.out HQC.out,by rw [encL,List.length_append,beL_length];omega⟩
        rw [hm]
        refine wpIn_block (wpIn_seq ?_)
        gi_wp2_with (first | (refine ⟨trivial,?_⟩;gi_at_call 61;(refine (CallsIn.inRound lp (callsIn_wide.2 ENC.out)).mono ?_);rintro e wa ⟨v1,rfl,hr1,hb1⟩;obtain ⟨a6,c6,rfl⟩:=Kd.R_slice1 hr1 HQL.out.2;have HRa:=Aside0.mk hr1;have HBa:=Aside0.mk hb1;clear hr1 hb1))
        obtain ⟨LV,hLV⟩:∃ LV,encC (l.take k)++encYs u x.f1 (partsN pre)=LV:=⟨_,rfl⟩
        rw [hLV] at hv
        obtain ⟨Av,cv,rfl⟩:=Kd.R_slice hv
        have HRa5:Aside0 (Kd.R (Kd.int .u8) 5 wa wr.heap.size (fun _ => True) (.slice (some a5) u.length c5) u):=⟨by
          have h1:=Kd.R_move HR50.out (w1:=W) (fun k hk => hbut.block k hk.2.2.1 (by have:=hk.2.1;omega))
          exact Kd.R_mono (Kd.R_below h1 HBa.out) (fun _ _ => trivial)⟩
        have HVa:=Aside0.mk (Kd.R_below hv HBa.out)
        have HOa:Aside0 (wa.heap[w1.heap.size]? = some (.cells #[.slice Av LV.length cv] 24 (0,0))):=⟨(HBa.out.block _ (Array.getElem?_eq_some_iff.1 ho).1).trans ho⟩
        have HUa:Aside0 (wa.heap[w2.heap.size]? = some (.cells #[.slice (some a5) u.length c5] 24 (0,0))):=⟨(HBa.out.block _ (by have:=hbut.size;omega)).trans ((hbut.block _ (by omega) (by omega)).trans HU.out)⟩
        refine wpIn_region_wide0 lp _ (by kernel_rfl) (by kernel_rfl) (GHead.start (n:=12) (S:=fun W' => Below wa.heap.size wa W') (by decide) ?_)
        have HcO:Aside0 (∀ W',Below wa.heap.size wa W'→W'.cell? ⟨w1.heap.size,0,none⟩=some (.slice Av LV.length cv)):=⟨fun W' hb => pw_cell_below hb ((cell_of_row wa _ 0 _ _ _ HOa.out).trans rfl)⟩
        have HcU:Aside0 (∀ W',Below wa.heap.size wa W'→W'.cell? ⟨w2.heap.size,0,none⟩=some (.slice (some a5) u.length c5)):=⟨fun W' hb => pw_cell_below hb ((cell_of_row wa _ 0 _ _ _ HUa.out).trans rfl)⟩
        have HS:=Aside0.mk (below_drew (Below.refl wa.heap.size wa))
        refine GHead.take' (i:=0) (v:=?_) rfl rfl (by kernel_rfl) (fun _ _ _ h => by cases h.1) (Or.inl ⟨by rfl,?_⟩) HS.out ?_
        rotate_left
        · (intro W' hW';have c1:=HcO.out W' hW';have c2:=HcU.out W' hW';go_simp;try (with_reducible rfl))
        try simp only [List.setIfInBounds_toArray,List.set_cons_zero,List.set_cons_succ]
        refine GHead.take' (i:=1) (v:=?_) rfl rfl (by kernel_rfl) (fun _ _ _ h => by cases h.1) (Or.inl ⟨by rfl,?_⟩) HS.out ?_
        rotate_left
        · (intro W' hW';have c1:=HcO.out W' hW';have c2:=HcU.out W' hW';go_simp;try (with_reducible rfl))
        try simp only [List.setIfInBounds_toArray,List.set_cons_zero,List.set_cons_succ]
        refine GHead.take' (i:=2) (v:=?_) rfl rfl (by kernel_rfl) (fun _ _ _ h => by cases h.1) (Or.inl ⟨by rfl,?_⟩) HS.out ?_
        rotate_left
        · (intro W' hW';have c1:=HcO.out W' hW';have c2:=HcU.out W' hW';go_simp;try (with_reducible rfl))
        try simp only [List.setIfInBounds_toArray,List.set_cons_zero,List.set_cons_succ]
        refine GHead.take' (i:=3) (v:=?_) rfl rfl (by kernel_rfl) (fun _ _ _ h => by cases h.1) (Or.inl ⟨by rfl,?_⟩) HS.out ?_
        rotate_left
        · (intro W' hW';have c1:=HcO.out W' hW';have c2:=HcU.out W' hW';go_simp;try (with_reducible rfl))
        try simp only [List.setIfInBounds_toArray,List.set_cons_zero,List.set_cons_succ]
        refine GHead.take' (i:=4) (v:=?_) rfl rfl (by kernel_rfl) (fun _ _ _ h => by cases h.1) (Or.inl ⟨by rfl,?_⟩) HS.out ?_
        rotate_left
        · (intro W' hW';have c1:=HcO.out W' hW';have c2:=HcU.out W' hW';go_simp;try (with_reducible rfl))
        try simp only [List.setIfInBounds_toArray,List.set_cons_zero,List.set_cons_succ]
        refine GHead.take' (i:=5) (v:=?_) rfl rfl (by kernel_rfl) (fun _ _ _ h => by cases h.1) (Or.inl ⟨by rfl,?_⟩) HS.out ?_
        rotate_left
        · (intro W' hW';have c1:=HcO.out W' hW';have c2:=HcU.out W' hW';go_simp;try (with_reducible rfl))
        try simp only [List.setIfInBounds_toArray,List.set_cons_zero,List.set_cons_succ]
        refine GHead.take' (i:=6) (v:=?_) rfl rfl (by kernel_rfl) (fun _ _ _ h => by cases h.1) (Or.inl ⟨by rfl,?_⟩) HS.out ?_
        rotate_left
        · (intro W' hW';have c1:=HcO.out W' hW';have c2:=HcU.out W' hW';go_simp;try (with_reducible rfl))
        try simp only [List.setIfInBounds_toArray,List.set_cons_zero,List.set_cons_succ]
        refine GHead.take' (i:=8) (v:=?_) rfl rfl (by kernel_rfl) (fun _ _ _ h => by cases h.1) (Or.inl ⟨by rfl,?_⟩) HS.out ?_
        rotate_left
        · (intro W' hW';have c1:=HcO.out W' hW';have c2:=HcU.out W' hW';go_simp;try (with_reducible rfl))
        try simp only [List.setIfInBounds_toArray,List.set_cons_zero,List.set_cons_succ]
        refine GHead.take' (i:=9) (v:=?_) rfl rfl (by kernel_rfl) (fun _ _ _ h => by cases h.1) (Or.inl ⟨by rfl,?_⟩) HS.out ?_
        rotate_left
        · (intro W' hW';have c1:=HcO.out W' hW';have c2:=HcU.out W' hW';go_simp;try (with_reducible rfl))
        try simp only [List.setIfInBounds_toArray,List.set_cons_zero,List.set_cons_succ]
        have PUT:Aside0 (∀ W',Calls Tryz.prog 31 #[.int .u64 (IntKind.u64.wrap (IntKind.i64.wrap ((u.length:Int)+((encL q).length:Int)))),.int .i64 4] W' fun e w' => ∃ v0_:Value,e = .returned v0_∧Kd.R (Kd.int .u8) 5 w' W'.heap.size (fun _ => True) v0_ (beL (u.length+(encL q).length) 4)∧Below W'.heap.size W' w'):=⟨fun W' => crc_Put.calls _ _ _ W' (by
          have h1:IntKind.i64.wrap ((u.length:Int)+((encL q).length:Int))=((u.length+(encL q).length:Nat):Int):=by
            rw [IntKind.wrap_i64]
            have:=HEL.out
            have:=HQL.out
            omega
          have h2:=put_f (q:=((u.length+(encL q).length:Nat):Int)) (by omega) (by have:=HEL.out;have:=HQL.out;omega) 4
          rw [h1]
          rwa [Int.toNat_natCast] at h2)⟩
        refine GHead.one (i:=7) rfl (by kernel_rfl) (by rfl) (fun KK hKK => ?_)
        go_simp
        refine (PUT.out _).mono ?_
        rintro e wb ⟨v3,rfl,hr3,hb3⟩
        obtain ⟨a3,c3,rfl⟩:=Kd.R_slice1 hr3 (by rw [beL_length];decide)
        have HRb:=Aside0.mk hr3
        have HBb:=Aside0.mk (below_step HS.out hb3)
        refine hKK _ _ HBb.out ?_
        clear hKK hr3 hb3 HcO HcU
        refine GHead.one (i:=10) rfl (by kernel_rfl) (by rfl) (fun K1 hK1 => ?_)
        go_simp
        have HBc:=Aside0.mk (below_alloc HBb.out (.cells #[.slice Av LV.length cv,.slice (some a3) (beL (u.length+(encL q).length) 4).length c3,.slice (some a5) u.length c5,.slice (some a6) (encL q).length c6] 24))
        have HNb:=Aside0.mk (blk_new wb (.cells #[.slice Av LV.length cv,.slice (some a3) (beL (u.length+(encL q).length) 4).length c3,.slice (some a5) u.length c5,.slice (some a6) (encL q).length c6] 24))
        have HBcb:=Aside0.mk (below_alloc (Below.refl wb.heap.size wb) (.cells #[.slice Av LV.length cv,.slice (some a3) (beL (u.length+(encL q).length) 4).length c3,.slice (some a5) u.length c5,.slice (some a6) (encL q).length c6] 24))
        refine hK1 _ _ HBc.out ?_
        clear hK1
        generalize (wb.alloc (.cells #[.slice Av LV.length cv,.slice (some a3) (beL (u.length+(encL q).length) 4).length c3,.slice (some a5) u.length c5,.slice (some a6) (encL q).length c6] 24))=wc at *
        have hv1:=Kd.R_below HVa.out HBc.out
        have hr3:=Kd.R_below HRb.out HBcb.out
        have hr5:=Kd.R_below HRa5.out HBc.out
        have hr6:=Kd.R_below HRa.out HBc.out
        have HLVL:Aside0 (LV.length≤600000000):=⟨by
          rw [← hLV,List.length_append]
          have h1:=HPL.out
          have h2:=encYs_len (l:=x.f1) HEL.out HOS.out HCL.out.2.1 (partsN pre)
          rw [partsN_length] at h2
          omega⟩
        have CON:=Aside0.mk (concatB.calls (some ⟨wb.heap.size,0,none⟩) 4 4 [LV,beL (u.length+(encL q).length) 4,u,encL q] wc rfl
          (four_C wc wb.heap.size Av (some a3) (some a5) (some a6) cv c3 c5 c6 LV _ u _ _ _ HNb.out (Kd.R_reads' hv1).2.2 (Kd.R_reads' hv1).2.1 (Kd.R_reads' hr3).2.2 (Kd.R_reads' hr3).2.1 (Kd.R_reads' hr5).2.2 (Kd.R_reads' hr5).2.1 (Kd.R_reads' hr6).2.2 (Kd.R_reads' hr6).2.1) (by decide) (by
            simp only [List.flatten_cons,List.flatten_nil,List.length_append,List.length_nil,beL_length]
            have:=HLVL.out
            have:=HEL.out
            have:=HQL.out
            omega))
        clear hv1 hr3 hr5 hr6
        refine GHead.one (i:=11) rfl (by kernel_rfl) (by rfl) (fun K2 hK2 => ?_)
        go_simp
        refine CON.out.mono ?_
        rintro e wd ⟨v4,rfl,hr4,hb4⟩
        obtain ⟨LN,hLN⟩:∃ LN,[LV,beL (u.length+(encL q).length) 4,u,encL q].flatten=LN:=⟨_,rfl⟩
        rw [hLN] at hr4
        have HLN:Aside0 (encC (l.take k)++encYs u x.f1 (partsN (pre ++ [⟨j,hj⟩]))=LN):=⟨by
          rw [partsN_snoc,encYs_snoc,hq,← List.append_assoc,hLV,← hLN,encPart]
          simp only [List.flatten_cons,List.flatten_nil,List.append_nil]⟩
        clear hLN
        obtain ⟨A4,c4,rfl⟩:=Kd.R_slice hr4
        have HBd:=Aside0.mk (below_step HBc.out hb4)
        have HRd:=Aside0.mk hr4
        clear hr4 hb4
        refine hK2 _ _ HBd.out ?_
        clear hK2
        have HOd:Aside0 (wd.heap[w1.heap.size]? = some (.cells #[.slice Av LV.length cv] 24 (0,0))):=⟨(HBd.out.block _ (Array.getElem?_eq_some_iff.1 HOa.out).1).trans HOa.out⟩
        have co:wd.cell? ⟨w1.heap.size,0,none⟩=some (.slice Av LV.length cv):=(cell_of_row wd _ 0 _ _ _ HOd.out).trans rfl
        have fo:wd.frozen? ⟨w1.heap.size,0,none⟩=false:=blk_frozen HOd.out 0
        refine GHead.last rfl (by kernel_rfl) (by rfl) (fun K3 hK3 => ?_)
        go_simp
        refine hK3 _ _ ⟨rfl,?_⟩
        clear hK3 co fo
        have hsW:W.heap.size≤wa.heap.size:=HBa.out.size
        have hsa:wa.heap.size≤wd.heap.size:=HBd.out.size
        have HWd:=Aside0.mk (below_step HBa.out HBd.out)
        have hO5:(wd.setCell ⟨w1.heap.size,0,none⟩ (.slice A4 LN.length c4)).heap[w1.heap.size]? = some (.cells #[.slice A4 LN.length c4] 24 (0,0)):=blk_put HOd.out 0 _ rfl
        refine ⟨⟨by simp;omega,fun i o hi ho' => ?_⟩,⟨?_,?_⟩,⟨.slice A4 LN.length c4,hO5,?_⟩,?_⟩
        · have h1:=(HWd.out.block _ (Array.getElem?_eq_some_iff.1 hi).1).trans hi
          refine (Below.heap_setCell wd ⟨w1.heap.size,0,none⟩ _ i (fun e => ?_)).trans h1
          have e':i=w1.heap.size:=e
          subst e'
          rw [HOd.out] at h1
          injection h1 with h1
          subst h1
          cases ho'
        · exact (Below.heap_setCell wd ⟨w1.heap.size,0,none⟩ _ _ (fun e => by have e':w2.heap.size+1=w1.heap.size:=e;omega)).trans (HWd.out.block _ (by have:=hbut.size;omega))
        · exact (Below.heap_setCell wd ⟨w1.heap.size,0,none⟩ _ _ (fun e => by have e':w2.heap.size+1+1=w1.heap.size:=e;omega)).trans (HWd.out.block _ (by have:=hbut.size;omega))
        · rw [HLN.out]
          have h1:=Kd.R_far (Kd.R_bound HRd.out) (p:=⟨w1.heap.size,0,none⟩) (fun i hi => (by have h1:=hi.2.1;have h2:=HBc.out.size;have h3:=hbut.size;show i ≠ w1.heap.size;omega)) (.slice A4 LN.length c4)
          exact Kd.R_mono (Kd.R_lower h1 (base':=w.heap.size) (by have:=HBc.out.size;have:=hbut.size;omega)) (fun _ _ => trivial)
        · exact (hbut.trans (But.of_below (HWd.out.mono hbut.size))).setCell 0 _
    · obtain rfl:k=l.length:=by omega
      have hnk:¬ ((l.length:Int)<(l.length:Int)):=by omega
      rw [List.take_length] at HV
      obtain ⟨Av,cv,rfl⟩:=Kd.R_slice HV.out
      have co:=(cell_of_row wr w1.heap.size 0 _ _ _ hO).trans rfl
      go_wp2
      refine leaves_marks (fun W => Kd.R (Kd.int .u8) 5 W w.heap.size (fun _ => True) (.slice Av (encC l).length cv) (encC l)∧Below w.heap.size w W) (fun W hM => ?_) Ds wr hnd (fun D h => (hD D h).2) (fun D h W hM hd => ?_) ⟨HV.out,HB.out⟩
      · exact ⟨_,results_tmp2 rfl _ _ _,_,rfl,hM.1,hM.2⟩
      · exact ⟨R_turn hM.1 (grownBy_putObj' W D _) (fun r e => by cases e;exact ⟨_,hd,rfl⟩),hM.2.trans (belowK_b (w:=w) (Nat.le_refl _) W D _ _ (by have:=(hD D h).1;have:=HB1.out.size;omega) hd rfl rfl)⟩
theorem encC.bad (A:Option Addr) (c n:Nat) (l:List S51) (w:World) (hn:l.length=n) (hr:Kd.C k51 w A n l) (hc:n≤c) (hok:okZ l) (hl:n≤1000000) (h:canC l=false) :
    Calls Tryz.prog 28 #[.slice A n c] w fun e w' => e = .returned (.tuple #[.slice none 0 0,.int .i64 1])∧Below w.heap.size w w':=by
  subst hn
  have HCAN:Aside0 (Calls Tryz.prog 53 #[.slice A l.length c] w fun e w' => e = .returned (.bool false)∧Below w.heap.size w w'):=⟨h ▸ canC.calls A c l.length l w rfl hr hc hok (by omega)⟩
  clear hr hok h
  go_enter Tryz.func28,Tryz.ntmps28
  go_wp2_with (first | (go_at_call 53;(with_reducible refine HCAN.out.mono ?_);rintro e w1 ⟨rfl,hb⟩;have HB1:=Aside0.mk hb;clear hb))
  refine bodyPost_ret (results_tmp2 rfl _ _ _) rfl ?_
  exact ⟨rfl,HB1.out⟩
noncomputable def encCF (l:List S51):List Int × Int:=if canC l=true then (encC l,0) else ([],1)
theorem encCF.calls (A:Option Addr) (c n:Nat) (l:List S51) (eb:List Int) (ee:Int) (w:World) (hn:l.length=n) (hr:Kd.C k51 w A n l) (hc:n≤c) (hok:okZ l) (hl:n≤1000000) (hM:canC l=true→(encC l).length≤500000000) (hT:TabZ w) (he:encCF l=(eb,ee)) :
    Calls Tryz.prog 28 #[.slice A n c] w fun e w' => ∃ v:Value,e = .returned (.tuple #[v,.int .i64 ee])∧Kd.R (Kd.int .u8) 5 w' w.heap.size (fun _ => True) v eb∧Below w.heap.size w w':=by
  unfold encCF at he
  split at he
  · rename_i h
    cases he
    exact encC.calls A c n l w hn hr hc hok hl hM hT h
  · rename_i h
    cases he
    refine (encC.bad A c n l w hn hr hc hok hl (by simpa using h)).mono ?_
    rintro e w' ⟨rfl,hb⟩
    exact ⟨_,rfl,Kd.R_nil _ _ _ _ _,hb⟩
theorem parts_count:∀ l:List S51,20*(partsL l).length≤tot l+19*l.length
  | [] => by simp [partsL,tot]
  | x :: l => by
    have ih:=parts_count l
    have h3:(partsX x).length=(x.f1.length+19) / 20:=by simp [partsX]
    rw [show partsL (x :: l)=partsX x++partsL l from rfl,List.length_append,List.length_cons,tot]
    omega
theorem encPs_short:∀ {td:List S51},(∀ p ∈ td,okP p)→(td.flatMap encPj).length≤1014*td.length
  | [],_ => by simp
  | p :: td,h => by
    have ih:=encPs_short (td:=td) (fun q hq => h q (List.mem_cons_of_mem _ hq))
    have:=(encPj_len (h p List.mem_cons_self)).2
    rw [List.flatMap_cons,List.length_append,List.length_cons]
    omega
theorem canC_all {l:List S51} (h:canC l=true):∀ x ∈ l,canL x.f0=true∧canS x.f1=true:=fun x hx => by
  obtain ⟨k,hk,rfl⟩:=List.mem_iff_getElem.1 hx
  have h1:=canC_parts h k hk
  rw [okC,canX,rd_getElem hk] at h1
  simp only [Bool.and_eq_true] at h1
  exact ⟨h1.1.1,h1.1.2.2⟩
theorem chunkFrs_snoc:∀ (l:List S51) (j:Nat) (p:S51),chunkFrs j (l ++ [p])=chunkFrs j l++frB 2 (j+l.length+1) (payP p)
  | [],j,p => by simp [chunkFrs]
  | q :: l,j,p => by
    rw [List.cons_append,chunkFrs,chunkFrs,chunkFrs_snoc l (j+1) p,List.append_assoc,List.length_cons]
    congr 4
    omega
theorem writeD.calls (A:Option Addr) (c n:Nat) (l:List S51) (eb:List Int) (ee:Int) (w:World) (hn:l.length=n) (hr:Kd.C k51 w A n l) (hc:n≤c) (hok:okZ l) (hl:n≤100000) (ht:tot l≤1000000) (hT:TabZ w) (hQ:TabQ w) (he:writeF l=(eb,ee)) :
    Calls Tryz.prog 9 #[.slice A n c] w fun e w' => ∃ v:Value,e = .returned (.tuple #[v,.int .i64 ee])∧Kd.R (Kd.int .u8) 5 w' w.heap.size (fun _ => True) v eb∧Below w.heap.size w w':=by
  subst hn
  have HR:=Aside0.mk hr
  have HT:=Aside0.mk ht
  have HQ:=Aside0.mk hQ
  have hpc:=parts_count l
  cases hcan:canC l with
  | false =>
    rw [writeF,if_neg (by rw [hcan];decide)] at he
    cases he
    have ENC:=Aside0.mk (encCF.calls A c l.length l [] 1 w rfl hr hc hok (by omega) (fun h => by rw [hcan] at h;cases h) hT (by rw [encCF,if_neg (by rw [hcan];decide)]))
    clear hr hok hT hQ ht
    go_enter Tryz.func9,Tryz.ntmps9
    go_wp2_with (first | (go_at_call 28;(with_reducible refine ENC.out.mono ?_);rintro e w1 ⟨v1,rfl,hr1,hb⟩;obtain ⟨A1,c1,rfl⟩:=Kd.R_slice hr1;have HB1:=Aside0.mk hb;clear hr1 hb))
    refine bodyPost_ret (results_tmp2 rfl _ _ _) rfl ?_
    exact ⟨_,rfl,Kd.R_nil _ _ _ _ _,HB1.out⟩
  | true =>
    rw [writeF,if_pos hcan] at he
    cases he
    have hP:=partsL_ok hok (canC_all hcan)
    have hPn:(partsL l).length≤150000:=by omega
    have hsh:=encPs_short hP
    have ENC:=Aside0.mk (encCF.calls A c l.length l ((partsL l).flatMap encPj) 0 w rfl hr hc hok (by omega) (fun _ => by rw [encC_parts];omega) hT (by rw [encCF,if_pos hcan,encC_parts]))
    have HW:=Aside0.mk (show writeL l=frB 1 0 (beL (partsL l).length 4)++(chunkFrs 0 (partsL l)++frB 3 ((partsL l).length+1) (beL (tot l) 8)) from rfl)
    have HP:=Aside0.mk hP
    generalize partsL l=P at *
    generalize hLL:P.flatMap encPj=L at *
    have HLL:=Aside0.mk hLL
    have HWL:Aside0 (∃ W,writeL l=W):=⟨_,rfl⟩
    generalize writeL l=WL at *
    have hLn:L.length≤600000000:=by omega
    clear hr hok hT hQ hpc hP hsh hLL HWL ht
    go_enter Tryz.func9,Tryz.ntmps9
    go_wp2_with (first | (go_at_call 28;(with_reducible refine ENC.out.mono ?_);rintro e w1 ⟨v1,rfl,hr1,hb⟩;obtain ⟨A1,c1,rfl⟩:=Kd.R_slice hr1;have HR1:=Aside0.mk (Kd.R_reads' hr1);have HB1:=Aside0.mk hb;clear hr1 hb) | (go_at_call 29;(with_reducible refine (show Calls _ _ _ _ _ from by have h1:=split.calls A1 c1 L.length P w1 HP.out (by rw [HLL.out]) (by rw [HLL.out];exact HR1.out.2.2) HR1.out.2.1 hLn (by omega);exact h1).mono ?_);rintro e w2 ⟨v2,rfl,hn2,hb⟩;obtain ⟨A2,c2,rfl,hc2,hC2⟩:=Kd.N_reads hn2;have HC2:=Aside0.mk hC2;have HB2:=Aside0.mk (below_step HB1.out hb);clear hn2 hC2 hb))
    have HRS:=Aside0.mk (Kd.C_below HR.out HB2.out)
    have HLN:Aside0 ((P.map payP).length=P.length):=⟨List.length_map ..⟩
    clear ENC HR1 HLL hLn
    go_loopg [7,25] l.length (fun kx s7 s25 wr => ∃ k:Nat,s25 = .int .i64 k∧k≤l.length∧l.length - k≤kx∧s7 = .int .i64 ((tot (l.take k):Nat):Int)∧Aside0 (Below w2.heap.size w2 wr))
    case atStart => exact ⟨0,rfl,Nat.zero_le _,by omega,rfl,⟨Below.refl _ _⟩⟩
    case round =>
      obtain ⟨k,rfl,hk,hkx,rfl,HB⟩:=hrel
      by_cases hlt:k<l.length
      · obtain ⟨ad,A0,c0,A3,c3,rfl,x0,x1,l0,g0,l3,g3⟩:=at_T51 (Kd.C_below HRS.out HB.out) (k:Int) (by omega) (by omega)
        rw [Int.toNat_natCast] at x0 x1
        have hts:tot (l.take (k+1))=tot (l.take k)+(rd_T51 l (k:Int)).f1.length:=by
          rw [List.take_succ_eq_append_getElem hlt,tot_snoc,rd_getElem hlt]
        have htl:=tot_le_take l (k+1)
        have hT:=HT.out
        have hkz:(k:Int)<(l.length:Int):=by omega
        clear l0 g0 l3 g3
        generalize (rd_T51 l (k:Int)).f1.length=m1 at *
        generalize (rd_T51 l (k:Int)).f0.length=m0 at *
        generalize tot (l.take k)=tk at *
        have hw1:IntKind.i64.wrap ((tk:Int)+(m1:Int))=((tk+m1:Nat):Int):=by rw [IntKind.wrap_i64];omega
        go_wp2_with fail
        go_roundg (l.length - (k+1))
        case measure => omega
        case rel => exact ⟨k+1,by go_num,hlt,Nat.le_refl _,by rw [hts];go_num,⟨below_alloc HB.out _⟩⟩
      · obtain rfl:k=l.length:=by omega
        rw [List.take_length]
        have HB3:=Aside0.mk (below_step HB2.out HB.out)
        have HC3:=Aside0.mk (Kd.C_below HC2.out HB.out)
        have hT:=HT.out
        clear hlt hk hkx HB HB2 HC2 HRS HR HT
        have hpu:IntKind.u64.wrap (P.length:Int)=(P.length:Int):=by simp [IntKind.wrap,IntKind.bits,IntKind.signed];omega
        have htu:IntKind.u64.wrap (tot l:Int)=(tot l:Int):=by simp [IntKind.wrap,IntKind.bits,IntKind.signed];omega
        have HX0:=Aside0.mk (blk_new wr (.cells #[.slice none 0 0,.int .i64 0] 62 (0,0)))
        have HXB:=Aside0.mk (below_alloc (Below.refl wr.heap.size wr) (.cells #[.slice none 0 0,.int .i64 0] 62 (0,0)))
        go_wp2_with (first | (go_at_call 31;(refine (put_at P.length 4 (by omega) (by decide) _).mono ?_);rintro e w4 ⟨v4,rfl,hr4,hb⟩;obtain ⟨a4,c4,rfl⟩:=Kd.R_slice1 hr4 (by rw [beL_length];decide);have HR4:=Aside0.mk (Kd.R_reads' hr4);have HB4:=Aside0.mk (below_step HXB.out hb);have HX4:=Aside0.mk (show WU w4 wr.heap.size (.slice none 0 0) ((0:Nat):Int) from blk_below HX0.out hb);clear hr4 hb) | (go_at_call 30;(refine (writerF.calls wr.heap.size 1 0 (beL P.length 4).length [] (beL P.length 4) (.slice none 0 0) (some a4) c4 wr.heap.size wr w4 (by decide) (by decide) rfl HR4.out.2.2 HR4.out.2.1 (by rw [beL_length];decide) (beL_okB _ _) (HQ.out.below (below_step HB3.out HB4.out)) HX4.out (Kd.R_nil _ _ _ _ _) (by decide) HB4.out (Nat.le_refl _)).mono ?_);rintro e w5 ⟨rfl,v5,hw5,hr5,hb5,_,_⟩;have HW5:=Aside0.mk hw5;have HR5:=Aside0.mk hr5;have HB5:=Aside0.mk hb5;clear hw5 hr5 hb5))
        obtain ⟨w3,hw3⟩:∃ w3,w3=wr:=⟨_,rfl⟩
        subst hw3
        have hg0:w.heap.size≤w3.heap.size:=HB3.out.size
        generalize hgg:w3.heap.size=g at *
        have HCL:Aside0 (∀ k,k≤P.length→(frB 1 0 (beL P.length 4)++chunkFrs 0 (P.take k)).length≤1000000000):=⟨fun k hk => by
          have h1:=(chunkFrs_ok (P.take k) 0 (fun p hp => HP.out p (List.mem_of_mem_take hp))).2
          rw [List.length_take] at h1
          rw [List.length_append,frB_len,beL_length]
          omega⟩
        clear HX0 HXB HB4 HX4 HR4
        go_loopg [45] P.length (fun kx s45 wx => ∃ (k:Nat) (v:Value),s45 = .int .i64 k∧k≤P.length∧P.length - k≤kx∧Aside0 (WU wx g v ((k+1:Nat):Int))∧Aside0 (Kd.R (Kd.int .u8) 5 wx g (fun _ => True) v (frB 1 0 (beL P.length 4)++chunkFrs 0 (P.take k)))∧Aside0 (Below g w3 wx))
        case atStart => exact ⟨0,v5,rfl,Nat.zero_le _,by omega,HW5,⟨by have:=HR5.out;rw [List.nil_append] at this;rw [List.take_zero,chunkFrs,List.append_nil];exact this⟩,HB5⟩
        case round =>
          clear HW5 HR5 HB5
          obtain ⟨k,v,rfl,hk,hkx,HWU,HRV,HB⟩:=hrel
          have HBw:Aside0 (Below w3.heap.size w3 wr):=⟨by rw [hgg];exact HB.out⟩
          by_cases hlt:k<P.length
          · obtain ⟨ad,A0,c0,rfl,x0,l0,g0⟩:=at_LB (Kd.C_below HC3.out HBw.out) (k:Int) (by omega) (by rw [HLN.out];omega)
            rw [Int.toNat_natCast] at x0
            have hrd:rd_LB (P.map payP) (k:Int)=payP P[k]:=by simp [rd_LB,List.getD_eq_getElem?_getD,List.getElem?_eq_getElem hlt]
            rw [hrd] at x0 l0 g0
            have hpk:=HP.out P[k] (List.getElem_mem hlt)
            have hpo:=payP_ok hpk
            have HST:Aside0 (frB 1 0 (beL P.length 4)++chunkFrs 0 (P.take k)++frB 2 (k+1) (payP P[k])=frB 1 0 (beL P.length 4)++chunkFrs 0 (P.take (k+1))):=⟨by
              rw [List.take_succ_eq_append_getElem hlt,chunkFrs_snoc,List.append_assoc,List.length_take,Nat.min_eq_left (by omega),Nat.zero_add]⟩
            have WF:=Aside0.mk (fun (m:Nat) (hm:(payP P[k]).length=m) => writerF.calls g 2 (k+1) m (frB 1 0 (beL P.length 4)++chunkFrs 0 (P.take k)) (payP P[k]) v A0 c0 g w3 wr (by decide) (by omega) hm (hm ▸ g0) (hm ▸ l0) (by omega) hpo.1 (HQ.out.below (below_step HB3.out HBw.out)) HWU.out HRV.out (HCL.out k hk) HB.out (Nat.le_refl _))
            have hkz:(k:Int)<(P.length:Int):=by omega
            clear hrd hpk hpo l0 g0
            generalize hm:(payP P[k]).length=m at *
            have WF2:=Aside0.mk (WF.out m rfl)
            clear WF
            go_wp2_with (first | (go_at_call 30;(refine WF2.out.mono ?_);rintro e w6 ⟨rfl,v6,hw6,hr6,hb6,_,_⟩;have HW6:=Aside0.mk hw6;have HR6:=Aside0.mk hr6;have HB6:=Aside0.mk hb6;clear hw6 hr6 hb6))
            go_roundg (P.length - (k+1))
            case measure => omega
            case rel => exact ⟨k+1,v6,by go_num,hlt,Nat.le_refl _,HW6,⟨by rw [← HST.out];exact HR6.out⟩,HB6⟩
          · obtain rfl:k=P.length:=by omega
            rw [List.take_length] at HRV
            have hcl:=HCL.out P.length (Nat.le_refl _)
            rw [List.take_length] at hcl
            have HCE:=Aside0.mk hcl
            have HWx:Aside0 (WU wr g v ((P.length+1:Nat):Int)):=HWU
            clear hlt hk hkx HWU HCL hcl HC3 HLN
            go_wp2_with (first | (go_at_call 31;(refine (put_at (tot l) 8 (by omega) (by decide) _).mono ?_);rintro e w7 ⟨v7,rfl,hr7,hb⟩;obtain ⟨a7,c7,rfl⟩:=Kd.R_slice1 hr7 (by rw [beL_length];decide);have HR7:=Aside0.mk (Kd.R_reads' hr7);have HW7:=Aside0.mk (show WU w7 g v ((P.length+1:Nat):Int) from blk_below HWx.out hb);have HV7:=Aside0.mk (Kd.R_below HRV.out hb);have HB7:=Aside0.mk (below_step HBw.out hb);have HBg:Aside0 (Below g w3 w7):=⟨by rw [← hgg];exact HB7.out⟩;clear hr7 hb) | (go_at_call 30;(refine (writerF.calls g 3 (P.length+1) (beL (tot l) 8).length (frB 1 0 (beL P.length 4)++chunkFrs 0 P) (beL (tot l) 8) v (some a7) c7 g w3 w7 (by decide) (by omega) rfl HR7.out.2.2 HR7.out.2.1 (by rw [beL_length];decide) (beL_okB _ _) (HQ.out.below (below_step HB3.out HB7.out)) HW7.out HV7.out HCE.out HBg.out (Nat.le_refl _)).mono ?_);rintro e w8 ⟨rfl,v8,hw8,hr8,hb8,_,_⟩;have b0:=(blk_cell hw8 0).trans rfl;generalize hWW:frB 1 0 (beL P.length 4)++chunkFrs 0 P++frB 3 (P.length+1) (beL (tot l) 8)=WW at hr8;have HWW:=Aside0.mk hWW;clear hWW;obtain ⟨A8,c8,rfl⟩:=Kd.R_slice hr8;have HR8:=Aside0.mk hr8;have HB8:=Aside0.mk hb8;clear hw8 hr8 hb8))
            refine bodyPost_ret (results_tmp2 rfl _ _ _) rfl ?_
            exact ⟨_,rfl,by rw [HW.out,← List.append_assoc,HWW.out];exact Kd.R_lower HR8.out hg0,HB3.out.trans (HB8.out.mono hg0)⟩
def FoundOk (b:List Int):Prop:=(ptsL b).length<20∧(foundL b).length≤100000∧tot (foundL b)≤1000000∧(∀ x ∈ foundL b,x.f0.length≤1000000)∧okZ (joinL (foundL b))∧(joinL (foundL b)).length≤100000∧tot (joinL (foundL b))≤1000000∧okB (writeF (joinL (foundL b))).1=true
theorem readD.calls (A:Option Addr) (c n:Nat) (b:List Int) (w:World) (hn:b.length=n) (hr:Kd.C (Kd.int .u8) w A n b) (hc:n≤c) (hok:okB b=true) (hlen:n≤1000000) (hT:TabQ w) (hZ:TabZ w) (hF:FoundOk b) :
    Calls Tryz.prog 14 #[.slice A n c] w fun e w' => ∃ (A':Option Addr) (c':Nat),e = .returned (.tuple #[.slice A' (readF b).1.length c',.int .i64 (readF b).2])∧(readF b).1.length≤c'∧Kd.C k51 w' A' (readF b).1.length (readF b).1∧Below w.heap.size w w':=by
  have HN:=Aside0.mk hn
  have HR:=Aside0.mk hr
  have HOK:=Aside0.mk hok
  have HT:=Aside0.mk hT
  have HZ:=Aside0.mk hZ
  have FO:=Aside0.mk (found.calls A c n b w hn hr hc hok hlen hT hZ hF.1)
  obtain ⟨F,hFe⟩:∃ F,foundL b=F:=⟨_,rfl⟩
  obtain ⟨J,hJe⟩:∃ J,joinL F=J:=⟨_,rfl⟩
  have hRF:readF b=if writeF J=(b,0) then (J,0) else ([],5):=by rw [readF,hFe,hJe]
  unfold FoundOk at hF
  rw [hFe,hJe] at hF
  rw [hFe] at FO
  obtain ⟨eb,ee,hw⟩:∃ eb ee,writeF J=(eb,ee):=⟨_,_,rfl⟩
  rw [hw] at hRF hF
  have HF:=Aside0.mk hF
  have HJ:=Aside0.mk hJe
  have HW:=Aside0.mk hw
  have HRF:=Aside0.mk hRF
  have hee:ee=0∨ee=1:=by
    unfold writeF at hw
    split at hw
    · injection hw with _ h;exact .inl h.symm
    · injection hw with _ h;exact .inr h.symm
  clear hr hok hT hZ hF hFe hJe hRF hw hn
  have CF:(F.length:Nat)=F.length:=rfl
  rcases hee with rfl | rfl
  · have hokE:okB eb=true:=HF.out.2.2.2.2.2.2.2
    by_cases he:eb=b
    · have EQ:Aside0 (∀ A3 c3 W,Kd.C (Kd.int .u8) W A3 eb.length eb→eb.length≤c3→Below w.heap.size w W→Calls Tryz.prog 38 #[.slice A3 eb.length c3,.slice A n c] W fun e w' => e = .returned (.bool true)∧Below W.heap.size W w'):=⟨fun A3 c3 W h1 h2 hb => by
        have h3:=bytes_Equal.calls A3 c3 eb A c b true W h1 h2 (by rw [HN.out];exact Kd.C_below HR.out hb) (by rw [HN.out];exact hc) (by rw [bytes_Equal.f,if_pos ⟨hokE,HOK.out⟩];simp [he])
        rw [HN.out] at h3
        exact h3.mono fun e w' ⟨h4,h5⟩ => ⟨h4,h5.below⟩⟩
      have HE:Aside0 (readF b=(J,0)):=⟨by rw [HRF.out,if_pos (by rw [he])]⟩
      rw [HE.out]
      clear HRF he hokE
      go_enter Tryz.func14,Tryz.ntmps14
      go_wp2_with (first | (go_at_call 37;(with_reducible refine FO.out.mono ?_);rintro e w1 ⟨v1,rfl,hn1,hb⟩;obtain ⟨A1,c1,rfl,hc1,hC1⟩:=Kd.N_reads hn1;have HC1:=Aside0.mk hC1;have HB1:=Aside0.mk hb;clear hn1 hc1 hC1 hb) | (go_at_call 36;(with_reducible refine (join.calls A1 c1 F.length F _ rfl HC1.out HF.out.2.1 HF.out.2.2.1 HF.out.2.2.2.1).mono ?_);rintro e w2 ⟨A2,c2,rfl,hc2,hC2,hb⟩;rw [HJ.out] at hc2 hC2 ⊢;have HC2:=Aside0.mk (And.intro hc2 hC2);have HB2:=Aside0.mk (below_step HB1.out hb);clear hc2 hC2 hb) | (go_at_call 9;(with_reducible refine (writeD.calls A2 c2 J.length J eb 0 _ rfl HC2.out.2 HC2.out.1 HF.out.2.2.2.2.1 HF.out.2.2.2.2.2.1 HF.out.2.2.2.2.2.2.1 (HZ.out.below HB2.out) (HT.out.below HB2.out) HW.out).mono ?_);rintro e w3 ⟨v3,rfl,hr3,hb⟩;obtain ⟨A3,c3,rfl⟩:=Kd.R_slice hr3;have HR3:=Aside0.mk (Kd.R_reads' hr3);have HB3:=Aside0.mk (below_step HB2.out hb);have HC23:=Aside0.mk (Kd.C_below HC2.out.2 hb);clear hr3 hb) | (go_at_call 38;(with_reducible refine (EQ.out A3 c3 _ HR3.out.2.2 HR3.out.2.1 HB3.out).mono ?_);rintro e w4 ⟨rfl,hb⟩;have HB4:=Aside0.mk (below_step HB3.out hb);have HC24:=Aside0.mk (Kd.C_below HC23.out hb);clear hb))
      refine bodyPost_ret (results_tmp2 rfl _ _ _) rfl ?_
      exact ⟨A2,c2,rfl,HC2.out.1,HC24.out,HB4.out⟩
    · have EQ:Aside0 (∀ A3 c3 W,Kd.C (Kd.int .u8) W A3 eb.length eb→eb.length≤c3→Below w.heap.size w W→Calls Tryz.prog 38 #[.slice A3 eb.length c3,.slice A n c] W fun e w' => e = .returned (.bool false)∧Below W.heap.size W w'):=⟨fun A3 c3 W h1 h2 hb => by
        have h3:=bytes_Equal.calls A3 c3 eb A c b false W h1 h2 (by rw [HN.out];exact Kd.C_below HR.out hb) (by rw [HN.out];exact hc) (by rw [bytes_Equal.f,if_pos ⟨hokE,HOK.out⟩];simp [he])
        rw [HN.out] at h3
        exact h3.mono fun e w' ⟨h4,h5⟩ => ⟨h4,h5.below⟩⟩
      have HE:Aside0 (readF b=([],5)):=⟨by rw [HRF.out,if_neg (by intro h;injection h with h _;exact he h)]⟩
      rw [HE.out]
      clear HRF he hokE
      go_enter Tryz.func14,Tryz.ntmps14
      go_wp2_with (first | (go_at_call 37;(with_reducible refine FO.out.mono ?_);rintro e w1 ⟨v1,rfl,hn1,hb⟩;obtain ⟨A1,c1,rfl,hc1,hC1⟩:=Kd.N_reads hn1;have HC1:=Aside0.mk hC1;have HB1:=Aside0.mk hb;clear hn1 hc1 hC1 hb) | (go_at_call 36;(with_reducible refine (join.calls A1 c1 F.length F _ rfl HC1.out HF.out.2.1 HF.out.2.2.1 HF.out.2.2.2.1).mono ?_);rintro e w2 ⟨A2,c2,rfl,hc2,hC2,hb⟩;rw [HJ.out] at hc2 hC2 ⊢;have HC2:=Aside0.mk (And.intro hc2 hC2);have HB2:=Aside0.mk (below_step HB1.out hb);clear hc2 hC2 hb) | (go_at_call 9;(with_reducible refine (writeD.calls A2 c2 J.length J eb 0 _ rfl HC2.out.2 HC2.out.1 HF.out.2.2.2.2.1 HF.out.2.2.2.2.2.1 HF.out.2.2.2.2.2.2.1 (HZ.out.below HB2.out) (HT.out.below HB2.out) HW.out).mono ?_);rintro e w3 ⟨v3,rfl,hr3,hb⟩;obtain ⟨A3,c3,rfl⟩:=Kd.R_slice hr3;have HR3:=Aside0.mk (Kd.R_reads' hr3);have HB3:=Aside0.mk (below_step HB2.out hb);have HC23:=Aside0.mk (Kd.C_below HC2.out.2 hb);clear hr3 hb) | (go_at_call 38;(with_reducible refine (EQ.out A3 c3 _ HR3.out.2.2 HR3.out.2.1 HB3.out).mono ?_);rintro e w4 ⟨rfl,hb⟩;have HB4:=Aside0.mk (below_step HB3.out hb);have HC24:=Aside0.mk (Kd.C_below HC23.out hb);clear hb))
      refine bodyPost_ret (results_tmp2 rfl _ _ _) rfl ?_
      exact ⟨none,0,rfl,Nat.le_refl _,Kd.C_nil _ _,HB4.out⟩
  · have HE:Aside0 (readF b=([],5)):=⟨by rw [HRF.out,if_neg (by intro h;injection h with _ h;exact absurd h (by decide))]⟩
    rw [HE.out]
    clear HRF
    go_enter Tryz.func14,Tryz.ntmps14
    go_wp2_with (first | (go_at_call 37;(with_reducible refine FO.out.mono ?_);rintro e w1 ⟨v1,rfl,hn1,hb⟩;obtain ⟨A1,c1,rfl,hc1,hC1⟩:=Kd.N_reads hn1;have HC1:=Aside0.mk hC1;have HB1:=Aside0.mk hb;clear hn1 hc1 hC1 hb) | (go_at_call 36;(with_reducible refine (join.calls A1 c1 F.length F _ rfl HC1.out HF.out.2.1 HF.out.2.2.1 HF.out.2.2.2.1).mono ?_);rintro e w2 ⟨A2,c2,rfl,hc2,hC2,hb⟩;rw [HJ.out] at hc2 hC2 ⊢;have HC2:=Aside0.mk (And.intro hc2 hC2);have HB2:=Aside0.mk (below_step HB1.out hb);clear hc2 hC2 hb) | (go_at_call 9;(with_reducible refine (writeD.calls A2 c2 J.length J eb 1 _ rfl HC2.out.2 HC2.out.1 HF.out.2.2.2.2.1 HF.out.2.2.2.2.2.1 HF.out.2.2.2.2.2.2.1 (HZ.out.below HB2.out) (HT.out.below HB2.out) HW.out).mono ?_);rintro e w3 ⟨v3,rfl,hr3,hb⟩;have HB3:=Aside0.mk (below_step HB2.out hb);clear hr3 hb))
    refine bodyPost_ret (results_tmp2 rfl _ _ _) rfl ?_
    exact ⟨none,0,rfl,Nat.le_refl _,Kd.C_nil _ _,HB3.out⟩
theorem count.calls (p k:Nat) (a1 a2 a3:Value) (w:World) (hk:k<9223372036854775807) (hp:w.heap[p]? = some (.cells #[.int .i64 k] 3 (0,0))) :
    Calls Tryz.prog 45 #[.agg #[a1,a2,a3],.pointer (some ⟨p,0,none⟩)] w fun e w' => e = .returned (.tuple #[])∧w'.heap[p]? = some (.cells #[.int .i64 ((k+1:Nat):Int)] 3 (0,0))∧(∀ B,B≤p→Below B w w'):=by
  have hlt:=blk_lt hp
  have HX:=Aside0.mk (blk_alloc hp (.cells #[a1,a2,a3] 80 (0,0)))
  have q0:=(blk_cell HX.out 0).trans rfl
  have y0:=blk_frozen HX.out 0
  have hk1:IntKind.i64.wrap ((k:Int)+1)=((k+1:Nat):Int):=by rw [IntKind.wrap_i64];omega
  have HP:=Aside0.mk hp
  clear hp
  go_enter Tryz.func45,Tryz.ntmps45
  go_wp2_with fail
  refine bodyPost_end (results_none rfl _ _ _) rfl ?_
  exact ⟨rfl,blk_alloc (blk_put HP.out 0 _ rfl) _,fun B hB => ((Below.refl B w).setCell (p:=⟨p,0,none⟩) hB _).alloc (by rw [World.size_setCell];omega) _⟩
theorem frames.calls (A:Option Addr) (c n:Nat) (b:List Int) (w:World) (hn:b.length=n) (hr:Kd.C (Kd.int .u8) w A n b) (hc:n≤c) (hok:okB b=true) (hlen:n≤1000000000) (hT:TabQ w) :
    Calls Tryz.prog 20 #[.slice A n c] w fun e w' => e = .returned (.int .i64 (frsL b).length)∧Below w.heap.size w w':=by
  have HX:=Aside0.mk (blk_new w (.cells #[.int .i64 0] 3 (0,0)))
  have HB:=Aside0.mk (below_alloc (Below.refl w.heap.size w) (.cells #[.int .i64 0] 3 (0,0)))
  have TH:=Aside0.mk (thrCount.calls w.heap.size A c n b (w.alloc (.cells #[.int .i64 0] 3 (0,0))) (fun fs W => W.heap[w.heap.size]? = some (.cells #[.int .i64 ((fs.length:Nat):Int)] 3 (0,0))∧Below w.heap.size w W) hn hc hok hlen
    (fun fs W h => Kd.C_below hr h.2) (fun fs W h => hT.below h.2) (fun fs W W' h hb => ⟨blk_below h.1 hb,below_step h.2 hb⟩)
    (fun fs f W A' c' h hl _ _ _ _ => (count.calls w.heap.size fs.length _ _ _ W (by simp only [List.length_cons] at hl;omega) h.1).mono fun e w' ⟨he,hx,hb⟩ => ⟨he,by rw [List.length_append];exact hx,h.2.trans (hb _ (Nat.le_refl _))⟩)
    ⟨HX.out,HB.out⟩)
  clear hr hok hT
  go_enter Tryz.func20,Tryz.ntmps20
  go_wp2_with (go_at_call 44;(with_reducible refine TH.out.mono ?_);rintro e w1 ⟨rfl,hx,hb⟩;have HX1:=Aside0.mk hx;have HB1:=Aside0.mk hb;have q0:=(blk_cell HX1.out 0).trans rfl;clear hx hb)
  go_ret
  exact ⟨rfl,HB1.out⟩
theorem one_C {α:Type} (d:Kd α) {W:World} {g t:Nat} {fr:Nat × Nat} {cs:Array Value} {x:α} (hb:W.heap[g]? = some (.cells cs t fr)) (hK:d.K W x cs.toList):d.C W (some ⟨g,0,none⟩) 1 [x]:=by
  refine ⟨rfl,by decide,fun _ => ⟨_,rfl,fun j p hj => ?_⟩⟩
  match j,hj with
  | 0,hj =>
    injection hj with hj
    subst hj
    refine ⟨cs.toList,d.K_len hK,hK,fun i u hu => ?_⟩
    rw [Nat.zero_mul,Nat.zero_add,add_plain]
    exact (cell_of_row W g i cs t fr hb).trans (by simpa using hu)
  | n+1,hj => simp at hj
def awX:S51:=⟨[⟨⟨#[97]⟩,⟨#[120]⟩⟩],[⟨1,2⟩]⟩
theorem awX_l:canL awX.f0=true:=by decide
theorem awX_s:canS awX.f1=true:=by decide
theorem awX_ok:∀ s ∈ awX.f1,okS s:=fun s hs => by
  simp only [awX,List.mem_cons,List.not_mem_nil,or_false] at hs
  subst hs
  exact ⟨⟨by decide,by decide⟩,by decide,by decide⟩
theorem awZ_can:canC [awX] = true:=canC_ok fun j hj => by
  obtain rfl:j=0:=by simp at hj;omega
  exact okC_zero (canX_ok awX_l (by decide) awX_s)
theorem awX_z:okZ [awX]:=fun x hx => by
  simp only [List.mem_cons,List.not_mem_nil,or_false] at hx
  subst hx
  refine ⟨fun y hy => ?_,by decide,by decide,awX_ok⟩
  simp only [awX,List.mem_cons,List.not_mem_nil,or_false] at hy
  subst hy
  exact ⟨by decide,by decide⟩
theorem awX_parts:partsL [awX] = [awX]:=by
  simp [partsL,partsX,partS,plen,awX]
theorem awX_join:joinL [awX] = [awX]:=by
  first | rfl | simp [joinL]
theorem awX_okP:∀ p ∈ partsL [awX],okP p:=by
  rw [awX_parts]
  intro p hp
  rw [List.mem_singleton.1 hp]
  exact ⟨awX_l,awX_s,awX_ok,by decide,by decide⟩
theorem aw_found:foundL (writeL [awX])=[awX] ∧ (frsL (writeL [awX])).length=3:=by
  have h:=found_write awX_okP (by rw [awX_parts];decide)
  rw [awX_parts] at h
  exact h
theorem aw_read:readF (writeL [awX])=([awX],0):=read_write awZ_can awX_okP (by rw [awX_parts];exact awX_join) (by rw [awX_parts];decide)
theorem aw_ok:okB (writeL [awX])=true∧(writeL [awX]).length≤2000:=by
  have h:=writeL_ok awX_okP
  rw [awX_parts] at h
  exact ⟨h.1,Nat.le_trans h.2 (by decide)⟩
theorem aw_foundOk:FoundOk (writeL [awX]):=by
  have h1:(ptsL (writeL [awX])).length=(foundL (writeL [awX])).length:=by rw [foundL,List.length_map,sortPt_eq,srtK_len]
  rw [aw_found.1] at h1
  unfold FoundOk
  rw [aw_found.1,awX_join,writeF,if_pos awZ_can]
  refine ⟨by rw [h1];decide,by decide,by decide,fun x hx => by rw [List.mem_singleton.1 hx];decide,awX_z,by decide,by decide,aw_ok.1⟩
theorem dawake.calls (w:World) (hT:TabZ w) (hQ:TabQ w) :
    Calls Tryz.prog 12 #[] w fun e w' => e = .returned (.bool true)∧Below w.heap.size w w':=by
  obtain ⟨B,hB⟩:∃ B,writeL [awX] = B:=⟨_,rfl⟩
  have hWF:writeF [awX] = (B,0):=by rw [writeF,if_pos awZ_can,hB]
  have hrd:=aw_read
  have hok:=aw_ok
  have hfo:=aw_foundOk
  have hfr:=aw_found.2
  have hlen:0<B.length:=by rw [← hB,writeL,List.length_append,frB_len];omega
  rw [hB] at hrd hok hfo hfr
  have HRD:=Aside0.mk hrd
  have HOK:=Aside0.mk hok
  have HFO:=Aside0.mk hfo
  have HFR:=Aside0.mk hfr
  have HLN:=Aside0.mk hlen
  have HT:=Aside0.mk hT
  have HQ:=Aside0.mk hQ
  clear hrd hok hfo hfr hlen hT hQ hB
  obtain ⟨W3,hW3⟩:∃ W3,(((w.alloc (.cells #[.string ⟨#[97]⟩,.string ⟨#[120]⟩] 68)).alloc (.cells #[.int .i64 1,.int .u64 2] 70)).alloc (.cells #[.slice (some ⟨w.heap.size,0,none⟩) 1 1,.slice (some ⟨w.heap.size+1,0,none⟩) 1 1] 51))=W3:=⟨_,rfl⟩
  have HB3:Aside0 (Below w.heap.size w W3):=⟨by rw [← hW3];exact below_alloc (below_alloc (below_alloc (Below.refl _ _) _) _) _⟩
  have hb1:W3.heap[w.heap.size]? = some (.cells #[.string ⟨#[97]⟩,.string ⟨#[120]⟩] 68 (0,0)):=by
    rw [← hW3];exact blk_alloc (blk_alloc (blk_new w _) _) _
  have hb2:W3.heap[w.heap.size+1]? = some (.cells #[.int .i64 1,.int .u64 2] 70 (0,0)):=by
    rw [← hW3]
    have:=blk_new (w.alloc (.cells #[.string ⟨#[97]⟩,.string ⟨#[120]⟩] 68)) (.cells #[.int .i64 1,.int .u64 2] 70)
    rw [World.size_alloc] at this
    exact blk_alloc this _
  have hb3:W3.heap[w.heap.size+1+1]? = some (.cells #[.slice (some ⟨w.heap.size,0,none⟩) 1 1,.slice (some ⟨w.heap.size+1,0,none⟩) 1 1] 51 (0,0)):=by
    rw [← hW3]
    have:=blk_new ((w.alloc (.cells #[.string ⟨#[97]⟩,.string ⟨#[120]⟩] 68)).alloc (.cells #[.int .i64 1,.int .u64 2] 70)) (.cells #[.slice (some ⟨w.heap.size,0,none⟩) 1 1,.slice (some ⟨w.heap.size+1,0,none⟩) 1 1] 51)
    rwa [World.size_alloc,World.size_alloc] at this
  have hC:=one_C k51 (x:=awX) hb3 (k51_mk W3 awX (Nat.le_refl 1) (one_C k68 (x:=⟨⟨#[97]⟩,⟨#[120]⟩⟩) hb1 (k68_mk W3 _)) (Nat.le_refl 1) (one_C k70 (x:=⟨1,2⟩) hb2 (k70_mk W3 _)))
  have WR:=Aside0.mk (writeD.calls (some ⟨w.heap.size+1+1,0,none⟩) 1 1 [awX] B 0 W3 rfl hC (Nat.le_refl 1) awX_z (by decide) (by decide) (HT.out.below HB3.out) (HQ.out.below HB3.out) hWF)
  clear hC hb1 hb2 hb3 hWF
  go_enter Tryz.func12,Tryz.ntmps12
  go_wp2_with (first | (go_at_call 9;(try rw [hW3]);(with_reducible refine WR.out.mono ?_);rintro e w4 ⟨v4,rfl,hr4,hb4⟩;clear hW3;obtain ⟨a4,c4,rfl⟩:=Kd.R_slice1 hr4 HLN.out;have HR4:=Aside0.mk (Kd.R_reads' hr4);have HB4:=Aside0.mk (below_step HB3.out hb4);clear hr4 hb4) | (go_at_call 14;(with_reducible refine (readD.calls (some a4) c4 B.length B _ rfl HR4.out.2.2 HR4.out.2.1 HOK.out.1 (Nat.le_trans HOK.out.2 (by decide)) (HQ.out.below HB4.out) (HT.out.below HB4.out) HFO.out).mono ?_);rintro e w5 ⟨A5,c5,rfl,_,_,hb⟩;rw [HRD.out];have HB5:=Aside0.mk (below_step HB4.out hb);have HR5:=Aside0.mk (Kd.C_below HR4.out.2.2 hb);clear hb) | (go_at_call 20;(with_reducible refine (frames.calls (some a4) c4 B.length B _ rfl HR5.out HR4.out.2.1 HOK.out.1 (Nat.le_trans HOK.out.2 (by decide)) (HQ.out.below HB5.out)).mono ?_);rintro e w6 ⟨rfl,hb⟩;rw [HFR.out];have HB6:=Aside0.mk (below_step HB5.out hb);clear hb))
  go_ret
  exact ⟨rfl,HB6.out⟩
end Go.Proofs.YtcgbgifbajdhpaaGreatDoor.PA
namespace Go.Proofs.YtcgbgifbajdhpaaGreatDoor.G
open Go.RowKit Go.Proofs.YtcgbgifbajdhpaaGreatDoorW.PrintWords Go.Proofs.YtcgbgifbajdhpaaGreatDoorW.PrintLast Go.Proofs.YtcgbgifbajdhpaaGreatDoorW.PrintMore
attribute [local go_sem high] unary_xor_u32
def dryrotref01_More.f (s:Int) (l:List Int):Option Int:=crc_More.f s l
def dryrotref01_Sum.f (l:List Int):Option Int:=crc_Sum.f l
def ones:Nat→Nat→Nat
  | 0,r => r
  | n+1,r => CrcMath.one (ones n r)
theorem ones_lt {r:Nat} (h:r<4294967296):∀ n,ones n r<4294967296
  | 0 => h
  | n+1 => CrcMath.one_lt (ones_lt h n)
theorem ones8 (r:Nat):ones 8 r=CrcMath.eight r:=rfl
theorem dryrotref01_More.calls (a0:Int) (A1:Option Addr) (c1:Nat) (l1:List Int) (r:Int) (w:World) (hr1:Kd.C (Kd.int .u8) w A1 l1.length l1) (hc1:l1.length≤c1) (h:dryrotref01_More.f a0 l1=some r) :
    Calls Tryz.prog 98 #[.int .u32 a0,.slice A1 l1.length c1] w fun e w' => e = .returned (.int .u32 r)∧Drawn0 w w':=by
  have HR:=Aside0.mk hr1
  have hlen:l1.length≤9223372036854775807:=Kd.C_max hr1
  clear hr1 hc1
  unfold dryrotref01_More.f crc_More.f at h
  split at h
  case isFalse => cases h
  case isTrue hok =>
  obtain rfl:=Option.some.inj h
  clear h
  obtain ⟨hb,h0,h1⟩:=hok
  obtain ⟨S,rfl⟩:=Int.eq_ofNat_of_zero_le h0
  rw [Int.toNat_natCast]
  have hi:=inv32_nat S (by omega)
  clear h0
  go_enter Tryz.func98,Tryz.ntmps98
  go_wp2
  have hl:(CrcMath.inv S)<4294967296:=CrcMath.inv_lt (by omega)
  go_loop [5,13] (fun r i => ∃ k:Nat,k≤l1.length∧i = .int .i64 k∧r = .int .u32 (CrcMath.run (CrcMath.inv S) (CrcMath.nat (l1.take k)):Nat)) (fun _ i => l1.length - (intOf i).toNat)
  case atStart => exact ⟨0,Nat.zero_le _,rfl,rfl⟩
  case round =>
    obtain ⟨k,hk,rfl,rfl⟩:=hrel
    by_cases hlt:k<l1.length
    · obtain ⟨ad,rfl,hc⟩:=Kd.at_int HR.out (k:Int) (by omega) (by omega)
      rw [Int.toNat_natCast] at hc
      have hx:=okB_iff.1 hb _ (rd_mem l1 k hlt)
      have HT:=Aside0.mk (run_take (CrcMath.inv S) l1 k hlt)
      have hR:=CrcMath.run_lt hl (CrcMath.nat_byte (take_byte hb k))
      generalize CrcMath.run (CrcMath.inv S) (CrcMath.nat (l1.take k))=R at hR HT ⊢
      obtain ⟨X,hX⟩:=Int.eq_ofNat_of_zero_le hx.1
      rw [hX] at hc hx HT
      rw [Int.toNat_natCast] at HT
      clear hX
      have hw:IntKind.u32.wrap (X:Int)=(X:Int):=by rw [IntKind.wrap_u32];omega
      have hxor:=xor32 R X hR (by omega)
      have hL:R ^^^ X<4294967296:=Nat.xor_lt_two_pow (n:=32) hR (by omega)
      go_wp2
      generalize R ^^^ X=Y at hL HT hxor ⊢
      clear hxor hw hc hx hR
      go_loop [5,21] (fun r i => ∃ j:Nat,j≤8∧i = .int .i64 j∧r = .int .u32 (ones j Y:Nat)) (fun _ i => 8 - (intOf i).toNat)
      case atStart => exact ⟨0,by omega,rfl,rfl⟩
      case round =>
        obtain ⟨j,hj,rfl,rfl⟩:=hrel
        have hT':=ones_lt hL j
        by_cases hj4:j<8
        · have HN:Aside0 (ones (j+1) Y=CrcMath.one (ones j Y)):=⟨rfl⟩
          generalize ones j Y=Z at hT' HN ⊢
          have ha:Go.bits .and .u32 (Z:Int) 1=((Z % 2:Nat):Int):=by
            rw [show (1:Int)=((1:Nat):Int) from rfl,u32_and_nat Z 1 hT' (by omega),nat_mask1]
          by_cases hp:Z % 2=1
          · have hxor:Go.bits .xor .u32 ((Z:Int) / 2) 2197175160=((CrcMath.one Z:Nat):Int):=by
              rw [show (Z:Int) / 2=((Z / 2:Nat):Int) from by omega]
              have:=xor32 (Z / 2) 2197175160 (by omega) (by omega)
              unfold CrcMath.one
              rw [if_pos hp]
              exact this
            rw [hp] at ha
            generalize CrcMath.one Z=M at hxor HN
            have HZ:=Aside0.mk hT'
            clear hT' hL h1 hl hi hj hp
            go_wp2
            go_round
            case rel => exact ⟨j+1,by omega,by go_num,by rw [HN.out]⟩
            case measure => simp [intOf];omega
          · have h0:Z % 2=0:=by omega
            have hone:(Z:Int) / 2=((CrcMath.one Z:Nat):Int):=by
              unfold CrcMath.one
              rw [if_neg hp,Nat.xor_zero]
              omega
            rw [h0] at ha
            generalize CrcMath.one Z=M at hone HN
            have HZ:=Aside0.mk hT'
            clear hT' hL h1 hl hi hj hp h0
            go_wp2
            go_round
            case rel => exact ⟨j+1,by omega,by go_num,by rw [HN.out]⟩
            case measure => simp [intOf];omega
        · obtain rfl:j=8:=by omega
          go_wp2
          go_round
          case rel => exact ⟨k+1,by omega,by go_num,by rw [HT.out,ones8]⟩
          case measure => simp [intOf];omega
    · obtain rfl:k=l1.length:=by omega
      have hfin:inv32 ((CrcMath.run (CrcMath.inv S) (CrcMath.nat l1):Nat):Int)=((CrcMath.more S l1:Nat):Int):=inv32_nat _ (CrcMath.run_lt hl (CrcMath.nat_byte (okB_iff.1 hb)))
      go_wp2
      go_ret
      exact ⟨rfl,Drawn0.refl _⟩
theorem dryrotref01_Sum.calls (A0:Option Addr) (c0:Nat) (l0:List Int) (r:Int) (w:World) (hr0:Kd.C (Kd.int .u8) w A0 l0.length l0) (hc0:l0.length≤c0) (h:dryrotref01_Sum.f l0=some r) :
    Calls Tryz.prog 66 #[.slice A0 l0.length c0] w fun e w' => e = .returned (.int .u32 r)∧Drawn0 w w':=by
  have hm:dryrotref01_More.f 0 l0=some r:=by
    unfold dryrotref01_Sum.f crc_Sum.f at h
    unfold dryrotref01_More.f crc_More.f
    split at h
    · rename_i hb
      rw [if_pos ⟨hb,by omega,by omega⟩]
      exact h
    · cases h
  have HR:=Aside0.mk hr0
  have HM:=Aside0.mk hm
  have HC:=Aside0.mk hc0
  clear hr0 hm hc0 h
  go_enter Tryz.func66,Tryz.ntmps66
  go_wp2_with fail
  refine (dryrotref01_More.calls _ _ _ _ _ _ HR.out HC.out HM.out).mono ?_
  rintro e w1 ⟨rfl,⟨n1,rfl⟩⟩
  go_wp2
  go_ret
  exact ⟨rfl,⟨n1,rfl⟩⟩
end Go.Proofs.YtcgbgifbajdhpaaGreatDoor.G
namespace Go.Proofs.YtcgbgifbajdhpaaGreatDoor.PA
open Go.RowKit Go.Proofs.YtcgbgifbajdhpaaGreatDoor.G Go.Proofs.YtcgbgifbajdhpaaGreatDoorW.PrintWords Go.Proofs.YtcgbgifbajdhpaaGreatDoorW.PrintLast Go.Proofs.YtcgbgifbajdhpaaGreatDoorW.PrintMore
theorem putr_at (n i:Nat) (hn:n<18446744073709551616) (hi:i≤8) (W:World):Calls Tryz.prog 34 #[.int .u64 n,.int .i64 i] W fun e w' => ∃ v0_:Value,e = .returned v0_∧Kd.R (Kd.int .u8) 5 w' W.heap.size (fun _ => True) v0_ (beL n i)∧Below W.heap.size W w' :=
  G.dryrotref01_Put.calls _ _ _ W (by rw [G.dryrotref01_Put.f,crc_Put.f,if_pos (by omega),Int.toNat_natCast];congr 2;unfold wid;omega)
theorem rFrame.calls (k n m:Nat) (p:List Int) (A:Option Addr) (c:Nat) (w:World) (hk:k<256) (hn:n<4294967296) (hm:p.length=m) (hr:Kd.C (Kd.int .u8) w A m p) (hc:m≤c) (hl:m≤1000000) (hok:okB p=true) :
    Calls Tryz.prog 33 #[.int .i64 k,.int .i64 n,.slice A m c] w fun e w' => ∃ v:Value,e = .returned v∧Kd.R (Kd.int .u8) 5 w' w.heap.size (fun _ => True) v (frB k n p)∧Below w.heap.size w w':=by
  have HM:=Aside0.mk hm
  have HRP:Aside0 (∀ W,Below w.heap.size w W→Kd.C (Kd.int .u8) W A m p):=⟨fun W hb => Kd.C_below hr hb⟩
  have HOK:=Aside0.mk hok
  have hku:IntKind.u8.wrap (k:Int)=(k:Int):=by simp [IntKind.wrap,IntKind.bits,IntKind.signed];omega
  have hku2:(k:Int) % 256=(k:Int):=by omega
  have hnu:IntKind.u64.wrap (n:Int)=(n:Int):=by simp [IntKind.wrap,IntKind.bits,IntKind.signed];omega
  have hmu:IntKind.u64.wrap (m:Int)=(m:Int):=by simp [IntKind.wrap,IntKind.bits,IntKind.signed];omega
  have hn64:n<18446744073709551616:=by omega
  have hm64:m<18446744073709551616:=by omega
  have HBR:=Aside0.mk (Below.refl w.heap.size w)
  have PUTn:Aside0 (∀ W,Calls Tryz.prog 34 #[.int .u64 n,.int .i64 4] W fun e w' => ∃ v0_:Value,e = .returned v0_∧Kd.R (Kd.int .u8) 5 w' W.heap.size (fun _ => True) v0_ (beL n 4)∧Below W.heap.size W w'):=⟨fun W => putr_at n 4 hn64 (by decide) W⟩
  have PUTm:Aside0 (∀ W,Calls Tryz.prog 34 #[.int .u64 m,.int .i64 2] W fun e w' => ∃ v0_:Value,e = .returned v0_∧Kd.R (Kd.int .u8) 5 w' W.heap.size (fun _ => True) v0_ (beL m 2)∧Below W.heap.size W w'):=⟨fun W => putr_at m 2 hm64 (by decide) W⟩
  obtain ⟨L1,hL1⟩:∃ L,([208,215,(k:Int)]:List Int)=L:=⟨_,rfl⟩
  obtain ⟨L2,hL2⟩:∃ L,L1++beL n 4=L:=⟨_,rfl⟩
  obtain ⟨L3,hL3⟩:∃ L,L2++beL m 2=L:=⟨_,rfl⟩
  obtain ⟨L4,hL4⟩:∃ L,L3++p=L:=⟨_,rfl⟩
  have hF:frH k n p=L4:=by rw [frH,hm,hL1,hL2,hL3,hL4]
  have e1:L1.length=3:=by rw [← hL1];rfl
  have e2:L2.length=7:=by rw [← hL2,List.length_append,beL_length,e1]
  have e3:L3.length=9:=by rw [← hL3,List.length_append,beL_length,e2]
  have e4:L4.length=9+m:=by rw [← hL4,List.length_append,e3,hm]
  have HLN:Aside0 (L1.length=3∧L2.length=7∧L3.length=9∧L4.length=9+m∧p.length=m):=⟨⟨e1,e2,e3,e4,hm⟩⟩
  clear e1 e2 e3 e4
  have HL1:=Aside0.mk hL1
  have HL2:=Aside0.mk hL2
  have HL3:=Aside0.mk hL3
  have HL4:=Aside0.mk hL4
  have HF:=Aside0.mk hF
  clear hr hok hm hL1 hL2 hL3 hL4 hF
  go_enter Tryz.func33,Tryz.ntmps33
  go_upto_region 3 with (first | ((with_reducible refine gate_dst (N:=10) rfl ?_);refine Kd.R_lit (Kd.int .u8) _ 5 ?hg (N:=10) ?hd (xs:=([208,215,(k:Int)]:List Int)) (inner:=[.int .u8 208,.int .u8 215,.int .u8 (k:Int)]) (ok:=fun _ => True) (okp:=fun _ => True) ?hr ?hp (fun _ hk => hk) trivial (Below.refl _ _) (Nat.le_refl _) (by simp) ?_;(case hd => rfl);(case hg => rfl);(case hr => first | (go_simp;done) | (go_simp;rfl));(case hp => exact (Reps.one (show Kd.M (Kd.int .u8) _ _ _ 208 [.int .u8 208] from rfl) (Reps.one (show Kd.M (Kd.int .u8) _ _ _ 215 [.int .u8 215] from rfl) (Reps.one (show Kd.M (Kd.int .u8) _ _ _ (k:Int) [.int .u8 (k:Int)] from rfl) (Reps.none _ _)))));intro v1 w1 ho hb hg_ hnew_;rw [HL1.out] at ho;obtain ⟨A1,c1,rfl⟩:=Kd.R_slice ho;have HB1:=Aside0.mk hb;have HV1:=Aside0.mk ho;clear ho hb hg_ hnew_) | (go_at_call 34;(with_reducible refine (PUTn.out _).mono ?_);rintro e w2 ⟨x2,rfl,hr,hb⟩;obtain ⟨ax2,cx2,rfl⟩:=Kd.R_slice1 hr (by rw [beL_length];decide);have HB2:=Aside0.mk (below_step HB1.out hb);have HV1b:=Aside0.mk (Kd.R_below HV1.out hb);have HSx2:=Aside0.mk (Kd.R_reads' hr).2.2;clear hr hb) | ((with_reducible refine gate_dst (N:=14) rfl ?_);go_must (refine Kd.R_append_rows (Kd.int .u8) (Rr:=(Kd.int .u8).K w2) (w0:=w) w.heap.size rfl (.tmp 10) (.tmp 13) 24 5 (.int .u8 0) 1 rfl Tryz.underlying24 infoU8 rfl (by decide) (by decide) (.slice A1 L1.length c1) L1 (beL n 4) (some ax2) (beL n 4).length cx2 (fun _ => True) (fun _ => False) rfl rfl HV1b.out HSx2.out (fun _ _ h => h) (fun _ h => h.elim) (fun _ _ => trivial) HB2.out HB2.out.size ?h6 ?_);(case h6 => ((have h1_:=HLN.out;have h2_:=beL_length n 4;have h3_:=beL_length m 2;omega)));intro x3 w3 hr_ hb_ hg_ hat_;rw [HL2.out] at hr_;obtain ⟨Ax3,cx3,hv_⟩:=Kd.R_slice hr_;subst hv_;have HV3:=Aside0.mk hr_;have HB3:=Aside0.mk hb_;clear hr_ hb_ hg_ hat_) | (go_at_call 34;(with_reducible refine (PUTm.out _).mono ?_);rintro e w4 ⟨x4,rfl,hr,hb⟩;obtain ⟨ax4,cx4,rfl⟩:=Kd.R_slice1 hr (by rw [beL_length];decide);have HB4:=Aside0.mk (below_step HB3.out hb);have HV3b:=Aside0.mk (Kd.R_below HV3.out hb);have HSx4:=Aside0.mk (Kd.R_reads' hr).2.2;clear hr hb) | ((with_reducible refine gate_dst (N:=20) rfl ?_);go_must (refine Kd.R_append_rows (Kd.int .u8) (Rr:=(Kd.int .u8).K w4) (w0:=w) w.heap.size rfl (.tmp 15) (.tmp 19) 24 5 (.int .u8 0) 1 rfl Tryz.underlying24 infoU8 rfl (by decide) (by decide) (.slice Ax3 L2.length cx3) L2 (beL m 2) (some ax4) (beL m 2).length cx4 (fun _ => True) (fun _ => False) rfl rfl HV3b.out HSx4.out (fun _ _ h => h) (fun _ h => h.elim) (fun _ _ => trivial) HB4.out HB4.out.size ?h6 ?_);(case h6 => ((have h1_:=HLN.out;have h2_:=beL_length n 4;have h3_:=beL_length m 2;omega)));intro x5 w5 hr_ hb_ hg_ hat_;rw [HL3.out] at hr_;obtain ⟨Ax5,cx5,hv_⟩:=Kd.R_slice hr_;subst hv_;have HV5:=Aside0.mk hr_;have HB5:=Aside0.mk hb_;clear hr_ hb_ hg_ hat_) | ((with_reducible refine gate_dst (N:=22) rfl ?_);go_must (refine Kd.R_append_rows (Kd.int .u8) (Rr:=(Kd.int .u8).K w5) (w0:=w) w.heap.size rfl (.tmp 20) (.tmp 21) 24 5 (.int .u8 0) 1 rfl Tryz.underlying24 infoU8 rfl (by decide) (by decide) (.slice Ax5 L3.length cx5) L3 p A m c (fun _ => True) (fun _ => False) rfl rfl HV5.out (HRP.out _ HB5.out) (fun _ _ h => h) (fun _ h => h.elim) (fun _ _ => trivial) HB5.out HB5.out.size ?h6 ?_);(case h6 => ((have h1_:=HLN.out;have h2_:=beL_length n 4;have h3_:=beL_length m 2;omega)));intro x6 w6 hr_ hb_ hg_ hat_;rw [HL4.out] at hr_;obtain ⟨Ax6,cx6,hv_⟩:=Kd.R_slice1 hr_ (by have h1_:=HLN.out;omega);subst hv_;have HV6:=Aside0.mk hr_;have HB6:=Aside0.mk hb_;clear hr_ hb_ hg_ hat_))
  have HO4:Aside0 (okB L4=true):=⟨by rw [← HF.out];exact frH_ok hk HOK.out⟩
  obtain ⟨s,hs⟩:∃ s,crcL L4=s:=⟨_,rfl⟩
  have hs32:s<4294967296:=by rw [← hs];exact crcL_lt HO4.out
  have SUM:Aside0 (Calls Tryz.prog 66 #[.slice (some Ax6) L4.length cx6] w6 fun e w' => e = .returned (.int .u32 (s:Nat))∧Drawn0 w6 w'):=⟨G.dryrotref01_Sum.calls (some Ax6) cx6 L4 (s:Nat) w6 (Kd.R_reads' HV6.out).2.2 (Kd.R_reads' HV6.out).2.1 (by rw [G.dryrotref01_Sum.f,crc_Sum.f,if_pos HO4.out,← hs];rfl)⟩
  have PUTs:Aside0 (∀ W,Calls Tryz.prog 34 #[.int .u64 s,.int .i64 4] W fun e w' => ∃ v0_:Value,e = .returned v0_∧Kd.R (Kd.int .u8) 5 w' W.heap.size (fun _ => True) v0_ (beL s 4)∧Below W.heap.size W w'):=⟨fun W => putr_at s 4 (by omega) (by decide) W⟩
  have hsu:IntKind.u64.wrap (s:Int)=(s:Int):=by simp [IntKind.wrap,IntKind.bits,IntKind.signed];omega
  have HS:=Aside0.mk hs
  clear hs
  go_wp2_with (first | (go_at_call 66;(with_reducible refine SUM.out.mono ?_);rintro e w7 ⟨rfl,hd⟩;have hb:=hd.below;have HB7:=Aside0.mk (below_step HB6.out hb);have HV7:=Aside0.mk (Kd.R_below HV6.out hb);clear hb hd) | (go_at_call 34;(with_reducible refine (PUTs.out _).mono ?_);rintro e w8 ⟨x8,rfl,hr,hb⟩;obtain ⟨ax8,cx8,rfl⟩:=Kd.R_slice1 hr (by rw [beL_length];decide);have HB8:=Aside0.mk (below_step HB7.out hb);have HV8:=Aside0.mk (Kd.R_below HV7.out hb);have HSx8:=Aside0.mk (Kd.R_reads' hr).2.2;clear hr hb) | ((with_reducible refine gate_dst (N:=28) rfl ?_);go_must (refine Kd.R_append_rows (Kd.int .u8) (Rr:=(Kd.int .u8).K w8) (w0:=w) w.heap.size rfl (.tmp 23) (.tmp 27) 24 5 (.int .u8 0) 1 rfl Tryz.underlying24 infoU8 rfl (by decide) (by decide) (.slice (some Ax6) L4.length cx6) L4 (beL s 4) (some ax8) (beL s 4).length cx8 (fun _ => True) (fun _ => False) rfl rfl HV8.out HSx8.out (fun _ _ h => h) (fun _ h => h.elim) (fun _ _ => trivial) HB8.out HB8.out.size ?h6 ?_);(case h6 => ((have h1_:=HLN.out;have h2_:=beL_length s 4;omega)));intro x9 w9 hr_ hb_ hg_ hat_;obtain ⟨Ax9,cx9,hv_⟩:=Kd.R_slice hr_;rw [List.length_append] at hv_;subst hv_;have HV9:=Aside0.mk hr_;have HB9:=Aside0.mk hb_;clear hr_ hb_ hg_ hat_))
  go_ret
  exact ⟨_,rfl,by rw [frB,HF.out,HS.out];exact HV9.out,HB9.out⟩
def segN (b:List Int):Nat:=beV 0 (b.take 4)
def seg (b:List Int):List Int:=(b.take (4+segN b)).drop 4
theorem segN_lt {b:List Int} (h:okB b=true):segN b<4294967296:=by
  have:=beV_take_lt h 4
  exact this
theorem rInt10.calls (A:Option Addr) (c n:Nat) (b:List Int) (w:World) (hn:b.length=n) (hr:Kd.C (Kd.int .u8) w A n b) (hc:n≤c) (hok:okB b=true) (h4:4≤n) (A':Option Addr) (c' m:Nat) (hcut:∀ W:World,(Instr.slice 24 (.slice A n c) (some (.int .i64 4)) none none).run Tryz.prog W = .ok (.slice A' m c') W) :
    Calls Tryz.prog 65 #[.slice A n c,.int .i64 4] w fun e w' => e = .returned (.tuple #[.int .i64 ((segN b:Nat):Int),.slice A' m c',.bool true])∧Below w.heap.size w w':=by
  subst hn
  have h4i:¬ ((b.length:Int)<4):=by omega
  have hs32:=segN_lt hok
  have h4l:(b.take 4).length=4:=by rw [List.length_take];omega
  have GET:Aside0 (Calls Tryz.prog 97 #[.slice A 4 c] w fun e w' => e = .returned (.tuple #[.int .u64 ((segN b:Nat):Int),.bool true])∧Below w.heap.size w w'):=⟨by
    have h1:=dryrotref01_Get.calls A c (b.take 4) ((segN b:Nat):Int) true w (Kd.C_take hr (by omega)) (by omega) (by rw [dryrotref01_Get.f,crc_Get.f,if_pos (okB_sub hok (fun x hx => List.mem_of_mem_take hx)),if_pos (by omega)];rfl)
    rw [h4l] at h1
    exact h1.mono fun e w' ⟨he,hd⟩ => ⟨he,hd.below⟩⟩
  generalize segN b=N at *
  clear hr hok h4
  go_enter Tryz.func65,Tryz.ntmps65
  go_wp2_with (first | (go_at_call 97;(with_reducible refine GET.out.mono ?_);rintro e w1 ⟨rfl,hb⟩;have HB1:=Aside0.mk hb;clear hb))
  go_region
  all_goals go_wp2
  all_goals (refine bodyPost_ret (results_tmp3 rfl _ _ _) rfl ?_)
  all_goals exact ⟨rfl,below_drew HB1.out⟩
theorem cutH (A:Option Addr) (n c hi:Nat) (h2:hi≤n) (hc:n≤c) :
    ∀ j:Int,j=(hi:Int)→∀ W:World,(Instr.slice 24 (.slice A n c) none (some (.int .i64 j)) none).run Tryz.prog W = .ok (.slice A hi c) W:=by
  intro j hj W
  subst hj
  obtain ⟨i0,hi0,hsz⟩:=infoN5
  have h1:=cut_to (P:=Tryz.prog) 24 5 .i64 Tryz.underlying24 hi0 A n c (hi:Int) (by omega) (by omega) hc W
  rwa [Int.toNat_natCast] at h1
theorem flat_ok:∀ (td:List S51),(∀ p ∈ td,okP p)→okB (td.flatMap encPj)=true
  | [],_ => rfl
  | p :: td,h => by
    rw [List.flatMap_cons,(segN_pay p (h p List.mem_cons_self) (td.flatMap encPj)).1]
    exact okB_app (beL_okB _ _) (okB_app (payP_ok (h p List.mem_cons_self)).1 (flat_ok td (fun q hq => h q (List.mem_cons_of_mem _ hq))))
theorem rChunks.calls (A:Option Addr) (c n:Nat) (P:List S51) (w:World) (hok:∀ p ∈ P,okP p) (hn:(P.flatMap encPj).length=n) (hr:Kd.C (Kd.int .u8) w A n (P.flatMap encPj)) (hc:n≤c) (hlen:n≤600000000) (hP:P.length≤1000000) :
    Calls Tryz.prog 32 #[.slice A n c] w fun e w' => ∃ v:Value,e = .returned v∧Kd.N kSB 24 w' w.heap.size (fun _ => True) v (P.map payP)∧Below w.heap.size w w':=by
  subst hn
  have HOK:=Aside0.mk hok
  have HF:=Aside0.mk (Kd.C_F (Kd.heap_int .u8) hr)
  clear hok hr
  go_enter Tryz.func32,Tryz.ntmps32
  go_wp2
  go_loopg [0,3] P.length (fun kx s0 s3 wr => ∃ (dn td:List S51) (Ai:Option Addr) (ci:Nat),Aside0 (P=dn++td)∧td.length≤kx∧s0 = .slice Ai (td.flatMap encPj).length ci∧(td.flatMap encPj).length≤ci∧(td.flatMap encPj).length≤600000000∧Aside0 (Kd.F (Kd.int .u8) w (fun k => k<w.heap.size) Ai (td.flatMap encPj).length (td.flatMap encPj))∧Aside0 (Kd.N kSB 24 wr w.heap.size (fun _ => True) s3 (dn.map payP))∧Aside0 (Below w.heap.size w wr))
  case atStart => exact ⟨[],P,A,c,⟨rfl⟩,Nat.le_refl _,rfl,hc,hlen,HF,⟨Kd.N_nil _ _ _ _ _⟩,⟨Below.refl _ _⟩⟩
  case round =>
    clear hc hlen HF
    obtain ⟨dn,td,Ai,ci,HPD,hkx,rfl,hci,hlen,HF,HN,HB⟩:=hrel
    cases td with
    | nil =>
      have HN':Aside0 (Kd.N kSB 24 wr w.heap.size (fun _ => True) u3 (P.map payP)):=⟨by rw [HPD.out,List.append_nil];exact HN.out⟩
      obtain ⟨Av,cv,rfl⟩:=Kd.N_slice HN'.out
      go_wp2
      go_ret
      exact ⟨_,rfl,HN'.out,HB.out⟩
    | cons p td =>
      have hp:okP p:=HOK.out p (by rw [HPD.out];simp)
      obtain ⟨hS,hm1,hm0⟩:=segN_pay p hp (td.flatMap encPj)
      rw [show (p :: td).flatMap encPj=beL (payP p).length 4++(payP p++td.flatMap encPj) from hS] at HF hci hlen ⊢
      have hdl:dn.length+1≤1000000:=by have:=hP;rw [HPD.out] at this;simp at this;omega
      have HQ:Aside0 (okB (payP p)=true):=⟨(payP_ok hp).1⟩
      have HOKS:Aside0 (okB (beL (payP p).length 4++(payP p++td.flatMap encPj))=true):=⟨okB_app (beL_okB _ _) (okB_app HQ.out (flat_ok td (fun q hq => HOK.out q (by rw [HPD.out];exact List.mem_append_right _ (List.mem_cons_of_mem _ hq)))))⟩
      have HMP:Aside0 ((dn ++ [p]).map payP=dn.map payP ++ [payP p]):=⟨by simp⟩
      have HDL:Aside0 ((dn.map payP).length=dn.length):=⟨List.length_map ..⟩
      clear hS hp
      generalize hR:td.flatMap encPj=R at *
      generalize payP p=q at *
      have h4:(beL q.length 4).length=4:=beL_length _ _
      have hlS:(beL q.length 4++(q++R)).length=4+q.length+R.length:=by rw [List.length_append,List.length_append,h4];omega
      have hS4:(beL q.length 4++(q++R)).take 4=beL q.length 4:=List.take_left' h4
      have hSm:((beL q.length 4++(q++R)).take (4+q.length)).drop 4=q:=by
        rw [← List.append_assoc,List.take_left' (by rw [List.length_append,h4]),List.drop_left' h4]
      have hSd:(beL q.length 4++(q++R)).drop (4+q.length)=R:=by
        rw [← List.append_assoc,List.drop_left' (by rw [List.length_append,h4])]
      obtain ⟨A4,c4,r4,hr4,HCR4,hc4,_,hcut4⟩:=cutB2 Ai ci (beL q.length 4++(q++R)) 4 (by omega) hci
      have hr4':r4=q++R:=by rw [hr4.out,List.drop_left' h4]
      subst hr4'
      have hc44:=hcut4 (4:Int) rfl
      have hsg:segN (beL q.length 4++(q++R))=q.length:=by rw [segN,hS4,beV_small (by omega)]
      have hqR:(q++R).length=q.length+R.length:=List.length_append ..
      have GET:Aside0 (Calls Tryz.prog 65 #[.slice Ai (beL q.length 4++(q++R)).length ci,.int .i64 4] wr fun e w' => e = .returned (.tuple #[.int .i64 ((q.length:Nat):Int),.slice A4 (q++R).length c4,.bool true])∧Below wr.heap.size wr w'):=⟨by
        have h1:=rInt10.calls Ai ci _ (beL q.length 4++(q++R)) wr rfl (Kd.C_below (Kd.F_now HF.out) HB.out) hci HOKS.out (by omega) A4 c4 (q++R).length hc44
        rwa [hsg] at h1⟩
      obtain ⟨A',c',r,hr,HCR,hc',_,hcut⟩:=cutB2 A4 c4 (q++R) q.length (by omega) hc4
      have hrR:r=R:=by rw [hr.out,List.drop_left' rfl]
      subst hrR
      have hcut1:=hcut (q.length:Int) rfl
      have hcut3:=cutH A4 (q++r).length c4 q.length (by omega) hc4 (q.length:Int) rfl
      have HF4:=Aside0.mk (Kd.F_imp HF.out HCR4.out)
      have HFR:Aside0 (Kd.F (Kd.int .u8) w (fun k => k<w.heap.size) A' r.length r):=⟨Kd.F_imp HF4.out HCR.out⟩
      have hqc:q.length≤c4:=by omega
      have HFK:Aside0 (Kd.FK kSB wr (fun k => k<w.heap.size) q [.slice A4 q.length c4]):=⟨Kd.FK_slice_mk hqc (Kd.F_below (Kd.F_imp HF4.out (fun W hW => by
        have h1:=Kd.C_take hW (m:=q.length) (by omega)
        rw [List.take_left' rfl] at h1
        exact h1)) HB.out)⟩
      have hm2a:q.length≤(q++r).length:=by omega
      clear hqR HF4 HCR hr
      generalize (q++r).length=m2 at *
      have hsum:IntKind.i64.wrap (4+(q.length:Int))=4+(q.length:Int):=by rw [IntKind.wrap_i64];omega
      have hwq:IntKind.i64.wrap ((q.length:Nat):Int)=(q.length:Int):=by rw [IntKind.wrap_i64];omega
      have HBS:=Aside0.mk (Kd.N_base HN.out)
      have hpos:((beL q.length 4++(q++r)).length:Int) > 0:=by omega
      have h4S:4≤(beL q.length 4++(q++r)).length:=by omega
      generalize hnS:(beL q.length 4++(q++r)).length=nS at *
      have hrl:r.length≤600000000:=by omega
      clear hr4 HCR4 hcut4 hcut hSd hSm hS4 HF h4 hlS hnS
      go_wp2_with (first | (go_at_call 65;(with_reducible refine GET.out.mono ?_);rintro e w1 ⟨rfl,hb⟩;have HB1:=Aside0.mk (below_step HB.out hb);have HN1:=Aside0.mk (Kd.N_below HN.out hb);have HF1:=Aside0.mk (Kd.FK_step HFK.out (fun k hk hlt => hb.block k hlt));clear hb) | ((with_reducible refine gate_dst (N:=21) rfl ?_);go_must (refine Kd.N_append kSB (w0:=w) w.heap.size rfl (.tmp 16) (.tmp 20) 58 24 (.slice none 0 0) 24 rfl Tryz.underlying58 info_SB rfl (by decide) (by decide) u3 (dn.map payP) q _ (fun _ => True) (fun k => k<w.heap.size) rfl rfl HF1.out ?h4 ?h5 HN1.out HB1.out HB1.out.size ?h6 ?_);(case h4 => exact fun k hk => ⟨trivial,fun e => by have:=HBS.out k e.symm;omega⟩);(case h5 => exact fun _ _ => trivial);(case h6 => (rw [HDL.out];omega));intro v4 w4 hn4 hb4 hg4 hat4;have HN4:=Aside0.mk hn4;have HB4:=Aside0.mk hb4;clear hn4 hb4 hg4 hat4))
      go_roundg td.length
      case measure => simp at hkx;omega
      case rel => exact ⟨dn ++ [p],td,A',c',⟨by rw [HPD.out];simp⟩,Nat.le_refl _,by rw [hR],by rw [hR];exact hc',by rw [hR];exact hrl,by rw [hR];exact HFR,⟨by rw [HMP.out];exact HN4.out⟩,HB4⟩
theorem rencLb.calls (A:Option Addr) (c n:Nat) (l:List S68) (w:World) (hn:l.length=n) (hr:Kd.C k68 w A n l) (hc:n≤c) (hok:okLs l) (h:canL l=true) :
    Calls Tryz.prog 47 #[.slice A n c] w fun e w' => ∃ v:Value,e = .returned (.tuple #[v,.int .i64 0])∧Kd.R (Kd.int .u8) 5 w' w.heap.size (fun _ => True) v (encLb l)∧Below w.heap.size w w':=by
  subst hn
  have hp:=canL_parts h
  have HR:=Aside0.mk hr
  have HP:=Aside0.mk hp
  have HL:=Aside0.mk (encK_len h)
  have HC:Aside0 (Calls Tryz.prog 67 #[.slice A l.length c] w fun e w' => e = .returned (.bool true)∧Below w.heap.size w w'):=⟨h ▸ rcanL.calls A c l.length l w rfl hr hc hok⟩
  have hl8:=hp.2.1
  clear hr hc hp h hok
  go_enter Tryz.func47,Tryz.ntmps47
  go_wp2_with (first | (go_at_call 67;(with_reducible refine HC.out.mono ?_);rintro e w1 ⟨rfl,hb⟩;have HB1:=Aside0.mk hb;clear hb))
  have HR0:Aside0 (Kd.R (Kd.int .u8) 5 (w1.alloc (.cells #[.int .u8 (l.length:Int)] 5)) w.heap.size (fun _ => True) (.slice (some ⟨w1.heap.size,0,none⟩) 1 1) (encK l 0)):=⟨Kd.R_of_own (own_lit w1 w.heap.size 5 .u8 [(l.length:Int)] HB1.out.size (by simp)) (fun _ _ => trivial)⟩
  have HB0:=Aside0.mk (below_alloc HB1.out (.cells #[.int .u8 (l.length:Int)] 5))
  go_loopw [4,16] (fun v i wr => ∃ k:Nat,k≤l.length∧i = .int .i64 k∧Aside0 (Kd.R (Kd.int .u8) 5 wr w.heap.size (fun _ => True) v (encK l k))∧Aside0 (Below w.heap.size w wr)) (fun _ i _ => l.length - (intOf i).toNat)
  case atStart => exact ⟨0,Nat.zero_le _,rfl,HR0,HB0⟩
  case round =>
    clear HR0 HB0
    obtain ⟨k,hk,rfl,HV,HB⟩:=hrel
    by_cases hlt:k<l.length
    · obtain ⟨ad,rfl,c0,c1⟩:=at_T68 (Kd.C_below HR.out HB.out) (k:Int) (by omega) (by omega)
      rw [Int.toNat_natCast] at c0 c1
      have hsz:=okAt_sizes (HP.out.2.2 k hlt)
      have HST:=Aside0.mk (encK_step l k hlt)
      have HKL:Aside0 ((encK l k).length≤600):=⟨by have:=HL.out k hk;omega⟩
      generalize rd_T68 l (k:Int)=x at *
      obtain ⟨hz0,hz1⟩:=hsz
      have HB0:=Aside0.mk (below_alloc HB.out (.cells #[.string x.f0,.string x.f1] 68 (0,0)))
      have HBK:=Aside0.mk (blk_new wr (.cells #[.string x.f0,.string x.f1] 68 (0,0)))
      have HV0:=Aside0.mk (Kd.R_below HV.out (below_alloc (Below.refl _ _) (.cells #[.string x.f0,.string x.f1] 68 (0,0))))
      have cI1:=(blk_cell HBK.out 0).trans rfl
      have h8a:=u8w (n:=x.f0.size) (by omega)
      have h8b:=u8w (n:=x.f1.size) (by omega)
      clear HV
      go_wp2_with fail
      go_region_held3 (fun W => W.cell? ⟨wr.heap.size,0,none⟩=some (.string x.f0)) (first | exact cI1 | exact ca1 | exact cb1 | go_keep) (first | (refine byte_step2 (w0:=w) (W0:=wr.alloc (.cells #[.string x.f0,.string x.f1] 68 (0,0))) (by repeat (first | exact Below.refl _ _ | apply below_alloc | apply below_drew1)) (by rfl) (.tmp 20) (.tmp 25) 24 5 68 wr.heap.size _ (by rfl) Tryz.underlying24 infoU8 _ _ _ ((x.f0.size:Nat):Int) (by rfl) (by rfl) HV0.out HB0.out HBK.out (by decide) (have hk_:=HKL.out;by (try simp only [List.length_append,List.length_cons,List.length_nil,bytesOf_length]);omega) (by first | (go_simp;done) | simp) ?_;intro va1 wa1 hr hb hk;have HRa1:=Aside0.mk hr;have HBa1:=Aside0.mk hb;have HKa1:=Aside0.mk hk;have ca1:=(blk_cell hk 0).trans rfl;clear hr hb hk) | (refine str_step2 (w0:=w) (W0:=wa1) (by repeat (first | exact Below.refl _ _ | apply below_alloc | apply below_drew1)) (by rfl) (.tmp 26) (.tmp 28) 24 9 5 68 wr.heap.size _ (by rfl) Tryz.underlying24 Tryz.underlying9 infoU8 _ _ x.f0 (by rfl) (by rfl) HRa1.out HBa1.out HKa1.out (by decide) (have hk_:=HKL.out;by (try simp only [List.length_append,List.length_cons,List.length_nil,bytesOf_length]);omega) ?_;intro vb1 wb1 hr hb hk;have HRb1:=Aside0.mk hr;have HBb1:=Aside0.mk hb;have HKb1:=Aside0.mk hk;have cb1:=(blk_cell hk 0).trans rfl;clear hr hb hk))
      have cI2:=(blk_cell HKb1.out 1).trans rfl
      clear cI1 ca1 cb1
      go_wp2_with fail
      go_region_held3 (fun W => W.cell? ⟨wr.heap.size,1,none⟩=some (.string x.f1)) (first | exact cI2 | exact ca2 | exact cb2 | go_keep) (first | (refine byte_step2 (w0:=w) (W0:=wb1) (by repeat (first | exact Below.refl _ _ | apply below_alloc | apply below_drew1)) (by rfl) (.tmp 30) (.tmp 35) 24 5 68 wr.heap.size _ (by rfl) Tryz.underlying24 infoU8 _ _ _ ((x.f1.size:Nat):Int) (by rfl) (by rfl) HRb1.out HBb1.out HKb1.out (by decide) (have hk_:=HKL.out;by (try simp only [List.length_append,List.length_cons,List.length_nil,bytesOf_length]);omega) (by first | (go_simp;done) | simp) ?_;intro va2 wa2 hr hb hk;have HRa2:=Aside0.mk hr;have HBa2:=Aside0.mk hb;have HKa2:=Aside0.mk hk;have ca2:=(blk_cell hk 1).trans rfl;clear hr hb hk) | (refine str_step2 (w0:=w) (W0:=wa2) (by repeat (first | exact Below.refl _ _ | apply below_alloc | apply below_drew1)) (by rfl) (.tmp 36) (.tmp 38) 24 9 5 68 wr.heap.size _ (by rfl) Tryz.underlying24 Tryz.underlying9 infoU8 _ _ x.f1 (by rfl) (by rfl) HRa2.out HBa2.out HKa2.out (by decide) (have hk_:=HKL.out;by (try simp only [List.length_append,List.length_cons,List.length_nil,bytesOf_length]);omega) ?_;intro vb2 wb2 hr hb hk;have HRb2:=Aside0.mk hr;have HBb2:=Aside0.mk hb;have HKb2:=Aside0.mk hk;have cb2:=(blk_cell hk 1).trans rfl;clear hr hb hk))
      go_wp2
      go_roundw
      case rel => exact ⟨k+1,by omega,by go_num,⟨by have h_:=HRb2.out;rw [HST.out];simpa [encX,encT] using h_⟩,HBb2⟩
      case measure => simp [intOf];omega
    · obtain rfl:k=l.length:=by omega
      rw [encK_all] at HV
      go_wp2
      refine bodyPost_ret (results_tmp2 rfl _ _ _) rfl ?_
      exact ⟨_,rfl,HV.out,HB.out⟩
theorem rencLb.bad (A:Option Addr) (c n:Nat) (l:List S68) (w:World) (hn:l.length=n) (hr:Kd.C k68 w A n l) (hc:n≤c) (hok:okLs l) (h:canL l=false) :
    Calls Tryz.prog 47 #[.slice A n c] w fun e w' => e = .returned (.tuple #[.slice none 0 0,.int .i64 1])∧Below w.heap.size w w':=by
  have HC:Aside0 (Calls Tryz.prog 67 #[.slice A n c] w fun e w' => e = .returned (.bool false)∧Below w.heap.size w w'):=⟨h ▸ rcanL.calls A c n l w hn hr hc hok⟩
  clear hr hc h hn hok
  go_enter Tryz.func47,Tryz.ntmps47
  go_wp2_with (first | (go_at_call 67;(with_reducible refine HC.out.mono ?_);rintro e w1 ⟨rfl,hb⟩;have HB1:=Aside0.mk hb;clear hb))
  refine bodyPost_ret (results_tmp2 rfl _ _ _) rfl ?_
  exact ⟨rfl,HB1.out⟩
theorem rEncode.calls_in {n:Nat} (A:Option Addr) (c:Nat) (l:List S70) (w:World) (hn:l.length=n) (hr:Kd.C k70 w A l.length l) (hc:l.length≤c) (hw:∀ x ∈ l,okS x) (hlen:l.length≤20000) (h:canS l=true) :
    Calls Tryz.prog 48 #[.slice A n c] w fun e w' => ∃ v:Value,e = .returned (.tuple #[v,.int .i64 0])∧Kd.R (Kd.int .u8) 5 w' w.heap.size (fun _ => True) v (encL l)∧Below w.heap.size w w':=by
  subst hn
  exact rEncode.ok A c l w hr hc hw hlen h
theorem blk_past {w1 w2:World} {g base t:Nat} {cs:Array Value} {v:Value} {xs:List Int} (h:w1.heap[g]? = some (.cells cs t (0,0))) (hr:Kd.R (Kd.int .u8) 5 w1 base (fun _ => True) v xs) (hg:w1.grownBy w2 v.ownBlock) (ht:t ≠ 5):w2.heap[g]? = some (.cells cs t (0,0)) :=
  blk_grown h hg (fun e => by
    obtain ⟨cells,hc⟩:=Kd.R_typed hr g e.symm
    rw [h] at hc
    injection hc with hc
    injection hc with _ h2
    exact ht h2)
theorem row_apart {w wd we:World} {base:Nat} {u v:Value} {xs ys:List Int} (hu:Kd.R (Kd.int .u8) 5 wd w.heap.size (fun _ => True) u xs) (hv:Kd.R (Kd.int .u8) 5 w base (fun _ => True) v ys) (hg:wd.grownBy we v.ownBlock):Kd.R (Kd.int .u8) 5 we w.heap.size (fun _ => True) u xs :=
  Kd.R_mono (Kd.R_grown (Kd.R_bound hu) hg (fun k hk he => by
    obtain ⟨cells,hc⟩:=Kd.R_typed hv k he.symm
    have h1:=(Array.getElem?_eq_some_iff.1 hc).1
    have h2:=hk.2.1
    omega)) (fun _ _ => trivial)
theorem part_put {u e:List Int} (hu:u.length≤600) (he:e.length≤410):crc_Put.f (IntKind.u64.wrap (((u++e).length:Nat):Int)) 4=some (beL (u.length+e.length) 4):=by
  have h:=put_f (q:=(((u++e).length:Nat):Int)) (by omega) (by rw [List.length_append];omega) 4
  rw [Int.toNat_natCast] at h
  have e:(u++e).length=u.length+e.length:=List.length_append
  rw [e] at h ⊢
  exact h
theorem rencC.calls (A:Option Addr) (c n:Nat) (l:List S51) (w:World) (hn:l.length=n) (hr:Kd.C k51 w A n l) (hc:n≤c) (hok:okZ l) (hl:n≤1000000) (hM:canC l=true→(encC l).length≤500000000) (h:canC l=true) :
    Calls Tryz.prog 22 #[.slice A n c] w fun e w' => ∃ v:Value,e = .returned (.tuple #[v,.int .i64 0])∧Kd.R (Kd.int .u8) 5 w' w.heap.size (fun _ => True) v (encC l)∧Below w.heap.size w w':=by
  subst hn
  have HR:=Aside0.mk hr
  have HK:=Aside0.mk hok
  have HCAN:Aside0 (Calls Tryz.prog 35 #[.slice A l.length c] w fun e w' => e = .returned (.bool true)∧Below w.heap.size w w'):=⟨h ▸ rcanC.calls A c l.length l w rfl hr hc hok (by omega)⟩
  have HP:=Aside0.mk (canC_parts h)
  have HEC:=Aside0.mk (hM h)
  clear hr hok h hM
  go_enter Tryz.func22,Tryz.ntmps22
  go_wp2_with (first | (go_at_call 35;(with_reducible refine HCAN.out.mono ?_);rintro e w1 ⟨rfl,hb⟩;have HB1:=Aside0.mk hb;clear hb))
  have HV1:Aside0 (Kd.R (Kd.int .u8) 5 w1 w.heap.size (fun _ => True) (.slice none 0 0) (encC (l.take 0))):=⟨Kd.R_nil _ _ _ _ _⟩
  go_loopw [4,17] (fun v i wr => ∃ k:Nat,k≤l.length∧i = .int .i64 k∧Aside0 (Kd.R (Kd.int .u8) 5 wr w.heap.size (fun _ => True) v (encC (l.take k)))∧Aside0 (Below w.heap.size w wr)) (fun _ i _ => l.length - (intOf i).toNat)
  case atStart => exact ⟨0,Nat.zero_le _,rfl,HV1,HB1⟩
  case round =>
    clear HV1 HB1
    obtain ⟨k,hk,rfl,HV,HB⟩:=hrel
    by_cases hlt:k<l.length
    · obtain ⟨ad,A0,c0,A1,c1,rfl,e0,e1,l0,g0,l1,g1⟩:=at_T51 HR.out (k:Int) (by omega) (by omega)
      rw [Int.toNat_natCast] at e0 e1
      have e0:=pw_cell_below HB.out e0
      have e1:=pw_cell_below HB.out e1
      have HX:=Aside0.mk (HK.out _ (rd_memZ l k hlt))
      have HX60:=Aside0.mk (HK.out _ (rd_memZ l k hlt)).2.2.1
      have HCX:=Aside0.mk (HP.out k hlt)
      have HST:=Aside0.mk (encC_step l k hlt)
      obtain ⟨x,ex⟩:∃ x,rd_T51 l (k:Int)=x:=⟨_,rfl⟩
      have HCL:Aside0 (canL x.f0=true∧canS x.f1=true∧¬ x.f1.length=0):=⟨by
        have h1:=HCX.out
        rw [okC,ex,canX] at h1
        simp only [Bool.and_eq_true,Bool.not_eq_true',decide_eq_false_iff_not] at h1
        exact ⟨h1.1.1,h1.1.2.2,h1.1.2.1⟩⟩
      rw [ex] at e0 e1 HX g0 l0 g1 l1 HX60 HST
      have HG0:=Aside0.mk g0
      have HL0:=Aside0.mk l0
      have HL1:=Aside0.mk l1
      obtain ⟨a1,hA1,_⟩:=g1.2.2 (Nat.pos_of_ne_zero HCL.out.2.2)
      have HG1:=Aside0.mk g1
      clear ex g0 l0 g1 l1 HCX
      subst hA1
      have HOS:Aside0 (∀ s ∈ x.f1,okS s):=⟨HX.out.2.2.2⟩
      have HEL:Aside0 ((encLb x.f0).length≤600):=⟨encLb_len HCL.out.1⟩
      have HUL:Aside0 (0<(encLb x.f0).length):=⟨by simp [encLb]⟩
      have HPL:Aside0 ((encC (l.take k)).length≤500000000):=⟨Nat.le_trans (encC_mono l k) HEC.out⟩
      have CE:=Aside0.mk (fun W (hb:Below w.heap.size w W) => rencLb.calls A0 c0 _ x.f0 W rfl (Kd.C_below HG0.out hb) HL0.out HX.out.1 HCL.out.1)
      have hx0:=HX60.out
      have hc1:=HL1.out
      generalize hu:encLb x.f0=u at *
      have HSE:Aside0 (encSer x=encPs u x.f1 ((x.f1.length+19) / 20)):=⟨by rw [encSer,hu]⟩
      have HBX0:=Aside0.mk (blk_new wr (.cells #[.slice A0 x.f0.length c0,.slice (some a1) x.f1.length c1] 51 (0,0)))
      have HBA:=Aside0.mk (below_alloc HB.out (.cells #[.slice A0 x.f0.length c0,.slice (some a1) x.f1.length c1] 51 (0,0)))
      have HV2:Aside0 (Kd.R (Kd.int .u8) 5 (wr.alloc (.cells #[.slice A0 x.f0.length c0,.slice (some a1) x.f1.length c1] 51 (0,0))) w.heap.size (fun _ => True) u4 (encC (l.take k)++encPs u x.f1 0)):=⟨by have:=Kd.R_below HV.out (below_alloc (Below.refl _ _) (.cells #[.slice A0 x.f0.length c0,.slice (some a1) x.f1.length c1] 51 (0,0)));simpa [encPs] using this⟩
      clear HK HP hu
      go_wp2
      generalize wr.heap.size=g at HBX0 ⊢
      go_loopw [4,7] (fun v i wi => ∃ j:Nat,j≤(x.f1.length+19) / 20∧i = .int .i64 ((20*j:Nat):Int)∧Aside0 (Kd.R (Kd.int .u8) 5 wi w.heap.size (fun _ => True) v (encC (l.take k)++encPs u x.f1 j))∧Aside0 (Below w.heap.size w wi)∧Aside0 (wi.heap[g]? = some (.cells #[.slice A0 x.f0.length c0,.slice (some a1) x.f1.length c1] 51 (0,0)))) (fun _ i _ => x.f1.length+20 - (intOf i).toNat)
      case atStart => exact ⟨0,Nat.zero_le _,rfl,HV2,HBA,HBX0⟩
      case round =>
        clear HV HB HV2 HBA HBX0 e0 e1
        obtain ⟨j,hj,rfl,HV,HB,HBX⟩:=hrel
        have b0:=(blk_cell HBX.out 0).trans rfl
        have b1:=(blk_cell HBX.out 1).trans rfl
        by_cases hjl:20*j<x.f1.length
        · obtain ⟨m,hm⟩:∃ m,plen x.f1.length j=m:=⟨_,rfl⟩
          obtain ⟨q,hq⟩:∃ q,partS x.f1 j=q:=⟨_,rfl⟩
          have hql:q.length=m:=by rw [← hq,partS_len,hm]
          have hm20:1≤m∧m≤20∧j*20+m≤x.f1.length∧(m=20∨j*20+m=x.f1.length):=by rw [← hm];unfold plen;omega
          have HQO:Aside0 (∀ s ∈ q,okS s):=⟨fun s hs => HOS.out s (partS_mem (hq ▸ hs))⟩
          have HQC:Aside0 (canS q=true):=⟨hq ▸ canS_part HCL.out.2.1 j⟩
          have HQ:Aside0 (∀ W,Below w.heap.size w W→Kd.C k70 W (some (a1.add (j*20*2))) q.length q):=⟨fun W hb => by
            have h1:=Kd.C_mid (c:=c1) (lo:=j*20) (hi:=j*20+m) (Kd.C_below HG1.out hb) (by omega) hm20.2.2.1 HL1.out
            rw [if_neg (by omega)] at h1
            have e:(x.f1.take (j*20+m)).drop (j*20)=q:=by rw [← hq,← hm];rfl
            rw [e] at h1
            exact h1⟩
          have ENC:=Aside0.mk (fun W (hb:Below w.heap.size w W) => rEncode.calls_in (n:=m) (some (a1.add (20*j*2))) (c1 - 20*j) q W hql (by rw [Nat.mul_comm 20 j];exact HQ.out W hb) (by omega) HQO.out (by omega) HQC.out)
          have HQL:Aside0 ((encL q).length≤410∧0<(encL q).length):=⟨encL_len (by omega) HQO.out HQC.out,by rw [encL,List.length_append,beL_length];omega⟩
          have HPS:Aside0 (encC (l.take k)++encPs u x.f1 (j+1)=encC (l.take k)++encPs u x.f1 j++beL (u.length+(encL q).length) 4++(u++encL q)):=⟨by rw [encPs_step,hq,encPart];simp only [List.append_assoc]⟩
          have HLV:Aside0 ((encC (l.take k)++encPs u x.f1 j).length≤600000000):=⟨by
            rw [List.length_append]
            have h1:=HPL.out
            have h2:=encPs_len (l:=x.f1) HEL.out HOS.out HCL.out.2.1 j
            omega⟩
          obtain ⟨LB,hLB⟩:∃ LB,u++encL q=LB:=⟨_,rfl⟩
          have HLB:=Aside0.mk hLB
          have HLBL:Aside0 (LB.length≤1010∧0<LB.length):=⟨by rw [← hLB,List.length_append];have:=HEL.out;have:=HQL.out;omega⟩
          have PUT:=Aside0.mk (fun W => dryrotref01_Put.calls (IntKind.u64.wrap ((LB.length:Nat):Int)) 4 (beL (u.length+(encL q).length) 4) W (by rw [← hLB];exact part_put HEL.out HQL.out.1))
          rw [hLB] at HPS
          clear hLB
          obtain ⟨OU,hOU⟩:∃ OU,encC (l.take k)++encPs u x.f1 j=OU:=⟨_,rfl⟩
          rw [hOU] at HV HPS HLV
          have HMN:Aside0 ((min (20*(j:Int)+20) (x.f1.length:Int)).toNat - 20*j=m):=⟨by omega⟩
          go_wp2_with (first | (go_at_call 47;(with_reducible refine (CE.out _ HB.out).mono ?_);rintro e wa ⟨v5,rfl,hr5,hb⟩;obtain ⟨a5,c5,rfl⟩:=Kd.R_slice1 hr5 HUL.out;have HRa5:=Aside0.mk hr5;have HBa:=Aside0.mk hb;have HBwa:=Aside0.mk (below_step HB.out hb);have b0a:=pw_cell_below hb b0;have b1a:=pw_cell_below hb b1;clear hb hr5) | (go_at_call 48;rw [HMN.out];(with_reducible refine (ENC.out _ HBwa.out).mono ?_);rintro e wb ⟨v6,rfl,hr6,hb⟩;obtain ⟨a6,c6,rfl⟩:=Kd.R_slice1 hr6 HQL.out.2;have HRb6:=Aside0.mk hr6;have HRb5:=Aside0.mk (Kd.R_below HRa5.out hb);have HBb:=Aside0.mk (below_step HBa.out hb);clear hb hr6) | ((with_reducible refine gate_dst (N:=50) rfl ?_);go_must (refine Kd.R_append_row (Value.int .u8) 0 (h1:=fun _ => rfl) (w0:=wr) wr.heap.size rfl (.tmp 48) (.tmp 49) 24 5 (.int .u8 0) 1 rfl Tryz.underlying24 infoU8 rfl (by decide) _ u (encL q) (some a6) (encL q).length c6 (fun _ => True) rfl rfl (fun _ _ => trivial) HRb5.out (Kd.R_reads' HRb6.out).2.2 HBb.out HBb.out.size ?h6 ?_);(case h6 => (have h1:=HEL.out;have h2:=HQL.out;omega));intro v7 wc hr7 hb hg7 ho7;rw [HLB.out] at hr7;obtain ⟨a7,c7,rfl⟩:=Kd.R_slice1 hr7 HLBL.out.2;have HRc:=Aside0.mk hr7;have HBc:=Aside0.mk hb;clear hr7 hb hg7 ho7) | (go_at_call 34;(with_reducible refine (PUT.out _).mono ?_);rintro e wd ⟨v8,rfl,hr8,hb⟩;obtain ⟨a8,c8,rfl⟩:=Kd.R_slice1 hr8 (by rw [beL_length];decide);have HRd8:=Aside0.mk hr8;have HRd7:=Aside0.mk (Kd.R_below HRc.out hb);have HBd:=Aside0.mk (below_step HBc.out hb);clear hb hr8) | ((with_reducible refine gate_dst (N:=56) rfl ?_);go_must (refine Kd.R_append_row (Value.int .u8) 0 (h1:=fun _ => rfl) (w0:=w) w.heap.size rfl (.tmp 51) (.tmp 55) 24 5 (.int .u8 0) 1 rfl Tryz.underlying24 infoU8 rfl (by decide) _ OU (beL (u.length+(encL q).length) 4) (some a8) (beL (u.length+(encL q).length) 4).length c8 (fun _ => True) rfl rfl (fun _ _ => trivial) (Kd.R_below HV.out HBd.out) (Kd.R_reads' HRd8.out).2.2 (below_step HB.out HBd.out) (below_step HB.out HBd.out).size ?h6 ?_);(case h6 => (have h1:=HLV.out;rw [beL_length];omega));intro v9 we hr9 hb hg9 ho9;have HRe:=Aside0.mk hr9;have HBe:=Aside0.mk hb;have HRe7:=Aside0.mk (row_apart HRd7.out HV.out hg9);have HBXe:=Aside0.mk (blk_past (blk_below HBX.out HBd.out) (Kd.R_below HV.out HBd.out) hg9 (by decide));clear hr9 hb hg9 ho9) | ((with_reducible refine gate_dst (N:=58) rfl ?_);go_must (refine Kd.R_append_row (Value.int .u8) 0 (h1:=fun _ => rfl) (w0:=w) w.heap.size rfl (.tmp 56) (.tmp 57) 24 5 (.int .u8 0) 1 rfl Tryz.underlying24 infoU8 rfl (by decide) _ (OU++beL (u.length+(encL q).length) 4) LB (some a7) LB.length c7 (fun _ => True) rfl rfl (fun _ _ => trivial) HRe.out (Kd.R_reads' HRe7.out).2.2 HBe.out HBe.out.size ?h6 ?_);(case h6 => (have h1:=HLV.out;have h2:=HLBL.out;rw [List.length_append,beL_length];omega));intro v9 wf hr9 hb hg9 ho9;have HRf:=Aside0.mk hr9;have HBf:=Aside0.mk hb;have HBXf:=Aside0.mk (blk_past HBXe.out HRe.out hg9 (by decide));clear hr9 hb hg9 ho9))
          go_roundw
          case rel => exact ⟨j+1,by omega,by go_num,⟨by rw [HPS.out];exact HRf.out⟩,HBf,HBXf⟩
          case measure => simp [intOf];omega
        · have HE:Aside0 (encC (l.take (k+1))=encC (l.take k)++encPs u x.f1 j):=⟨by rw [HST.out,HSE.out];congr 2;omega⟩
          have hnj:¬ (((20*j:Nat):Int)<(x.f1.length:Int)):=by omega
          go_wp2
          go_roundw
          case rel => exact ⟨k+1,by omega,by go_num,⟨by rw [HE.out];exact HV.out⟩,HB⟩
          case measure => simp [intOf];omega
    · obtain rfl:k=l.length:=by omega
      rw [List.take_length] at HV
      go_wp2
      refine bodyPost_ret (results_tmp2 rfl _ _ _) rfl ?_
      exact ⟨_,rfl,HV.out,HB.out⟩
theorem rencC.bad (A:Option Addr) (c n:Nat) (l:List S51) (w:World) (hn:l.length=n) (hr:Kd.C k51 w A n l) (hc:n≤c) (hok:okZ l) (hl:n≤1000000) (h:canC l=false) :
    Calls Tryz.prog 22 #[.slice A n c] w fun e w' => e = .returned (.tuple #[.slice none 0 0,.int .i64 1])∧Below w.heap.size w w':=by
  subst hn
  have HCAN:Aside0 (Calls Tryz.prog 35 #[.slice A l.length c] w fun e w' => e = .returned (.bool false)∧Below w.heap.size w w'):=⟨h ▸ rcanC.calls A c l.length l w rfl hr hc hok (by omega)⟩
  clear hr hok h
  go_enter Tryz.func22,Tryz.ntmps22
  go_wp2_with (first | (go_at_call 35;(with_reducible refine HCAN.out.mono ?_);rintro e w1 ⟨rfl,hb⟩;have HB1:=Aside0.mk hb;clear hb))
  refine bodyPost_ret (results_tmp2 rfl _ _ _) rfl ?_
  exact ⟨rfl,HB1.out⟩
theorem rencCF.calls (A:Option Addr) (c n:Nat) (l:List S51) (eb:List Int) (ee:Int) (w:World) (hn:l.length=n) (hr:Kd.C k51 w A n l) (hc:n≤c) (hok:okZ l) (hl:n≤1000000) (hM:canC l=true→(encC l).length≤500000000) (he:encCF l=(eb,ee)) :
    Calls Tryz.prog 22 #[.slice A n c] w fun e w' => ∃ v:Value,e = .returned (.tuple #[v,.int .i64 ee])∧Kd.R (Kd.int .u8) 5 w' w.heap.size (fun _ => True) v eb∧Below w.heap.size w w':=by
  unfold encCF at he
  split at he
  · rename_i h
    cases he
    exact rencC.calls A c n l w hn hr hc hok hl hM h
  · rename_i h
    cases he
    refine (rencC.bad A c n l w hn hr hc hok hl (by simpa using h)).mono ?_
    rintro e w' ⟨rfl,hb⟩
    exact ⟨_,rfl,Kd.R_nil _ _ _ _ _,hb⟩
theorem rWriteD.calls (A:Option Addr) (c n:Nat) (l:List S51) (eb:List Int) (ee:Int) (w:World) (hn:l.length=n) (hr:Kd.C k51 w A n l) (hc:n≤c) (hok:okZ l) (hl:n≤100000) (ht:tot l≤1000000) (he:writeF l=(eb,ee)) :
    Calls Tryz.prog 10 #[.slice A n c] w fun e w' => ∃ v:Value,e = .returned (.tuple #[v,.int .i64 ee])∧Kd.R (Kd.int .u8) 5 w' w.heap.size (fun _ => True) v eb∧Below w.heap.size w w':=by
  subst hn
  have HR:=Aside0.mk hr
  have HT:=Aside0.mk ht
  have hpc:=parts_count l
  cases hcan:canC l with
  | false =>
    rw [writeF,if_neg (by rw [hcan];decide)] at he
    cases he
    have ENC:=Aside0.mk (rencCF.calls A c l.length l [] 1 w rfl hr hc hok (by omega) (fun h => by rw [hcan] at h;cases h) (by rw [encCF,if_neg (by rw [hcan];decide)]))
    clear hr hok ht
    go_enter Tryz.func10,Tryz.ntmps10
    go_wp2_with (first | (go_at_call 22;(with_reducible refine ENC.out.mono ?_);rintro e w1 ⟨v1,rfl,hr1,hb⟩;obtain ⟨A1,c1,rfl⟩:=Kd.R_slice hr1;have HB1:=Aside0.mk hb;clear hr1 hb))
    refine bodyPost_ret (results_tmp2 rfl _ _ _) rfl ?_
    exact ⟨_,rfl,Kd.R_nil _ _ _ _ _,HB1.out⟩
  | true =>
    rw [writeF,if_pos hcan] at he
    cases he
    have hP:=partsL_ok hok (canC_all hcan)
    have hPn:(partsL l).length≤150000:=by omega
    have hsh:=encPs_short hP
    have ENC:=Aside0.mk (rencCF.calls A c l.length l ((partsL l).flatMap encPj) 0 w rfl hr hc hok (by omega) (fun _ => by rw [encC_parts];omega) (by rw [encCF,if_pos hcan,encC_parts]))
    have HW:=Aside0.mk (show writeL l=frB 1 0 (beL (partsL l).length 4)++(chunkFrs 0 (partsL l)++frB 3 ((partsL l).length+1) (beL (tot l) 8)) from rfl)
    have HP:=Aside0.mk hP
    generalize partsL l=P at *
    generalize hLL:P.flatMap encPj=L at *
    have HLL:=Aside0.mk hLL
    have HWL:Aside0 (∃ W,writeL l=W):=⟨_,rfl⟩
    generalize writeL l=WL at *
    have hLn:L.length≤600000000:=by omega
    have hpu:IntKind.u64.wrap (P.length:Int)=(P.length:Int):=by simp [IntKind.wrap,IntKind.bits,IntKind.signed];omega
    have htu:IntKind.u64.wrap (tot l:Int)=(tot l:Int):=by simp [IntKind.wrap,IntKind.bits,IntKind.signed];omega
    obtain ⟨p1,hp1⟩:∃ p1,P.length+1=p1:=⟨_,rfl⟩
    have hp1i:IntKind.i64.wrap ((P.length:Int)+1)=(p1:Int):=by rw [IntKind.wrap_i64];omega
    have HP1:=Aside0.mk hp1
    obtain ⟨h0,hh0⟩:∃ h0,beL P.length 4=h0:=⟨_,rfl⟩
    have hh4:h0.length=4:=by rw [← hh0,beL_length]
    obtain ⟨F0,hF0⟩:∃ F0,frB 1 0 h0=F0:=⟨_,rfl⟩
    have hF0l:F0.length=17:=by rw [← hF0,frB_len,hh4]
    have HH4:=Aside0.mk hh4
    have HF0L:=Aside0.mk hF0l
    have PUTP:Aside0 (∀ W,Calls Tryz.prog 34 #[.int .u64 P.length,.int .i64 4] W fun e w' => ∃ v0_:Value,e = .returned v0_∧Kd.R (Kd.int .u8) 5 w' W.heap.size (fun _ => True) v0_ h0∧Below W.heap.size W w'):=⟨fun W => by rw [← hh0];exact putr_at P.length 4 (by omega) (by decide) W⟩
    have FR1:Aside0 (∀ A c W,Kd.C (Kd.int .u8) W A h0.length h0→h0.length≤c→Calls Tryz.prog 33 #[.int .i64 1,.int .i64 0,.slice A h0.length c] W fun e w' => ∃ v:Value,e = .returned v∧Kd.R (Kd.int .u8) 5 w' W.heap.size (fun _ => True) v F0∧Below W.heap.size W w'):=⟨fun A c W h1 h2 => by rw [← hF0];exact rFrame.calls 1 0 h0.length h0 A c W (by decide) (by decide) rfl h1 h2 (by omega) (by rw [← hh0];exact beL_okB _ _)⟩
    have HW':Aside0 (WL=F0++(chunkFrs 0 P++frB 3 p1 (beL (tot l) 8))):=⟨by rw [HW.out,hh0,hF0,hp1]⟩
    have hp1n:p1<4294967296:=by omega
    clear hr hok hpc hP hsh hLL HWL ht HW hh0 hh4 hF0 hF0l hp1
    go_enter Tryz.func10,Tryz.ntmps10
    go_wp2_with (first | (go_at_call 22;(with_reducible refine ENC.out.mono ?_);rintro e w1 ⟨v1,rfl,hr1,hb⟩;obtain ⟨A1,c1,rfl⟩:=Kd.R_slice hr1;have HR1:=Aside0.mk (Kd.R_reads' hr1);have HB1:=Aside0.mk hb;clear hr1 hb) | (go_at_call 32;(with_reducible refine (show Calls _ _ _ _ _ from by have h1:=rChunks.calls A1 c1 L.length P w1 HP.out (by rw [HLL.out]) (by rw [HLL.out];exact HR1.out.2.2) HR1.out.2.1 hLn (by omega);exact h1).mono ?_);rintro e w2 ⟨v2,rfl,hn2,hb⟩;obtain ⟨A2,c2,rfl,hc2,hC2⟩:=Kd.N_reads hn2;rw [List.length_map] at hc2;have HC2:=Aside0.mk hC2;have HB2:=Aside0.mk (below_step HB1.out hb);have HB20:=Aside0.mk (Below.refl w2.heap.size w2);clear hn2 hC2 hb) | (go_at_call 34;(with_reducible refine (PUTP.out _).mono ?_);rintro e w3 ⟨v3,rfl,hr3,hb⟩;obtain ⟨a3,c3,rfl⟩:=Kd.R_slice1 hr3 (by rw [HH4.out];decide);have HR3:=Aside0.mk (Kd.R_reads' hr3);have HB3:=Aside0.mk (below_step HB20.out hb);clear hr3 hb) | (go_at_call 33;(with_reducible refine (FR1.out _ _ _ HR3.out.2.2 HR3.out.2.1).mono ?_);rintro e w4 ⟨v4,rfl,hr4,hb⟩;have HR4:=Aside0.mk (Kd.R_lower hr4 HB3.out.size);have HB4:=Aside0.mk (below_step HB3.out hb);clear hr4 hb))
    have HLN:Aside0 ((P.map payP).length=P.length):=⟨List.length_map ..⟩
    have HRS:=Aside0.mk (Kd.C_below HR.out HB2.out)
    have HCL:Aside0 (∀ k,k≤P.length→(F0++chunkFrs 0 (P.take k)).length≤1000000000):=⟨fun k hk => by
      have h1:=(chunkFrs_ok (P.take k) 0 (fun p hp => HP.out p (List.mem_of_mem_take hp))).2
      rw [List.length_take] at h1
      rw [List.length_append,HF0L.out]
      omega⟩
    clear ENC HR1 HLL hLn HB1 HB3 HR3 FR1 PUTP HR
    go_loopg [7,30] P.length (fun kx s7 s30 wr => ∃ k:Nat,s30 = .int .i64 k∧k≤P.length∧P.length - k≤kx∧Aside0 (Kd.R (Kd.int .u8) 5 wr w2.heap.size (fun _ => True) s7 (F0++chunkFrs 0 (P.take k)))∧Aside0 (Below w2.heap.size w2 wr))
    case atStart => exact ⟨0,rfl,Nat.zero_le _,by omega,⟨by rw [List.take_zero,chunkFrs,List.append_nil];exact HR4.out⟩,HB4⟩
    case round =>
      clear HR4 HB4
      obtain ⟨k,rfl,hk,hkx,HRV,HB⟩:=hrel
      by_cases hlt:k<P.length
      · obtain ⟨ad,A0,c0,rfl,x0,l0,g0⟩:=at_LB (Kd.C_below HC2.out HB.out) (k:Int) (by omega) (by rw [HLN.out];omega)
        rw [Int.toNat_natCast] at x0
        have hrd:rd_LB (P.map payP) (k:Int)=payP P[k]:=by simp [rd_LB,List.getD_eq_getElem?_getD,List.getElem?_eq_getElem hlt]
        rw [hrd] at x0 l0 g0
        have hpk:=HP.out P[k] (List.getElem_mem hlt)
        have hpo:=payP_ok hpk
        obtain ⟨k1,hk1⟩:∃ k1,k+1=k1:=⟨_,rfl⟩
        obtain ⟨FK,hFK⟩:∃ FK,frB 2 k1 (payP P[k])=FK:=⟨_,rfl⟩
        have HST:Aside0 (F0++chunkFrs 0 (P.take k)++FK=F0++chunkFrs 0 (P.take k1)):=⟨by
          rw [← hFK,← hk1,List.take_succ_eq_append_getElem hlt,chunkFrs_snoc,List.append_assoc,List.length_take,Nat.min_eq_left (by omega),Nat.zero_add]⟩
        have HFL:Aside0 (0<FK.length∧FK.length≤2000):=⟨by rw [← hFK,frB_len];omega⟩
        have hk1i:IntKind.i64.wrap ((k:Int)+1)=(k1:Int):=by rw [IntKind.wrap_i64];omega
        have FRM:=fun (m:Nat) (hm:(payP P[k]).length=m) => rFrame.calls 2 k1 m (payP P[k]) A0 c0 wr (by decide) (by omega) hm (hm ▸ g0) (hm ▸ l0) (by omega) hpo.1
        rw [hFK] at FRM
        have hkz:(k:Int)<(P.length:Int):=by omega
        have hcl:=HCL.out k hk
        generalize hG:F0++chunkFrs 0 (P.take k)=G at *
        have HGL:=Aside0.mk hcl
        clear hrd hpk l0 g0 hFK hG hcl
        generalize hm:(payP P[k]).length=m at *
        have FR2:Aside0 (Calls Tryz.prog 33 #[.int .i64 2,.int .i64 k1,.slice A0 m c0] wr fun e w' => ∃ v:Value,e = .returned v∧Kd.R (Kd.int .u8) 5 w' wr.heap.size (fun _ => True) v FK∧Below wr.heap.size wr w'):=⟨FRM m rfl⟩
        have hs0:=HB.out.size
        clear FRM hpo
        go_wp2_with (first | (go_at_call 33;(with_reducible refine FR2.out.mono ?_);rintro e w6 ⟨v6,rfl,hr6,hb⟩;obtain ⟨a6,c6,rfl⟩:=Kd.R_slice1 hr6 HFL.out.1;have HR6:=Aside0.mk (Kd.R_reads' hr6);have HB6:=Aside0.mk (below_step HB.out hb);have HRV6:=Aside0.mk (Kd.R_below HRV.out hb);clear hr6 hb) | ((with_reducible refine gate_dst (N:=40) rfl ?_);go_must (refine Kd.R_append_rows (Kd.int .u8) (Rr:=(Kd.int .u8).K w6) (w0:=w2) w2.heap.size rfl (.tmp 35) (.tmp 39) 24 5 (.int .u8 0) 1 rfl Tryz.underlying24 infoU8 rfl (by decide) (by decide) (u7) G FK (some a6) FK.length c6 (fun _ => True) (fun _ => False) rfl rfl HRV6.out HR6.out.2.2 (fun _ _ h => h) (fun _ h => h.elim) (fun _ _ => trivial) HB6.out HB6.out.size ?h6 ?_);(case h6 => ((have h1_:=HFL.out;have h2_:=HGL.out;omega)));intro v7 w7 hr_ hb_ hg_ hat_;have HR7:=Aside0.mk hr_;have HB7:=Aside0.mk hb_;clear hr_ hb_ hg_ hat_))
        go_roundg (P.length - k1)
        case measure => omega
        case rel => exact ⟨k1,by go_num,by omega,Nat.le_refl _,⟨by rw [← HST.out];exact HR7.out⟩,HB7⟩
      · obtain rfl:k=P.length:=by omega
        rw [List.take_length] at HRV
        have hcl:=HCL.out P.length (Nat.le_refl _)
        rw [List.take_length] at hcl
        have HGL:=Aside0.mk hcl
        have hkz:¬ ((P.length:Int)<(P.length:Int)):=by omega
        clear hlt hk hkx hcl HCL
        go_wp2_with fail
        go_loopg [10,44] l.length (fun kx s10 s44 wq => ∃ k:Nat,s44 = .int .i64 k∧k≤l.length∧l.length - k≤kx∧s10 = .int .i64 ((tot (l.take k):Nat):Int)∧Aside0 (Below wr.heap.size wr wq))
        case atStart => exact ⟨0,rfl,Nat.zero_le _,by omega,rfl,⟨Below.refl _ _⟩⟩
        case round =>
          obtain ⟨k,rfl,hk,hkx,rfl,HBQ⟩:=hrel
          by_cases hlt:k<l.length
          · obtain ⟨ad,A0,c0,A3,c3,rfl,x0,x1,l0,g0,l3,g3⟩:=at_T51 (Kd.C_below HRS.out (below_step HB.out HBQ.out)) (k:Int) (by omega) (by omega)
            rw [Int.toNat_natCast] at x0 x1
            have hts:tot (l.take (k+1))=tot (l.take k)+(rd_T51 l (k:Int)).f1.length:=by
              rw [List.take_succ_eq_append_getElem hlt,tot_snoc,rd_getElem hlt]
            have htl:=tot_le_take l (k+1)
            have hT:=HT.out
            have hkz:(k:Int)<(l.length:Int):=by omega
            clear l0 g0 l3 g3
            generalize (rd_T51 l (k:Int)).f1.length=m1 at *
            generalize (rd_T51 l (k:Int)).f0.length=m0 at *
            generalize tot (l.take k)=tk at *
            have hw1:IntKind.i64.wrap ((tk:Int)+(m1:Int))=((tk+m1:Nat):Int):=by rw [IntKind.wrap_i64];omega
            go_wp2_with fail
            go_roundg (l.length - (k+1))
            case measure => omega
            case rel => exact ⟨k+1,by go_num,hlt,Nat.le_refl _,by rw [hts];go_num,⟨below_alloc HBQ.out _⟩⟩
          · obtain rfl:k=l.length:=by omega
            rw [List.take_length]
            have hT:=HT.out
            have PUTT:Aside0 (∀ W,Calls Tryz.prog 34 #[.int .u64 (tot l),.int .i64 8] W fun e w' => ∃ v0_:Value,e = .returned v0_∧Kd.R (Kd.int .u8) 5 w' W.heap.size (fun _ => True) v0_ (beL (tot l) 8)∧Below W.heap.size W w'):=⟨fun W => putr_at (tot l) 8 (by omega) (by decide) W⟩
            obtain ⟨t8,ht8⟩:∃ t8,beL (tot l) 8=t8:=⟨_,rfl⟩
            have ht8l:t8.length=8:=by rw [← ht8,beL_length]
            have ht8o:okB t8=true:=by rw [← ht8];exact beL_okB _ _
            rw [ht8] at PUTT HW'
            obtain ⟨F3,hF3⟩:∃ F3,frB 3 p1 t8=F3:=⟨_,rfl⟩
            have HF3L:Aside0 (F3.length=21):=⟨by rw [← hF3,frB_len,ht8l]⟩
            have FR3:Aside0 (∀ A c W,Kd.C (Kd.int .u8) W A t8.length t8→t8.length≤c→Calls Tryz.prog 33 #[.int .i64 3,.int .i64 p1,.slice A t8.length c] W fun e w' => ∃ v:Value,e = .returned v∧Kd.R (Kd.int .u8) 5 w' W.heap.size (fun _ => True) v F3∧Below W.heap.size W w'):=⟨fun A c W h1 h2 => by rw [← hF3];exact rFrame.calls 3 p1 t8.length t8 A c W (by decide) hp1n rfl h1 h2 (by omega) ht8o⟩
            have HW2:Aside0 (WL=F0++chunkFrs 0 P++F3):=⟨by rw [HW'.out,hF3,List.append_assoc]⟩
            have HT8:=Aside0.mk ht8l
            generalize F0++chunkFrs 0 P=G at *
            have HBB:=Aside0.mk (below_step HB.out HBQ.out)
            have HRG:=Aside0.mk (Kd.R_below HRV.out HBQ.out)
            clear hlt hk hkx ht8 ht8l ht8o hF3 HW'
            generalize tot l=tt at *
            go_wp2_with (first | (go_at_call 34;(with_reducible refine (PUTT.out _).mono ?_);rintro e w8 ⟨v8,rfl,hr8,hb⟩;obtain ⟨a8,c8,rfl⟩:=Kd.R_slice1 hr8 (by rw [HT8.out];decide);have HR8:=Aside0.mk (Kd.R_reads' hr8);have HB8:=Aside0.mk (below_step HBB.out hb);have HRG8:=Aside0.mk (Kd.R_below HRG.out hb);clear hr8 hb) | (go_at_call 33;(with_reducible refine (FR3.out _ _ _ HR8.out.2.2 HR8.out.2.1).mono ?_);rintro e w9 ⟨v9,rfl,hr9,hb⟩;obtain ⟨a9,c9,rfl⟩:=Kd.R_slice1 hr9 (by rw [HF3L.out];decide);have HR9:=Aside0.mk (Kd.R_reads' hr9);have HB9:=Aside0.mk (below_step HB8.out hb);have HRG9:=Aside0.mk (Kd.R_below HRG8.out hb);clear hr9 hb) | ((with_reducible refine gate_dst (N:=62) rfl ?_);go_must (refine Kd.R_append_rows (Kd.int .u8) (Rr:=(Kd.int .u8).K w9) (w0:=w2) w2.heap.size rfl (.tmp 54) (.tmp 61) 24 5 (.int .u8 0) 1 rfl Tryz.underlying24 infoU8 rfl (by decide) (by decide) (u7) G F3 (some a9) F3.length c9 (fun _ => True) (fun _ => False) rfl rfl HRG9.out HR9.out.2.2 (fun _ _ h => h) (fun _ h => h.elim) (fun _ _ => trivial) HB9.out HB9.out.size ?h6 ?_);(case h6 => ((have h1_:=HF3L.out;have h2_:=HGL.out;omega)));intro v10 w10 hr_ hb_ hg_ hat_;have HR10:=Aside0.mk hr_;have HB10:=Aside0.mk hb_;clear hr_ hb_ hg_ hat_))
            refine bodyPost_ret (results_tmp2 rfl _ _ _) rfl ?_
            exact ⟨v10,rfl,by rw [HW2.out];exact Kd.R_lower HR10.out HB2.out.size,HB2.out.trans (HB10.out.mono HB2.out.size)⟩
end Go.Proofs.YtcgbgifbajdhpaaGreatDoor.PA
