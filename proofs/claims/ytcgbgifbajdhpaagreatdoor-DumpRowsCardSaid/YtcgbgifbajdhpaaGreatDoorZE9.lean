/- Lemmas and contracts that the law DumpRows leans on (packed by a program of this session out of its texts and the print's words). -/
import Derived.Test.YtcgbgifbajdhpaaGreatDoorZE8
import Derived.Test.YtcgbgifbajdhpaaGreatDoorZE5
import Derived.Shelf.SlSortCmp.InsertionK
import Derived.Shelf.Lay
import Derived.Ground.SlsfProg
import Derived.Test.YtcgbgifbajdhpaaGreatDoorZE7
import Derived.Deep.LoopGhost
import Derived.Test.YtcgbgifbajdhpaaGreatDoorZE6
import Derived.Test.YtcgbgifbajdhpaaGreatDoorZE3
set_option linter.unusedVariables false
set_option linter.unusedSimpArgs false
set_option maxHeartbeats 8000000
set_option maxRecDepth 100000
namespace Go.Proofs.YtcgbgifbajdhpaaGreatDoor.PA
open Go.RowKit Go.Proofs.YtcgbgifbajdhpaaGreatDoor.G Go.Proofs.YtcgbgifbajdhpaaGreatDoorW.au Go.Proofs.YtcgbgifbajdhpaaGreatDoorW.aI Go.Proofs.YtcgbgifbajdhpaaGreatDoorW.aJ
def zP:Pt:=⟨0,⟨[],[]⟩⟩
def kP:Kd Pt:=Kd.OO (Kd.pair (Kd.int .i64) (Kd.pair (Kd.slice 68 iM) (Kd.slice 70 jg))) (fun x:Pt=>((x.num:Int),x.ser.f0,x.ser.f1))
theorem Ac {w:World} {x:Pt} {cs:List Value} (h:kP.K w x cs):∃ A0 c0 A1 c1,cs=[.int .i64 x.num,.slice A0 x.ser.f0.length c0,.slice A1 x.ser.f1.length c1]∧x.ser.f0.length≤c0∧iM.C w A0 x.ser.f0.length x.ser.f0∧x.ser.f1.length≤c1∧jg.C w A1 x.ser.f1.length x.ser.f1:=by
 obtain⟨_,_,rfl,rfl,⟨_,_,rfl,⟨A0,c0,rfl,l0,g0⟩,⟨A1,c1,rfl,l1,g1⟩⟩⟩:=h
 exact⟨A0,c0,A1,c1,rfl,l0,g0,l1,g1⟩
theorem Py (w:World) (x:Pt) {A0 A1:Option Addr} {c0 c1:Nat} (l0:x.ser.f0.length≤c0) (g0:iM.C w A0 x.ser.f0.length x.ser.f0) (l1:x.ser.f1.length≤c1) (g1:jg.C w A1 x.ser.f1.length x.ser.f1):kP.K w x [.int .i64 x.num,.slice A0 x.ser.f0.length c0,.slice A1 x.ser.f1.length c1]:=
 ⟨[.int .i64 x.num],_,rfl,rfl,⟨[.slice A0 x.ser.f0.length c0],_,rfl,⟨A0,c0,rfl,l0,g0⟩,⟨A1,c1,rfl,l1,g1⟩⟩⟩
theorem Oj (W:World) (ok:Nat→Prop) (x:Pt) {A0 A1:Option Addr} {c0 c1:Nat} (l0:x.ser.f0.length≤c0) (g0:Kd.F iM W ok A0 x.ser.f0.length x.ser.f0) (l1:x.ser.f1.length≤c1) (g1:Kd.F jg W ok A1 x.ser.f1.length x.ser.f1):Kd.FK kP W ok x [.int .i64 x.num,.slice A0 x.ser.f0.length c0,.slice A1 x.ser.f1.length c1]:=fun W2 hW=>Py W2 x l0 (g0 W2 hW) l1 (g1 W2 hW)
theorem Og:(Tryz.prog.info? 123).map (fun i=>(i.zero,i.size,i.bytes))=some (some (.agg #[.int .i64 0,.slice none 0 0,.slice none 0 0]),3,56):=by kernel_rfl
def CU (W:World) (p:Nat) (v:Value):Prop:=W.heap[p]? = some (.cells #[v] 120 (0,0))
def TS (p:Nat) (v:Value) (g:Nat) (q:Int) (h:Nat) (x0 x1:Value) (W:World):Prop:=W.cell? ⟨p,0,none⟩=some v∧W.cell? ⟨g,1,none⟩=some (.int .i64 q)∧W.cell? ⟨h,0,none⟩=some x0∧W.cell? ⟨h,1,none⟩=some x1
theorem take.calls (p m:Nat) (f:Fr) (v:Value) (out:List Pt) (A:Option Addr) (c base:Nat) (w0 w:World) (hm:f.pay.length=m) (hr:Kd.C (Kd.int .u8) w A m f.pay) (hc:m≤c) (hl:m≤1000) (hok:okB f.pay=true) (hT:kH w)
 (hW:CU w p v) (hv:Kd.N kP 123 w base (fun k=>p<k) v out) (hol:out.length≤1000000000) (hB:Below base w0 w) (hbase:base≤p) :
 Calls Tryz.prog 74 #[.pointer (some ⟨p,0,none⟩),.agg #[.int .i64 f.kind,.int .i64 f.num,.slice A m c]] w fun e w'=>e = .returned (.tuple #[])∧∃ v':Value,CU w' p v'∧Kd.N kP 123 w' base (fun k=>p<k) v' (out++(gV f).toList)∧Below base w0 w':=by
 have HW:=ah.mk hW
 have HV:=ah.mk hv
 have HB:=ah.mk hB
 have hpl:p<w.heap.size:=dO hW
 have HF:=ah.mk (bI w (.cells #[.int .i64 f.kind,.int .i64 f.num,.slice A m c] 80 (0,0)))
 have HBA:=ah.mk (aj (Below.refl w.heap.size w) (.cells #[.int .i64 f.kind,.int .i64 f.num,.slice A m c] 80 (0,0)))
 have hse:=fun W (hb:Below w.heap.size w W)=>series.calls f A c m W hm (Kd.aH hr hb) hc hok hl (hT.below hb)
 cases hp:gV f with
 | none=>
   have SE:ah (∀ W,Below w.heap.size w W→Calls Tryz.prog 112 #[.agg #[.int .i64 f.kind,.int .i64 f.num,.slice A m c]] W fun e w'=>∃ (A1 A2:Option Addr) (n1 c1 n2 c2:Nat),e = .returned (.tuple #[.agg #[.slice A1 n1 c1,.slice A2 n2 c2],.bool false])∧Below W.heap.size W w'):=⟨fun W hb=>(hse W hb).mono fun e w' ⟨A1,A2,n1,c1,n2,c2,ok,he,hb2,h⟩=>by
    rcases h with ⟨rfl,_⟩ | ⟨_,s,h,_⟩
    ·exact⟨A1,A2,n1,c1,n2,c2,he,hb2⟩
    ·rw[hp] at h;cases h⟩
   clear hse hr hok hT hW hv hB hp
   go_enter Tryz.func74,Tryz.ntmps74
   go_wp2_with (go_at_call 112;(with_reducible refine (SE.o _ HBA.o).mono ?_);rintro e w1 ⟨A1,A2,n1,c1,n2,c2,rfl,hb⟩;have HB1:=ah.mk (ak HBA.o hb);clear hb)
   refine bodyPost_end (results_none rfl _ _ _) rfl ?_
   have HB2:=ah.mk (aj HB1.o (.cells #[.slice A1 n1 c1,.slice A2 n2 c2] 51 (0,0)))
   exact⟨rfl,v,aG HW.o HB2.o,by rw[Option.toList_none,List.append_nil];exact Kd.iO HV.o HB2.o,HB.o.trans (HB2.o.mono (by omega))⟩
 | some q=>
   obtain⟨num,s0⟩:=q
   have hnum:num=f.num:=by
    unfold gV at hp
    split at hp
    ·obtain⟨s,_,h⟩:=Option.map_eq_some_iff.1 hp
     cases h;rfl
    ·cases hp
   subst hnum
   have SE:ah (∀ W,Below w.heap.size w W→Calls Tryz.prog 112 #[.agg #[.int .i64 f.kind,.int .i64 f.num,.slice A m c]] W fun e w'=>∃ (A1 A2:Option Addr) (c1 c2:Nat),e = .returned (.tuple #[.agg #[.slice A1 s0.f0.length c1,.slice A2 s0.f1.length c2],.bool true])∧Below W.heap.size W w'∧Kd.R iM 68 w' W.heap.size (fun _=>True) (.slice A1 s0.f0.length c1) s0.f0∧Kd.R jg 70 w' W.heap.size (fun _=>True) (.slice A2 s0.f1.length c2) s0.f1):=⟨fun W hb=>(hse W hb).mono fun e w' ⟨A1,A2,n1,c1,n2,c2,ok,he,hb2,h⟩=>by
    rcases h with ⟨_,h⟩ | ⟨rfl,s,h,_,_,h1,h2⟩
    ·rw[hp] at h;cases h
    ·rw[hp] at h;cases h
     obtain⟨_,_,e1⟩:=Kd.bD h1
     obtain⟨_,_,e2⟩:=Kd.bD h2
     cases e1;cases e2
     exact⟨A1,A2,c1,c2,he,hb2,h1,h2⟩⟩
   clear hse hr hok hT hW hv hB hp
   go_enter Tryz.func74,Tryz.ntmps74
   go_wp2_with (go_at_call 112;(with_reducible refine (SE.o _ HBA.o).mono ?_);rintro e w1 ⟨A1,A2,c1,c2,rfl,hb,h1,h2⟩;have HB1:=ah.mk (ak HBA.o hb);have HS1:=ah.mk h1;have HS2:=ah.mk h2;have HF1:=ah.mk (aG HF.o hb);have HZ1:ah (w.heap.size+1≤w1.heap.size):=⟨by have:=hb.size;rw[World.size_alloc] at this;exact this⟩;clear hb h1 h2)
   have HB2:=ah.mk (aj HB1.o (.cells #[.slice A1 s0.f0.length c1,.slice A2 s0.f1.length c2] 51 (0,0)))
   have HWp:ah (CU (w1.alloc (.cells #[.slice A1 s0.f0.length c1,.slice A2 s0.f1.length c2] 51 (0,0))) p v):=⟨aG HW.o HB2.o⟩
   have HFb:=ah.mk (aU HF1.o (.cells #[.slice A1 s0.f0.length c1,.slice A2 s0.f1.length c2] 51 (0,0)))
   have HSb:=ah.mk (bI w1 (.cells #[.slice A1 s0.f0.length c1,.slice A2 s0.f1.length c2] 51 (0,0)))
   have HR1:=ah.mk (Kd.j4 HS1.o (.cells #[.slice A1 s0.f0.length c1,.slice A2 s0.f1.length c2] 51 (0,0)))
   have HR2:=ah.mk (Kd.j4 HS2.o (.cells #[.slice A1 s0.f0.length c1,.slice A2 s0.f1.length c2] 51 (0,0)))
   have HV2:=ah.mk (Kd.iO HV.o HB2.o)
   have HBb2:=ah.mk (HB.o.trans (HB2.o.mono (show base≤w.heap.size by omega)))
   have HVL:=ah.mk (Kd.DN HV.o)
   have hs2:ah ((w1.alloc (.cells #[.slice A1 s0.f0.length c1,.slice A2 s0.f1.length c2] 51 (0,0))).heap.size=w1.heap.size+1):=⟨World.size_alloc ..⟩
   generalize w1.alloc (.cells #[.slice A1 s0.f0.length c1,.slice A2 s0.f1.length c2] 51 (0,0))=W1 at *
   have HS:ah (TS p v w.heap.size f.num w1.heap.size (.slice A1 s0.f0.length c1) (.slice A2 s0.f1.length c2) W1.drew):=⟨(av HWp.o 0).trans rfl,(av HFb.o 1).trans rfl,(av HSb.o 0).trans rfl,(av HSb.o 1).trans rfl⟩
   clear HF HF1 HB1 HS1 HS2 SE HBA
   refine iB (by kernel_rfl) (bq.start (n:=13) (S:=TS p v w.heap.size f.num w1.heap.size (.slice A1 s0.f0.length c1) (.slice A2 s0.f1.length c2)) (by decide) ?_)
   refine bq.take' (i:=0) (v:=?_) rfl rfl (by kernel_rfl) (fun _ _ _ h=>by cases h.1) (Or.inl ⟨by rfl,?_⟩) HS.o ?_
   rotate_left
   ·(intro W' hW';have c0:=hW'.1;have c1:=hW'.2.1;have c2:=hW'.2.2.1;have c3:=hW'.2.2.2;go_simp;try (with_reducible rfl))
   try simp only[List.setIfInBounds_toArray,List.set_cons_zero,List.set_cons_succ]
   refine bq.take' (i:=1) (v:=?_) rfl rfl (by kernel_rfl) (fun _ _ _ h=>by cases h.1) (Or.inl ⟨by rfl,?_⟩) HS.o ?_
   rotate_left
   ·(intro W' hW';have c0:=hW'.1;have c1:=hW'.2.1;have c2:=hW'.2.2.1;have c3:=hW'.2.2.2;go_simp;try (with_reducible rfl))
   try simp only[List.setIfInBounds_toArray,List.set_cons_zero,List.set_cons_succ]
   refine bq.take' (i:=2) (v:=?_) rfl rfl (by kernel_rfl) (fun _ _ _ h=>by cases h.1) (Or.inl ⟨by rfl,?_⟩) HS.o ?_
   rotate_left
   ·(intro W' hW';have c0:=hW'.1;have c1:=hW'.2.1;have c2:=hW'.2.2.1;have c3:=hW'.2.2.2;go_simp;try (with_reducible rfl))
   try simp only[List.setIfInBounds_toArray,List.set_cons_zero,List.set_cons_succ]
   refine bq.take' (i:=3) (v:=?_) rfl rfl (by kernel_rfl) (fun _ _ _ h=>by cases h.1) (Or.inl ⟨by rfl,?_⟩) HS.o ?_
   rotate_left
   ·(intro W' hW';have c0:=hW'.1;have c1:=hW'.2.1;have c2:=hW'.2.2.1;have c3:=hW'.2.2.2;go_simp;try (with_reducible rfl))
   try simp only[List.setIfInBounds_toArray,List.set_cons_zero,List.set_cons_succ]
   refine bq.take' (i:=4) (v:=?_) rfl rfl (by kernel_rfl) (fun _ _ _ h=>by cases h.1) (Or.inl ⟨by rfl,?_⟩) HS.o ?_
   rotate_left
   ·(intro W' hW';have c0:=hW'.1;have c1:=hW'.2.1;have c2:=hW'.2.2.1;have c3:=hW'.2.2.2;go_simp;try (with_reducible rfl))
   try simp only[List.setIfInBounds_toArray,List.set_cons_zero,List.set_cons_succ]
   refine bq.take' (i:=5) (v:=?_) rfl rfl (by kernel_rfl) (fun _ _ _ h=>by cases h.1) (Or.inl ⟨by rfl,?_⟩) HS.o ?_
   rotate_left
   ·(intro W' hW';have c0:=hW'.1;have c1:=hW'.2.1;have c2:=hW'.2.2.1;have c3:=hW'.2.2.2;go_simp;try (with_reducible rfl))
   try simp only[List.setIfInBounds_toArray,List.set_cons_zero,List.set_cons_succ]
   refine bq.take' (i:=6) (v:=?_) rfl rfl (by kernel_rfl) (fun _ _ _ h=>by cases h.1) (Or.inl ⟨by rfl,?_⟩) HS.o ?_
   rotate_left
   ·(intro W' hW';have c0:=hW'.1;have c1:=hW'.2.1;have c2:=hW'.2.2.1;have c3:=hW'.2.2.2;go_simp;try (with_reducible rfl))
   try simp only[List.setIfInBounds_toArray,List.set_cons_zero,List.set_cons_succ]
   refine bq.take' (i:=7) (v:=?_) rfl rfl (by kernel_rfl) (fun _ _ _ h=>by cases h.1) (Or.inl ⟨by rfl,?_⟩) HS.o ?_
   rotate_left
   ·(intro W' hW';have c0:=hW'.1;have c1:=hW'.2.1;have c2:=hW'.2.2.1;have c3:=hW'.2.2.2;go_simp;try (with_reducible rfl))
   try simp only[List.setIfInBounds_toArray,List.set_cons_zero,List.set_cons_succ]
   refine bq.take' (i:=8) (v:=?_) rfl rfl (by kernel_rfl) (fun _ _ _ h=>by cases h.1) (Or.inl ⟨by rfl,?_⟩) HS.o ?_
   rotate_left
   ·(intro W' hW';have c0:=hW'.1;have c1:=hW'.2.1;have c2:=hW'.2.2.1;have c3:=hW'.2.2.2;go_simp;try (with_reducible rfl))
   try simp only[List.setIfInBounds_toArray,List.set_cons_zero,List.set_cons_succ]
   refine bq.one (i:=9) rfl (by kernel_rfl) (by rfl) (fun K1 hK1=>?_)
   go_simp
   refine hK1 _ _ ⟨dh _ HS.o.1,dh _ HS.o.2.1,dh _ HS.o.2.2.1,dh _ HS.o.2.2.2⟩ ?_
   clear hK1
   refine bq.one (i:=10) rfl (by kernel_rfl) (by rfl) (fun K2 hK2=>?_)
   have HF4:=ah.mk (Kd.zm (Kd.Qa (Kd.dL (Kd.gM HR1.o) (ok':=fun k=>w.heap.size≤k∧k<W1.heap.size) (fun k hk=>⟨by have h2:=hk.2.1;rw[World.size_alloc] at h2;omega,hk.2.2.1⟩))))
   have HF5:=ah.mk (Kd.zm (Kd.Qa (Kd.dL (Kd.gM HR2.o) (ok':=fun k=>w.heap.size≤k∧k<W1.heap.size) (fun k hk=>⟨by have h2:=hk.2.1;rw[World.size_alloc] at h2;omega,hk.2.2.1⟩))))
   have HL4:=ah.mk (Kd.aX HR1.o).2.1
   have HL5:=ah.mk (Kd.aX HR2.o).2.1
   refine su (c:=Region.wanted _ _=true) (by rfl) (Kd.iF (ops := #[]) (W:=W1.drew) kP (w0:=w0) base (by rfl) (.tmp 16) (.tmp 21) 118 123 (.agg #[.int .i64 0,.slice none 0 0,.slice none 0 0]) 56 rfl Tryz.underlying118 Og rfl (by decide) (by decide) v out ⟨f.num,s0⟩ _ (fun k=>p<k) (fun k=>w.heap.size≤k∧k<W1.heap.size) rfl rfl (Oj _ _ ⟨f.num,s0⟩ HL4.o HF4.o HL5.o HF5.o) ?ap1 ?ap2 (Kd.jR HV2.o) (dG HBb2.o) ?ap3 ?ap4 ?ap5)
   case ap1=>exact fun k hk=>⟨by omega,fun e=>by have:=HVL.o k e.symm;omega⟩
   case ap2=>exact fun k hk=>by have h1:W1.heap.size≤k:=hk;have h2:=HZ1.o;have h3:=hs2.o;show p<k;omega
   case ap3=>show base≤W1.heap.size;have h2:=HZ1.o;have h3:=hs2.o;omega
   case ap4=>omega
   case ap5=>
    intro v7 w7 hn7 hb7 hg7 hat7
    obtain⟨n7,A7,c7,rfl⟩:∃ n A c,v7 = .slice A n c:=by obtain⟨A7,c7,h⟩:=Kd.mG hn7;exact⟨_,A7,c7,h⟩
    have HW7:ah (CU w7 p v):=⟨dM (show W1.drew.heap[p]? = _ from HWp.o) hg7 (fun e=>by have h1:p<p:=HV.o.1 p e.symm;omega)⟩
    have HF7:=ah.mk (dM (show W1.drew.heap[w.heap.size]? = _ from HFb.o) hg7 (fun e=>by have:=HVL.o _ e.symm;omega))
    have HS7:=ah.mk (dM (show W1.drew.heap[w1.heap.size]? = _ from HSb.o) hg7 (fun e=>by have:=HVL.o _ e.symm;have h2:=HZ1.o;omega))
    have HSS:ah (TS p v w.heap.size f.num w1.heap.size (.slice A1 s0.f0.length c1) (.slice A2 s0.f1.length c2) w7):=⟨(av HW7.o 0).trans rfl,(av HF7.o 1).trans rfl,(av HS7.o 0).trans rfl,(av HS7.o 1).trans rfl⟩
    have HN7:=ah.mk hn7
    have HB7:=ah.mk hb7
    refine hK2 _ _ HSS.o ?_
    clear hn7 hb7 hg7 hat7 hK2
    simp only[Act.put,List.setIfInBounds_toArray,List.set_cons_zero,List.set_cons_succ]
    refine bq.take' (i:=11) (v:=?_) rfl rfl (by kernel_rfl) (fun _ _ _ h=>by cases h.1) (Or.inl ⟨by rfl,?_⟩) HSS.o ?_
    rotate_left
    ·(intro W' hW';have c0:=hW'.1;have c1:=hW'.2.1;have c2:=hW'.2.2.1;have c3:=hW'.2.2.2;go_simp;try (with_reducible rfl))
    try simp only[List.setIfInBounds_toArray,List.set_cons_zero,List.set_cons_succ]
    refine bq.take' (i:=12) (v:=?_) rfl rfl (by kernel_rfl) (fun _ _ _ h=>by cases h.1) (Or.inl ⟨by rfl,?_⟩) HSS.o ?_
    rotate_left
    ·(intro W' hW';have c0:=hW'.1;have c1:=hW'.2.1;have c2:=hW'.2.2.1;have c3:=hW'.2.2.2;go_simp;try (with_reducible rfl))
    try simp only[List.setIfInBounds_toArray,List.set_cons_zero,List.set_cons_succ]
    refine bq.last rfl (by kernel_rfl) (by rfl) (fun K3 hK3=>?_)
    have b0:=HSS.o.1
    have f0:=aC HW7.o 0
    go_simp
    refine hK3 _ _ ⟨rfl,?_⟩
    clear b0 f0
    first | refine bodyPost_end (results_none rfl _ _ _) rfl ?_ | trace_state
    refine⟨rfl,_,bK HW7.o 0 _ rfl,?_,HB7.o.setCell (p:=⟨p,0,none⟩) hbase _⟩
    exact Kd.sV HN7.o (p:=⟨p,0,none⟩) (fun k hk e=>by have h1:p<k:=hk;have h2:k=p:=e;omega) _
end Go.Proofs.YtcgbgifbajdhpaaGreatDoor.PA
namespace Go.Proofs
open Go.Shelf Go.RowKit Go.Lib Go.Sort
def Tryz.Cw:Go.Shelf.Ren:=⟨fun | 20=>134 | n=>n,fun | 24=>123 | 22=>118 | 3=>3 | 25=>125 | 4=>4 | 0=>0 | n=>n,fun | n=>n⟩
theorem Tryz.Mf:Go.Proofs.SlLaysF0.n20 Tryz.prog Tryz.Cw:={
 mixed:=by kernel_rfl
 f20:=⟨Tryz.f134.name,by decide,Tryz.func134.trans (congrArg some (by kernel_rfl))⟩
 t0:=Tryz.underlying0
 a0:=Tryz.isAgg0
 z0:=Tryz.sizeOf0
 v0:=Tryz.zeroValue0
 t3:=Tryz.underlying3
 a3:=Tryz.isAgg3
 z3:=Tryz.sizeOf3
 v3:=Tryz.zeroValue3
 t4:=Tryz.underlying4
 a4:=Tryz.isAgg4
 z4:=Tryz.sizeOf4
 v4:=Tryz.zeroValue4
 t22:=Tryz.underlying118
 a22:=Tryz.isAgg118
 z22:=Tryz.sizeOf118
 v22:=Tryz.zeroValue118
 t25:=Tryz.underlying125
 a25:=Tryz.isAgg125
 z25:=Tryz.sizeOf125
 v25:=Tryz.zeroValue125 }
end Go.Proofs
namespace Go.Proofs.YtcgbgifbajdhpaaGreatDoor.PA
open Go.Shelf Go.RowKit Go.Lib Go.Sort
theorem Oi:∀ w,(isAgg 123).run Tryz.prog w = .ok true w:=fun w=>by kernel_rfl
theorem MN:∀ w,(Go.sizeOf 123).run Tryz.prog w = .ok 3 w:=fun w=>by kernel_rfl
structure EP where
 num:Int
 A0:Option Addr
 n0:Nat
 c0:Nat
 A1:Option Addr
 n1:Nat
 c1:Nat
def P8:EP:=⟨0,none,0,0,none,0,0⟩
instance:Inhabited EP:=⟨P8⟩
def jl (x:EP):List Value:=[.int .i64 x.num,.slice x.A0 x.n0 x.c0,.slice x.A1 x.n1 x.c1]
theorem JK (x:EP):(jl x).length=3:=rfl
theorem vW (x:EP):∀ v∈jl x,v.oneCell'=true:=by
 intro v hv
 simp only[jl,List.mem_cons,List.not_mem_nil,or_false] at hv
 rcases hv with rfl | rfl | rfl<;>rfl
def zK (a b:EP):Int:=xS a.num b.num
def nG (a:EP):Int:=a.num
theorem LP (x y:EP):zK x y<0↔nG x<nG y:=by
 unfold zK xS nG
 by_cases h:x.num<y.num
 ·simp[h]
 ·by_cases h2:y.num<x.num<;>simp[h,h2]
theorem Jz.calls (a b:EP) (W:World):Calls Tryz.prog 76 #[.agg (jl a).toArray,.agg (jl b).toArray] W fun e w'=>e = .returned (.int .i64 (zK a b))∧∃ q os',w'=grow (W.drewN q) os':=by
 unfold jl
 simp only[List.toArray]
 go_enter Tryz.func76,Tryz.ntmps76
 have h0:(a.num != a.num)=false:=by simp
 have h1:(b.num != b.num)=false:=by simp
 by_cases h2:a.num<b.num
 ·have d2:decide (a.num<b.num)=true:=decide_eq_true h2
  have HC:Aside (zK a b = -1):=by show zK a b = -1;unfold zK xS;rw[if_pos h2]
  clear h2
  go_wp2_with (first | go_in)
  go_ret
  exact⟨by rw[show zK a b = -1 from HC];rfl,0,_,by rw[alloc_eq_grow,alloc_eq_grow,grow_grow];rfl⟩
 ·have d2:decide (a.num<b.num)=false:=decide_eq_false h2
  by_cases h3:b.num<a.num
  ·have d3:decide (b.num<a.num)=true:=decide_eq_true h3
   have HC:Aside (zK a b=1):=by show zK a b=1;unfold zK xS;rw[if_neg h2,if_pos h3]
   clear h2 h3
   go_wp2_with (first | go_in)
   go_ret
   exact⟨by rw[show zK a b=1 from HC];rfl,0,_,by rw[alloc_eq_grow,alloc_eq_grow,grow_grow];rfl⟩
  ·have d3:decide (b.num<a.num)=false:=decide_eq_false h3
   have HC:Aside (zK a b=0):=by show zK a b=0;unfold zK xS;rw[if_neg h2,if_neg h3]
   clear h2 h3
   go_wp2_with (first | go_in)
   go_ret
   exact⟨by rw[show zK a b=0 from HC];rfl,0,_,by rw[alloc_eq_grow,alloc_eq_grow,grow_grow];rfl⟩
theorem Jz.lays (blk off size:Nat) (w:World):CmpLays Tryz.prog 76 #[] jl 3 zK blk off size w:=fun _ _ _ _ x y=>Jz.calls x y _
theorem Jz.enters:∀ args w,(callFunc 76 args).run Tryz.prog w = .ok (.enter 76 args) w:=enters_of Tryz.func76 (by kernel_rfl) rfl
theorem MU.calls (blk off cap:Nat) (d:Array EP) (w:World) (R:RowK jl 3 w blk off d) (hsz:d.size<20) :
 Calls Tryz.prog 113 #[.slice (some ⟨blk,off,none⟩) d.size cap,.int .i64 d.size,.func (.func 76) #[] #[]] w fun e w'=>e = .returned (.tuple #[])∧∃ d',SWK jl 3 w blk off d' w'∧MG nG d 0 d.size d'∧jA nG d' 0 d.size:=by
 have hlt:∀ x y,ltOf zK x y=true↔nG x<nG y:=fun x y=>by unfold ltOf;rw[decide_eq_true_iff];exact LP x y
 have INS:Calls Tryz.prog 134 #[.slice (some ⟨blk,off,none⟩) d.size cap,.int .i64 0,.int .i64 d.size,.func (.func 76) #[] #[]] w fun e w'=>e = .returned (.tuple #[])∧∃ d',SWK jl 3 w blk off d' w'∧MG nG d 0 d.size d'∧jA nG d' 0 d.size:=by
  have h:=AnyQ.insertionSortCmpFunc Tryz.Mf 3 Oi MN jl (fun _=>rfl) vW zK 76 #[] blk off cap 0 d.size d w Jz.enters (Jz.lays _ _ _ _) R.hH R.hblk (Nat.zero_le _) (by omega) (by omega)
  refine Calls.mono h ?_
  rintro e w' ⟨he,n,os,rfl⟩
  have hz:(Sort.insertionSort (ltOf zK) d 0 d.size).size=d.size:=(Aa (fun x y=>(hlt x y).1) d 0 d.size (by omega) (by omega)).1
  exact⟨he,_,(SWK.start R.hH).on R.hblk n _ os hz,Aa (fun x y=>(hlt x y).1) d 0 d.size (by omega) (by omega),FP hlt d 0 d.size (by omega) (by omega)⟩
 have IN:=YtcgbgifbajdhpaaGreatDoorW.au.ah.mk INS
 clear INS hlt R
 generalize d.size=n at *
 have hn20:¬ ((20:Int)≤(n:Int)):=by omega
 have hn21:¬ ((20:Int)<(n:Int)):=by omega
 go_enter Tryz.func113,Tryz.ntmps113
 go_wp2
 go_loopg [7,8] 0 (fun kx s7 s8 wr=>s7 = .int .i64 0∧s8 = .int .i64 20∧wr=w)
 case atStart=>exact⟨rfl,rfl,rfl⟩
 case round=>
  obtain⟨rfl,rfl,rfl⟩:=hrel
  go_wp2_with (first|(go_at_call 134;refine IN.o.mono ?_;rintro _ w1 ⟨rfl,hS⟩;have S1:=YtcgbgifbajdhpaaGreatDoorW.au.ah.mk hS;clear hS))
  go_loopg [6,7,8,9] 0 (fun kx s6 s7 s8 s9 wq=>s6 = .int .i64 20∧wq=w1)
  case atStart=>exact⟨rfl,rfl⟩
  case round=>
   obtain⟨rfl,rfl⟩:=hrel
   go_wp2
   go_end0
   exact⟨rfl,S1.o⟩
theorem PY.calls (blk off cap:Nat) (d:Array EP) (w:World) (R:RowK jl 3 w blk off d) (hsz:d.size<20) :
 Calls Tryz.prog 75 #[.slice (some ⟨blk,off,none⟩) d.size cap,.func (.func 76) #[] #[]] w fun e w'=>e = .returned (.tuple #[])∧∃ d',SWK jl 3 w blk off d' w'∧MG nG d 0 d.size d'∧jA nG d' 0 d.size:=by
 have HI:=YtcgbgifbajdhpaaGreatDoorW.au.ah.mk (MU.calls blk off cap d w R hsz)
 clear R hsz
 generalize d.size=n at *
 go_enter Tryz.func75,Tryz.ntmps75
 go_wp2_with (first|(go_at_call 113;refine HI.o.mono ?_;rintro e w' ⟨rfl,hw'⟩;have HW:=YtcgbgifbajdhpaaGreatDoorW.au.ah.mk hw';clear hw'))
 go_end0
 exact⟨rfl,HW.o⟩
end Go.Proofs.YtcgbgifbajdhpaaGreatDoor.PA
namespace Go.Proofs.YtcgbgifbajdhpaaGreatDoor.PA
open Go.RowKit Go.Lib Go.Sort
section
variable {α β:Type}
def jU (key:α→Int) (p:α):List α→List α
 | []=>[p]
 | q::l=>if key p<key q then p::q::l else q::jU key p l
def uE (key:α→Int) (l:List α):List α:=l.foldl (fun a p=>jU key p a) []
def rC (key:α→Int) (v:Int) (l:List α):List α:=l.filter (fun x=>decide (key x=v))
def Up (key:α→Int) (l:List α):Prop:=l.Pairwise (fun x y=>key x≤key y)
theorem Cv (key:α→Int) (p x:α):∀ l:List α,x∈jU key p l↔x=p∨x∈l
 | []=>by simp[jU]
 | q::l=>by
   rw[jU]
   split
   ·simp
   ·rw[List.mem_cons,Cv key p x l,List.mem_cons]
    constructor
    ·rintro (h | h | h)<;>simp[h]
    ·rintro (h | h | h)<;>simp[h]
theorem FN (key:α→Int) (p:α):∀ l:List α,Up key l→Up key (jU key p l)
 | [],_=>List.pairwise_singleton _ _
 | q::l,h=>by
   obtain⟨h1,h2⟩:=List.pairwise_cons.1 h
   rw[jU]
   split
   ·rename_i hp
    refine List.pairwise_cons.2 ⟨fun x hx=>?_,h⟩
    rcases List.mem_cons.1 hx with rfl | hx
    ·omega
    ·have:=h1 x hx;omega
   ·rename_i hp
    refine List.pairwise_cons.2 ⟨fun x hx=>?_,FN key p l h2⟩
    rcases (Cv key p x l).1 hx with rfl | hx
    ·omega
    ·exact h1 x hx
theorem Jj {key:α→Int} {v:Int} {l:List α} (h:∀ x∈l,key x≠v):rC key v l=[]:=by
 unfold rC
 rw[List.filter_eq_nil_iff]
 intro x hx
 simpa using h x hx
theorem FM (key:α→Int) (p:α) (v:Int):∀ l:List α,Up key l→rC key v (jU key p l)=rC key v l++(if key p=v then [p] else [])
 | [],_=>by
   by_cases h:key p=v<;>simp[jU,rC,h]
 | q::l,h=>by
   obtain⟨h1,h2⟩:=List.pairwise_cons.1 h
   rw[jU]
   split
   ·rename_i hp
    by_cases hv:key p=v
    ·have hn:rC key v (q::l)=[]:=Jj (fun x hx=>by
      rcases List.mem_cons.1 hx with rfl | hx
      ·omega
      ·have:=h1 x hx;omega)
     rw[hn,if_pos hv]
     show (p::q::l).filter _=_
     rw[List.filter_cons,if_pos (by simpa using hv)]
     show p::rC key v (q::l)=_
     rw[hn];rfl
    ·rw[if_neg hv,List.append_nil]
     show (p::q::l).filter _=_
     rw[List.filter_cons,if_neg (by simpa using hv)];rfl
   ·have ih:=FM key p v l h2
    show (q::jU key p l).filter _=(q::l).filter _++_
    rw[List.filter_cons,List.filter_cons]
    split
    ·rw[List.cons_append]
     exact congrArg (q::·) ih
    ·exact ih
theorem zX (key:α→Int):∀ (l a:List α),Up key a→Up key (l.foldl (fun a p=>jU key p a) a)∧∀ v,rC key v (l.foldl (fun a p=>jU key p a) a)=rC key v a++rC key v l
 | [],a,h=>⟨h,fun v=>by simp[rC]⟩
 | p::l,a,h=>by
   obtain⟨h1,h2⟩:=zX key l (jU key p a) (FN key p a h)
   refine⟨h1,fun v=>?_⟩
   rw[List.foldl_cons,h2 v,FM key p v a h,List.append_assoc]
   congr 1
   show _=(p::l).filter _
   rw[List.filter_cons]
   by_cases hv:key p=v<;>simp[hv,rC]
theorem MS (key:α→Int) (l:List α):Up key (uE key l):=(zX key l [] List.Pairwise.nil).1
theorem MR (key:α→Int) (l:List α) (v:Int):rC key v (uE key l)=rC key v l:=by
 rw[uE,(zX key l [] List.Pairwise.nil).2 v];rfl
theorem oD {key:α→Int} {x:α} {l:List α}:x∈rC key (key x) l↔x∈l:=by simp[rC]
theorem K9 (key:α→Int):∀ (a b:List α),Up key a→Up key b→(∀ v,rC key v a=rC key v b)→a=b
 | [],[],_,_,_=>rfl
 | [],y::b,_,_,h=>by
   have h1:y∈rC key (key y) (y::b):=oD.2 List.mem_cons_self
   rw[← h (key y)] at h1
   simp[rC] at h1
 | x::a,[],_,_,h=>by
   have h1:x∈rC key (key x) (x::a):=oD.2 List.mem_cons_self
   rw[h (key x)] at h1
   simp[rC] at h1
 | x::a,y::b,ha,hb,h=>by
   obtain⟨ha1,ha2⟩:=List.pairwise_cons.1 ha
   obtain⟨hb1,hb2⟩:=List.pairwise_cons.1 hb
   have hx:x∈y::b:=oD.1 (by rw[← h (key x)];exact oD.2 List.mem_cons_self)
   have hy:y∈x::a:=oD.1 (by rw[h (key y)];exact oD.2 List.mem_cons_self)
   have h1:key y≤key x:=by
    rcases List.mem_cons.1 hx with rfl | hx
    ·exact Int.le_refl _
    ·exact hb1 x hx
   have h2:key x≤key y:=by
    rcases List.mem_cons.1 hy with rfl | hy
    ·exact Int.le_refl _
    ·exact ha1 y hy
   have hk:key y=key x:=by omega
   have h3:=h (key x)
   have e1:rC key (key x) (x::a)=x::rC key (key x) a:=by
    show (x::a).filter _=_
    rw[List.filter_cons,if_pos (by simp)];rfl
   have e2:rC key (key x) (y::b)=y::rC key (key x) b:=by
    show (y::b).filter _=_
    rw[List.filter_cons,if_pos (by simp[hk])];rfl
   rw[e1,e2] at h3
   injection h3 with h4 h5
   subst h4
   rw[K9 key a b ha2 hb2 (fun v=>by
    by_cases hv:key x=v
    ·subst hv;exact h5
    ·have h6:=h v
     have e3:∀ c:List α,rC key v (x::c)=rC key v c:=fun c=>by
      show (x::c).filter _=_
      rw[List.filter_cons,if_neg (by simpa using hv)];rfl
     rwa [e3,e3] at h6)]
theorem Cu (f:β→α) (key:α→Int) (p:β):∀ l:List β,(jU (fun x=>key (f x)) p l).map f=jU key (f p) (l.map f)
 | []=>rfl
 | q::l=>by
   rw[jU,List.map_cons,jU]
   split
   ·rfl
   ·rw[List.map_cons,Cu f key p l]
theorem Du (f:β→α) (key:α→Int) (l:List β):(uE (fun x=>key (f x)) l).map f=uE key (l.map f):=by
 have:∀ (l a:List β),(l.foldl (fun a p=>jU (fun x=>key (f x)) p a) a).map f=(l.map f).foldl (fun a p=>jU key p a) (a.map f):=by
  intro l
  induction l with
  | nil=>intro a;rfl
  | cons p l ih=>intro a;rw[List.foldl_cons,ih,Cu,List.map_cons,List.foldl_cons]
 exact this l []
theorem Ct (key:α→Int) (p:α):∀ l:List α,(jU key p l).length=l.length+1
 | []=>rfl
 | q::l=>by
   rw[jU]
   split
   ·rfl
   ·rw[List.length_cons,Ct key p l,List.length_cons]
theorem Dt (key:α→Int) (l:List α):(uE key l).length=l.length:=by
 have:∀ (l a:List α),(l.foldl (fun a p=>jU key p a) a).length=a.length+l.length:=by
  intro l
  induction l with
  | nil=>intro a;rfl
  | cons p l ih=>intro a;rw[List.foldl_cons,ih,Ct,List.length_cons];omega
 have h:=this l []
 rw[List.length_nil,Nat.zero_add] at h
 exact h
end
theorem Cx (p:Pt):∀ l:List Pt,wJ p l=jU (fun q=>(q.num:Int)) p l
 | []=>rfl
 | q::l=>by
   rw[wJ,jU,Cx p l]
   by_cases h:p.num<q.num
   ·rw[if_pos h,if_pos (by omega)]
   ·rw[if_neg h,if_neg (by omega)]
theorem sQ (l:List Pt):nU l=uE (fun q=>(q.num:Int)) l:=by
 unfold nU uE
 congr 1
 funext a p
 exact Cx p a
end Go.Proofs.YtcgbgifbajdhpaaGreatDoor.PA
namespace Go.Proofs.YtcgbgifbajdhpaaGreatDoor.PA
open Go.RowKit Go.Proofs.YtcgbgifbajdhpaaGreatDoor.G Go.Proofs.YtcgbgifbajdhpaaGreatDoorW.au Go.Proofs.YtcgbgifbajdhpaaGreatDoorW.aI Go.Proofs.YtcgbgifbajdhpaaGreatDoorW.aJ
def pz (l:List EP):List Value:=l.flatMap jl
theorem wh (x:EP) (l:List EP):pz (x::l) = .int .i64 x.num :: .slice x.A0 x.n0 x.c0 :: .slice x.A1 x.n1 x.c1::pz l:=rfl
theorem rV:∀ (l:List EP),(pz l).length=l.length*3
 | []=>rfl
 | x::l=>by rw[wh,List.length_cons,List.length_cons,List.length_cons,rV l,List.length_cons];omega
theorem rU:∀ (l:List EP) (j:Nat),j<l.length*3→(pz l)[j]? = (jl (l.getD (j / 3) P8))[j % 3]?
 | [],j,h=>by simp at h
 | x::l,0,_=>rfl
 | x::l,1,_=>rfl
 | x::l,2,_=>rfl
 | x::l,j+3,h=>by
   rw[wh,List.getElem?_cons_succ,List.getElem?_cons_succ,List.getElem?_cons_succ,rU l j (by rw[List.length_cons] at h;omega),show (j+3) / 3=j / 3+1 from by omega,show (j+3) % 3=j % 3 from by omega]
   rfl
theorem GV (d:Array EP) (i:Nat):d.toList.getD i P8=d[i]! := by
 rw[List.getD_eq_getElem?_getD,getElem!_def]
 simp only[Array.getElem?_toList]
 cases d[i]? <;> rfl
theorem Ce (x:EP) (j:Nat) (h:j<3):(jl x)[j]? = some (jl x)[j]! := by
 rcases (show j=0∨j=1∨j=2 from by omega) with rfl | rfl | rfl<;>rfl
theorem xB {w W:World} {g:Nat} {d:Array EP} (h:SWK jl 3 w g 0 d W) (hg:g<w.heap.size) {cur:Array Value} (hh:w.heap[g]? = some (.cells cur 123 (0,0))) :
 w.grownBy W (some g)∧∃ cur',W.heap[g]? = some (.cells cur' 123 (0,0))∧cur'.size=cur.size:=by
 obtain⟨n,os,rfl⟩:=h
 refine⟨⟨rfl,rfl,rfl,by unfold Go.Proofs.sortWorldK Sort.putRowK Sort.grow;simp[Sort.ahead],fun k hk hne=>?_⟩,?_⟩
 ·unfold Go.Proofs.sortWorldK Sort.putRowK
  rw[Sort.heap_grow_old _ _ (by simp;exact hk)]
  show (Sort.mapBlock _ g _).heap[k]? = _
  unfold Sort.mapBlock
  simp[Array.getElem?_modify,Sort.ahead]
  intro e
  exact absurd (by rw[e]) hne
 ·unfold Go.Proofs.sortWorldK Sort.putRowK
  rw[Sort.heap_grow_old _ _ (by simp;exact hg)]
  show ∃ cur',(Sort.mapBlock _ g _).heap[g]? = _∧_
  unfold Sort.mapBlock
  have hh':(Sort.ahead w n).heap[g]? = some (.cells cur 123 (0,0)):=hh
  refine⟨_,by rw[Array.getElem?_modify,if_pos rfl,hh'];rfl,?_⟩
  simp[Sort.putCells]
theorem Il {w W:World} {base g cap m:Nat} {d:Array EP} (h:SWK jl 3 w g 0 d W) (hg:g<w.heap.size) {cur:Array Value} (hh:w.heap[g]? = some (.cells cur 123 (0,0))) (hc:cur.size=cap*3) {d0:Array EP} (R:Go.Proofs.RowK jl 3 w g 0 d0) (hs:d.size=d0.size) (hb:base≤g) (hm:m≤d.size) (hd:d.size≤cap) (hx:cap≤maxLen) :
 W.ownsRow base 123 3 (.slice (some ⟨g,0,none⟩) m cap) m (pz (fB d 0 m)):=by
 obtain⟨_,cur',h1,h2⟩:=xB h hg hh
 have hl:(fB d 0 m).length=m:=by rw[mZ,Nat.sub_zero]
 refine⟨by rw[rV,hl],.inr ⟨g,cap,cur',rfl,hb,h1,by omega,hx,by omega,?_⟩⟩
 apply List.ext_getElem?
 intro j
 by_cases hj:j<m*3
 ·have hH:=h.holds R.hblk R.hH hs
  have hc2:=(hH j (by rw[Sort.size_flatK];omega)).1
  rw[Nat.zero_add,av h1,Sort.get_flatK _ _ _ _ (by omega)] at hc2
  rw[List.getElem?_take,if_pos hj,rU _ _ (by rw[hl];exact hj),Ce _ _ (Nat.mod_lt _ (by omega))]
  have e2:(fB d 0 m).getD (j / 3) P8=d[j / 3]! := by
   rw[List.getD_eq_getElem?_getD]
   unfold fB
   simp[show j / 3<m from by omega]
  rw[e2]
  simpa using hc2
 ·rw[List.getElem?_eq_none (by rw[List.length_take];omega),List.getElem?_eq_none (by rw[rV,hl];omega)]
theorem El (l:List EP) (i:Nat):l.getD i P8=l.toArray[i]! := by rw[← GV]
theorem y7 {sz:Nat}:∀ (rows:List (List Value)) (inner:List Value),cO (fun x cs=>cs=x∧cs.length=sz∧∀ u∈cs,u.oneCell'=true) sz rows inner→inner=rows.flatten
 | [],inner,h=>by
   have h1:=h.1
   rw[List.length_nil,Nat.zero_mul] at h1
   rw[List.length_eq_zero_iff.1 h1];rfl
 | r::rs,inner,h=>by
   have h0:=(h.2 0 r rfl).1
   have hlen:=h.1
   rw[List.length_cons,Nat.add_mul,Nat.one_mul] at hlen
   have h1:=y7 (sz:=sz) rs (inner.drop sz) ⟨by rw[List.length_drop];omega,fun j p hj=>by
    have h2:=h.2 (j+1) p (by simpa using hj)
    rw[List.drop_drop,show sz+j*sz=(j+1)*sz by rw[Nat.add_mul];omega]
    exact h2⟩
   rw[Nat.zero_mul,List.drop_zero] at h0
   rw[List.flatten_cons,← h1,← h0,List.take_append_drop]
theorem yK {sz:Nat}:∀ (rows:List (List Value)),(∀ r∈rows,r.length=sz∧∀ u∈r,u.oneCell'=true)→cO (fun x cs=>cs=x∧cs.length=sz∧∀ u∈cs,u.oneCell'=true) sz rows rows.flatten
 | [],_=>⟨by simp,fun j p h=>by simp at h⟩
 | r::rs,h=>by
   have h1:=yK rs (fun x hx=>h x (List.mem_cons_of_mem _ hx))
   have h0:=h r List.mem_cons_self
   refine⟨by rw[List.flatten_cons,List.length_append,h1.1,h0.1,List.length_cons,Nat.add_mul];omega,fun j p hj=>?_⟩
   cases j with
   | zero=>
     simp only[List.getElem?_cons_zero,Option.some.injEq] at hj
     subst hj
     rw[Nat.zero_mul,List.drop_zero,List.flatten_cons,List.take_left' h0.1]
     exact⟨rfl,h0⟩
   | succ j=>
     rw[List.getElem?_cons_succ] at hj
     have h2:=h1.2 j p hj
     rw[List.flatten_cons,show (j+1)*sz=r.length+j*sz by rw[h0.1,Nat.add_mul];omega,List.drop_append,List.drop_eq_nil_of_le (by omega),List.nil_append,Nat.add_sub_cancel_left]
     exact h2
abbrev ZP (W:World) (ok:Nat→Prop):={ z:EP × Pt // z.1.num=(z.2.num:Int)∧Kd.FK kP W ok z.2 (jl z.1) }
theorem DF {W:World} {ok:Nat→Prop}:∀ (out:List Pt) (rows:List (List Value)),rows.length=out.length→(∀ (j:Nat) (x:Pt) (c:List Value),out[j]? = some x→rows[j]? = some c→Kd.FK kP W ok x c)→∃ zs:List (ZP W ok),zs.map (·.1.2)=out∧zs.map (fun z=>jl z.1.1)=rows
 | [],rows,hl,_=>⟨[],rfl,by rw[List.length_eq_zero_iff.1 hl];rfl⟩
 | x::out,[],hl,_=>by simp at hl
 | x::out,c::rows,hl,h=>by
   obtain⟨zs,h1,h2⟩:=DF out rows (by simpa using hl) (fun j y d hy hd=>h (j+1) y d (by simpa using hy) (by simpa using hd))
   have hf:=h 0 x c rfl rfl
   obtain⟨A0,c0,A1,c1,hc,_⟩:=Ac (Kd.nI hf)
   subst hc
   refine⟨⟨(⟨x.num,A0,x.ser.f0.length,c0,A1,x.ser.f1.length,c1⟩,x),rfl,hf⟩::zs,by rw[List.map_cons,h1],by rw[List.map_cons,h2];rfl⟩
theorem Oh.calls (c:Nat) (w:World):Calls Tryz.prog 134 #[.slice none 0 c,.int .i64 0,.int .i64 0,.func (.func 76) #[] #[]] w fun e w'=>e = .returned (.tuple #[])∧Below w.heap.size w w':=by
 go_enter Tryz.func134,Tryz.ntmps134
 go_wp2
 go_loopg [8] 0 (fun kx s8 wr=>s8 = .int .i64 1∧wr=w)
 case atStart=>exact⟨rfl,rfl⟩
 case round=>
  obtain⟨rfl,rfl⟩:=hrel
  go_wp2
  go_end0
  exact⟨rfl,Below.refl _ _⟩
theorem MP.calls (c:Nat) (w:World):Calls Tryz.prog 75 #[.slice none 0 c,.func (.func 76) #[] #[]] w fun e w'=>e = .returned (.tuple #[])∧Below w.heap.size w w':=by
 have ST:ah (Calls Tryz.prog 113 #[.slice none 0 c,.int .i64 0,.func (.func 76) #[] #[]] w fun e w'=>e = .returned (.tuple #[])∧Below w.heap.size w w'):=⟨by
  have IN:=ah.mk (Oh.calls c w)
  go_enter Tryz.func113,Tryz.ntmps113
  go_wp2
  go_loopg [7,8] 0 (fun kx s7 s8 wr=>s7 = .int .i64 0∧s8 = .int .i64 20∧wr=w)
  case atStart=>exact⟨rfl,rfl,rfl⟩
  case round=>
   obtain⟨rfl,rfl,rfl⟩:=hrel
   go_wp2_with (first|(go_at_call 134;refine IN.o.mono ?_;rintro _ w1 ⟨rfl,hS⟩;have S1:=ah.mk hS;clear hS))
   go_loopg [6,7,8,9] 0 (fun kx s6 s7 s8 s9 wq=>s6 = .int .i64 20∧wq=w1)
   case atStart=>exact⟨rfl,rfl⟩
   case round=>
    obtain⟨rfl,rfl⟩:=hrel
    go_wp2
    go_end0
    exact⟨rfl,S1.o⟩⟩
 go_enter Tryz.func75,Tryz.ntmps75
 go_wp2_with (first|(go_at_call 113;refine ST.o.mono ?_;rintro e w' ⟨rfl,hw'⟩;have HW:=ah.mk hw';clear hw'))
 go_end0
 exact⟨rfl,HW.o⟩
theorem MQ.calls {v:Value} {out:List Pt} {W:World} {base:Nat} {ok:Nat→Prop} (h:Kd.N kP 123 W base ok v out) (hl:out.length<20) :
 Calls Tryz.prog 75 #[v,.func (.func 76) #[] #[]] W fun e w'=>e = .returned (.tuple #[])∧Kd.N kP 123 w' base ok v (nU out)∧W.grownBy w' v.ownBlock:=by
 obtain⟨h0,rows,hrl,hR,hf⟩:=h
 obtain⟨zs,hz1,hz2⟩:=DF out rows hrl hf
 obtain⟨hR0,inner,ho,hr⟩:=hR
 have hin:inner=rows.flatten:=y7 (sz:=3) rows inner hr
 have hfl:rows.flatten=pz (zs.map (·.1.1)):=by
  rw[← hz2,pz,List.flatMap_map,List.flatMap_def]
 have hzl:zs.length=out.length:=by rw[← hz1,List.length_map]
 have hrz:rows.length=zs.length:=by rw[← hz2,List.length_map]
 rcases ho.2 with ⟨rfl,hn0⟩ | ⟨g,cap,cur,rfl,hb,hh,h1,h2,h3,h4⟩
 ·have hout:out=[]:=List.length_eq_zero_iff.1 (by omega)
  subst hout
  exact (MP.calls 0 W).mono fun e w' ⟨he,hb⟩=>⟨he,Kd.kV _ _ _ _ _,⟨hb.os,hb.tape,hb.output,hb.size,fun k hk _=>hb.block k hk⟩⟩
 ·have hqs:(zs.map (·.1.1)).toArray.size=rows.length:=by simp[hrz]
  have hg:g<W.heap.size:=dO hh
  have R:Go.Proofs.RowK jl 3 W g 0 (zs.map (·.1.1)).toArray:=by
   refine⟨JK,vW,fun j hj=>?_,hg⟩
   rw[Sort.size_flatK] at hj
   have hj':j<(zs.map (·.1.1)).length*3:=by simpa using hj
   refine⟨?_,aC hh _⟩
   rw[Nat.zero_add,av hh,Sort.get_flatK _ _ _ _ hj]
   have e1:cur[j]? = (pz (zs.map (·.1.1)))[j]? := by
    rw[← hfl,← hin,← h4,List.getElem?_take,if_pos (by rw[List.length_map] at hj';rw[hrz];exact hj')]
    simp
   rw[e1,rU _ j hj',Ce _ _ (Nat.mod_lt _ (by omega)),El _ _]
   rfl
  refine Calls.mono (by have h5:=PY.calls g 0 cap (zs.map (·.1.1)).toArray W R (by omega);rw[hqs] at h5;exact h5) ?_
  rintro e w' ⟨rfl,d',hS,hM,hT⟩
  have hds:d'.size=rows.length:=hM.1.trans hqs
  have hd:d'.toList=uE nG (zs.map (·.1.1)):=by
   refine K9 nG _ _ ?_ (MS _ _) (fun v=>?_)
   ·rw[Up,List.pairwise_iff_getElem]
    intro i j hi hj hij
    have:=hT i j (Nat.zero_le _) hij (by simp at hj;omega)
    simpa [getElem!_pos,show i<d'.size by simpa using hi,show j<d'.size by simpa using hj] using this
   ·rw[MR]
    have h6:=hM.2.2 v
    have h7:fB d' 0 rows.length=d'.toList:=by rw[← hds];exact oN d'
    have h8:fB (zs.map (·.1.1)).toArray 0 rows.length=(zs.map (·.1.1)).toArray.toList:=by rw[← hqs];exact oN _
    rw[h7,h8] at h6
    exact h6
  have hkey:(fun z:ZP W (fun k=>ok k∧some k≠(Value.slice (some ⟨g,0,none⟩) rows.length cap).ownBlock)=>nG z.1.1)=fun z=>((z.1.2.num:Nat):Int):=by funext z;exact z.2.1
  have hd2:d'.toList=(uE (fun z=>nG z.1.1) zs).map (·.1.1):=by rw[hd,Du (fun z:ZP W _=>z.1.1) nG zs]
  have ho2:nU out=(uE (fun z=>nG z.1.1) zs).map (·.1.2):=by rw[sQ,← hz1,hkey,Du (fun z:ZP W _=>z.1.2) (fun q=>(q.num:Int)) zs]
  generalize hzs:uE (fun z=>nG z.1.1) zs=zs' at hd2 ho2
  have hzl':zs'.length=rows.length:=by
   have:=congrArg List.length hd2
   rw[List.length_map] at this
   rw[← this,← hds];simp
  obtain⟨hgr,_⟩:=xB hS hg hh
  have hO:=Il hS hg hh h3 R (hM.1) hb (Nat.le_refl d'.size) (by omega) h2
  have hf':fB d' 0 d'.size=zs'.map (·.1.1):=by rw[oN,hd2]
  rw[hf',hds] at hO
  have hfl':pz (zs'.map (·.1.1))=(zs'.map (fun z=>jl z.1.1)).flatten:=by rw[pz,List.flatMap_map,List.flatMap_def]
  rw[hfl'] at hO
  have HRR:cO (fun x cs=>cs=x∧cs.length=3∧∀ (u:Value),u∈cs→u.oneCell'=true) 3 (zs'.map (fun z=>jl z.1.1)) (zs'.map (fun z=>jl z.1.1)).flatten:=yK (sz:=3) _ (fun r hr'=>by
   obtain⟨z,_,rfl⟩:=List.mem_map.1 hr'
   exact⟨rfl,vW _⟩)
  have HL':(zs'.map (fun z=>jl z.1.1)).length=rows.length:=by rw[List.length_map,hzl']
  rw[← HL'] at hO h0 ⊢
  have HRW:(Kd.raw kP.sz).R 123 w' base (fun k=>some k=(Value.slice (some ⟨g,0,none⟩) (zs'.map (fun z=>jl z.1.1)).length cap).ownBlock) (.slice (some ⟨g,0,none⟩) (zs'.map (fun z=>jl z.1.1)).length cap) (zs'.map (fun z=>jl z.1.1)):=⟨fun k hk=>hk.symm,_,hO,HRR⟩
  refine⟨rfl,⟨h0,_,by rw[ho2,List.length_map,List.length_map],HRW,fun j x c hx hc=>?_⟩,hgr⟩
  ·rw[ho2,List.getElem?_map] at hx
   rw[List.getElem?_map] at hc
   cases hzj:zs'[j]? with
   | none=>rw[hzj] at hx;cases hx
   | some z=>
     rw[hzj] at hx hc
     cases hx
     cases hc
     exact Kd.Ba z.2.2 hgr (fun k hk=>hk.2)
theorem Ol {W:World} {ok:Nat→Prop} {x:Pt} {A0 A1:Option Addr} {c0 c1:Nat} (h:Kd.FK kP W ok x [.int .i64 x.num,.slice A0 x.ser.f0.length c0,.slice A1 x.ser.f1.length c1]):Kd.FK mK W ok x.ser [.slice A0 x.ser.f0.length c0,.slice A1 x.ser.f1.length c1]:=fun W' hW=>by
 obtain⟨B0,d0,B1,d1,he,h1,h2,h3,h4⟩:=Ac (h W' hW)
 injection he with _ he
 injection he with e1 he
 injection he with e2 _
 injection e1 with e1 _ e3
 injection e2 with e2 _ e4
 subst e1 e2 e3 e4
 exact wL W' x.ser h1 h2 h3 h4
def Bc (w:World) (fs:List Fr) (W:World):Prop:=∃ v,CU W w.heap.size v∧Kd.N kP 123 W w.heap.size (fun k=>w.heap.size<k) v (fs.filterMap gV)∧Below w.heap.size w W
theorem GU (A:Option Addr) (c n:Nat) (b:List Int) (w:World) (hn:b.length=n) (hr:Kd.C (Kd.int .u8) w A n b) (hc:n≤c) (hok:okB b=true) (hlen:n≤1000000) (hT:kg w) (hZ:kH w) :
 Calls Tryz.prog 44 #[.slice A n c,.func (.func 74) #[.pointer (some ⟨w.heap.size,0,none⟩)] #[]] (w.alloc (.cells #[.slice none 0 0] 120 (0,0))) fun e w'=>e = .returned (.tuple #[])∧Bc w (iI b) w':=by
 refine MX.calls w.heap.size A c n b _ (Bc w) hn hc hok (by omega) (fun fs W ⟨v,_,_,hb⟩=>Kd.aH hr hb) (fun fs W ⟨v,_,_,hb⟩=>hT.below hb) (fun fs W W' ⟨v,h1,h2,h3⟩ hb=>⟨v,aG h1 hb,Kd.iO h2 hb,ak h3 hb⟩)
  (fun fs f W A' c' ⟨v,h1,h2,h3⟩ hl hpl hpo hC hcc=>?_) ⟨.slice none 0 0,bI _ _,Kd.kV _ _ _ _ _,aj (Below.refl _ _) _⟩
 have hll:(fs.filterMap gV).length≤1000000000:=Nat.le_trans (List.length_filterMap_le ..) (by rw[List.length_cons] at hl;omega)
 refine (take.calls w.heap.size f.pay.length f v (fs.filterMap gV) A' c' w.heap.size w W rfl hC hcc hpl hpo (hZ.below h3) h1 h2 hll h3 (Nat.le_refl _)).mono fun e w' ⟨he,v',g1,g2,g3⟩=>⟨he,v',g1,?_,g3⟩
 rw[List.filterMap_append,show [f].filterMap gV=(gV f).toList by cases h:gV f<;>simp[h]]
 exact g2
theorem found.calls (A:Option Addr) (c n:Nat) (b:List Int) (w:World) (hn:b.length=n) (hr:Kd.C (Kd.int .u8) w A n b) (hc:n≤c) (hok:okB b=true) (hlen:n≤1000000) (hT:kg w) (hZ:kH w) (hfew:(x9 b).length<20) :
 Calls Tryz.prog 37 #[.slice A n c] w fun e w'=>∃ v:Value,e = .returned v∧Kd.N mK 51 w' w.heap.size (fun k=>w.heap.size<k) v (iH b)∧Below w.heap.size w w':=by
 have TH:=ah.mk (GU A c n b w hn hr hc hok hlen hT hZ)
 have HFW:=ah.mk hfew
 obtain⟨S,hS⟩:∃ S,nU (x9 b)=S:=⟨_,rfl⟩
 have HFL:ah (iH b=S.map (·.ser)):=⟨by rw[iH,hS]⟩
 have HSS:=ah.mk hS
 clear hr hc hok hT hZ hn hfew hS
 go_enter Tryz.func37,Tryz.ntmps37
 go_wp2_with (first|(go_at_call 44;(with_reducible refine TH.o.mono ?_);rintro e w1 ⟨rfl,v1,hu,hn1,hb⟩;obtain⟨n1,A1,c1,rfl⟩:∃ n A c,v1 = .slice A n c:=(by obtain⟨A1,c1,h⟩:=Kd.mG hn1;exact⟨_,A1,c1,h⟩);have HU1:=ah.mk hu;have HN1:ah (Kd.N kP 123 w1 w.heap.size (fun k=>w.heap.size<k) (.slice A1 n1 c1) (x9 b)):=⟨hn1⟩;have HB1:=ah.mk hb;have q0:=(av hu 0).trans rfl;clear hu hn1 hb)|(go_at_call 75;(with_reducible refine (MQ.calls HN1.o HFW.o).mono ?_);rintro e w2 ⟨rfl,hn2,hg⟩;have HN2:=ah.mk hn2;have HG2:=ah.mk hg;have HU2:=ah.mk (dM HU1.o hg (fun e=>by have h1:w.heap.size<w.heap.size:=HN1.o.1 _ e.symm;omega));clear q0;have q0:=(av HU2.o 0).trans rfl;clear hn2 hg))
 rw[HSS.o] at HN2
 obtain⟨A2,c2,hv2⟩:=Kd.mG HN2.o
 cases hv2
 have HW2:ah (Below w.heap.size w w2):=⟨Below.grown HB1.o HG2.o HB1.o.size (fun k e=>Nat.le_of_lt (HN2.o.1 k e))⟩
 have hpw:w.heap.size<w2.heap.size:=dO HU2.o
 have HCF:=ah.mk (Kd.mE (Kd.P9 HN2.o))
 have HSL:ah (S.length≤1000):=⟨by
  have h1:=congrArg List.length HSS.o
  have h2:=HFW.o
  have h3:(nU (x9 b)).length=(x9 b).length:=by rw[sQ];exact Dt _ _
  omega⟩
 clear q0
 go_loopg [5,25] S.length (fun kx s5 s25 wr=>∃ (k:Nat),s25 = .int .i64 k∧k≤S.length∧S.length-k≤kx∧ah (Kd.N mK 51 wr w2.heap.size (fun k=>w.heap.size<k) s5 ((S.take k).map (·.ser)))∧ah (Below w2.heap.size w2 wr))
 case atStart=>exact⟨0,rfl,Nat.zero_le _,by omega,⟨by rw[List.take_zero];exact Kd.kV _ _ _ _ _⟩,⟨Below.refl _ _⟩⟩
 case round=>
  obtain⟨k,rfl,hk,hkx,HN,HB⟩:=hrel
  by_cases hlt:k<S.length
  ·obtain⟨ad,cs,rfl,hcl,hFK,hcc,_⟩:=Kd.IV (Kd.nY HCF.o HB.o) zP (k:Int) (by omega) (by omega)
   rw[Int.toNat_natCast] at hFK hcc
   obtain⟨A0,c0,A3,c3,rfl,_⟩:=Ac (Kd.nI hFK)
   have x0:wr.cell? (ad.add (k*3))=some (.int .i64 (S.getD k zP).num):=hcc 0 _ rfl
   have x1:wr.cell? ⟨(ad.add (k*3)).block,(ad.add (k*3)).off+1,none⟩=some (.slice A0 (S.getD k zP).ser.f0.length c0):=by rw[← gD _ _ 1 (by omega)];exact hcc 1 _ rfl
   have x2:wr.cell? ⟨(ad.add (k*3)).block,(ad.add (k*3)).off+2,none⟩=some (.slice A3 (S.getD k zP).ser.f1.length c3):=by rw[← gD _ _ 2 (by omega)];exact hcc 2 _ rfl
   have HTF:ah ((S.take (k+1)).map (·.ser)=(S.take k).map (·.ser)++[(S.getD k zP).ser]):=⟨by
    rw[List.take_add_one,List.map_append]
    simp[List.getD_eq_getElem?_getD,List.getElem?_eq_getElem hlt]⟩
   have HFK:=ah.mk (Ol hFK)
   have hkz:(k:Int)<(S.length:Int):=by omega
   have HTL:ah (((S.take k).map (·.ser)).length≤1000):=⟨by rw[List.length_map,List.length_take];have:=HSL.o;omega⟩
   have HBS:=ah.mk (Kd.zo HN.o)
   clear hcc hFK hcl
   generalize S.getD k zP=s at *
   have hs1:=HB.o.size
   have hsl8:=HSL.o
   go_wp2_with (first|((with_reducible refine bM (N:=33) rfl ?_);go_must (refine Kd.Bd mK (w0:=w2) w2.heap.size rfl (.tmp 29) (.tmp 32) 22 51 (.agg #[.slice none 0 0,.slice none 0 0]) 48 rfl Tryz.underlying22 wH rfl (by decide) (by decide) u5 _ s.ser _ (fun k=>w.heap.size<k) (fun k=>w.heap.size<k∧k<w2.heap.size) rfl (by rw[World.size_alloc];rfl) (Kd.IL HFK.o (aj (Below.refl _ _) _)) ?h4 ?h5 (Kd.iJ HN.o _) (HB.o.alloc hs1 _) ?h7 ?h6 ?_);(case h4=>exact fun k hk=>⟨hk.1,fun e=>by have:=HBS.o k e.symm;omega⟩);(case h5=>exact fun k hk=>by rw[World.size_alloc] at hk;omega);(case h6=>(have:=HTL.o;omega));(case h7=>(rw[World.size_alloc];omega));intro v4 w4 hn4 hb4 hg4 hat4;have HN4:=ah.mk hn4;have HB4:=ah.mk hb4;clear hn4 hb4 hg4 hat4))
   go_roundg (S.length-(k+1))
   case measure=>omega
   case rel=>exact⟨k+1,by go_num,hlt,Nat.le_refl _,⟨by rw[HTF.o];exact HN4.o⟩,HB4⟩
  ·obtain rfl:k=S.length:=by omega
   rw[List.take_length] at HN
   have hkz:¬ ((S.length:Int)<(S.length:Int)):=by omega
   go_wp2_with fail
   go_ret
   exact⟨_,rfl,by rw[HFL.o];exact Kd.zq HN.o (Nat.le_of_lt hpw),HW2.o.trans (HB.o.mono (Nat.le_of_lt hpw))⟩
def PD:Kd (List Int):=Kd.slice 5 (Kd.int .u8)
theorem Me:(Tryz.prog.info? 24).map (fun i=>(i.zero,i.size,i.bytes))=some (some (.slice none 0 0),1,24):=by kernel_rfl
theorem Qi (A:Option Addr) (n c lo hi:Nat) (h1:lo<hi) (h2:hi≤n) (hc:n≤c) :
 ∀ i j:Int,i=(lo:Int)→j=(hi:Int)→∀ W:World,(Instr.slice 24 (.slice A n c) (some (.int .i64 i)) (some (.int .i64 j)) (some (.int .i64 j))).run Tryz.prog W = .ok (.slice (A.map (·.add lo)) (hi-lo) (hi-lo)) W:=by
 intro i j hi' hj' W
 subst hi' hj'
 obtain⟨i0,hi0,hsz⟩:=zY
 have hu:=Tryz.underlying24
 have hel:Tryz.prog.elem 24=5:=by simp[Program.elem,hu]
 have hu':Tryz.prog.underlying 24=some (.slice (Tryz.prog.elem 24)):=by rw[hel];exact hu
 rw[run_slice_lhm W 24 A n c hu' .i64 .i64 .i64 (lo:Int) (hi:Int) (hi:Int) (by omega) (by omega) (by omega) (by omega),hel]
 simp only[sizeOf,typeInfo,Sem.run_bind,hi0,sliced,Result.andThen,hsz,Int.toNat_natCast]
 cases A<;>simp[go_sem,hi0,hsz,Nat.ne_of_gt h1]
theorem KO (p:cB) (h:FX p) (R:List Int):jf p++R=dR (iV p).length 4++(iV p++R)∧(iV p).length≤1000∧0<(iV p).length:=by
 refine⟨?_,(qP h).2,?_⟩
 ·rw[jf,jK,iV,List.length_append]
  simp only[List.append_assoc]
 ·rw[iV,List.length_append,iQ]
  simp only[List.length_cons]
  omega
theorem split.calls (A:Option Addr) (c n:Nat) (P:List cB) (w:World) (hok:∀ p∈P,FX p) (hn:(P.flatMap jf).length=n) (hr:Kd.C (Kd.int .u8) w A n (P.flatMap jf)) (hc:n≤c) (hlen:n≤600000000) (hP:P.length≤1000000) :
 Calls Tryz.prog 29 #[.slice A n c] w fun e w'=>∃ v:Value,e = .returned v∧Kd.N PD 24 w' w.heap.size (fun _=>True) v (P.map iV)∧Below w.heap.size w w':=by
 subst hn
 have HOK:=ah.mk hok
 have HF:=ah.mk (Kd.Qu (Kd.wD .u8) hr)
 clear hok hr
 go_enter Tryz.func29,Tryz.ntmps29
 go_wp2
 go_loopg [0,3] P.length (fun kx s0 s3 wr=>∃ (dn td:List cB) (Ai:Option Addr) (ci:Nat),ah (P=dn++td)∧td.length≤kx∧s0 = .slice Ai (td.flatMap jf).length ci∧(td.flatMap jf).length≤ci∧(td.flatMap jf).length≤600000000∧ah (Kd.F (Kd.int .u8) w (fun k=>k<w.heap.size) Ai (td.flatMap jf).length (td.flatMap jf))∧ah (Kd.N PD 24 wr w.heap.size (fun _=>True) s3 (dn.map iV))∧ah (Below w.heap.size w wr))
 case atStart=>exact⟨[],P,A,c,⟨rfl⟩,Nat.le_refl _,rfl,hc,hlen,HF,⟨Kd.kV _ _ _ _ _⟩,⟨Below.refl _ _⟩⟩
 case round=>
  clear hc hlen HF
  obtain⟨dn,td,Ai,ci,HPD,hkx,rfl,hci,hlen,HF,HN,HB⟩:=hrel
  cases td with
  | nil=>
    have HN':ah (Kd.N PD 24 wr w.heap.size (fun _=>True) u3 (P.map iV)):=⟨by rw[HPD.o,List.append_nil];exact HN.o⟩
    obtain⟨Av,cv,rfl⟩:=Kd.mG HN'.o
    go_wp2
    go_ret
    exact⟨_,rfl,HN'.o,HB.o⟩
  | cons p td=>
    have hp:FX p:=HOK.o p (by rw[HPD.o];simp)
    obtain⟨hS,hm1,hm0⟩:=KO p hp (td.flatMap jf)
    rw[show (p::td).flatMap jf=dR (iV p).length 4++(iV p++td.flatMap jf) from hS] at HF hci hlen ⊢
    have hdl:dn.length+1≤1000000:=by have:=hP;rw[HPD.o] at this;simp at this;omega
    have HQ:ah (okB (iV p)=true):=⟨(qP hp).1⟩
    have HMP:ah ((dn++[p]).map iV=dn.map iV++[iV p]):=⟨by simp⟩
    have HDL:ah ((dn.map iV).length=dn.length):=⟨List.length_map ..⟩
    clear hS hp
    generalize hR:td.flatMap jf=R at *
    generalize iV p=q at *
    have h4:(dR q.length 4).length=4:=bJ _ _
    have hlS:(dR q.length 4++(q++R)).length=4+q.length+R.length:=by rw[List.length_append,List.length_append,h4];omega
    have hS4:(dR q.length 4++(q++R)).take 4=dR q.length 4:=List.take_left' h4
    have hSm:((dR q.length 4++(q++R)).take (4+q.length)).drop 4=q:=by
     rw[← List.append_assoc,List.take_left' (by rw[List.length_append,h4]),List.drop_left' h4]
    have hSd:(dR q.length 4++(q++R)).drop (4+q.length)=R:=by
     rw[← List.append_assoc,List.drop_left' (by rw[List.length_append,h4])]
    have GET:ah (Calls Tryz.prog 63 #[.slice Ai 4 ci] wr fun e w'=>e = .returned (.tuple #[.int .u64 ((q.length:Nat):Int),.bool true])∧Below wr.heap.size wr w'):=⟨by
     have hC:=Kd.aH (Kd.vv HF.o) HB.o
     have h1:=iP.calls Ai ci (dR q.length 4) ((q.length:Nat):Int) true wr (by have h2:=Kd.rE hC (m:=4) (by omega);rwa [hS4] at h2) (by omega) (by rw[iP.f,if_pos (jI _ _),if_pos (by omega),om (by omega)])
     rw[h4] at h1
     exact h1.mono fun e w' ⟨he,hd⟩=>⟨he,hd.below⟩⟩
    obtain⟨A',c',r,hr,HCR,hc',_,hcut⟩:=JB Ai ci (dR q.length 4++(q++R)) (4+q.length) (by omega) hci
    have hrR:r=R:=by rw[hr.o,hSd]
    subst hrR
    have hcut1:=hcut ((4:Int)+(q.length:Int)) (by omega)
    have hcut3:=Qi Ai (dR q.length 4++(q++r)).length ci 4 (4+q.length) (by omega) (by omega) hci 4 ((4:Int)+(q.length:Int)) rfl (by omega)
    rw[Nat.add_sub_cancel_left] at hcut3
    have HFR:ah (Kd.F (Kd.int .u8) w (fun k=>k<w.heap.size) A' r.length r):=⟨Kd.Bb HF.o HCR.o⟩
    have HFK:ah (Kd.FK PD wr (fun k=>k<w.heap.size) q [.slice (Ai.map (·.add 4)) q.length q.length]):=⟨Kd.nJ (Nat.le_refl _) (Kd.nY (Kd.Bb HF.o (fun W hW=>by
     have h1:=Kd.Fj (c:=ci) (lo:=4) (hi:=4+q.length) hW (by omega) (by omega) hci
     rw[if_neg (by omega),hSm] at h1
     exact h1)) HB.o)⟩
    have hsum:IntKind.i64.wrap (4+(q.length:Int))=4+(q.length:Int):=by rw[IntKind.wrap_i64];omega
    have hwq:IntKind.i64.wrap ((q.length:Nat):Int)=(q.length:Int):=by rw[IntKind.wrap_i64];omega
    have HBS:=ah.mk (Kd.zo HN.o)
    have hpos:((dR q.length 4++(q++r)).length:Int)>0:=by omega
    have h4S:4≤(dR q.length 4++(q++r)).length:=by omega
    generalize hnS:(dR q.length 4++(q++r)).length=nS at *
    have hrl:r.length≤600000000:=by omega
    clear hr HCR hcut hSd hSm hS4 HF h4 hlS hnS
    go_wp2_with (first|(go_at_call 63;(with_reducible refine GET.o.mono ?_);rintro e w1 ⟨rfl,hb⟩;have HB1:=ah.mk (ak HB.o hb);have HN1:=ah.mk (Kd.iO HN.o hb);have HF1:=ah.mk (Kd.qw HFK.o (fun k hk hlt=>hb.block k hlt));clear hb)|((with_reducible refine bM (N:=25) rfl ?_);go_must (refine Kd.Bd PD (w0:=w) w.heap.size rfl (.tmp 19) (.tmp 24) 58 24 (.slice none 0 0) 24 rfl Tryz.underlying58 Me rfl (by decide) (by decide) u3 (dn.map iV) q _ (fun _=>True) (fun k=>k<w.heap.size) rfl rfl HF1.o ?h4 ?h5 HN1.o HB1.o HB1.o.size ?h6 ?_);(case h4=>exact fun k hk=>⟨trivial,fun e=>by have:=HBS.o k e.symm;omega⟩);(case h5=>exact fun _ _=>trivial);(case h6=>(rw[HDL.o];omega));intro v4 w4 hn4 hb4 hg4 hat4;have HN4:=ah.mk hn4;have HB4:=ah.mk hb4;clear hn4 hb4 hg4 hat4))
    go_roundg td.length
    case measure=>simp at hkx;omega
    case rel=>exact⟨dn++[p],td,A',c',⟨by rw[HPD.o];simp⟩,Nat.le_refl _,by rw[hR],by rw[hR];exact hc',by rw[hR];exact hrl,by rw[hR];exact HFR,⟨by rw[HMP.o];exact HN4.o⟩,HB4⟩
attribute [local go_sem] Oper.semAt_some
theorem NW.calls (A1:Option Addr) (n1 c1:Nat) (W:World) :
 Calls Tryz.prog 60 #[.slice A1 n1 c1,.int .i64 20] W fun e w'=>e = .returned (.func (.func 90) #[] #[.pointer (some ⟨W.heap.size,0,none⟩),.pointer (some ⟨W.heap.size+1,0,none⟩)])∧w'=(W.alloc (.cells #[.slice A1 n1 c1] 49)).alloc (.cells #[.int .i64 20] 3):=by
 go_enter Tryz.func60,Tryz.ntmps60
 go_wp2
 go_ret
 exact⟨rfl,rfl⟩
theorem jq.calls (A:Option Addr) (c n:Nat) (l:List cB) (w:World) (hn:l.length=n) (hr:Kd.C mK w A n l) (hc:n≤c) (hok:Hq l) (hl:n≤1000000) (hM:gQ l=true→(jq l).length≤500000000) (hT:kH w) (h:gQ l=true) :
 Calls Tryz.prog 28 #[.slice A n c] w fun e w'=>∃ v:Value,e = .returned (.tuple #[v,.int .i64 0])∧Kd.R (Kd.int .u8) 5 w' w.heap.size (fun _=>True) v (jq l)∧Below w.heap.size w w':=by
 subst hn
 have HR:=ah.mk hr
 have HK:=ah.mk hok
 have HT:=ah.mk hT
 have HCAN:ah (Calls Tryz.prog 53 #[.slice A l.length c] w fun e w'=>e = .returned (.bool true)∧Below w.heap.size w w'):=⟨h ▸ gQ.calls A c l.length l w rfl hr hc hok (by omega)⟩
 have HP:=ah.mk (vL h)
 have HEC:=ah.mk (hM h)
 clear hr hok hT h hM
 refine (callsIn_wide (n:=5)).1 (callsIn_of_wp_marks Tryz.func28 rfl trivial ?_ rfl)
 simp only[Tryz.ntmps28,List.size_toArray,List.length_cons,List.length_nil,Nat.reduceAdd,Nat.reduceSub,Array.replicate_succ,Array.replicate_zero,List.push_toArray,List.append_toArray,List.nil_append,List.cons_append]
 refine wpIn_wide.2 ?_
 go_wp2_with (first|(go_at_call 53;(with_reducible refine HCAN.o.mono ?_);rintro e w1 ⟨rfl,hb⟩;have HB1:=ah.mk hb;clear hb))
 have HB0:=ah.mk (aj HB1.o (.cells #[.slice none 0 0] 24))
 have HO0:(w1.alloc (.cells #[.slice none 0 0] 24)).heap[w1.heap.size]? = some (.cells #[.slice none 0 0] 24 (0,0)):=World.alloc_heap_new _ _
 have HV0:ah (Kd.R (Kd.int .u8) 5 (w1.alloc (.cells #[.slice none 0 0] 24)) w.heap.size (fun _=>True) (.slice none 0 0) (jq (l.take 0))):=⟨Kd.fP _ _ _ _ _⟩
 refine wp_loop_ghost_k (fun gk a wr=>∃ (k:Nat) (Ds:List Nat) (u6 u7 u8 u18 u19 u20 u21 u22 u23 u24 u25 u26 u27 u28 u29 u48:Value),(k+gk=l.length∧Ds.Nodup∧(∀ D∈Ds,w1.heap.size<D∧wr.heap[D]? = some (.deferred (some [])))∧ah (Below w.heap.size w wr)∧∃ v:Value,wr.heap[w1.heap.size]? = some (.cells #[v] 24 (0,0))∧ah (Kd.R (Kd.int .u8) 5 wr w.heap.size (fun _=>True) v (jq (l.take k))))∧a={ tmps := #[.slice A l.length c,undef,.slice none 0 0,.int .i64 0,.pointer (some ⟨w1.heap.size,0,none⟩),undef,u6,u7,u8,undef,undef,undef,.slice A l.length c,.bool true,.bool false,.slice A l.length c,.int .i64 (l.length:Int),.int .i64 (k:Int),u18,u19,u20,u21,u22,u23,u24,u25,u26,u27,u28,u29,undef,undef,undef,undef,undef,undef,undef,undef,undef,undef,undef,undef,undef,undef,undef,undef,undef,undef,u48,undef],defers:=Ds.map Ns }) l.length ?start ?round
 case start=>exact⟨0,[],_,_,_,_,_,_,_,_,_,_,_,_,_,_,_,_,⟨Nat.zero_add _,List.nodup_nil,(fun D h=>by cases h),HB0,_,HO0,HV0⟩,rfl⟩
 case round=>
  clear HB0 HO0 HV0
  rintro gk a wr ⟨k,Ds,u6,u7,u8,u18,u19,u20,u21,u22,u23,u24,u25,u26,u27,u28,u29,u48,⟨hk,hnd,hD,HB,v,hO,HV⟩,rfl⟩ J K hJ hK
  dsimp only
  by_cases hlt:k<l.length
  ·obtain⟨ad,A0,c0,A1,c1,rfl,e0,e1,l0,g0,l1,g1⟩:=iR HR.o (k:Int) (by omega) (by omega)
   rw[Int.toNat_natCast] at e0 e1
   have e0:=aV HB.o e0
   have e1:=aV HB.o e1
   have HX:=ah.mk (HK.o _ (mV l k hlt))
   have HX60:=ah.mk (HK.o _ (mV l k hlt)).2.2.1
   have HCX:=ah.mk (HP.o k hlt)
   obtain⟨x,ex⟩:∃ x,aK l (k:Int)=x:=⟨_,rfl⟩
   have EX:=ah.mk ex
   rw[ex] at e0 e1 HX g0 l0 g1 l1 HX60
   have G0:=ah.mk g0
   have L0:=ah.mk l0
   have G1:=ah.mk g1
   have L1:=ah.mk l1
   obtain⟨a1,hA1,_⟩:=g1.2.2 (Nat.pos_of_ne_zero (by
    have h1:=HCX.o
    rw[AU,ex,pV] at h1
    simp only[Bool.and_eq_true,Bool.not_eq_true',decide_eq_false_iff_not] at h1
    exact h1.1.2.1))
   clear ex g0 l0 g1 l1
   subst hA1
   have HCL:ah (dV x.f0=true∧iT x.f1=true∧¬ x.f1.length=0):=⟨by
    have h1:=HCX.o
    rw[AU,EX.o,pV] at h1
    simp only[Bool.and_eq_true,Bool.not_eq_true',decide_eq_false_iff_not] at h1
    exact⟨h1.1.1,h1.1.2.2,h1.1.2.1⟩⟩
   have HBW:=ah.mk (aj (Below.refl wr.heap.size wr) (.cells #[.slice A0 x.f0.length c0,.slice (some a1) x.f1.length c1] 51 (0,0)))
   have HBK:=ah.mk (bI wr (.cells #[.slice A0 x.f0.length c0,.slice (some a1) x.f1.length c1] 51 (0,0)))
   have CE:=ah.mk (fun W (hb:Below wr.heap.size wr W)=>iQ.calls A0 c0 _ x.f0 W rfl (Kd.aH G0.o (ak HB.o hb)) L0.o HCL.o.1)
   go_wp2_with (first|(go_at_call 59;(with_reducible refine (CE.o _ HBW.o).mono ?_);rintro e w2 ⟨v5,rfl,hr5,hb⟩;obtain⟨a5,c5,rfl⟩:=Kd.gN hr5 (by simp[iQ]);have HR5:=ah.mk hr5;have HB2:=ah.mk (ak HBW.o hb);have HBK2:=ah.mk (aG HBK.o hb);have b1:=dh (.cells #[.slice (some a5) (iQ x.f0).length c5] 24) ((av HBK2.o 1).trans rfl);clear hb hr5)|(go_at_call 60;(with_reducible refine (NW.calls (some a1) _ c1 _).mono ?_);rintro e w3 ⟨rfl,rfl⟩))
   obtain⟨W0,hW0⟩:∃ W0,(((w2.alloc (.cells #[.slice (some a5) (iQ x.f0).length c5] 24)).alloc (.cells #[.slice (some a1) x.f1.length c1] 49)).alloc (.cells #[.int .i64 20] 3))=W0:=⟨_,rfl⟩
   have hs0:W0.heap.size=w2.heap.size+3:=by rw[← hW0];simp
   have H2W:ah (Below w2.heap.size w2 W0):=⟨by rw[← hW0];exact aj (aj (aj (Below.refl _ _) _) _) _⟩
   have HU:ah (W0.heap[w2.heap.size]? = some (.cells #[.slice (some a5) (iQ x.f0).length c5] 24 (0,0))):=⟨by
    rw[← hW0];exact ((Below.heap_alloc _ _ _ (by simp;omega)).trans (Below.heap_alloc _ _ _ (by simp))).trans (World.alloc_heap_new w2 _)⟩
   have HX1:ah (W0.cell? ⟨w2.heap.size+1,0,none⟩=some (.slice (some a1) x.f1.length c1)):=⟨by
    have h0:W0.heap[w2.heap.size+1]? = some (.cells #[.slice (some a1) x.f1.length c1] 49 (0,0)):=by
     rw[← hW0]
     refine (Below.heap_alloc _ _ _ (by simp)).trans ?_
     have:=World.alloc_heap_new (w2.alloc (.cells #[.slice (some a5) (iQ x.f0).length c5] 24)) (.cells #[.slice (some a1) x.f1.length c1] 49)
     rwa [World.size_alloc] at this
    exact (cell_of_row W0 _ 0 _ _ _ h0).trans rfl⟩
   have HX2:ah (W0.cell? ⟨w2.heap.size+1+1,0,none⟩=some (.int .i64 20)):=⟨by
    have h0:W0.heap[w2.heap.size+1+1]? = some (.cells #[.int .i64 20] 3 (0,0)):=by
     rw[← hW0]
     have:=World.alloc_heap_new ((w2.alloc (.cells #[.slice (some a5) (iQ x.f0).length c5] 24)).alloc (.cells #[.slice (some a1) x.f1.length c1] 49)) (.cells #[.int .i64 20] 3)
     rwa [World.size_alloc,World.size_alloc] at this
    exact (cell_of_row W0 _ 0 _ _ _ h0).trans rfl⟩
   rw[hW0]
   have HrW:=ah.mk (ak HB2.o H2W.o)
   have hsz:w1.heap.size<wr.heap.size:=(Array.getElem?_eq_some_iff.1 hO).1
   have hszr:wr.heap.size≤w2.heap.size:=HB2.o.size
   have hszw:w.heap.size≤w1.heap.size:=HB1.o.size
   have hO0:W0.heap[w1.heap.size]? = some (.cells #[v] 24 (0,0)):=(HrW.o.block _ hsz).trans hO
   have HV0:=ah.mk (Kd.bR HV.o HrW.o)
   have HR50:=ah.mk (Kd.gM (Kd.dW (Kd.bR HR5.o H2W.o) (base':=wr.heap.size) (by simp)))
   have HBT:=ah.mk (ak HB.o HrW.o)
   have hD0:∀ D∈Ds,w1.heap.size<D∧D<W0.heap.size∧W0.heap[D]? = some (.deferred (some [])):=fun D h=>by
    have h1:=hD D h
    have h2:=(Array.getElem?_eq_some_iff.1 h1.2).1
    exact⟨h1.1,by have:=HrW.o.size;omega,(HrW.o.block D h2).trans h1.2⟩
   have HEL:ah ((iQ x.f0).length≤600):=⟨rQ HCL.o.1⟩
   have HPL:ah ((jq (l.take k)).length≤500000000):=⟨Nat.le_trans (GL l k) HEC.o⟩
   have HOS:ah (∀ s∈x.f1,sD s):=⟨HX.o.2.2.2⟩
   have hn3:(x.f1.length+19) / 20≤50001:=by have:=HX60.o;omega
   have hTW:=ah.mk (HT.o.below HBT.o)
   clear hW0 HBK HBK2 b1 e0 e1 G0 L0 HBW CE hO hD
   generalize hu:iQ x.f0=u at *
   refine wpIn_wide.1 (wpIn_rangeFunc_ownF (F:=Fence.wide) (n:=5) rfl (by decide) (gf:=90) (lb := #[.pointer (some ⟨w2.heap.size+1,0,none⟩),.pointer (some ⟨w2.heap.size+1+1,0,none⟩)]) rfl trivial (enters_of Tryz.func90 (by kernel_rfl) rfl)
    (xR 4 (by decide) (w2.heap.size+1) (w2.heap.size+1+1) a1 x.f1.length c1 (by have:=HX60.o;omega) L1.o W0 (by omega) (by omega) HX1.o HX2.o) iC.trans (FU (by omega) (by omega)) (Below.refl _ _) (fun _=>rfl)
    (fun pre W=>(∃ vo,W.heap[w1.heap.size]? = some (.cells #[vo] 24 (0,0))∧Kd.R (Kd.int .u8) 5 W w.heap.size (fun _=>True) vo (jq (l.take k)++ni u x.f1 (iZ pre)))∧But w1.heap.size W0.heap.size W0 W)
    (fun _ _ _=>False) ?own (fun _ _ _ _ _ hs _ _=>hs) ?first _ (fun lp y W K hK=>by dsimp only[Cc];gi_wp2;exact hK) ?body ?done ?stop)
   case own=>
    rintro s W W' row ⟨⟨vo,ho,hv⟩,hb⟩ hg hr
    refine⟨⟨vo,?_,I8 hv hg (fun r e=>(hr r e).2)⟩,hb.grown hg (Nat.le_refl _) (fun r e=>(hr r e).1)⟩
    refine (hg.block _ (Array.getElem?_eq_some_iff.1 ho).1 (fun e=>?_)).trans ho
    have:=(hr _ e.symm).1
    omega
   case first=>exact⟨⟨v,hO0,by have:=HV0.o;simpa [ni,iZ] using this⟩,But.refl _ _ _⟩
   case stop=>exact fun _ _ _ _ _ _ h=>h.elim
   case done=>
    rintro D ys W hDs hys ⟨⟨vo,ho,hv⟩,hbut⟩ hDn
    have HBn:ah (Below w.heap.size w W):=⟨HBT.o.trans (hbut.below (by omega) (by omega))⟩
    have HVn:ah (Kd.R (Kd.int .u8) 5 W w.heap.size (fun _=>True) vo (jq (l.take (k+1)))):=⟨by
     rw[GN l k hlt,EX.o]
     have e:ni u x.f1 (iZ ys)=vX x:=by rw[hys,vX,hu];rfl
     rwa [e] at hv⟩
    have HDn:ah ((D::Ds).Nodup∧∀ D'∈D::Ds,w1.heap.size<D'∧W.heap[D']? = some (.deferred (some []))):=⟨by
     refine⟨List.nodup_cons.2 ⟨fun h=>by have:=hD0 D h;omega,hnd⟩,fun D' h=>?_⟩
     rcases List.mem_cons.1 h with rfl | h
     ·exact⟨by omega,hDn⟩
     ·exact⟨(hD0 D' h).1,(hbut.block D' (hD0 D' h).2.1 (by have:=(hD0 D' h).1;omega)).trans (hD0 D' h).2.2⟩⟩
    clear hbut hv hDn hys hD0
    go_wp2
    have hkl:Value.int .i64 ((k:Int)+1) = .int .i64 ((k+1:Nat):Int):=by congr 1
    rw[hkl]
    exact Handed.intro (gk-1) (by omega) (hJ _ _ _ ⟨k+1,D::Ds,_,_,_,_,_,_,_,_,_,_,_,_,_,_,_,_,⟨by omega,HDn.o.1,HDn.o.2,HBn,vo,ho,HVn⟩,rfl⟩)
   case body=>
    rintro lp pre ⟨j,hj⟩ W ⟨⟨vo,ho,hv⟩,hbut⟩ hlen
    dsimp only
    have hbw:Below w.heap.size w W:=HBT.o.trans (hbut.below (by omega) (by omega))
    obtain⟨q,hq⟩:∃ q,jX x.f1 j=q:=⟨_,rfl⟩
    obtain⟨m,hm⟩:∃ m,nH x.f1.length j=m:=⟨_,rfl⟩
    have hql:q.length=m:=by rw[← hq,oJ,hm]
    have hm20:1≤m∧m≤20∧j*20+m≤x.f1.length:=by rw[← hm];unfold nH;omega
    have HQO:ah (∀ s∈q,sD s):=⟨fun s hs=>HOS.o s (sG (hq ▸ hs))⟩
    have HQC:ah (iT q=true):=⟨hq ▸ rG HCL.o.2.1 j⟩
    have HQ:ah (Kd.C jg W (some (a1.add (j*20*2))) q.length q):=⟨by
     have h1:=Kd.Fj (c:=c1) (lo:=j*20) (hi:=j*20+m) (Kd.aH G1.o hbw) (by omega) hm20.2.2 L1.o
     rw[if_neg (by have:=L1.o;omega)] at h1
     have e:(x.f1.take (j*20+m)).drop (j*20)=q:=by rw[← hq,← hm];rfl
     rw[e] at h1
     exact h1⟩
    have ENC:=ah.mk (dP.bS (n:=m) (some (a1.add (j*20*2))) m q W (gH q) 0 hql HQ.o (Nat.le_refl _) HQO.o (by omega) (HT.o.below hbw) (by rw[nE,if_pos HQC.o]))
    have HQL:ah ((gH q).length≤410∧0<(gH q).length):=⟨vU (by omega) HQO.o HQC.o,by rw[gH,List.length_append,bJ];omega⟩
    rw[hm]
    refine wpIn_block (wpIn_seq ?_)
    gi_wp2_with (first|(refine⟨trivial,?_⟩;gi_at_call 61;(refine (CallsIn.inRound lp (callsIn_wide.2 ENC.o)).mono ?_);rintro e wa ⟨v1,rfl,hr1,hb1⟩;obtain⟨a6,c6,rfl⟩:=Kd.gN hr1 HQL.o.2;have HRa:=ah.mk hr1;have HBa:=ah.mk hb1;clear hr1 hb1))
    obtain⟨LV,hLV⟩:∃ LV,jq (l.take k)++ni u x.f1 (iZ pre)=LV:=⟨_,rfl⟩
    rw[hLV] at hv
    obtain⟨Av,cv,rfl⟩:=Kd.bD hv
    have HRa5:ah (Kd.R (Kd.int .u8) 5 wa wr.heap.size (fun _=>True) (.slice (some a5) u.length c5) u):=⟨by
     have h1:=Kd.zw HR50.o (w1:=W) (fun k hk=>hbut.block k hk.2.2.1 (by have:=hk.2.1;omega))
     exact Kd.dL (Kd.bR h1 HBa.o) (fun _ _=>trivial)⟩
    have HVa:=ah.mk (Kd.bR hv HBa.o)
    have HOa:ah (wa.heap[w1.heap.size]? = some (.cells #[.slice Av LV.length cv] 24 (0,0))):=⟨(HBa.o.block _ (Array.getElem?_eq_some_iff.1 ho).1).trans ho⟩
    have HUa:ah (wa.heap[w2.heap.size]? = some (.cells #[.slice (some a5) u.length c5] 24 (0,0))):=⟨(HBa.o.block _ (by have:=hbut.size;omega)).trans ((hbut.block _ (by omega) (by omega)).trans HU.o)⟩
    refine lN lp _ (by kernel_rfl) (by kernel_rfl) (bq.start (n:=12) (S:=fun W'=>Below wa.heap.size wa W') (by decide) ?_)
    have HcO:ah (∀ W',Below wa.heap.size wa W'→W'.cell? ⟨w1.heap.size,0,none⟩=some (.slice Av LV.length cv)):=⟨fun W' hb=>aV hb ((cell_of_row wa _ 0 _ _ _ HOa.o).trans rfl)⟩
    have HcU:ah (∀ W',Below wa.heap.size wa W'→W'.cell? ⟨w2.heap.size,0,none⟩=some (.slice (some a5) u.length c5)):=⟨fun W' hb=>aV hb ((cell_of_row wa _ 0 _ _ _ HUa.o).trans rfl)⟩
    have HS:=ah.mk (dG (Below.refl wa.heap.size wa))
    refine bq.take' (i:=0) (v:=?_) rfl rfl (by kernel_rfl) (fun _ _ _ h=>by cases h.1) (Or.inl ⟨by rfl,?_⟩) HS.o ?_
    rotate_left
    ·(intro W' hW';have c1:=HcO.o W' hW';have c2:=HcU.o W' hW';go_simp;try (with_reducible rfl))
    try simp only[List.setIfInBounds_toArray,List.set_cons_zero,List.set_cons_succ]
    refine bq.take' (i:=1) (v:=?_) rfl rfl (by kernel_rfl) (fun _ _ _ h=>by cases h.1) (Or.inl ⟨by rfl,?_⟩) HS.o ?_
    rotate_left
    ·(intro W' hW';have c1:=HcO.o W' hW';have c2:=HcU.o W' hW';go_simp;try (with_reducible rfl))
    try simp only[List.setIfInBounds_toArray,List.set_cons_zero,List.set_cons_succ]
    refine bq.take' (i:=2) (v:=?_) rfl rfl (by kernel_rfl) (fun _ _ _ h=>by cases h.1) (Or.inl ⟨by rfl,?_⟩) HS.o ?_
    rotate_left
    ·(intro W' hW';have c1:=HcO.o W' hW';have c2:=HcU.o W' hW';go_simp;try (with_reducible rfl))
    try simp only[List.setIfInBounds_toArray,List.set_cons_zero,List.set_cons_succ]
    refine bq.take' (i:=3) (v:=?_) rfl rfl (by kernel_rfl) (fun _ _ _ h=>by cases h.1) (Or.inl ⟨by rfl,?_⟩) HS.o ?_
    rotate_left
    ·(intro W' hW';have c1:=HcO.o W' hW';have c2:=HcU.o W' hW';go_simp;try (with_reducible rfl))
    try simp only[List.setIfInBounds_toArray,List.set_cons_zero,List.set_cons_succ]
    refine bq.take' (i:=4) (v:=?_) rfl rfl (by kernel_rfl) (fun _ _ _ h=>by cases h.1) (Or.inl ⟨by rfl,?_⟩) HS.o ?_
    rotate_left
    ·(intro W' hW';have c1:=HcO.o W' hW';have c2:=HcU.o W' hW';go_simp;try (with_reducible rfl))
    try simp only[List.setIfInBounds_toArray,List.set_cons_zero,List.set_cons_succ]
    refine bq.take' (i:=5) (v:=?_) rfl rfl (by kernel_rfl) (fun _ _ _ h=>by cases h.1) (Or.inl ⟨by rfl,?_⟩) HS.o ?_
    rotate_left
    ·(intro W' hW';have c1:=HcO.o W' hW';have c2:=HcU.o W' hW';go_simp;try (with_reducible rfl))
    try simp only[List.setIfInBounds_toArray,List.set_cons_zero,List.set_cons_succ]
    refine bq.take' (i:=6) (v:=?_) rfl rfl (by kernel_rfl) (fun _ _ _ h=>by cases h.1) (Or.inl ⟨by rfl,?_⟩) HS.o ?_
    rotate_left
    ·(intro W' hW';have c1:=HcO.o W' hW';have c2:=HcU.o W' hW';go_simp;try (with_reducible rfl))
    try simp only[List.setIfInBounds_toArray,List.set_cons_zero,List.set_cons_succ]
    refine bq.take' (i:=8) (v:=?_) rfl rfl (by kernel_rfl) (fun _ _ _ h=>by cases h.1) (Or.inl ⟨by rfl,?_⟩) HS.o ?_
    rotate_left
    ·(intro W' hW';have c1:=HcO.o W' hW';have c2:=HcU.o W' hW';go_simp;try (with_reducible rfl))
    try simp only[List.setIfInBounds_toArray,List.set_cons_zero,List.set_cons_succ]
    refine bq.take' (i:=9) (v:=?_) rfl rfl (by kernel_rfl) (fun _ _ _ h=>by cases h.1) (Or.inl ⟨by rfl,?_⟩) HS.o ?_
    rotate_left
    ·(intro W' hW';have c1:=HcO.o W' hW';have c2:=HcU.o W' hW';go_simp;try (with_reducible rfl))
    try simp only[List.setIfInBounds_toArray,List.set_cons_zero,List.set_cons_succ]
    have PUT:ah (∀ W',Calls Tryz.prog 31 #[.int .u64 (IntKind.u64.wrap (IntKind.i64.wrap ((u.length:Int)+((gH q).length:Int)))),.int .i64 4] W' fun e w'=>∃ v0_:Value,e = .returned v0_∧Kd.R (Kd.int .u8) 5 w' W'.heap.size (fun _=>True) v0_ (dR (u.length+(gH q).length) 4)∧Below W'.heap.size W' w'):=⟨fun W'=>iA.calls _ _ _ W' (by
     have h1:IntKind.i64.wrap ((u.length:Int)+((gH q).length:Int))=((u.length+(gH q).length:Nat):Int):=by
      rw[IntKind.wrap_i64]
      have:=HEL.o
      have:=HQL.o
      omega
     have h2:=Kv (q:=((u.length+(gH q).length:Nat):Int)) (by omega) (by have:=HEL.o;have:=HQL.o;omega) 4
     rw[h1]
     rwa [Int.toNat_natCast] at h2)⟩
    refine bq.one (i:=7) rfl (by kernel_rfl) (by rfl) (fun KK hKK=>?_)
    go_simp
    refine (PUT.o _).mono ?_
    rintro e wb ⟨v3,rfl,hr3,hb3⟩
    obtain⟨a3,c3,rfl⟩:=Kd.gN hr3 (by rw[bJ];decide)
    have HRb:=ah.mk hr3
    have HBb:=ah.mk (ak HS.o hb3)
    refine hKK _ _ HBb.o ?_
    clear hKK hr3 hb3 HcO HcU
    refine bq.one (i:=10) rfl (by kernel_rfl) (by rfl) (fun K1 hK1=>?_)
    go_simp
    have HBc:=ah.mk (aj HBb.o (.cells #[.slice Av LV.length cv,.slice (some a3) (dR (u.length+(gH q).length) 4).length c3,.slice (some a5) u.length c5,.slice (some a6) (gH q).length c6] 24))
    have HNb:=ah.mk (bI wb (.cells #[.slice Av LV.length cv,.slice (some a3) (dR (u.length+(gH q).length) 4).length c3,.slice (some a5) u.length c5,.slice (some a6) (gH q).length c6] 24))
    have HBcb:=ah.mk (aj (Below.refl wb.heap.size wb) (.cells #[.slice Av LV.length cv,.slice (some a3) (dR (u.length+(gH q).length) 4).length c3,.slice (some a5) u.length c5,.slice (some a6) (gH q).length c6] 24))
    refine hK1 _ _ HBc.o ?_
    clear hK1
    generalize (wb.alloc (.cells #[.slice Av LV.length cv,.slice (some a3) (dR (u.length+(gH q).length) 4).length c3,.slice (some a5) u.length c5,.slice (some a6) (gH q).length c6] 24))=wc at *
    have hv1:=Kd.bR HVa.o HBc.o
    have hr3:=Kd.bR HRb.o HBcb.o
    have hr5:=Kd.bR HRa5.o HBc.o
    have hr6:=Kd.bR HRa.o HBc.o
    have HLVL:ah (LV.length≤600000000):=⟨by
     rw[← hLV,List.length_append]
     have h1:=HPL.o
     have h2:=yI (l:=x.f1) HEL.o HOS.o HCL.o.2.1 (iZ pre)
     rw[pG] at h2
     omega⟩
    have CON:=ah.mk (FC.calls (some ⟨wb.heap.size,0,none⟩) 4 4 [LV,dR (u.length+(gH q).length) 4,u,gH q] wc rfl
     (Ob wc wb.heap.size Av (some a3) (some a5) (some a6) cv c3 c5 c6 LV _ u _ _ _ HNb.o (Kd.aX hv1).2.2 (Kd.aX hv1).2.1 (Kd.aX hr3).2.2 (Kd.aX hr3).2.1 (Kd.aX hr5).2.2 (Kd.aX hr5).2.1 (Kd.aX hr6).2.2 (Kd.aX hr6).2.1) (by decide) (by
      simp only[List.flatten_cons,List.flatten_nil,List.length_append,List.length_nil,bJ]
      have:=HLVL.o
      have:=HEL.o
      have:=HQL.o
      omega))
    clear hv1 hr3 hr5 hr6
    refine bq.one (i:=11) rfl (by kernel_rfl) (by rfl) (fun K2 hK2=>?_)
    go_simp
    refine CON.o.mono ?_
    rintro e wd ⟨v4,rfl,hr4,hb4⟩
    obtain⟨LN,hLN⟩:∃ LN,[LV,dR (u.length+(gH q).length) 4,u,gH q].flatten=LN:=⟨_,rfl⟩
    rw[hLN] at hr4
    have HLN:ah (jq (l.take k)++ni u x.f1 (iZ (pre++[⟨j,hj⟩]))=LN):=⟨by
     rw[nQ,Ed,hq,← List.append_assoc,hLV,← hLN,jK]
     simp only[List.flatten_cons,List.flatten_nil,List.append_nil]⟩
    clear hLN
    obtain⟨A4,c4,rfl⟩:=Kd.bD hr4
    have HBd:=ah.mk (ak HBc.o hb4)
    have HRd:=ah.mk hr4
    clear hr4 hb4
    refine hK2 _ _ HBd.o ?_
    clear hK2
    have HOd:ah (wd.heap[w1.heap.size]? = some (.cells #[.slice Av LV.length cv] 24 (0,0))):=⟨(HBd.o.block _ (Array.getElem?_eq_some_iff.1 HOa.o).1).trans HOa.o⟩
    have co:wd.cell? ⟨w1.heap.size,0,none⟩=some (.slice Av LV.length cv):=(cell_of_row wd _ 0 _ _ _ HOd.o).trans rfl
    have fo:wd.frozen? ⟨w1.heap.size,0,none⟩=false:=aC HOd.o 0
    refine bq.last rfl (by kernel_rfl) (by rfl) (fun K3 hK3=>?_)
    go_simp
    refine hK3 _ _ ⟨rfl,?_⟩
    clear hK3 co fo
    have hsW:W.heap.size≤wa.heap.size:=HBa.o.size
    have hsa:wa.heap.size≤wd.heap.size:=HBd.o.size
    have HWd:=ah.mk (ak HBa.o HBd.o)
    have hO5:(wd.setCell ⟨w1.heap.size,0,none⟩ (.slice A4 LN.length c4)).heap[w1.heap.size]? = some (.cells #[.slice A4 LN.length c4] 24 (0,0)):=bK HOd.o 0 _ rfl
    refine⟨⟨by simp;omega,fun i o hi ho'=>?_⟩,⟨?_,?_⟩,⟨.slice A4 LN.length c4,hO5,?_⟩,?_⟩
    ·have h1:=(HWd.o.block _ (Array.getElem?_eq_some_iff.1 hi).1).trans hi
     refine (Below.heap_setCell wd ⟨w1.heap.size,0,none⟩ _ i (fun e=>?_)).trans h1
     have e':i=w1.heap.size:=e
     subst e'
     rw[HOd.o] at h1
     injection h1 with h1
     subst h1
     cases ho'
    ·exact (Below.heap_setCell wd ⟨w1.heap.size,0,none⟩ _ _ (fun e=>by have e':w2.heap.size+1=w1.heap.size:=e;omega)).trans (HWd.o.block _ (by have:=hbut.size;omega))
    ·exact (Below.heap_setCell wd ⟨w1.heap.size,0,none⟩ _ _ (fun e=>by have e':w2.heap.size+1+1=w1.heap.size:=e;omega)).trans (HWd.o.block _ (by have:=hbut.size;omega))
    ·rw[HLN.o]
     have h1:=Kd.gF (Kd.gM HRd.o) (p:=⟨w1.heap.size,0,none⟩) (fun i hi=>(by have h1:=hi.2.1;have h2:=HBc.o.size;have h3:=hbut.size;show i≠w1.heap.size;omega)) (.slice A4 LN.length c4)
     exact Kd.dL (Kd.dW h1 (base':=w.heap.size) (by have:=HBc.o.size;have:=hbut.size;omega)) (fun _ _=>trivial)
    ·exact (hbut.trans (But.of_below (HWd.o.mono hbut.size))).setCell 0 _
  ·obtain rfl:k=l.length:=by omega
   have hnk:¬ ((l.length:Int)<(l.length:Int)):=by omega
   rw[List.take_length] at HV
   obtain⟨Av,cv,rfl⟩:=Kd.bD HV.o
   have co:=(cell_of_row wr w1.heap.size 0 _ _ _ hO).trans rfl
   go_wp2
   refine mM (fun W=>Kd.R (Kd.int .u8) 5 W w.heap.size (fun _=>True) (.slice Av (jq l).length cv) (jq l)∧Below w.heap.size w W) (fun W hM=>?_) Ds wr hnd (fun D h=>(hD D h).2) (fun D h W hM hd=>?_) ⟨HV.o,HB.o⟩
   ·exact⟨_,results_tmp2 rfl _ _ _,_,rfl,hM.1,hM.2⟩
   ·exact⟨I8 hM.1 (grownBy_putObj' W D _) (fun r e=>by cases e;exact⟨_,hd,rfl⟩),hM.2.trans (belowK_b (w:=w) (Nat.le_refl _) W D _ _ (by have:=(hD D h).1;have:=HB1.o.size;omega) hd rfl rfl)⟩
theorem jq.bad (A:Option Addr) (c n:Nat) (l:List cB) (w:World) (hn:l.length=n) (hr:Kd.C mK w A n l) (hc:n≤c) (hok:Hq l) (hl:n≤1000000) (h:gQ l=false) :
 Calls Tryz.prog 28 #[.slice A n c] w fun e w'=>e = .returned (.tuple #[.slice none 0 0,.int .i64 1])∧Below w.heap.size w w':=by
 subst hn
 have HCAN:ah (Calls Tryz.prog 53 #[.slice A l.length c] w fun e w'=>e = .returned (.bool false)∧Below w.heap.size w w'):=⟨h ▸ gQ.calls A c l.length l w rfl hr hc hok (by omega)⟩
 clear hr hok h
 go_enter Tryz.func28,Tryz.ntmps28
 go_wp2_with (first|(go_at_call 53;(with_reducible refine HCAN.o.mono ?_);rintro e w1 ⟨rfl,hb⟩;have HB1:=ah.mk hb;clear hb))
 refine bodyPost_ret (results_tmp2 rfl _ _ _) rfl ?_
 exact⟨rfl,HB1.o⟩
noncomputable def vP (l:List cB):List Int × Int:=if gQ l=true then (jq l,0) else ([],1)
theorem vP.calls (A:Option Addr) (c n:Nat) (l:List cB) (eb:List Int) (ee:Int) (w:World) (hn:l.length=n) (hr:Kd.C mK w A n l) (hc:n≤c) (hok:Hq l) (hl:n≤1000000) (hM:gQ l=true→(jq l).length≤500000000) (hT:kH w) (he:vP l=(eb,ee)) :
 Calls Tryz.prog 28 #[.slice A n c] w fun e w'=>∃ v:Value,e = .returned (.tuple #[v,.int .i64 ee])∧Kd.R (Kd.int .u8) 5 w' w.heap.size (fun _=>True) v eb∧Below w.heap.size w w':=by
 unfold vP at he
 split at he
 ·rename_i h
  cases he
  exact jq.calls A c n l w hn hr hc hok hl hM hT h
 ·rename_i h
  cases he
  refine (jq.bad A c n l w hn hr hc hok hl (by simpa using h)).mono ?_
  rintro e w' ⟨rfl,hb⟩
  exact⟨_,rfl,Kd.fP _ _ _ _ _,hb⟩
theorem tZ:∀ l:List cB,20*(dB l).length≤tot l+19*l.length
 | []=>by simp[dB,tot]
 | x::l=>by
   have ih:=tZ l
   have h3:(sH x).length=(x.f1.length+19) / 20:=by simp[sH]
   rw[show dB (x::l)=sH x++dB l from rfl,List.length_append,List.length_cons,tot]
   omega
theorem tu:∀ {td:List cB},(∀ p∈td,FX p)→(td.flatMap jf).length≤1014*td.length
 | [],_=>by simp
 | p::td,h=>by
   have ih:=tu (td:=td) (fun q hq=>h q (List.mem_cons_of_mem _ hq))
   have:=(GR (h p List.mem_cons_self)).2
   rw[List.flatMap_cons,List.length_append,List.length_cons]
   omega
theorem Jv {l:List cB} (h:gQ l=true):∀ x∈l,dV x.f0=true∧iT x.f1=true:=fun x hx=>by
 obtain⟨k,hk,rfl⟩:=List.mem_iff_getElem.1 hx
 have h1:=vL h k hk
 rw[AU,pV,dZ hk] at h1
 simp only[Bool.and_eq_true] at h1
 exact⟨h1.1.1,h1.1.2.2⟩
theorem pq:∀ (l:List cB) (j:Nat) (p:cB),dH j (l++[p])=dH j l++kU 2 (j+l.length+1) (iV p)
 | [],j,p=>by simp[dH]
 | q::l,j,p=>by
   rw[List.cons_append,dH,dH,pq l (j+1) p,List.append_assoc,List.length_cons]
   congr 4
   omega
theorem AO.calls (A:Option Addr) (c n:Nat) (l:List cB) (eb:List Int) (ee:Int) (w:World) (hn:l.length=n) (hr:Kd.C mK w A n l) (hc:n≤c) (hok:Hq l) (hl:n≤100000) (ht:tot l≤1000000) (hT:kH w) (hQ:kg w) (he:jW l=(eb,ee)) :
 Calls Tryz.prog 9 #[.slice A n c] w fun e w'=>∃ v:Value,e = .returned (.tuple #[v,.int .i64 ee])∧Kd.R (Kd.int .u8) 5 w' w.heap.size (fun _=>True) v eb∧Below w.heap.size w w':=by
 subst hn
 have HR:=ah.mk hr
 have HT:=ah.mk ht
 have HQ:=ah.mk hQ
 have hpc:=tZ l
 cases hcan:gQ l with
 | false=>
   rw[jW,if_neg (by rw[hcan];decide)] at he
   cases he
   have ENC:=ah.mk (vP.calls A c l.length l [] 1 w rfl hr hc hok (by omega) (fun h=>by rw[hcan] at h;cases h) hT (by rw[vP,if_neg (by rw[hcan];decide)]))
   clear hr hok hT hQ ht
   go_enter Tryz.func9,Tryz.ntmps9
   go_wp2_with (first|(go_at_call 28;(with_reducible refine ENC.o.mono ?_);rintro e w1 ⟨v1,rfl,hr1,hb⟩;obtain⟨A1,c1,rfl⟩:=Kd.bD hr1;have HB1:=ah.mk hb;clear hr1 hb))
   refine bodyPost_ret (results_tmp2 rfl _ _ _) rfl ?_
   exact⟨_,rfl,Kd.fP _ _ _ _ _,HB1.o⟩
 | true=>
   rw[jW,if_pos hcan] at he
   cases he
   have hP:=Hy hok (Jv hcan)
   have hPn:(dB l).length≤150000:=by omega
   have hsh:=tu hP
   have ENC:=ah.mk (vP.calls A c l.length l ((dB l).flatMap jf) 0 w rfl hr hc hok (by omega) (fun _=>by rw[vQ];omega) hT (by rw[vP,if_pos hcan,vQ]))
   have HW:=ah.mk (show gB l=kU 1 0 (dR (dB l).length 4)++(dH 0 (dB l)++kU 3 ((dB l).length+1) (dR (tot l) 8)) from rfl)
   have HP:=ah.mk hP
   generalize dB l=P at *
   generalize hLL:P.flatMap jf=L at *
   have HLL:=ah.mk hLL
   have HWL:ah (∃ W,gB l=W):=⟨_,rfl⟩
   generalize gB l=WL at *
   have hLn:L.length≤600000000:=by omega
   clear hr hok hT hQ hpc hP hsh hLL HWL ht
   go_enter Tryz.func9,Tryz.ntmps9
   go_wp2_with (first|(go_at_call 28;(with_reducible refine ENC.o.mono ?_);rintro e w1 ⟨v1,rfl,hr1,hb⟩;obtain⟨A1,c1,rfl⟩:=Kd.bD hr1;have HR1:=ah.mk (Kd.aX hr1);have HB1:=ah.mk hb;clear hr1 hb)|(go_at_call 29;(with_reducible refine (show Calls _ _ _ _ _ from by have h1:=split.calls A1 c1 L.length P w1 HP.o (by rw[HLL.o]) (by rw[HLL.o];exact HR1.o.2.2) HR1.o.2.1 hLn (by omega);exact h1).mono ?_);rintro e w2 ⟨v2,rfl,hn2,hb⟩;obtain⟨A2,c2,rfl,hc2,hC2⟩:=Kd.jH hn2;have HC2:=ah.mk hC2;have HB2:=ah.mk (ak HB1.o hb);clear hn2 hC2 hb))
   have HRS:=ah.mk (Kd.aH HR.o HB2.o)
   have HLN:ah ((P.map iV).length=P.length):=⟨List.length_map ..⟩
   clear ENC HR1 HLL hLn
   go_loopg [7,25] l.length (fun kx s7 s25 wr=>∃ k:Nat,s25 = .int .i64 k∧k≤l.length∧l.length-k≤kx∧s7 = .int .i64 ((tot (l.take k):Nat):Int)∧ah (Below w2.heap.size w2 wr))
   case atStart=>exact⟨0,rfl,Nat.zero_le _,by omega,rfl,⟨Below.refl _ _⟩⟩
   case round=>
    obtain⟨k,rfl,hk,hkx,rfl,HB⟩:=hrel
    by_cases hlt:k<l.length
    ·obtain⟨ad,A0,c0,A3,c3,rfl,x0,x1,l0,g0,l3,g3⟩:=iR (Kd.aH HRS.o HB.o) (k:Int) (by omega) (by omega)
     rw[Int.toNat_natCast] at x0 x1
     have hts:tot (l.take (k+1))=tot (l.take k)+(aK l (k:Int)).f1.length:=by
      rw[List.take_succ_eq_append_getElem hlt,q9,dZ hlt]
     have htl:=lM l (k+1)
     have hT:=HT.o
     have hkz:(k:Int)<(l.length:Int):=by omega
     clear l0 g0 l3 g3
     generalize (aK l (k:Int)).f1.length=m1 at *
     generalize (aK l (k:Int)).f0.length=m0 at *
     generalize tot (l.take k)=tk at *
     have hw1:IntKind.i64.wrap ((tk:Int)+(m1:Int))=((tk+m1:Nat):Int):=by rw[IntKind.wrap_i64];omega
     go_wp2_with fail
     go_roundg (l.length-(k+1))
     case measure=>omega
     case rel=>exact⟨k+1,by go_num,hlt,Nat.le_refl _,by rw[hts];go_num,⟨aj HB.o _⟩⟩
    ·obtain rfl:k=l.length:=by omega
     rw[List.take_length]
     have HB3:=ah.mk (ak HB2.o HB.o)
     have HC3:=ah.mk (Kd.aH HC2.o HB.o)
     have hT:=HT.o
     clear hlt hk hkx HB HB2 HC2 HRS HR HT
     have hpu:IntKind.u64.wrap (P.length:Int)=(P.length:Int):=by simp[IntKind.wrap,IntKind.bits,IntKind.signed];omega
     have htu:IntKind.u64.wrap (tot l:Int)=(tot l:Int):=by simp[IntKind.wrap,IntKind.bits,IntKind.signed];omega
     have HX0:=ah.mk (bI wr (.cells #[.slice none 0 0,.int .i64 0] 62 (0,0)))
     have HXB:=ah.mk (aj (Below.refl wr.heap.size wr) (.cells #[.slice none 0 0,.int .i64 0] 62 (0,0)))
     go_wp2_with (first|(go_at_call 31;(refine (wW P.length 4 (by omega) (by decide) _).mono ?_);rintro e w4 ⟨v4,rfl,hr4,hb⟩;obtain⟨a4,c4,rfl⟩:=Kd.gN hr4 (by rw[bJ];decide);have HR4:=ah.mk (Kd.aX hr4);have HB4:=ah.mk (ak HXB.o hb);have HX4:=ah.mk (show WU w4 wr.heap.size (.slice none 0 0) ((0:Nat):Int) from aG HX0.o hb);clear hr4 hb)|(go_at_call 30;(refine (AP.calls wr.heap.size 1 0 (dR P.length 4).length [] (dR P.length 4) (.slice none 0 0) (some a4) c4 wr.heap.size wr w4 (by decide) (by decide) rfl HR4.o.2.2 HR4.o.2.1 (by rw[bJ];decide) (jI _ _) (HQ.o.below (ak HB3.o HB4.o)) HX4.o (Kd.fP _ _ _ _ _) (by decide) HB4.o (Nat.le_refl _)).mono ?_);rintro e w5 ⟨rfl,v5,hw5,hr5,hb5,_,_⟩;have HW5:=ah.mk hw5;have HR5:=ah.mk hr5;have HB5:=ah.mk hb5;clear hw5 hr5 hb5))
     obtain⟨w3,hw3⟩:∃ w3,w3=wr:=⟨_,rfl⟩
     subst hw3
     have hg0:w.heap.size≤w3.heap.size:=HB3.o.size
     generalize hgg:w3.heap.size=g at *
     have HCL:ah (∀ k,k≤P.length→(kU 1 0 (dR P.length 4)++dH 0 (P.take k)).length≤1000000000):=⟨fun k hk=>by
      have h1:=(nO (P.take k) 0 (fun p hp=>HP.o p (List.mem_of_mem_take hp))).2
      rw[List.length_take] at h1
      rw[List.length_append,lu,bJ]
      omega⟩
     clear HX0 HXB HB4 HX4 HR4
     go_loopg [45] P.length (fun kx s45 wx=>∃ (k:Nat) (v:Value),s45 = .int .i64 k∧k≤P.length∧P.length-k≤kx∧ah (WU wx g v ((k+1:Nat):Int))∧ah (Kd.R (Kd.int .u8) 5 wx g (fun _=>True) v (kU 1 0 (dR P.length 4)++dH 0 (P.take k)))∧ah (Below g w3 wx))
     case atStart=>exact⟨0,v5,rfl,Nat.zero_le _,by omega,HW5,⟨by have:=HR5.o;rw[List.nil_append] at this;rw[List.take_zero,dH,List.append_nil];exact this⟩,HB5⟩
     case round=>
      clear HW5 HR5 HB5
      obtain⟨k,v,rfl,hk,hkx,HWU,HRV,HB⟩:=hrel
      have HBw:ah (Below w3.heap.size w3 wr):=⟨by rw[hgg];exact HB.o⟩
      by_cases hlt:k<P.length
      ·obtain⟨ad,A0,c0,rfl,x0,l0,g0⟩:=Jk (Kd.aH HC3.o HBw.o) (k:Int) (by omega) (by rw[HLN.o];omega)
       rw[Int.toNat_natCast] at x0
       have hrd:kN (P.map iV) (k:Int)=iV P[k]:=by simp[kN,List.getD_eq_getElem?_getD,List.getElem?_eq_getElem hlt]
       rw[hrd] at x0 l0 g0
       have hpk:=HP.o P[k] (List.getElem_mem hlt)
       have hpo:=qP hpk
       have HST:ah (kU 1 0 (dR P.length 4)++dH 0 (P.take k)++kU 2 (k+1) (iV P[k])=kU 1 0 (dR P.length 4)++dH 0 (P.take (k+1))):=⟨by
        rw[List.take_succ_eq_append_getElem hlt,pq,List.append_assoc,List.length_take,Nat.min_eq_left (by omega),Nat.zero_add]⟩
       have WF:=ah.mk (fun (m:Nat) (hm:(iV P[k]).length=m)=>AP.calls g 2 (k+1) m (kU 1 0 (dR P.length 4)++dH 0 (P.take k)) (iV P[k]) v A0 c0 g w3 wr (by decide) (by omega) hm (hm ▸ g0) (hm ▸ l0) (by omega) hpo.1 (HQ.o.below (ak HB3.o HBw.o)) HWU.o HRV.o (HCL.o k hk) HB.o (Nat.le_refl _))
       have hkz:(k:Int)<(P.length:Int):=by omega
       clear hrd hpk hpo l0 g0
       generalize hm:(iV P[k]).length=m at *
       have WF2:=ah.mk (WF.o m rfl)
       clear WF
       go_wp2_with (first|(go_at_call 30;(refine WF2.o.mono ?_);rintro e w6 ⟨rfl,v6,hw6,hr6,hb6,_,_⟩;have HW6:=ah.mk hw6;have HR6:=ah.mk hr6;have HB6:=ah.mk hb6;clear hw6 hr6 hb6))
       go_roundg (P.length-(k+1))
       case measure=>omega
       case rel=>exact⟨k+1,v6,by go_num,hlt,Nat.le_refl _,HW6,⟨by rw[← HST.o];exact HR6.o⟩,HB6⟩
      ·obtain rfl:k=P.length:=by omega
       rw[List.take_length] at HRV
       have hcl:=HCL.o P.length (Nat.le_refl _)
       rw[List.take_length] at hcl
       have HCE:=ah.mk hcl
       have HWx:ah (WU wr g v ((P.length+1:Nat):Int)):=HWU
       clear hlt hk hkx HWU HCL hcl HC3 HLN
       go_wp2_with (first|(go_at_call 31;(refine (wW (tot l) 8 (by omega) (by decide) _).mono ?_);rintro e w7 ⟨v7,rfl,hr7,hb⟩;obtain⟨a7,c7,rfl⟩:=Kd.gN hr7 (by rw[bJ];decide);have HR7:=ah.mk (Kd.aX hr7);have HW7:=ah.mk (show WU w7 g v ((P.length+1:Nat):Int) from aG HWx.o hb);have HV7:=ah.mk (Kd.bR HRV.o hb);have HB7:=ah.mk (ak HBw.o hb);have HBg:ah (Below g w3 w7):=⟨by rw[← hgg];exact HB7.o⟩;clear hr7 hb)|(go_at_call 30;(refine (AP.calls g 3 (P.length+1) (dR (tot l) 8).length (kU 1 0 (dR P.length 4)++dH 0 P) (dR (tot l) 8) v (some a7) c7 g w3 w7 (by decide) (by omega) rfl HR7.o.2.2 HR7.o.2.1 (by rw[bJ];decide) (jI _ _) (HQ.o.below (ak HB3.o HB7.o)) HW7.o HV7.o HCE.o HBg.o (Nat.le_refl _)).mono ?_);rintro e w8 ⟨rfl,v8,hw8,hr8,hb8,_,_⟩;have b0:=(av hw8 0).trans rfl;generalize hWW:kU 1 0 (dR P.length 4)++dH 0 P++kU 3 (P.length+1) (dR (tot l) 8)=WW at hr8;have HWW:=ah.mk hWW;clear hWW;obtain⟨A8,c8,rfl⟩:=Kd.bD hr8;have HR8:=ah.mk hr8;have HB8:=ah.mk hb8;clear hw8 hr8 hb8))
       refine bodyPost_ret (results_tmp2 rfl _ _ _) rfl ?_
       exact⟨_,rfl,by rw[HW.o,← List.append_assoc,HWW.o];exact Kd.dW HR8.o hg0,HB3.o.trans (HB8.o.mono hg0)⟩
def uI (b:List Int):Prop:=(x9 b).length<20∧(iH b).length≤100000∧tot (iH b)≤1000000∧(∀ x∈iH b,x.f0.length≤1000000)∧Hq (joinL (iH b))∧(joinL (iH b)).length≤100000∧tot (joinL (iH b))≤1000000∧okB (jW (joinL (iH b))).1=true
theorem PS.calls (A:Option Addr) (c n:Nat) (b:List Int) (w:World) (hn:b.length=n) (hr:Kd.C (Kd.int .u8) w A n b) (hc:n≤c) (hok:okB b=true) (hlen:n≤1000000) (hT:kg w) (hZ:kH w) (hF:uI b) :
 Calls Tryz.prog 14 #[.slice A n c] w fun e w'=>∃ (A':Option Addr) (c':Nat),e = .returned (.tuple #[.slice A' (mq b).1.length c',.int .i64 (mq b).2])∧(mq b).1.length≤c'∧Kd.C mK w' A' (mq b).1.length (mq b).1∧Below w.heap.size w w':=by
 have HN:=ah.mk hn
 have HR:=ah.mk hr
 have HOK:=ah.mk hok
 have HT:=ah.mk hT
 have HZ:=ah.mk hZ
 have FO:=ah.mk (found.calls A c n b w hn hr hc hok hlen hT hZ hF.1)
 obtain⟨F,hFe⟩:∃ F,iH b=F:=⟨_,rfl⟩
 obtain⟨J,hJe⟩:∃ J,joinL F=J:=⟨_,rfl⟩
 have hRF:mq b=if jW J=(b,0) then (J,0) else ([],5):=by rw[mq,hFe,hJe]
 unfold uI at hF
 rw[hFe,hJe] at hF
 rw[hFe] at FO
 obtain⟨eb,ee,hw⟩:∃ eb ee,jW J=(eb,ee):=⟨_,_,rfl⟩
 rw[hw] at hRF hF
 have HF:=ah.mk hF
 have HJ:=ah.mk hJe
 have HW:=ah.mk hw
 have HRF:=ah.mk hRF
 have hee:ee=0∨ee=1:=by
  unfold jW at hw
  split at hw
  ·injection hw with _ h;exact .inl h.symm
  ·injection hw with _ h;exact .inr h.symm
 clear hr hok hT hZ hF hFe hJe hRF hw hn
 have CF:(F.length:Nat)=F.length:=rfl
 rcases hee with rfl | rfl
 ·have hokE:okB eb=true:=HF.o.2.2.2.2.2.2.2
  by_cases he:eb=b
  ·have EQ:ah (∀ A3 c3 W,Kd.C (Kd.int .u8) W A3 eb.length eb→eb.length≤c3→Below w.heap.size w W→Calls Tryz.prog 38 #[.slice A3 eb.length c3,.slice A n c] W fun e w'=>e = .returned (.bool true)∧Below W.heap.size W w'):=⟨fun A3 c3 W h1 h2 hb=>by
    have h3:=bytes_Equal.calls A3 c3 eb A c b true W h1 h2 (by rw[HN.o];exact Kd.aH HR.o hb) (by rw[HN.o];exact hc) (by rw[bytes_Equal.f,if_pos ⟨hokE,HOK.o⟩];simp[he])
    rw[HN.o] at h3
    exact h3.mono fun e w' ⟨h4,h5⟩=>⟨h4,h5.below⟩⟩
   have HE:ah (mq b=(J,0)):=⟨by rw[HRF.o,if_pos (by rw[he])]⟩
   rw[HE.o]
   clear HRF he hokE
   go_enter Tryz.func14,Tryz.ntmps14
   go_wp2_with (first|(go_at_call 37;(with_reducible refine FO.o.mono ?_);rintro e w1 ⟨v1,rfl,hn1,hb⟩;obtain⟨A1,c1,rfl,hc1,hC1⟩:=Kd.jH hn1;have HC1:=ah.mk hC1;have HB1:=ah.mk hb;clear hn1 hc1 hC1 hb)|(go_at_call 36;(with_reducible refine (join.calls A1 c1 F.length F _ rfl HC1.o HF.o.2.1 HF.o.2.2.1 HF.o.2.2.2.1).mono ?_);rintro e w2 ⟨A2,c2,rfl,hc2,hC2,hb⟩;rw[HJ.o] at hc2 hC2 ⊢;have HC2:=ah.mk (And.intro hc2 hC2);have HB2:=ah.mk (ak HB1.o hb);clear hc2 hC2 hb)|(go_at_call 9;(with_reducible refine (AO.calls A2 c2 J.length J eb 0 _ rfl HC2.o.2 HC2.o.1 HF.o.2.2.2.2.1 HF.o.2.2.2.2.2.1 HF.o.2.2.2.2.2.2.1 (HZ.o.below HB2.o) (HT.o.below HB2.o) HW.o).mono ?_);rintro e w3 ⟨v3,rfl,hr3,hb⟩;obtain⟨A3,c3,rfl⟩:=Kd.bD hr3;have HR3:=ah.mk (Kd.aX hr3);have HB3:=ah.mk (ak HB2.o hb);have HC23:=ah.mk (Kd.aH HC2.o.2 hb);clear hr3 hb)|(go_at_call 38;(with_reducible refine (EQ.o A3 c3 _ HR3.o.2.2 HR3.o.2.1 HB3.o).mono ?_);rintro e w4 ⟨rfl,hb⟩;have HB4:=ah.mk (ak HB3.o hb);have HC24:=ah.mk (Kd.aH HC23.o hb);clear hb))
   refine bodyPost_ret (results_tmp2 rfl _ _ _) rfl ?_
   exact⟨A2,c2,rfl,HC2.o.1,HC24.o,HB4.o⟩
  ·have EQ:ah (∀ A3 c3 W,Kd.C (Kd.int .u8) W A3 eb.length eb→eb.length≤c3→Below w.heap.size w W→Calls Tryz.prog 38 #[.slice A3 eb.length c3,.slice A n c] W fun e w'=>e = .returned (.bool false)∧Below W.heap.size W w'):=⟨fun A3 c3 W h1 h2 hb=>by
    have h3:=bytes_Equal.calls A3 c3 eb A c b false W h1 h2 (by rw[HN.o];exact Kd.aH HR.o hb) (by rw[HN.o];exact hc) (by rw[bytes_Equal.f,if_pos ⟨hokE,HOK.o⟩];simp[he])
    rw[HN.o] at h3
    exact h3.mono fun e w' ⟨h4,h5⟩=>⟨h4,h5.below⟩⟩
   have HE:ah (mq b=([],5)):=⟨by rw[HRF.o,if_neg (by intro h;injection h with h _;exact he h)]⟩
   rw[HE.o]
   clear HRF he hokE
   go_enter Tryz.func14,Tryz.ntmps14
   go_wp2_with (first|(go_at_call 37;(with_reducible refine FO.o.mono ?_);rintro e w1 ⟨v1,rfl,hn1,hb⟩;obtain⟨A1,c1,rfl,hc1,hC1⟩:=Kd.jH hn1;have HC1:=ah.mk hC1;have HB1:=ah.mk hb;clear hn1 hc1 hC1 hb)|(go_at_call 36;(with_reducible refine (join.calls A1 c1 F.length F _ rfl HC1.o HF.o.2.1 HF.o.2.2.1 HF.o.2.2.2.1).mono ?_);rintro e w2 ⟨A2,c2,rfl,hc2,hC2,hb⟩;rw[HJ.o] at hc2 hC2 ⊢;have HC2:=ah.mk (And.intro hc2 hC2);have HB2:=ah.mk (ak HB1.o hb);clear hc2 hC2 hb)|(go_at_call 9;(with_reducible refine (AO.calls A2 c2 J.length J eb 0 _ rfl HC2.o.2 HC2.o.1 HF.o.2.2.2.2.1 HF.o.2.2.2.2.2.1 HF.o.2.2.2.2.2.2.1 (HZ.o.below HB2.o) (HT.o.below HB2.o) HW.o).mono ?_);rintro e w3 ⟨v3,rfl,hr3,hb⟩;obtain⟨A3,c3,rfl⟩:=Kd.bD hr3;have HR3:=ah.mk (Kd.aX hr3);have HB3:=ah.mk (ak HB2.o hb);have HC23:=ah.mk (Kd.aH HC2.o.2 hb);clear hr3 hb)|(go_at_call 38;(with_reducible refine (EQ.o A3 c3 _ HR3.o.2.2 HR3.o.2.1 HB3.o).mono ?_);rintro e w4 ⟨rfl,hb⟩;have HB4:=ah.mk (ak HB3.o hb);have HC24:=ah.mk (Kd.aH HC23.o hb);clear hb))
   refine bodyPost_ret (results_tmp2 rfl _ _ _) rfl ?_
   exact⟨none,0,rfl,Nat.le_refl _,Kd.IJ _ _,HB4.o⟩
 ·have HE:ah (mq b=([],5)):=⟨by rw[HRF.o,if_neg (by intro h;injection h with _ h;exact absurd h (by decide))]⟩
  rw[HE.o]
  clear HRF
  go_enter Tryz.func14,Tryz.ntmps14
  go_wp2_with (first|(go_at_call 37;(with_reducible refine FO.o.mono ?_);rintro e w1 ⟨v1,rfl,hn1,hb⟩;obtain⟨A1,c1,rfl,hc1,hC1⟩:=Kd.jH hn1;have HC1:=ah.mk hC1;have HB1:=ah.mk hb;clear hn1 hc1 hC1 hb)|(go_at_call 36;(with_reducible refine (join.calls A1 c1 F.length F _ rfl HC1.o HF.o.2.1 HF.o.2.2.1 HF.o.2.2.2.1).mono ?_);rintro e w2 ⟨A2,c2,rfl,hc2,hC2,hb⟩;rw[HJ.o] at hc2 hC2 ⊢;have HC2:=ah.mk (And.intro hc2 hC2);have HB2:=ah.mk (ak HB1.o hb);clear hc2 hC2 hb)|(go_at_call 9;(with_reducible refine (AO.calls A2 c2 J.length J eb 1 _ rfl HC2.o.2 HC2.o.1 HF.o.2.2.2.2.1 HF.o.2.2.2.2.2.1 HF.o.2.2.2.2.2.2.1 (HZ.o.below HB2.o) (HT.o.below HB2.o) HW.o).mono ?_);rintro e w3 ⟨v3,rfl,hr3,hb⟩;have HB3:=ah.mk (ak HB2.o hb);clear hr3 hb))
  refine bodyPost_ret (results_tmp2 rfl _ _ _) rfl ?_
  exact⟨none,0,rfl,Nat.le_refl _,Kd.IJ _ _,HB3.o⟩
theorem count.calls (p k:Nat) (a1 a2 a3:Value) (w:World) (hk:k<9223372036854775807) (hp:w.heap[p]? = some (.cells #[.int .i64 k] 3 (0,0))) :
 Calls Tryz.prog 45 #[.agg #[a1,a2,a3],.pointer (some ⟨p,0,none⟩)] w fun e w'=>e = .returned (.tuple #[])∧w'.heap[p]? = some (.cells #[.int .i64 ((k+1:Nat):Int)] 3 (0,0))∧(∀ B,B≤p→Below B w w'):=by
 have hlt:=dO hp
 have HX:=ah.mk (aU hp (.cells #[a1,a2,a3] 80 (0,0)))
 have q0:=(av HX.o 0).trans rfl
 have y0:=aC HX.o 0
 have hk1:IntKind.i64.wrap ((k:Int)+1)=((k+1:Nat):Int):=by rw[IntKind.wrap_i64];omega
 have HP:=ah.mk hp
 clear hp
 go_enter Tryz.func45,Tryz.ntmps45
 go_wp2_with fail
 refine bodyPost_end (results_none rfl _ _ _) rfl ?_
 exact⟨rfl,aU (bK HP.o 0 _ rfl) _,fun B hB=>((Below.refl B w).setCell (p:=⟨p,0,none⟩) hB _).alloc (by rw[World.size_setCell];omega) _⟩
theorem frames.calls (A:Option Addr) (c n:Nat) (b:List Int) (w:World) (hn:b.length=n) (hr:Kd.C (Kd.int .u8) w A n b) (hc:n≤c) (hok:okB b=true) (hlen:n≤1000000000) (hT:kg w) :
 Calls Tryz.prog 20 #[.slice A n c] w fun e w'=>e = .returned (.int .i64 (iI b).length)∧Below w.heap.size w w':=by
 have HX:=ah.mk (bI w (.cells #[.int .i64 0] 3 (0,0)))
 have HB:=ah.mk (aj (Below.refl w.heap.size w) (.cells #[.int .i64 0] 3 (0,0)))
 have TH:=ah.mk (KY.calls w.heap.size A c n b (w.alloc (.cells #[.int .i64 0] 3 (0,0))) (fun fs W=>W.heap[w.heap.size]? = some (.cells #[.int .i64 ((fs.length:Nat):Int)] 3 (0,0))∧Below w.heap.size w W) hn hc hok hlen
  (fun fs W h=>Kd.aH hr h.2) (fun fs W h=>hT.below h.2) (fun fs W W' h hb=>⟨aG h.1 hb,ak h.2 hb⟩)
  (fun fs f W A' c' h hl _ _ _ _=>(count.calls w.heap.size fs.length _ _ _ W (by simp only[List.length_cons] at hl;omega) h.1).mono fun e w' ⟨he,hx,hb⟩=>⟨he,by rw[List.length_append];exact hx,h.2.trans (hb _ (Nat.le_refl _))⟩)
  ⟨HX.o,HB.o⟩)
 clear hr hok hT
 go_enter Tryz.func20,Tryz.ntmps20
 go_wp2_with (go_at_call 44;(with_reducible refine TH.o.mono ?_);rintro e w1 ⟨rfl,hx,hb⟩;have HX1:=ah.mk hx;have HB1:=ah.mk hb;have q0:=(av HX1.o 0).trans rfl;clear hx hb)
 go_ret
 exact⟨rfl,HB1.o⟩
theorem Kj {α:Type} (d:Kd α) {W:World} {g t:Nat} {fr:Nat × Nat} {cs:Array Value} {x:α} (hb:W.heap[g]? = some (.cells cs t fr)) (hK:d.K W x cs.toList):d.C W (some ⟨g,0,none⟩) 1 [x]:=by
 refine⟨rfl,by decide,fun _=>⟨_,rfl,fun j p hj=>?_⟩⟩
 match j,hj with
 | 0,hj=>
   injection hj with hj
   subst hj
   refine⟨cs.toList,d.K_len hK,hK,fun i u hu=>?_⟩
   rw[Nat.zero_mul,Nat.zero_add,add_plain]
   exact (cell_of_row W g i cs t fr hb).trans (by simpa using hu)
 | n+1,hj=>simp at hj
def rD:cB:=⟨[⟨⟨#[97]⟩,⟨#[120]⟩⟩],[⟨1,2⟩]⟩
theorem Nf:dV rD.f0=true:=by decide
theorem Ng:iT rD.f1=true:=by decide
theorem Jm:∀ s∈rD.f1,sD s:=fun s hs=>by
 simp only[rD,List.mem_cons,List.not_mem_nil,or_false] at hs
 subst hs
 exact⟨⟨by decide,by decide⟩,by decide,by decide⟩
theorem zB:gQ [rD]=true:=zF fun j hj=>by
 obtain rfl:j=0:=by simp at hj;omega
 exact wQ (qB Nf (by decide) Ng)
theorem Nh:Hq [rD]:=fun x hx=>by
 simp only[List.mem_cons,List.not_mem_nil,or_false] at hx
 subst hx
 refine⟨fun y hy=>?_,by decide,by decide,Jm⟩
 simp only[rD,List.mem_cons,List.not_mem_nil,or_false] at hy
 subst hy
 exact⟨by decide,by decide⟩
theorem kE:dB [rD]=[rD]:=by
 simp[dB,sH,jX,nH,rD]
theorem Bo:joinL [rD]=[rD]:=by
 first | rfl | simp[joinL]
theorem zA:∀ p∈dB [rD],FX p:=by
 rw[kE]
 intro p hp
 rw[List.mem_singleton.1 hp]
 exact⟨Nf,Ng,Jm,by decide,by decide⟩
theorem vI:iH (gB [rD])=[rD]∧(iI (gB [rD])).length=3:=by
 have h:=tF zA (by rw[kE];decide)
 rw[kE] at h
 exact h
theorem LJ:mq (gB [rD])=([rD],0):=EH zB zA (by rw[kE];exact Bo) (by rw[kE];decide)
theorem Ni:okB (gB [rD])=true∧(gB [rD]).length≤2000:=by
 have h:=IE zA
 rw[kE] at h
 exact⟨h.1,Nat.le_trans h.2 (by decide)⟩
theorem DX:uI (gB [rD]):=by
 have h1:(x9 (gB [rD])).length=(iH (gB [rD])).length:=by rw[iH,List.length_map,sQ,Dt]
 rw[vI.1] at h1
 unfold uI
 rw[vI.1,Bo,jW,if_pos zB]
 refine⟨by rw[h1];decide,by decide,by decide,fun x hx=>by rw[List.mem_singleton.1 hx];decide,Nh,by decide,by decide,Ni.1⟩
theorem N7.calls (w:World) (hT:kH w) (hQ:kg w) :
 Calls Tryz.prog 12 #[] w fun e w'=>e = .returned (.bool true)∧Below w.heap.size w w':=by
 obtain⟨B,hB⟩:∃ B,gB [rD]=B:=⟨_,rfl⟩
 have hWF:jW [rD]=(B,0):=by rw[jW,if_pos zB,hB]
 have hrd:=LJ
 have hok:=Ni
 have hfo:=DX
 have hfr:=vI.2
 have hlen:0<B.length:=by rw[← hB,gB,List.length_append,lu];omega
 rw[hB] at hrd hok hfo hfr
 have HRD:=ah.mk hrd
 have HOK:=ah.mk hok
 have HFO:=ah.mk hfo
 have HFR:=ah.mk hfr
 have HLN:=ah.mk hlen
 have HT:=ah.mk hT
 have HQ:=ah.mk hQ
 clear hrd hok hfo hfr hlen hT hQ hB
 obtain⟨W3,hW3⟩:∃ W3,(((w.alloc (.cells #[.string ⟨#[97]⟩,.string ⟨#[120]⟩] 68)).alloc (.cells #[.int .i64 1,.int .u64 2] 70)).alloc (.cells #[.slice (some ⟨w.heap.size,0,none⟩) 1 1,.slice (some ⟨w.heap.size+1,0,none⟩) 1 1] 51))=W3:=⟨_,rfl⟩
 have HB3:ah (Below w.heap.size w W3):=⟨by rw[← hW3];exact aj (aj (aj (Below.refl _ _) _) _) _⟩
 have hb1:W3.heap[w.heap.size]? = some (.cells #[.string ⟨#[97]⟩,.string ⟨#[120]⟩] 68 (0,0)):=by
  rw[← hW3];exact aU (aU (bI w _) _) _
 have hb2:W3.heap[w.heap.size+1]? = some (.cells #[.int .i64 1,.int .u64 2] 70 (0,0)):=by
  rw[← hW3]
  have:=bI (w.alloc (.cells #[.string ⟨#[97]⟩,.string ⟨#[120]⟩] 68)) (.cells #[.int .i64 1,.int .u64 2] 70)
  rw[World.size_alloc] at this
  exact aU this _
 have hb3:W3.heap[w.heap.size+1+1]? = some (.cells #[.slice (some ⟨w.heap.size,0,none⟩) 1 1,.slice (some ⟨w.heap.size+1,0,none⟩) 1 1] 51 (0,0)):=by
  rw[← hW3]
  have:=bI ((w.alloc (.cells #[.string ⟨#[97]⟩,.string ⟨#[120]⟩] 68)).alloc (.cells #[.int .i64 1,.int .u64 2] 70)) (.cells #[.slice (some ⟨w.heap.size,0,none⟩) 1 1,.slice (some ⟨w.heap.size+1,0,none⟩) 1 1] 51)
  rwa [World.size_alloc,World.size_alloc] at this
 have hC:=Kj mK (x:=rD) hb3 (wL W3 rD (Nat.le_refl 1) (Kj iM (x:=⟨⟨#[97]⟩,⟨#[120]⟩⟩) hb1 (Et W3 _)) (Nat.le_refl 1) (Kj jg (x:=⟨1,2⟩) hb2 (J3 W3 _)))
 have WR:=ah.mk (AO.calls (some ⟨w.heap.size+1+1,0,none⟩) 1 1 [rD] B 0 W3 rfl hC (Nat.le_refl 1) Nh (by decide) (by decide) (HT.o.below HB3.o) (HQ.o.below HB3.o) hWF)
 clear hC hb1 hb2 hb3 hWF
 go_enter Tryz.func12,Tryz.ntmps12
 go_wp2_with (first|(go_at_call 9;(try rw[hW3]);(with_reducible refine WR.o.mono ?_);rintro e w4 ⟨v4,rfl,hr4,hb4⟩;clear hW3;obtain⟨a4,c4,rfl⟩:=Kd.gN hr4 HLN.o;have HR4:=ah.mk (Kd.aX hr4);have HB4:=ah.mk (ak HB3.o hb4);clear hr4 hb4)|(go_at_call 14;(with_reducible refine (PS.calls (some a4) c4 B.length B _ rfl HR4.o.2.2 HR4.o.2.1 HOK.o.1 (Nat.le_trans HOK.o.2 (by decide)) (HQ.o.below HB4.o) (HT.o.below HB4.o) HFO.o).mono ?_);rintro e w5 ⟨A5,c5,rfl,_,_,hb⟩;rw[HRD.o];have HB5:=ah.mk (ak HB4.o hb);have HR5:=ah.mk (Kd.aH HR4.o.2.2 hb);clear hb)|(go_at_call 20;(with_reducible refine (frames.calls (some a4) c4 B.length B _ rfl HR5.o HR4.o.2.1 HOK.o.1 (Nat.le_trans HOK.o.2 (by decide)) (HQ.o.below HB5.o)).mono ?_);rintro e w6 ⟨rfl,hb⟩;rw[HFR.o];have HB6:=ah.mk (ak HB5.o hb);clear hb))
 go_ret
 exact⟨rfl,HB6.o⟩
structure SR where
 f0:List eP
 f1:Int
 f2:Int
def zR:SR:=⟨[],0,0⟩
def kR:Kd SR:=Kd.OO (Kd.pair (Kd.slice 68 iM) (Kd.pair (Kd.int .i64) (Kd.int .u64))) (fun x:SR=>(x.f0,x.f1,x.f2))
theorem Pz:kR.sz=3:=rfl
theorem FT {w:World} {x:SR} {cs:List Value} (h:kR.K w x cs):∃ A0 c0,cs=[.slice A0 x.f0.length c0,.int .i64 x.f1,.int .u64 x.f2]∧x.f0.length≤c0∧iM.C w A0 x.f0.length x.f0:=by
 obtain⟨_,_,rfl,⟨A0,c0,rfl,l0,g0⟩,⟨_,_,rfl,rfl,rfl⟩⟩:=h
 exact⟨A0,c0,rfl,l0,g0⟩
theorem Nn (w:World) (x:SR) {A0:Option Addr} {c0:Nat} (l0:x.f0.length≤c0) (g0:iM.C w A0 x.f0.length x.f0):kR.K w x [.slice A0 x.f0.length c0,.int .i64 x.f1,.int .u64 x.f2]:=
 ⟨[.slice A0 x.f0.length c0],_,rfl,⟨A0,c0,rfl,l0,g0⟩,⟨[.int .i64 x.f1],_,rfl,rfl,rfl⟩⟩
theorem J4 (W:World) (ok:Nat→Prop) (x:SR) {A0:Option Addr} {c0:Nat} (l0:x.f0.length≤c0) (g0:Kd.F iM W ok A0 x.f0.length x.f0):Kd.FK kR W ok x [.slice A0 x.f0.length c0,.int .i64 x.f1,.int .u64 x.f2]:=fun W2 hW=>Nn W2 x l0 (g0 W2 hW)
theorem zZ:(Tryz.prog.info? 92).map (fun i=>(i.zero,i.size,i.bytes))=some (some (.agg #[.slice none 0 0,.int .i64 0,.int .u64 0]),3,40):=by kernel_rfl
def FR:Kd (List SR):=Kd.slice 92 kR
theorem FL:(Tryz.prog.info? 57).map (fun i=>(i.zero,i.size,i.bytes))=some (some (.slice none 0 0),1,24):=by kernel_rfl
theorem uS:∃ i,Tryz.prog.info? 92=some i∧i.size=3:=by
 obtain⟨i,hi,hz⟩:=Option.map_eq_some_iff.1 zZ
 simp only[Prod.mk.injEq] at hz
 exact⟨i,hi,hz.2.1⟩
def yc (xs:List SR) (i:Int):SR:=xs.getD i.toNat zR
theorem O8 {w:World} {A:Option Addr} {n:Nat} {xs:List SR} (h:Kd.C kR w A n xs) (i:Int) (h0:0≤i) (h1:i<n):∃ ad A0 c0,A=some ad∧(∀ j u,[Value.slice A0 (yc xs i).f0.length c0,.int .i64 (yc xs i).f1,.int .u64 (yc xs i).f2][j]? = some u→w.cell? (ad.add (i.toNat*3+j))=some u)∧(yc xs i).f0.length≤c0∧iM.C w A0 (yc xs i).f0.length (yc xs i).f0:=by
 obtain⟨ad,c,e,_,hK,hc0⟩:=Kd.ng h zR i h0 h1
 obtain⟨A0,c0,rfl,l0,g0⟩:=FT hK
 exact⟨ad,A0,c0,e,hc0,l0,g0⟩
def uD (f:List eP) (s:bN):SR:=⟨f,s.f0,s.f1⟩
def jY (x:cB):List SR:=x.f1.map (uD x.f0)
def iE (l:List cB):List SR:=l.flatMap jY
theorem mD (x:cB):(jY x).length=x.f1.length:=List.length_map ..
theorem kF:∀ l:List cB,(iE l).length=tot l
 | []=>rfl
 | x::l=>by rw[show iE (x::l)=jY x++iE l from rfl,List.length_append,mD,kF l,tot]
theorem mY (l:List cB) (k:Nat) (h:k<l.length):iE (l.take (k+1))=iE (l.take k)++jY (aK l (k:Int)):=by
 rw[dZ h,List.take_succ_eq_append_getElem h,iE,List.flatMap_append,List.flatMap_singleton]
 rfl
theorem xu (x:cB) (k:Nat) (h:k<x.f1.length):jY ⟨x.f0,x.f1.take (k+1)⟩=jY ⟨x.f0,x.f1.take k⟩++[uD x.f0 (aR x.f1 (k:Int))]:=by
 have e:aR x.f1 (k:Int)=x.f1[k]:=by simp[aR,List.getD_eq_getElem?_getD,List.getElem?_eq_getElem h]
 rw[e,jY,jY]
 simp only
 rw[List.take_succ_eq_append_getElem h,List.map_append]
 rfl
def jh (m:Nat) (xs:List SR) (j:Nat):List SR:=(xs.drop (j*m)).take m
def zT (m:Nat) (xs:List SR) (k:Nat):List (List SR):=(List.range k).map (jh m xs)
def jw (m n:Nat):Nat:=(n+m-1) / m
def zU (m:Nat) (xs:List SR):List (List SR):=zT m xs (jw m xs.length)
theorem mh {m n j:Nat} (hm:1≤m):j<jw m n↔j*m<n:=by
 unfold jw
 rw[← Nat.succ_le_iff,Nat.le_div_iff_mul_le (by omega),Nat.succ_mul]
 omega
theorem yS {m n k:Nat} (hm:1≤m) (h1:n≤k*m) (h2:k=0∨(k-1)*m<n):jw m n=k:=by
 rcases Nat.lt_trichotomy (jw m n) k with h | h | h
 ·rcases h2 with rfl | h2
  ·omega
  ·have:=(mh hm).2 h2
   omega
 ·exact h
 ·have:=(mh hm).1 h
  omega
theorem sF (m:Nat) (xs:List SR) (j:Nat):(jh m xs j).length=min m (xs.length-j*m):=by
 rw[jh,List.length_take,List.length_drop]
theorem GH (m:Nat) (xs:List SR) (k:Nat):zT m xs (k+1)=zT m xs k++[jh m xs k]:=by
 rw[zT,List.range_succ,List.map_append]
 rfl
theorem LU {m:Nat} {xs:List SR} (hm:1≤m):∀ p∈zU m xs,1≤p.length∧p.length≤m:=fun p hp=>by
 obtain⟨j,hj,rfl⟩:=List.mem_map.1 hp
 have h1:=(mh hm).1 (List.mem_range.1 hj)
 rw[sF]
 omega
theorem sj {m:Nat} (n:Nat) (hm:1≤m):jw m n≤n:=by
 rw[jw]
 rcases Nat.eq_zero_or_pos n with h | h
 ·rw[h,Nat.zero_add]
  exact Nat.le_of_eq (Nat.div_eq_of_lt (by omega))
 ·refine (Nat.div_le_iff_le_mul_add_pred (by omega)).2 ?_
  have:n≤m*n:=Nat.le_mul_of_pos_left _ hm
  omega
theorem JC (m:Nat) (xs:List SR) (hm:1≤m):(zU m xs).length≤xs.length:=by
 rw[zU,zT,List.length_map,List.length_range]
 exact sj _ hm
noncomputable def pJ (l:List cB) (q:Int):List (List SR) × Int:=if gQ l=true∧1≤q then (zU q.toNat (iE l),0) else ([],1)
theorem JD {m:Nat} {xs:List SR} {p:List SR} (hp:p∈zU m xs):∀ x∈p,x∈xs:=fun x hx=>by
 obtain⟨j,hj,rfl⟩:=List.mem_map.1 hp
 exact List.mem_of_mem_drop (List.mem_of_mem_take hx)
attribute [local go_sem] Oper.semAt_some
abbrev oZ (m len:Nat):={ j:Nat // j*m<len }
def pI (m len j:Nat):Nat:=min m (len-j*m)
theorem Kq (m:Nat) (xs:List SR) (j:Nat):(xs.take (j*m+pI m xs.length j)).drop (j*m)=jh m xs j:=by
 rw[List.drop_take,Nat.add_sub_cancel_left,jh,pI,List.take_eq_take_iff,List.length_drop]
 omega
def lH {m len:Nat} (ys:List (oZ m len)):List Nat:=ys.map fun y=>y.1
theorem p9 {m len:Nat} (ys:List (oZ m len)) (x:oZ m len):lH (ys++[x])=lH ys++[x.1]:=by simp[lH]
theorem qM {m len:Nat} (ys:List (oZ m len)):(lH ys).length=ys.length:=by simp[lH]
def Lr (m len:Nat) (J Jx:List (oZ m len)→World→Prop) (e:Ending) (W':World):Prop:=(∃ v,e = .returned v)∧((∃ ys:List (oZ m len),lH ys=List.range (jw m len)∧J ys W')∨(∃ pre,True∧Jx pre W'))
def Cb (A:Option Addr) (m len:Nat) (x:oZ m len):Array Value := #[.slice (A.map (·.add (x.1*m*3))) (pI m len x.1) (pI m len x.1)]
theorem Pg (ad:Addr) (len c lo hi:Nat) (h1:lo<hi) (h2:hi≤len) (hc:len≤c) (i j:Int) (hi':i=(lo:Int)) (hj':j=(hi:Int)) (W:World) :
 (Instr.slice 57 (.slice (some ad) len c) (some (.int .i64 i)) (some (.int .i64 j)) (some (.int .i64 j))).run Tryz.prog W = .ok (.slice (some (ad.add (lo*3))) (hi-lo) (hi-lo)) W:=by
 subst hi' hj'
 obtain⟨i0,hi0,hsz⟩:=uS
 have hu:=Tryz.underlying57
 have hel:Tryz.prog.elem 57=92:=by simp[Program.elem,hu]
 have hu':Tryz.prog.underlying 57=some (.slice (Tryz.prog.elem 57)):=by rw[hel];exact hu
 rw[run_slice_lhm W 57 (some ad) len c hu' .i64 .i64 .i64 (lo:Int) (hi:Int) (hi:Int) (by omega) (by omega) (by omega) (by omega),hel]
 simp[sizeOf,typeInfo,hi0,hsz,sliced,Result.andThen]
 omega
theorem P5 (ad:Addr) (len c lo:Nat) (h1:lo≤len) (i:Int) (hi':i=(lo:Int)) :
 ∃ (A:Option Addr) (c':Nat),∀ W:World,(Instr.slice 57 (.slice (some ad) len c) (some (.int .i64 i)) none none).run Tryz.prog W = .ok (.slice A (len-lo) c') W:=by
 subst hi'
 refine⟨if c=lo then some ad else some (ad.add (lo*3)),c-lo,fun W=>?_⟩
 obtain⟨i0,hi0,hsz⟩:=uS
 have hu:=Tryz.underlying57
 have hel:Tryz.prog.elem 57=92:=by simp[Program.elem,hu]
 have hu':Tryz.prog.underlying 57=some (.slice (Tryz.prog.elem 57)):=by rw[hel];exact hu
 rw[run_slice_l W 57 (some ad) len c hu' .i64 (lo:Int) (by omega) (by omega),hel]
 simp[sizeOf,typeInfo,hi0,hsz,sliced,Result.andThen]
theorem Gx (n:Nat) (hn:1≤n) (l B1 B2:Nat) (A:Option Addr) (m len c:Nat) (hm1:1≤m) (hm2:m<9223372036854775808) (hA:0<len→∃ ad,A=some ad) (hlen:len≤1000000) (hc:len≤c) (J Jx:List (oZ m len)→World→Prop) (hJ:∀ pre W (q:Nat),J pre W→J pre (W.drewN q))
 (hY:∀ pre x W,J pre W→pre.length<jw m len→YieldAt Fence.wide (n-1) Tryz.prog l (Cb A m len x) W fun e W'=>
  (e = .returned (.bool true)∧J (pre++[x]) W'∧iC B1 B2 W W')∨(e = .returned (.bool false)∧Jx (pre++[x]) W'))
 (W:World) (hB1:W.cell? ⟨B1,0,none⟩=some (.slice A len c)) (hB2:W.cell? ⟨B2,0,none⟩=some (.int .i64 (m:Int))) (h0:J [] W) :
 CallsIn Fence.wide n Tryz.prog 89 #[.func (.yield l) #[] #[],.pointer (some ⟨B1,0,none⟩),.pointer (some ⟨B2,0,none⟩)] W (Lr m len J Jx):=by
 refine callsIn_of_wp Tryz.func89 rfl trivial ?_ rfl
 simp only[Tryz.ntmps89,List.size_toArray,List.length_cons,List.length_nil,Nat.reduceAdd,Nat.reduceSub,Array.replicate_succ,Array.replicate_zero,List.push_toArray,List.append_toArray,List.nil_append,List.cons_append]
 gi_wp2
 gi_loopw [4] (fun i wr=>∃ (k p:Nat) (pre:List (oZ m len)),p=k*m∧(k=0∨(k-1)*m<len)∧i = .int .i64 (p:Int)∧lH pre=List.range k∧J pre wr∧iC B1 B2 W wr)
  (fun i _=>len+m-(intOf i).toNat)
 case atStart=>exact⟨0,0,[],by omega,.inl rfl,rfl,rfl,h0,iC.refl _ _ _⟩
 case round=>
  obtain⟨k,p,pre,hp,hkl,rfl,hpre,hJs,hnx⟩:=hrel
  have b1:=hnx.cell1.trans hB1
  have b2:=hnx.yD.trans hB2
  by_cases hlt:p<len
  ·obtain⟨ad,rfl⟩:=hA (by omega)
   have hkp:k*m<len:=hp ▸ hlt
   have hp1:p+m=(k+1)*m:=by rw[Nat.succ_mul,hp]
   have hpm:p=0∨m≤p:=by
    rcases Nat.eq_zero_or_pos k with h | h
    ·left;rw[hp,h,Nat.zero_mul]
    ·right;rw[hp];exact Nat.le_mul_of_pos_left _ h
   have hlen1:pre.length<jw m len:=by
    have:=qM pre
    rw[hpre,List.length_range] at this
    have:=(mh hm1).2 hkp
    omega
   obtain⟨q,hq⟩:∃ q,pI m len k=q:=⟨_,rfl⟩
   have hq1:1≤q∧q≤m∧p+q≤len∧(q=m∨q=len-p):=by unfold pI at hq;rw[← hp] at hq;omega
   have hqm:min (m:Int) ((len-p:Nat):Int)=(q:Int):=by unfold pI at hq;rw[← hp] at hq;omega
   obtain⟨AT,cT,hT⟩:=P5 ad len c p (by omega) (p:Int) rfl
   have hmid:=fun W=>Pg ad len c p (p+q) (by omega) (by omega) hc (p:Int) ((p:Int)+(q:Int)) rfl (by omega) W
   rw[Nat.add_sub_cancel_left] at hmid
   have hq0:=hq1.1
   have hq2:=hq1.2.1
   have hq3:=hq1.2.2.1
   have hw1:IntKind.i64.wrap ((p:Int)+(q:Int))=(p:Int)+(q:Int):=by rw[IntKind.wrap_i64];omega
   have hw2:IntKind.i64.wrap ((p:Int)+(m:Int))=(p:Int)+(m:Int):=by rw[IntKind.wrap_i64];omega
   have hkl2:(p:Int)<(len:Int):=by omega
   have HN:=ah.mk hnx
   have HQ:=ah.mk hq
   have HP:=ah.mk hpre
   have HJ:=ah.mk hJs
   have HQI:=ah.mk hq1
   have HL1:=ah.mk hlen1
   have HPK:=ah.mk hp
   have HP1:=ah.mk hp1
   have HKP:=ah.mk hkp
   have HMP:=ah.mk hpm
   clear hnx hq1 hJs hpre hq hlen1 hp hp1 hkp hpm hkl
   gi_wp2
   refine wpIn_wide.2 ?_
   by_cases hm:len-p<m
   ·obtain rfl:q=len-p:=by have:=HQI.o;omega
    go_quiet (fail)
    generalize hwq:wr.drewN nq=wq
    have HJq:ah (J pre wq):=⟨hwq ▸ hJ _ _ _ HJ.o⟩
    have HNq:ah (iC B1 B2 W wq):=⟨hwq ▸ HN.o⟩
    have b1q:wq.cell? ⟨B1,0,none⟩=some (.slice (some ad) len c):=hwq ▸ b1
    have b2q:wq.cell? ⟨B2,0,none⟩=some (.int .i64 (m:Int)):=hwq ▸ b2
    clear hwq b1 b2 hm
    obtain⟨fn,tmps,assign,body,hy,hR⟩:=hY pre ⟨k,HKP.o⟩ wq HJq.o HL1.o
    dsimp only[Cb,Option.map_some] at hy
    rw[HQ.o,← HPK.o] at hy
    gi_wp2
    refine hR.mono ?_
    rintro e W3 (⟨rfl,hJ3,hk3⟩ | ⟨rfl,hJx3⟩)
    ·have b2r:=hk3.yD.trans b2q
     have HJ3:=ah.mk hJ3
     have HN3:=ah.mk (HNq.o.trans hk3)
     clear hJ3 hk3
     gi_wp2
     go_roundw
     case rel=>exact⟨k+1,p+m,pre++[⟨k,HKP.o⟩],HP1.o,.inr (by rw[Nat.add_sub_cancel];exact HKP.o),by first | rfl | (congr 1;omega)|(simp;omega),by rw[p9,HP.o,List.range_succ],HJ3.o,HN3.o⟩
     case measure=>simp[intOf];omega
    ·gi_wp2
     refine bodyPost_ret (results_none rfl _ _ _) rfl ?_
     exact⟨⟨_,rfl⟩,.inr ⟨_,trivial,hJx3⟩⟩
   ·obtain rfl:q=m:=by have:=HQI.o;omega
    go_quiet (fail)
    generalize hwq:wr.drewN nq=wq
    have HJq:ah (J pre wq):=⟨hwq ▸ hJ _ _ _ HJ.o⟩
    have HNq:ah (iC B1 B2 W wq):=⟨hwq ▸ HN.o⟩
    have b1q:wq.cell? ⟨B1,0,none⟩=some (.slice (some ad) len c):=hwq ▸ b1
    have b2q:wq.cell? ⟨B2,0,none⟩=some (.int .i64 (q:Int)):=hwq ▸ b2
    clear hwq b1 b2 hm
    obtain⟨fn,tmps,assign,body,hy,hR⟩:=hY pre ⟨k,HKP.o⟩ wq HJq.o HL1.o
    dsimp only[Cb,Option.map_some] at hy
    rw[HQ.o,← HPK.o] at hy
    gi_wp2
    refine hR.mono ?_
    rintro e W3 (⟨rfl,hJ3,hk3⟩ | ⟨rfl,hJx3⟩)
    ·have b2r:=hk3.yD.trans b2q
     have HJ3:=ah.mk hJ3
     have HN3:=ah.mk (HNq.o.trans hk3)
     clear hJ3 hk3
     gi_wp2
     go_roundw
     case rel=>exact⟨k+1,p+q,pre++[⟨k,HKP.o⟩],HP1.o,.inr (by rw[Nat.add_sub_cancel];exact HKP.o),by first | rfl | (congr 1;omega)|(simp;omega),by rw[p9,HP.o,List.range_succ],HJ3.o,HN3.o⟩
     case measure=>simp[intOf];omega
    ·gi_wp2
     refine bodyPost_ret (results_none rfl _ _ _) rfl ?_
     exact⟨⟨_,rfl⟩,.inr ⟨_,trivial,hJx3⟩⟩
  ·have hlt':¬ (p:Int)<(len:Int):=by omega
   have HN:=ah.mk hnx
   have HJ:=ah.mk hJs
   have HP:ah (lH pre=List.range (jw m len)):=⟨by rw[hpre,yS hm1 (hp ▸ Nat.not_lt.1 hlt) hkl]⟩
   clear hnx hJs hpre hp hkl
   gi_wp2
   go_end0
   exact⟨⟨_,rfl⟩,.inl ⟨pre,HP.o,HJ.o⟩⟩
theorem zM (n:Nat) (hn:1≤n) (B1 B2:Nat) (A:Option Addr) (m len c:Nat) (hm1:1≤m) (hm2:m<9223372036854775808) (hA:0<len→∃ ad,A=some ad) (hlen:len≤1000000) (hc:len≤c) (w:World) (h1:B1<w.heap.size) (h2:B2<w.heap.size) (hB1:w.cell? ⟨B1,0,none⟩=some (.slice A len c)) (hB2:w.cell? ⟨B2,0,none⟩=some (.int .i64 (m:Int))) :
 SeqStopsK Fence.wide n Tryz.prog 89 #[.pointer (some ⟨B1,0,none⟩),.pointer (some ⟨B2,0,none⟩)] (Cb A m len) (iC B1 B2) (fun ys=>lH ys=List.range (jw m len)) (fun _=>True) (jw m len) w:=by
 intro l J Jx W hb hJ _ hY h0
 exact Gx n hn l B1 B2 A m len c hm1 hm2 hA hlen hc J Jx (fun pre W' q h=>hJ pre W' _ none h ⟨rfl,rfl,rfl,Nat.le_refl _,fun _ _ _=>rfl⟩ (fun _ e=>by cases e)) hY W ((hb.cell (p:=⟨B1,0,none⟩) h1).trans hB1) ((hb.cell (p:=⟨B2,0,none⟩) h2).trans hB2) h0
def Qf (w w':World):Prop:=∀ a v,w.cell? a=some v→w'.cell? a=some v
def II {α:Type} (d:Kd α):Prop:=∀ (w w':World) (x:α) (cs:List Value),Qf w w'→d.K w x cs→d.K w' x cs
theorem OQ {α:Type} {d:Kd α} (hd:II d) {w w':World} {A:Option Addr} {n:Nat} {xs:List α} (h:d.C w A n xs) (hu:Qf w w'):d.C w' A n xs:=⟨h.1,h.2.1,fun hn=>by
 obtain⟨ad,e,hc⟩:=h.2.2 hn
 refine⟨ad,e,fun j p hj=>?_⟩
 obtain⟨c,hs,hr,hcell⟩:=hc j p hj
 exact⟨c,hs,hd _ _ _ _ hu hr,fun i u hu'=>hu _ _ (hcell i u hu')⟩⟩
theorem Qs:II iM:=fun w w' x cs _ h=>by
 rw[wM h]
 exact Et w' x
theorem Qt:II kR:=fun w w' x cs hu h=>by
 obtain⟨A0,c0,rfl,l0,g0⟩:=FT h
 exact Nn w' x l0 (OQ Qs g0 hu)
theorem Ny:II FR:=fun w w' x cs hu h=>by
 obtain⟨A,c,rfl,l0,g0⟩:=h
 exact⟨A,c,rfl,l0,OQ Qt g0 hu⟩
theorem OJ {W:World} {r:Nat} {o:Obj} (ho:o.isCells=false):Qf (W.putObj r o) W:=fun a v h=>by
 by_cases hr:r=a.block
 ·subst hr
  by_cases hl:a.block<W.heap.size
  ·have h1:=World.putObj_heap_same (o:=o) hl
   unfold World.cell? at h
   rw[h1] at h
   cases o with
   | cells c t f=>cases ho
   | _=>cases h
  ·unfold World.cell? at h ⊢
   rw[show (W.putObj a.block o).heap[a.block]? = W.heap[a.block]? from by simp[World.putObj,hl]] at h
   exact h
 ·rw[← h]
  exact (World.cell?_of_block (World.putObj_heap_other (Ne.symm hr))).symm
theorem IY {α:Type} {d:Kd α} (hd:II d) {e base:Nat} {w1 w2:World} {v:Value} {xs:List α} {row:Option Nat} {ok:Nat→Prop} (h:Kd.N d e w1 base ok v xs) (hg:w1.grownBy w2 row) (hr:∀ r,row=some r→∃ o:Obj,w1.heap[r]? = some o∧o.isCells=false):Kd.N d e w2 base ok v xs:=by
 have hty:=Kd.uJ h
 obtain⟨h0,rows,hl,hR,hf⟩:=h
 have hne:∀ r,row=some r→v.ownBlock≠some r:=fun r he ho=>by
  obtain⟨cells,hc⟩:=hty r ho
  obtain⟨o,h1,h2⟩:=hr r he
  rw[hc] at h1
  injection h1 with h1
  subst h1
  cases h2
 refine⟨h0,rows,hl,Kd.uL hR hg (fun k hk he=>hne k he.symm hk.symm),fun j x c hx hc W' hW=>?_⟩
 have hFK:=hf j x c hx hc
 cases row with
 | none=>exact Kd.Ba hFK hg (fun k _ he=>by cases he) W' hW
 | some r=>
   obtain⟨o,ho,hoc⟩:=hr r rfl
   have hrl:r<w1.heap.size:=(Array.getElem?_eq_some_iff.1 ho).1
   refine hd _ _ _ _ (OJ (r:=r) hoc) (hFK (W'.putObj r o) (fun k hk hlt=>?_))
   by_cases hkr:k=r
   ·subst hkr
    have h1:=hW k hk (Nat.lt_of_lt_of_le hrl hg.size)
    have h2:k<W'.heap.size:=by
     rw[Array.getElem?_eq_getElem (Nat.lt_of_lt_of_le hrl hg.size)] at h1
     exact (Array.getElem?_eq_some_iff.1 h1).1
    rw[World.putObj_heap_same h2,ho]
   ·rw[World.putObj_heap_other hkr,hW k hk (Nat.lt_of_lt_of_le hlt hg.size)]
    exact hg.block k hlt (fun e=>hkr (Option.some.inj e))
theorem NC.calls (A0:Option Addr) (c0 n:Nat) (l0:List SR) (okp:Nat→Prop) (w:World) (hn:l0.length=n) (hr0:Kd.F kR w okp A0 n l0) (hlen:n≤1000000) :
 Calls Tryz.prog 56 #[.slice A0 n c0] w fun e w'=>∃ v0_:Value,e = .returned (v0_)∧Kd.N kR 92 w' w.heap.size (fun k=>(okp k∧k<w.heap.size)∨w.heap.size≤k) v0_ l0∧Below w.heap.size w w':=by
 subst hn
 have HR:=ah.mk (Kd.mE hr0)
 have HL:=ah.mk hlen
 have hnil:=fun W n c=>Lib.run_eql_slice_nil (P:=Tryz.prog) W 57 92 A0 n c 0 0 Tryz.underlying57
 clear hr0 hlen
 cases A0 with
 | none=>
   have h0:l0=[]:=by
    rcases Nat.eq_zero_or_pos l0.length with h0 | h0
    ·exact List.eq_nil_of_length_eq_zero h0
    ·obtain⟨ad,e,_⟩:=(Kd.vv HR.o).2.2 h0
     cases e
   subst h0
   go_enter Tryz.func56,Tryz.ntmps56
   go_wp2
   go_ret
   exact⟨_,rfl,Kd.kV _ _ _ _ _,Below.refl _ _⟩
 | some ad=>
   have hE:=ah.mk (Kd.Qw (og kR 92 w.heap.size w (fun k=>(okp k∧k<w.heap.size)∨w.heap.size≤k) (Nat.le_refl _) (.inr (Nat.le_refl _))))
   have HFA:=ah.mk (Kd.Fp HR.o (.cells #[] 92))
   go_enter Tryz.func56,Tryz.ntmps56
   go_wp2_with ((with_reducible refine bM (N:=7) rfl ?_);go_must (refine Kd.xP kR (w0:=w) w.heap.size rfl (.tmp 5) (.tmp 6) 57 92 (.agg #[.slice none 0 0,.int .i64 0,.int .u64 0]) 40 rfl Tryz.underlying57 zZ rfl (by decide) (by omega) _ [] l0 (some ad) l0.length c0 (fun k=>(okp k∧k<w.heap.size)∨w.heap.size≤k) (fun k=>okp k∧k<w.heap.size) rfl rfl hE.o HFA.o ?ho ?hf (aj (Below.refl _ _) _) ?hb ?hl ?_);(case ho=>exact fun k hk=>⟨.inl hk,fun e=>by have h1:=hk.2;have e:some k=some w.heap.size:=e;injection e with e;omega⟩);(case hf=>exact fun k hk => .inr (by rw[World.size_alloc] at hk;omega));(case hb=>simp);(case hl=>(have:=HL.o;simp;omega));intro v1 w1 hR1 hB1 hg_ ho_;rw[List.nil_append] at hR1;have HR1:=ah.mk hR1;have HB1:=ah.mk hB1;clear hR1 hB1 hg_ ho_)
   go_ret
   exact⟨_,rfl,HR1.o,HB1.o⟩
theorem LQ.calls (A1:Option Addr) (n1 c1 m:Nat) (hm:1≤m) (W:World) :
 Calls Tryz.prog 55 #[.slice A1 n1 c1,.int .i64 (m:Int)] W fun e w'=>e = .returned (.func (.func 89) #[] #[.pointer (some ⟨W.heap.size,0,none⟩),.pointer (some ⟨W.heap.size+1,0,none⟩)])∧w'=(W.alloc (.cells #[.slice A1 n1 c1] 57)).alloc (.cells #[.int .i64 (m:Int)] 3):=by
 have hz:¬ (m:Int)<1:=by omega
 have hx:((W.alloc (.cells #[.slice A1 n1 c1] 57)).alloc (.cells #[.int .i64 (m:Int)] 3)).cell? ⟨W.heap.size+1,0,none⟩=some (.int .i64 (m:Int)):=by
  have h0:=bI (W.alloc (.cells #[.slice A1 n1 c1] 57)) (.cells #[.int .i64 (m:Int)] 3)
  rw[World.size_alloc] at h0
  exact (av h0 0).trans rfl
 go_enter Tryz.func55,Tryz.ntmps55
 go_wp2
 go_ret
 exact⟨rfl,rfl⟩
attribute [local go_sem] Oper.semAt_some
def M8 (bs:Nat) (v0:Value) (bx:Nat) (q0 q1:Value) (W:World):Prop:=W.cell? ⟨bs,0,none⟩=some v0∧W.cell? ⟨bx,0,none⟩=some q0∧W.cell? ⟨bx,1,none⟩=some q1
theorem Pk.calls (A:Option Addr) (c n:Nat) (l:List cB) (q:Int) (eb:List (List SR)) (ee:Int) (w:World) (hn:l.length=n) (hr:Kd.C mK w A n l) (hc:n≤c) (hok:Hq l) (hl:n≤1000) (ht:tot l≤10000) (hq:q<9223372036854775808) (he:pJ l q=(eb,ee)) :
 Calls Tryz.prog 25 #[.slice A n c,.int .i64 q] w fun e w'=>∃ v:Value,e = .returned (.tuple #[v,.int .i64 ee])∧Kd.N FR 57 w' w.heap.size (fun _=>True) v eb∧Below w.heap.size w w':=by
 subst hn
 have HR:=ah.mk hr
 have HCAN:=ah.mk (gQ.calls A c l.length l w rfl hr hc hok (by omega))
 have HLB:ah (∀ x∈l,x.f0.length≤1000000∧x.f1.length≤1000000):=⟨fun x hx=>⟨(hok x hx).2.1,(hok x hx).2.2.1⟩⟩
 clear hr hok
 by_cases hcan:gQ l=true
 rotate_left
 ·rw[pJ,if_neg (fun h=>hcan h.1)] at he
  cases he
  rw[Bool.not_eq_true] at hcan
  rw[hcan] at HCAN
  clear HLB HR
  go_enter Tryz.func25,Tryz.ntmps25
  go_wp2_with (first|(go_at_call 53;(with_reducible refine HCAN.o.mono ?_);rintro e w1 ⟨rfl,hb⟩;have HB1:=ah.mk hb;clear hb))
  refine bodyPost_ret (results_tmp2 rfl _ _ _) rfl ?_
  exact⟨_,rfl,Kd.kV _ _ _ _ _,HB1.o⟩
 ·rw[hcan] at HCAN
  by_cases hq1:q<1
  ·rw[pJ,if_neg (fun h=>by have:=h.2;omega)] at he
   cases he
   clear HLB HR
   go_enter Tryz.func25,Tryz.ntmps25
   go_wp2_with (first|(go_at_call 53;(with_reducible refine HCAN.o.mono ?_);rintro e w1 ⟨rfl,hb⟩;have HB1:=ah.mk hb;clear hb))
   refine bodyPost_ret (results_tmp2 rfl _ _ _) rfl ?_
   exact⟨_,rfl,Kd.kV _ _ _ _ _,HB1.o⟩
  ·rw[pJ,if_pos ⟨hcan,by omega⟩] at he
   cases he
   obtain⟨m,rfl⟩:∃ m:Nat,q=(m:Int):=⟨q.toNat,by omega⟩
   rw[Int.toNat_natCast]
   have hm1:1≤m:=by omega
   have hm2:m<9223372036854775808:=by omega
   have HTT:ah (tot l≤10000):=⟨ht⟩
   clear hcan ht hq
   refine (callsIn_wide (n:=5)).1 (callsIn_of_wp_marks Tryz.func25 rfl trivial ?_ rfl)
   simp only[Tryz.ntmps25,List.size_toArray,List.length_cons,List.length_nil,Nat.reduceAdd,Nat.reduceSub,Array.replicate_succ,Array.replicate_zero,List.push_toArray,List.append_toArray,List.nil_append,List.cons_append]
   refine wpIn_wide.2 ?_
   go_wp2_with (first|(go_at_call 53;(with_reducible refine HCAN.o.mono ?_);rintro e w1 ⟨rfl,hb⟩;have HB1:=ah.mk hb;clear hb))
   clear HCAN
   go_loopg [6,22] l.length (fun kx s6 s22 wr=>∃ k:Nat,s22 = .int .i64 k∧k≤l.length∧l.length-k≤kx∧ah (Kd.N kR 92 wr w.heap.size (fun _=>True) s6 (iE (l.take k)))∧ah (Below w.heap.size w wr))
   case atStart=>exact⟨0,rfl,Nat.zero_le _,by omega,⟨Kd.kV _ _ _ _ _⟩,HB1⟩
   case round=>
    obtain⟨k,rfl,hk,hkx,HN,HB⟩:=hrel
    clear HB1
    obtain⟨wo,hwo⟩:∃ wo,wo=wr:=⟨_,rfl⟩
    subst hwo
    by_cases hlt:k<l.length
    ·obtain⟨ad,A0,c0,A3,c3,rfl,x0,x1,l0,g0,l3,g3⟩:=iR HR.o (k:Int) (by omega) (by omega)
     rw[Int.toNat_natCast] at x0 x1
     replace x0:=aV HB.o x0
     replace x1:=aV HB.o x1
     have HWS:ah (w.heap.size≤wo.heap.size):=⟨HB.o.size⟩
     have HRT:=ah.mk (mY l k hlt)
     have hxl:(aK l (k:Int)).f0.length≤1000000∧(aK l (k:Int)).f1.length≤1000000:=HLB.o _ (by rw[dZ hlt];exact List.getElem_mem hlt)
     have HTK:ah ((iE (l.take k)).length+(aK l (k:Int)).f1.length≤10000):=⟨by
      have h1:=lM l (k+1)
      rw[← kF,mY l k hlt,List.length_append,mD] at h1
      have:=HTT.o
      omega⟩
     generalize aK l (k:Int)=x at *
     have HXL:=ah.mk hxl
     have hkz:(k:Int)<(l.length:Int):=by omega
     have HG0:=ah.mk g0
     have HG3:=ah.mk g3
     have HL0:=ah.mk l0
     have HBK:=ah.mk (bI wo (.cells #[.slice A0 x.f0.length c0,.slice A3 x.f1.length c3] 51 (0,0)))
     have HWA:=ah.mk (aj HB.o (.cells #[.slice A0 x.f0.length c0,.slice A3 x.f1.length c3] 51 (0,0)))
     have HNA:=ah.mk (Kd.iJ HN.o (.cells #[.slice A0 x.f0.length c0,.slice A3 x.f1.length c3] 51 (0,0)))
     have HSA:ah ((wo.alloc (.cells #[.slice A0 x.f0.length c0,.slice A3 x.f1.length c3] 51 (0,0))).heap.size=wo.heap.size+1):=⟨World.size_alloc ..⟩
     clear g0 g3 l0 l3 hxl
     generalize hn1:x.f1.length=n1 at *
     generalize hn0:x.f0.length=n0 at *
     have HN1:=ah.mk hn1
     have HN0:=ah.mk hn0
     have hn1b:n1≤1000000:=HXL.o.2
     clear hn1 hn0
     obtain⟨W1,hW1⟩:∃ W1,W1=wo.alloc (.cells #[.slice A0 n0 c0,.slice A3 n1 c3] 51 (0,0)):=⟨_,rfl⟩
     rw[← hW1] at HBK HWA HNA HSA
     have HW1:=ah.mk hW1
     clear hW1
     go_wp2_with fail
     rw[← HW1.o]
     go_loopg [6,29] n1 (fun ky s6 s29 wy=>∃ j:Nat,s29 = .int .i64 j∧j≤n1∧n1-j≤ky∧ah (Kd.N kR 92 wy w.heap.size (fun _=>True) s6 (iE (l.take k)++jY ⟨x.f0,x.f1.take j⟩))∧ah (wy.heap[wo.heap.size]? = some (.cells #[.slice A0 n0 c0,.slice A3 n1 c3] 51 (0,0)))∧ah (Below w.heap.size w wy))
     case atStart=>exact⟨0,rfl,Nat.zero_le _,by omega,⟨by rw[List.take_zero];simpa [jY] using HNA.o⟩,HBK,HWA⟩
     case round=>
      clear HN HNA HBK HWA
      obtain⟨j,rfl,hj,hjx,HN,HKB,HBy⟩:=hrel
      by_cases hlt2:j<n1
      ·obtain⟨ae,rfl,y0,y1⟩:=gP (Kd.aH HG3.o HBy.o) (j:Int) (by omega) (by omega)
       rw[Int.toNat_natCast] at y0 y1
       have HRS:=ah.mk (xu x j (by have:=HN1.o;omega))
       generalize aR x.f1 (j:Int)=s at *
       obtain⟨R0,hR0⟩:∃ R0,iE (l.take k)++jY ⟨x.f0,x.f1.take j⟩=R0:=⟨_,rfl⟩
       have HR0L:ah (R0.length≤10000):=⟨by
        rw[← hR0,List.length_append,mD,List.length_take]
        have:=HTK.o
        omega⟩
       have HRN:ah (iE (l.take k)++jY ⟨x.f0,x.f1.take (j+1)⟩=R0++[uD x.f0 s]):=⟨by rw[HRS.o,← List.append_assoc,hR0]⟩
       rw[hR0] at HN
       clear hR0 HRS
       have hjz:(j:Int)<(n1:Int):=by omega
       have HNB:=ah.mk (Kd.iJ HN.o (.cells #[.int .i64 s.f0,.int .u64 s.f1] 70 (0,0)))
       have HKA:=ah.mk (aU HKB.o (.cells #[.int .i64 s.f0,.int .u64 s.f1] 70 (0,0)))
       have HKX:=ah.mk (bI wr (.cells #[.int .i64 s.f0,.int .u64 s.f1] 70 (0,0)))
       have HBA:=ah.mk (aj HBy.o (.cells #[.int .i64 s.f0,.int .u64 s.f1] 70 (0,0)))
       have HSX:ah ((wr.alloc (.cells #[.int .i64 s.f0,.int .u64 s.f1] 70 (0,0))).heap.size=wr.heap.size+1):=⟨World.size_alloc ..⟩
       obtain⟨W2,hW2⟩:∃ W2,W2=wr.alloc (.cells #[.int .i64 s.f0,.int .u64 s.f1] 70 (0,0)):=⟨_,rfl⟩
       rw[← hW2] at HNB HKA HKX HBA HSX
       have HW2:=ah.mk hW2
       clear hW2
       go_wp2_with fail
       rw[← HW2.o]
       have HS:ah (M8 wo.heap.size (.slice A0 n0 c0) wr.heap.size (.int .i64 s.f0) (.int .u64 s.f1) W2.drew):=⟨(av HKA.o 0).trans rfl,(av HKX.o 0).trans rfl,(av HKX.o 1).trans rfl⟩
       have CL:ah (Calls Tryz.prog 54 #[.slice A0 n0 c0] W2.drew fun e w'=>∃ v0_:Value,e = .returned (v0_)∧Kd.R iM 68 w' W2.drew.heap.size (fun _=>True) v0_ x.f0∧Below W2.drew.heap.size W2.drew w'):=⟨IK.calls A0 c0 x.f0 n0 W2.drew HN0.o (by rw[HN0.o];exact Kd.aH HG0.o (dG HBA.o)) (by rw[HN0.o];exact HL0.o) (by rw[HN0.o];exact HXL.o.1)⟩
       refine iB (by kernel_rfl) (bq.start (n:=11) (S:=M8 wo.heap.size (.slice A0 n0 c0) wr.heap.size (.int .i64 s.f0) (.int .u64 s.f1)) (by decide) ?_)
       refine bq.take' (i:=0) (v:=?_) rfl rfl (by kernel_rfl) (fun _ _ _ h=>by cases h.1) (Or.inl ⟨by rfl,?_⟩) HS.o ?_
       rotate_left
       ·(intro W' hW';have c0:=hW'.1;have c1:=hW'.2.1;have c2:=hW'.2.2;go_simp;try (with_reducible rfl))
       try simp only[List.setIfInBounds_toArray,List.set_cons_zero,List.set_cons_succ]
       refine bq.take' (i:=1) (v:=?_) rfl rfl (by kernel_rfl) (fun _ _ _ h=>by cases h.1) (Or.inl ⟨by rfl,?_⟩) HS.o ?_
       rotate_left
       ·(intro W' hW';have c0:=hW'.1;have c1:=hW'.2.1;have c2:=hW'.2.2;go_simp;try (with_reducible rfl))
       try simp only[List.setIfInBounds_toArray,List.set_cons_zero,List.set_cons_succ]
       refine bq.take' (i:=2) (v:=?_) rfl rfl (by kernel_rfl) (fun _ _ _ h=>by cases h.1) (Or.inl ⟨by rfl,?_⟩) HS.o ?_
       rotate_left
       ·(intro W' hW';have c0:=hW'.1;have c1:=hW'.2.1;have c2:=hW'.2.2;go_simp;try (with_reducible rfl))
       try simp only[List.setIfInBounds_toArray,List.set_cons_zero,List.set_cons_succ]
       refine bq.take' (i:=4) (v:=?_) rfl rfl (by kernel_rfl) (fun _ _ _ h=>by cases h.1) (Or.inl ⟨by rfl,?_⟩) HS.o ?_
       rotate_left
       ·(intro W' hW';have c0:=hW'.1;have c1:=hW'.2.1;have c2:=hW'.2.2;go_simp;try (with_reducible rfl))
       try simp only[List.setIfInBounds_toArray,List.set_cons_zero,List.set_cons_succ]
       refine bq.take' (i:=5) (v:=?_) rfl rfl (by kernel_rfl) (fun _ _ _ h=>by cases h.1) (Or.inl ⟨by rfl,?_⟩) HS.o ?_
       rotate_left
       ·(intro W' hW';have c0:=hW'.1;have c1:=hW'.2.1;have c2:=hW'.2.2;go_simp;try (with_reducible rfl))
       try simp only[List.setIfInBounds_toArray,List.set_cons_zero,List.set_cons_succ]
       refine bq.take' (i:=6) (v:=?_) rfl rfl (by kernel_rfl) (fun _ _ _ h=>by cases h.1) (Or.inl ⟨by rfl,?_⟩) HS.o ?_
       rotate_left
       ·(intro W' hW';have c0:=hW'.1;have c1:=hW'.2.1;have c2:=hW'.2.2;go_simp;try (with_reducible rfl))
       try simp only[List.setIfInBounds_toArray,List.set_cons_zero,List.set_cons_succ]
       refine bq.take' (i:=7) (v:=?_) rfl rfl (by kernel_rfl) (fun _ _ _ h=>by cases h.1) (Or.inl ⟨by rfl,?_⟩) HS.o ?_
       rotate_left
       ·(intro W' hW';have c0:=hW'.1;have c1:=hW'.2.1;have c2:=hW'.2.2;go_simp;try (with_reducible rfl))
       try simp only[List.setIfInBounds_toArray,List.set_cons_zero,List.set_cons_succ]
       refine bq.one (i:=3) rfl (by kernel_rfl) (by rfl) (fun K1 hK1=>?_)
       go_simp
       refine CL.o.mono ?_
       rintro e w3 ⟨v3,rfl,hr3,hb3⟩
       obtain⟨Al,cl,rfl⟩:=Kd.bD hr3
       rw[HN0.o] at hr3 ⊢
       have HB3:=ah.mk (ak (dG (Below.refl W2.heap.size W2)) hb3)
       have HS3:ah (M8 wo.heap.size (.slice A0 n0 c0) wr.heap.size (.int .i64 s.f0) (.int .u64 s.f1) w3):=⟨aV hb3 HS.o.1,aV hb3 HS.o.2.1,aV hb3 HS.o.2.2⟩
       have HRL:=ah.mk hr3
       refine hK1 _ _ HS3.o ?_
       clear hr3 hb3 hK1 CL
       refine bq.take' (i:=8) (v:=?_) rfl rfl (by kernel_rfl) (fun _ _ _ h=>by cases h.1) (Or.inl ⟨by rfl,?_⟩) HS3.o ?_
       rotate_left
       ·(intro W' hW';have c0:=hW'.1;have c1:=hW'.2.1;have c2:=hW'.2.2;go_simp;try (with_reducible rfl))
       try simp only[List.setIfInBounds_toArray,List.set_cons_zero,List.set_cons_succ]
       refine bq.one (i:=9) rfl (by kernel_rfl) (by rfl) (fun K2 hK2=>?_)
       go_simp
       refine hK2 _ _ ⟨dh _ HS3.o.1,dh _ HS3.o.2.1,dh _ HS3.o.2.2⟩ ?_
       clear hK2
       refine bq.one (i:=10) rfl (by kernel_rfl) (by rfl) (fun K3 hK3=>?_)
       have HFL:ah (Kd.F iM w3 (fun k=>W2.heap.size≤k∧k<w3.heap.size) Al x.f0.length x.f0):=⟨by rw[← HN0.o] at HRL;exact Kd.Qa (Kd.dL (Kd.gM HRL.o) (fun k hk=>⟨hk.2.1,hk.2.2.1⟩))⟩
       have HLL:ah (x.f0.length≤cl):=⟨by rw[← HN0.o] at HRL;exact (Kd.aX HRL.o).2.1⟩
       have HN3:=ah.mk (Kd.iO HNB.o HB3.o)
       have HVL:=ah.mk (Kd.DN HNB.o)
       have HBB:ah (Below w.heap.size w w3):=⟨ak HBA.o HB3.o⟩
       have h0s:w.heap.size≤w3.heap.size:=HBB.o.size
       have HFK:=ah.mk (J4 w3 (fun k=>W2.heap.size≤k∧k<w3.heap.size) (uD x.f0 s) HLL.o HFL.o)
       have HFK2:ah (Kd.FK kR w3 (fun k=>W2.heap.size≤k∧k<w3.heap.size) (uD x.f0 s) [.slice Al n0 cl,.int .i64 s.f0,.int .u64 s.f1]):=⟨by have h1:=HFK.o;rw[show (uD x.f0 s).f0.length=n0 from HN0.o] at h1;exact h1⟩
       refine su (c:=Region.wanted _ _=true) (by rfl) (Kd.iF (ops := #[]) (W:=w3) kR (w0:=w) w.heap.size (by rfl) (.tmp 33) (.tmp 42) 57 92 (.agg #[.slice none 0 0,.int .i64 0,.int .u64 0]) 40 rfl Tryz.underlying57 zZ rfl (by decide) (by decide) u6 R0 (uD x.f0 s) _ (fun _=>True) (fun k=>W2.heap.size≤k∧k<w3.heap.size) rfl rfl HFK2.o ?ap1 ?ap2 HN3.o HBB.o ?ap3 ?ap4 ?ap5)
       case ap1=>exact fun k hk=>⟨trivial,fun e=>by have:=HVL.o k e.symm;omega⟩
       case ap2=>exact fun _ _=>trivial
       case ap3=>exact h0s
       case ap4=>(have:=HR0L.o;omega)
       case ap5=>
        intro v7 w7 hn7 hb7 hg7 hat7
        have HN7:=ah.mk hn7
        have HKB3:=ah.mk (aG HKA.o HB3.o)
        have HKX3:=ah.mk (aG HKX.o HB3.o)
        have HVW:=ah.mk (Kd.DN HN.o)
        have HVB:=ah.mk (Kd.uJ HN3.o)
        have HK7:=ah.mk (dM HKB3.o hg7 (fun e=>by
         obtain⟨cells,h2⟩:=HVB.o _ e.symm
         rw[HKB3.o] at h2
         injection h2 with h2
         injection h2 with _ h2
         exact absurd h2 (by decide)))
        have HX7:=ah.mk (dM HKX3.o hg7 (fun e=>by have:=HVW.o _ e.symm;omega))
        have HS7:ah (M8 wo.heap.size (.slice A0 n0 c0) wr.heap.size (.int .i64 s.f0) (.int .u64 s.f1) w7):=⟨(av HK7.o 0).trans rfl,(av HX7.o 0).trans rfl,(av HX7.o 1).trans rfl⟩
        refine hK3 _ _ HS7.o ?_
        clear hn7 hK3
        simp only[Act.put,List.setIfInBounds_toArray,List.set_cons_zero,List.set_cons_succ]
        refine bq.last rfl (by kernel_rfl) (by rfl) (fun K4 hK4=>?_)
        go_simp
        refine hK4 _ _ ⟨rfl,?_⟩
        clear hK4
        go_wp2
        go_roundg (n1-(j+1))
        case measure=>omega
        case rel=>exact⟨j+1,by go_num,hlt2,Nat.le_refl _,⟨by rw[HRN.o];exact HN7.o⟩,HK7,⟨hb7⟩⟩
      ·obtain rfl:j=n1:=by omega
       have hjz:¬ (j:Int)<(j:Int):=by omega
       have HNK:ah (Kd.N kR 92 wr w.heap.size (fun _=>True) u6 (iE (l.take (k+1)))):=⟨by
        have h1:=HN.o
        rw[← HN1.o,List.take_length] at h1
        rw[HRT.o]
        exact h1⟩
       go_wp2
       go_roundg (l.length-(k+1))
       case measure=>omega
       case rel=>exact⟨k+1,by go_num,hlt,Nat.le_refl _,HNK,HBy⟩
    ·obtain rfl:k=l.length:=by omega
     have hkz:¬ ((l.length:Int)<(l.length:Int)):=by omega
     rw[List.take_length] at HN
     have HRLN:ah ((iE l).length≤10000):=⟨by rw[kF];exact HTT.o⟩
     clear HLB HTT hlt hk hkx HR
     obtain⟨RL,hRLE⟩:∃ RL,iE l=RL:=⟨_,rfl⟩
     rw[hRLE] at HN HRLN
     have HRLE:=ah.mk hRLE
     clear hRLE
     obtain⟨A6,c6,rfl,hc6,_⟩:=Kd.jH HN.o
     have HFA:=ah.mk (Kd.mE (Kd.P9 HN.o))
     clear HN hkz
     go_wp2_with (first|(go_at_call 55;(with_reducible refine (LQ.calls A6 _ c6 m hm1 _).mono ?_);rintro e w5 ⟨rfl,rfl⟩))
     obtain⟨W0,hW0⟩:∃ W0,(((wo.alloc (.cells #[.slice none 0 0] 53)).alloc (.cells #[.slice A6 RL.length c6] 57)).alloc (.cells #[.int .i64 (m:Int)] 3))=W0:=⟨_,rfl⟩
     have hs0:W0.heap.size=wo.heap.size+3:=by rw[← hW0];simp
     have H2W:ah (Below wo.heap.size wo W0):=⟨by rw[← hW0];exact aj (aj (aj (Below.refl _ _) _) _) _⟩
     have HU:ah (W0.heap[wo.heap.size]? = some (.cells #[.slice none 0 0] 53 (0,0))):=⟨by
      rw[← hW0];exact aU (aU (bI _ _) _) _⟩
     have HX1:ah (W0.cell? ⟨wo.heap.size+1,0,none⟩=some (.slice A6 RL.length c6)):=⟨by
      have h0:=bI (wo.alloc (.cells #[.slice none 0 0] 53)) (.cells #[.slice A6 RL.length c6] 57)
      rw[World.size_alloc] at h0
      rw[← hW0]
      exact (av (aU h0 _) 0).trans rfl⟩
     have HX2:ah (W0.cell? ⟨wo.heap.size+1+1,0,none⟩=some (.int .i64 (m:Int))):=⟨by
      have h0:=bI ((wo.alloc (.cells #[.slice none 0 0] 53)).alloc (.cells #[.slice A6 RL.length c6] 57)) (.cells #[.int .i64 (m:Int)] 3)
      rw[World.size_alloc,World.size_alloc] at h0
      rw[← hW0]
      exact (av h0 0).trans rfl⟩
     try rw[World.size_alloc]
     rw[hW0]
     have HBT:=ah.mk (ak HB.o H2W.o)
     have hsw:w.heap.size≤wo.heap.size:=HB.o.size
     have hRL:=HRLN.o
     have HA6:ah (0<RL.length→∃ ad,A6=some ad):=⟨fun h=>by obtain⟨ad,e,_⟩:=(Kd.vv HFA.o).2.2 h;exact⟨ad,e⟩⟩
     have HC6:ah (RL.length≤c6):=⟨hc6⟩
     clear hW0 hc6
     refine wpIn_wide.1 (wpIn_rangeFunc_ownF (F:=Fence.wide) (n:=5) rfl (by decide) (gf:=89) (lb := #[.pointer (some ⟨wo.heap.size+1,0,none⟩),.pointer (some ⟨wo.heap.size+1+1,0,none⟩)]) rfl trivial (enters_of Tryz.func89 (by kernel_rfl) rfl)
      (zM 4 (by decide) (wo.heap.size+1) (wo.heap.size+1+1) A6 m RL.length c6 hm1 hm2 HA6.o (by omega) HC6.o W0 (by omega) (by omega) HX1.o HX2.o) iC.trans (FU (by omega) (by omega)) (Below.refl _ _) (fun _=>rfl)
      (fun pre W=>(∃ vo,W.heap[wo.heap.size]? = some (.cells #[vo] 53 (0,0))∧Kd.N FR 57 W W0.heap.size (fun k=>k≠wo.heap.size) vo ((lH pre).map (jh m RL)))∧But wo.heap.size W0.heap.size W0 W)
      (fun _ _ _=>False) ?own (fun _ _ _ _ _ hs _ _=>hs) ?first _ (fun lp y W K hK=>by dsimp only[Cb];gi_wp2;exact hK) ?body ?done ?stop)
     case own=>
      rintro s W W' row ⟨⟨vo,ho,hv⟩,hb⟩ hg hr
      refine⟨⟨vo,?_,IY Ny hv hg (fun r e=>(hr r e).2)⟩,hb.grown hg (Nat.le_refl _) (fun r e=>(hr r e).1)⟩
      refine (hg.block _ (Array.getElem?_eq_some_iff.1 ho).1 (fun e=>?_)).trans ho
      have:=(hr _ e.symm).1
      omega
     case first=>exact⟨⟨_,HU.o,Kd.kV _ _ _ _ _⟩,But.refl _ _ _⟩
     case stop=>exact fun _ _ _ _ _ _ h=>h.elim
     case done=>
      rintro D ys W hDs hys ⟨⟨vo,ho,hv⟩,hbut⟩ hDn
      have HBn:ah (Below w.heap.size w W):=⟨HBT.o.trans (hbut.below (by omega) (by omega))⟩
      have HVn:ah (Kd.N FR 57 W w.heap.size (fun _=>True) vo (zU m RL)):=⟨by
       rw[hys] at hv
       exact Kd.mF (Kd.zq hv (by omega)) (fun _ _=>trivial)⟩
      have co:W.cell? ⟨wo.heap.size,0,none⟩=some vo:=av ho 0
      clear hbut hv hys
      go_wp2
      refine mM (fun W=>Kd.N FR 57 W w.heap.size (fun _=>True) vo (zU m RL)∧Below w.heap.size w W) (fun W hM=>?_) [D] W (by simp) (fun D' h=>by rw[List.mem_singleton.1 h];exact hDn) (fun D' h W' hM hd=>?_) ⟨HVn.o,HBn.o⟩
      ·exact⟨_,results_tmp2 rfl _ _ _,_,rfl,by rw[HRLE.o];exact hM.1,hM.2⟩
      ·rw[List.mem_singleton] at h
       exact⟨IY Ny hM.1 (grownBy_putObj' W' D' _) (fun r e=>by cases e;exact⟨_,hd,rfl⟩),hM.2.trans (belowK_b (w:=w) (Nat.le_refl _) W' D' _ _ (by omega) hd rfl rfl)⟩
     case body=>
      rintro lp pre ⟨j,hj⟩ W ⟨⟨vo,ho,hv⟩,hbut⟩ hlen
      dsimp only
      obtain⟨qn,hqn⟩:∃ qn,pI m RL.length j=qn:=⟨_,rfl⟩
      have hq2:1≤qn∧j*m+qn≤RL.length:=by rw[← hqn];unfold pI;omega
      have hPM:(RL.take (j*m+qn)).drop (j*m)=jh m RL j:=by rw[← hqn];exact Kq m RL j
      have hpl:(jh m RL j).length=qn:=by rw[sF,← hqn,pI]
      have HFP:ah (Kd.F kR W (fun k=>True∧k<wo.heap.size) (A6.map (·.add (j*m*3))) qn (jh m RL j)):=⟨by
       have h1:=Kd.OX (lo:=j*m) (hi:=j*m+qn) (Kd.zn HFA.o (fun k hk hlt=>(hbut.block k (by omega) (by omega)).trans (H2W.o.block k hlt))) (by omega) hq2.2 HC6.o
       rw[if_neg (by have:=HC6.o;omega),hPM,hpl] at h1
       exact h1⟩
      have hxs:((lH pre).map (jh m RL)).length≤10000:=by
       have h1:=sj RL.length hm1
       rw[List.length_map,qM]
       omega
      have HXN:ah ((lH (pre++[(⟨j,hj⟩:oZ m RL.length)])).map (jh m RL)=(lH pre).map (jh m RL)++[jh m RL j]):=⟨by rw[p9,List.map_append];rfl⟩
      have HBOW:ah (wo.heap.size<W.heap.size):=⟨dO ho⟩
      have HSZ:ah (W0.heap.size≤W.heap.size):=⟨hbut.size⟩
      generalize hpp:jh m RL j=pp at *
      generalize hxx:(lH pre).map (jh m RL)=xx at *
      rw[hqn]
      clear hPM hpp hqn
      refine wpIn_block ?_
      refine lN lp _ (by kernel_rfl) (by kernel_rfl) (bq.start (n:=5) (S:=fun W'=>W'.cell? ⟨wo.heap.size,0,none⟩=some vo) (by decide) ?_)
      have HO:=ah.mk ho
      have HC0:ah (W.drew.cell? ⟨wo.heap.size,0,none⟩=some vo):=⟨av (show W.drew.heap[wo.heap.size]? = _ from ho) 0⟩
      have CL:=ah.mk (NC.calls (A6.map (·.add (j*m*3))) qn qn pp (fun k=>True∧k<wo.heap.size) W.drew hpl (Kd.zm HFP.o) (by omega))
      refine bq.take' (i:=0) (v:=?_) rfl rfl (by kernel_rfl) (fun _ _ _ h=>by cases h.1) (Or.inl ⟨by rfl,?_⟩) HC0.o ?_
      rotate_left
      ·(intro W' hW';have c0:=hW';go_simp;try (with_reducible rfl))
      try simp only[List.setIfInBounds_toArray,List.set_cons_zero,List.set_cons_succ]
      refine bq.take' (i:=1) (v:=?_) rfl rfl (by kernel_rfl) (fun _ _ _ h=>by cases h.1) (Or.inl ⟨by rfl,?_⟩) HC0.o ?_
      rotate_left
      ·(intro W' hW';have c0:=hW';go_simp;try (with_reducible rfl))
      try simp only[List.setIfInBounds_toArray,List.set_cons_zero,List.set_cons_succ]
      refine bq.one (i:=2) rfl (by kernel_rfl) (by rfl) (fun K1 hK1=>?_)
      go_simp
      refine CL.o.mono ?_
      rintro e w3 ⟨v3,rfl,hn3,hb3⟩
      obtain⟨A3,c3,rfl,hc3,_⟩:=Kd.jH hn3
      rw[hpl] at hn3 hc3 ⊢
      have HC3:ah (w3.cell? ⟨wo.heap.size,0,none⟩=some vo):=⟨aV hb3 HC0.o⟩
      have HO3:ah (w3.heap[wo.heap.size]? = some (.cells #[vo] 53 (0,0))):=⟨aG (show W.drew.heap[wo.heap.size]? = _ from ho) hb3⟩
      have HN3:=ah.mk hn3
      have HB3:=ah.mk (ak (dG (Below.refl W.heap.size W)) hb3)
      have HV3:=ah.mk (Kd.iO hv HB3.o)
      have HVL:=ah.mk (Kd.DN hv)
      have HVB:=ah.mk (Kd.zo hv)
      refine hK1 _ _ HC3.o ?_
      clear hn3 hb3 hK1 CL hv
      refine bq.one (i:=3) rfl (by kernel_rfl) (by rfl) (fun K2 hK2=>?_)
      go_simp
      refine hK2 _ _ (dh _ HC3.o) ?_
      clear hK2
      refine bq.one (i:=4) rfl (by kernel_rfl) (by rfl) (fun K3 hK3=>?_)
      have HFK:ah (Kd.FK FR w3 (fun k=>((((True∧k<wo.heap.size)∧k<W.drew.heap.size)∨W.drew.heap.size≤k))∧k<w3.heap.size) pp [.slice A3 qn c3]):=⟨by
       have h1:=Kd.nJ (e:=92) (l:=pp) (A:=A3) (c:=c3) (by omega) (by have h2:=Kd.mE (Kd.P9 HN3.o);rw[← hpl] at h2;exact h2)
       rw[hpl] at h1
       exact h1⟩
      have hs3:W.heap.size≤w3.heap.size:=HB3.o.size
      refine su (c:=Region.wanted _ _=true) (by rfl) (Kd.iF (ops := #[]) (W:=w3) FR (w0:=w3) W0.heap.size (by rfl) (.tmp 50) (.tmp 53) 53 57 (.slice none 0 0) 24 rfl Tryz.underlying53 FL rfl (by decide) (by decide) vo xx pp _ (fun k=>k≠wo.heap.size) (fun k=>((((True∧k<wo.heap.size)∧k<W.drew.heap.size)∨W.drew.heap.size≤k))∧k<w3.heap.size) rfl rfl HFK.o ?ap1 ?ap2 HV3.o (Below.refl _ _) ?ap3 ?ap4 ?ap5)
      case ap1=>
       intro k hk
       have h1:k<wo.heap.size∨W.heap.size≤k:=hk.1.imp (fun h=>h.1.2) (fun h=>h)
       have h2:=HBOW.o
       refine⟨by omega,fun e=>?_⟩
       have h3:=HVL.o k e.symm
       have h4:=HVB.o k e.symm
       omega
      case ap2=>exact fun k hk=>by have h1:=HBOW.o;omega
      case ap3=>(have:=HSZ.o;omega)
      case ap4=>omega
      case ap5=>
       intro v7 w7 hn7 hb7 hg7 hat7
       have HN7:=ah.mk hn7
       have HB7:ah (Below W0.heap.size W w7):=⟨(HB3.o.mono HSZ.o).trans hb7⟩
       have HO7:ah (w7.heap[wo.heap.size]? = some (.cells #[vo] 53 (0,0))):=⟨(hb7.block _ (by omega)).trans HO3.o⟩
       have HMK:ah (∀ (i:Nat) (o:Obj),W.heap[i]? = some o→o.isCells=false→w7.heap[i]? = some o):=⟨fun i o hi ho'=>by
        have h1:=(HB3.o.block _ (Array.getElem?_eq_some_iff.1 hi).1).trans hi
        refine (hg7.block i (Array.getElem?_eq_some_iff.1 h1).1 (fun e=>?_)).trans h1
        obtain⟨cells,h2⟩:=Kd.uJ HV3.o i e.symm
        rw[h1] at h2
        injection h2 with h2
        subst h2
        cases ho'⟩
       refine hK3 _ _ (av HO7.o 0) ?_
       clear hn7 hK3
       simp only[Act.put,List.setIfInBounds_toArray,List.set_cons_zero,List.set_cons_succ]
       refine bq.last rfl (by kernel_rfl) (by rfl) (fun K4 hK4=>?_)
       have co:w7.cell? ⟨wo.heap.size,0,none⟩=some vo:=av HO7.o 0
       have fo:w7.frozen? ⟨wo.heap.size,0,none⟩=false:=aC HO7.o 0
       have hv7:=(Kd.OZ HN7.o).2
       obtain⟨n7,A7,c7,rfl⟩:∃ n A c,v7 = .slice A n c:=by obtain⟨A7,c7,h⟩:=Kd.mG HN7.o;exact⟨_,A7,c7,h⟩
       go_simp
       refine hK4 _ _ ⟨rfl,?_⟩
       clear hK4 co fo
       have hsz:=HB7.o.size
       have hbo:=HBOW.o
       refine⟨⟨by simp;omega,fun i o hi ho'=>?_⟩,⟨?_,?_⟩,⟨.slice A7 n7 c7,bK HO7.o 0 _ rfl,?_⟩,?_⟩
       ·refine (Below.heap_setCell w7 ⟨wo.heap.size,0,none⟩ _ i (fun e=>?_)).trans (HMK.o i o hi ho')
        have e':i=wo.heap.size:=e
        subst e'
        rw[HO.o] at hi
        injection hi with hi
        subst hi
        cases ho'
       ·exact (Below.heap_setCell w7 ⟨wo.heap.size,0,none⟩ _ _ (fun e=>by have e':wo.heap.size+1=wo.heap.size:=e;omega)).trans (HB7.o.block _ (by omega))
       ·exact (Below.heap_setCell w7 ⟨wo.heap.size,0,none⟩ _ _ (fun e=>by have e':wo.heap.size+1+1=wo.heap.size:=e;omega)).trans (HB7.o.block _ (by omega))
       ·rw[HXN.o]
        exact Kd.sV HN7.o (p:=⟨wo.heap.size,0,none⟩) (fun k hk=>hk) _
       ·exact (hbut.trans (But.of_below HB7.o)).setCell 0 _
theorem OT.calls (A0:Option Addr) (c0:Nat) (l0:List eP) (n:Nat) (w:World) (hn:l0.length=n) (hr0:Kd.C iM w A0 l0.length l0) (hlen:l0.length≤1000000) :
 Calls Tryz.prog 51 #[.slice A0 n c0] w fun e w'=>∃ v0_:Value,e = .returned (v0_)∧RL w' w.heap.size v0_ l0∧Below w.heap.size w w':=by
 subst hn
 have HR:=ah.mk hr0
 have HL:=ah.mk hlen
 have hE:=ah.mk (og iM 68 w.heap.size w (fun _=>True) (Nat.le_refl _) trivial)
 have HBA:=ah.mk (aj (Below.refl w.heap.size w) (.cells #[] 68 (0,0)))
 have HRA:=ah.mk (Kd.aH HR.o HBA.o)
 clear hr0
 go_enter Tryz.func51,Tryz.ntmps51
 go_wp2_with ((with_reducible refine bM (N:=5) rfl ?_);refine Kd.iG iM (w0:=w) w.heap.size rfl (.tmp 3) (.tmp 4) 46 68 (.agg #[.string ⟨#[]⟩,.string ⟨#[]⟩]) 32 rfl Tryz.underlying46 Eo rfl (by decide) (by omega) _ [] l0 A0 l0.length c0 (fun _=>True) (fun _=>False) rfl rfl hE.o HRA.o (fun x cs hx=>J2 hx) (fun _ hk=>hk.elim) (fun _ _=>trivial) HBA.o ?hb ?hl ?_;(case hb=>exact HBA.o.size);(case hl=>(simp;have:=HL.o;omega));intro v1 w2 hR1 hB1 hg_ ho_;rw[List.nil_append] at hR1;have HR1:=ah.mk hR1;have HB1:=ah.mk hB1;clear hR1 hB1 hg_ ho_)
 go_ret
 exact⟨_,rfl,HR1.o,HB1.o⟩
end Go.Proofs.YtcgbgifbajdhpaaGreatDoor.PA
