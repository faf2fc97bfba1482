/- Of the law rZIQDumpBack. -/
import Derived.Test.YtcgbgifbajdhpaaGreatDoorZI36
set_option linter.unusedVariables false
set_option linter.unusedSimpArgs false
set_option maxHeartbeats 16000000
set_option maxRecDepth 1000000
namespace Go
abbrev nY:=@List.getElem_map
end Go
namespace Go.Proofs.Y.PA
open Go.RowKit Go.Proofs.Y.G Go.Proofs.YW.o7 Go.Proofs.YW.pJ Go.Proofs.YW.pO
theorem zm {w w':World}{base:Nat}{ok:Nat→Prop}{x:qC}{cs:List Value}(h:vk.K w x cs):vk.M w' base ok x cs:=by
 rw[Mf h];exact Fq _ _ _ x
theorem Ev (l:List qJ)(k:Nat)(hk:k<l.length):qZ (l.take (k+1))=stepG (qZ (l.take k)) (pK l (k:Int)):=by
 rw[cZ hk,CG,qR hk]
theorem MJ:∀ {w:World} {base:Nat} {ok:Nat→Prop} (l:List qC) (inner:List Value),tq (vk.M w base ok) 2 l inner→inner=xg l
 | _,_,_,[],inner,h=>dG (by simpa using h.1)
 | w,base,ok,x::l,inner,h=>by
   have h0:=h.2 0 x rfl;rw[iF,iA] at h0;have ih:=MJ (w:=w) (base:=base) (ok:=ok) l (inner.drop 2) ⟨by rw[bB,h.1,bC];omega,fun j p hj=>by
    have:=h.2 (j+1) p (by simpa using hj);rw[jM];rwa [show (j+1)*2=2+j*2 from by omega] at this⟩
   rw[yh,← ih,← fA 2 inner,Qo h0];rfl
theorem MR {w:World}{base:Nat}{ok:Nat→Prop}:∀ (l:List qC),tq (vk.M w base ok) 2 l (xg l)
 | []=>tq.none _ _
 | x::l=>tq.front (R:=vk.M w base ok) (c:=[.int .i64 x.f0,.int .u64 x.f1]) (Fq w base ok x) rfl (MR l) rfl
theorem TU {w:World}{base:Nat}{v:Value}{l:List qC}(h:RS w base v l):w.ownsRow base 70 2 v l.length (xg l):=by
 obtain⟨_,inner,ho,hr⟩:=h;rw[← MJ l inner hr];exact ho
theorem NY {w:World}{base:Nat}{v:Value}{l:List qC}(h:w.ownsRow base 70 2 v l.length (xg l)):RS w base v l:=⟨fun _ _=>dD,xg l,h,MR l⟩
def Hq (x:qJ):qJ:=⟨x.f0,tN x.f1⟩
def NT (G:List qJ)(j:Nat):List qJ:=(G.take j).map Hq++G.drop j
theorem U9 (G:List qJ)(j:Nat)(h:j<G.length):(NT G j)[j]? = some G[j]:=by
 unfold NT;rw[fQ (by simp;omega)];simp;rw[dY (by omega),Nat.sub_self,iB,aQ h]
theorem Tc (G:List qJ)(j:Nat)(h:j<G.length):(NT G j).set j (Hq G[j])=NT G (j+1):=by
 unfold NT;rw[jE _ _ (by simp;omega),cZ h,gY];simp[dY (lH h)];rw[fH h];rfl
theorem join.c (A:Option Addr)(c n:Nat)(l:List qJ)(w:World)(hn:l.length=n)(hr:Kd.C yD w A n l)(hlen:n≤100000)(htot:tot l≤1000000)(hlab:∀ x∈l,x.f0.length≤1000000) :
 Calls Tryz.prog 36 #[.slice A n c] w fun e w'=>∃ (A':Option Addr) (c':Nat),e = .returned (.slice A' (joinL l).length c')∧(joinL l).length≤c'∧Kd.C yD w' A' (joinL l).length (joinL l)∧Below w.heap.size w w':=by
 subst hn;have mixed:Tryz.prog.follows .mixedOrders=true:=by kernel_rfl
 have HR:=Yu hr;have HT:=Yu htot;have aeN:=Yu hlab;clear hr htot hlab
 go_enter Tryz.func36,Tryz.ntmps36
 go_wp2
 go_loopg [3,11] l.length (fun kx s3 s11 wr=>∃ (k:Nat) (v:Value) (rs:List Rec),s11 = .int .i64 k∧s3=v∧k≤l.length∧l.length-k≤kx∧oZ (Lay wr w.heap.size v rs)∧oZ (rs.map (·.x)=qZ (l.take k))∧oZ (Below w.heap.size w wr))
 case atStart=>exact⟨0,_,[],rfl,rfl,bV _,by omega,⟨Lay.nil _ _⟩,⟨rfl⟩,⟨bq _ _⟩⟩
 case round=>
  obtain⟨k,v,rs,rfl,rfl,hk,hkx,HL,HM,HB⟩:=hrel
  by_cases hlt:k<l.length
  ·obtain⟨ad,A0,c0,A1,c1,rfl,x0,x1,l0,g0,l1,g1⟩:=uY HR.o (k:Int) (by omega) (by omega);rw[bf] at x0 x1;replace x0:=qm HB.o x0;replace x1:=qm HB.o x1;have hkz:(k:Int)<(l.length:Int):=by omega
   have HGT:=Yu (Ev l k hlt);have HSL:oZ ((pK l (k:Int)).f0.length≤1000000∧tot (l.take k)+(pK l (k:Int)).f1.length≤1000000):=⟨by
    rw[qR hlt];refine⟨aeN.o _ (eF hlt),?_⟩;have h1:=z8 l (k+1);rw[cZ hlt,Aa] at h1;exact bM h1 HT.o⟩
   have HGL:=Yu (zk l k hk);have G0:=Yu g0;have G1:=Yu g1;have L0C:=Yu l0;clear l0 g0 l1 g1;generalize hs:pK l (k:Int)=s at *;have HS:=Yu hs;clear hs
   by_cases hz:s.f1.length=0
   ·have HZ:=Yu hz;have hzb:((s.f1.length:Int)==0)=true:=by rw[hz];rfl
    have hzz:(s.f1.length:Int)=0:=by omega
    clear hz;have HL1:=Yu (HL.o.below (o8 (bq _ _) (.cells #[.slice A0 s.f0.length c0,.slice A1 s.f1.length c1] 51 (0,0))));have HB1:=Yu (o8 HB.o (.cells #[.slice A0 s.f0.length c0,.slice A1 s.f1.length c1] 51 (0,0)));generalize s.f0.length=L0 at x0 HL1 HB1;generalize s.f1.length=L1 at x1 HL1 HB1 hzb hzz;go_wp2
    go_roundg (l.length-(k+1))
    case measure=>omega
    case rel=>exact⟨k+1,_,rs,by go_num,rfl,by omega,aD _,HL1,⟨by rw[HM.o,HGT.o,stepG,ak HZ.o]⟩,HB1⟩
   ·have HZ:=Yu hz;have hzb:((s.f1.length:Int)==0)=false:=beq_eq_false_iff_ne.2 (by omega);have hzz:¬ (s.f1.length:Int)=0:=by omega
    clear hz;have HL1:=Yu (HL.o.below (o8 (bq _ _) (.cells #[.slice A0 s.f0.length c0,.slice A1 s.f1.length c1] 51 (0,0))));have HB1:=Yu (o8 HB.o (.cells #[.slice A0 s.f0.length c0,.slice A1 s.f1.length c1] 51 (0,0)));have HX1:=Yu (qG wr (.cells #[.slice A0 s.f0.length c0,.slice A1 s.f1.length c1] 51 (0,0)));have HNB:oZ (some wr.heap.size≠u3.ownBlock):=⟨fun e=>by have:=Kd.Rv HL.o.1 _ e.symm;omega⟩;have HBX:=Yu (show w.heap.size≤wr.heap.size from HB.o.size);have HF0:oZ (s.f0.length=s.f0.length):=⟨rfl⟩;generalize hL0:s.f0.length=L0 at x0 HL1 HB1 HX1 G0;generalize hL1:s.f1.length=L1 at x1 HL1 HB1 HX1 G1 hzb hzz;have HL0:=Yu hL0;have aeO:=Yu hL1;clear hL0 hL1
    go_upto_region 6 with (fail)
    clear HL HB x0 x1;generalize wr.alloc (.cells #[.slice A0 L0 c0,.slice A1 L1 c1] 51 (0,0))=W1 at HL1 HB1 HX1 ⊢;generalize wr.heap.size=bx at *;have y0:=pq HX1.o 0;have y1:=pq HX1.o 1;obtain⟨Av,cv,rfl,hcv,hC⟩:=HL1.o.reads;have HBS:=Yu (binSearch.c Av A0 cv c0 rs.length L0 (rs.map (·.x)) s.f0 W1 (by rw[bJ]) HL0.o hC (Kd.pI G0.o HB1.o) (by rw[HM.o];exact zM _) (fun x hx=>by
     rw[HM.o] at hx;obtain⟨q,hq,he⟩:=BH _ x hx;rw[he];exact aeN.o q (dO hq)) (by have:=HGL.o.1;rw[← HM.o,bJ] at this;omega))
    have HFB:oZ ((decide (posB (rs.map (·.x)) s.f0<rs.length)&&decide (cmpL (pK (rs.map (·.x)) (posB (rs.map (·.x)) s.f0:Int)).f0 s.f0=0))=yC (rs.map (·.x)) s.f0):=⟨by unfold yC;rw[bJ]⟩;have HIL:oZ (posB (rs.map (·.x)) s.f0≤rs.length):=⟨by have:=AQ (rs.map (·.x)) s.f0;rwa [bJ] at this⟩;rw[HFB.o] at HBS;generalize hi:posB (rs.map (·.x)) s.f0=i at HBS HIL;generalize hfb:yC (rs.map (·.x)) s.f0=fb at HBS;have HI:=Yu hi;have aeP:=Yu hfb;clear hi hfb hC hcv HFB
    go_upto_if 27 with (first|(go_at_call 69;(with_reducible refine HBS.o.mono ?_);rintro e w2 ⟨rfl,hb⟩;have HB2:=Yu hb;clear hb))
    have HL2:=Yu (HL1.o.below HB2.o);have HX2:=Yu (pG HX1.o HB2.o);have aeQ:=Yu (o9 HB1.o HB2.o);clear HL1 HX1 HBS y0 y1;have y0:=pq HX2.o 0;have y1:=pq HX2.o 1
    go_cut [3] (fun v3 wx=>∃ rs3:List Rec,oZ (Lay wx w.heap.size v3 rs3)∧oZ (rs3.map (·.x)=uT (rs.map (·.x)) s.f0)∧oZ (Below w.heap.size w wx)∧oZ (wx.heap[bx]? = some (.cells #[.slice A0 L0 c0,.slice A1 L1 c1] 51 (0,0))))
    case first=>
     cases fb with
     | true=>
       go_wp2_with fail
       go_meet
       exact⟨rs,HL2,⟨by rw[uT,ak aeP.o]⟩,aeQ,HX2⟩
     | false=>
       have CL:=Yu (V6.c A0 c0 s.f0 L0 w2 HL0.o (by rw[HL0.o];exact Kd.pI G0.o aeQ.o) L0C.o HSL.o.1);have HRB:oZ (rs.length≤1000000):=⟨by have:=HGL.o.1;rw[← HM.o,bJ] at this;omega⟩
       go_wp2_with (first|(go_at_call 54;(with_reducible refine CL.o.mono ?_);rintro e w3 ⟨lv,rfl,hR,hb⟩;obtain⟨Al,cl,rfl⟩:=Kd.qo hR;have HRL:=Yu hR;have HB3:=Yu hb;clear hR hb;have HL3:=Yu (HL2.o.below HB3.o);have HL4:=Yu (HL3.o.below (o8 (bq _ _) (.cells #[.slice Al s.f0.length cl,.slice none 0 0] 51 (0,0))));have agE:=Yu (o8 (o9 aeQ.o HB3.o) (.cells #[.slice Al s.f0.length cl,.slice none 0 0] 51 (0,0)));have HN4:oZ (some w3.heap.size≠(Value.slice Av rs.length cv).ownBlock):=⟨fun e=>by have:=Kd.Rv HL3.o.1 _ e.symm;omega⟩;have HIN:=Yu (insert.c w.heap.size rs.length i w3.heap.size (.slice Av rs.length cv) (rs.map vH) (.slice Al s.f0.length cl) (.slice none 0 0) (w3.alloc (.cells #[.slice Al s.f0.length cl,.slice none 0 0] 51 (0,0))) (by rw[bJ]) HL4.o.1 HIL.o HRB.o (qG w3 _) HN4.o rfl rfl agE.o.size))|(go_at_call 72;(with_reducible refine HIN.o.mono ?_);rintro e w5 ⟨v5,rfl,hR,hg,hat⟩;have HR5:=Yu hR;have HG5:=Yu hg;clear hR hg hat))
       go_meet
       have ahX:RL (w3.alloc (.cells #[.slice Al s.f0.length cl,.slice none 0 0] 51 (0,0))) w.heap.size (.slice Al s.f0.length cl) s.f0:=Kd.vO (Kd.sj HRL.o aeQ.o.size) _;have hX3:=pU (pG HX2.o HB3.o) (.cells #[.slice Al s.f0.length cl,.slice none 0 0] 51 (0,0));refine⟨rs.take i++[⟨⟨s.f0,[]⟩,.slice Al s.f0.length cl,.slice none 0 0⟩]++rs.drop i,⟨Lay.insert HL4.o HG5.o i ⟨⟨s.f0,[]⟩,.slice Al s.f0.length cl,.slice none 0 0⟩ HR5.o (wF rfl ahX HG5.o (wG (by decide) ahX HL4.o.1)) (Kd.ug _ _ _ _ _) rfl⟩,⟨?_⟩,⟨zV agE.o _ agE.o.size HG5.o (fun k hk=>HL4.o.RP k hk)⟩,⟨rQ hX3 HG5.o HNB.o⟩⟩;rw[uT,aK (by rw[aeP.o];simp),HI.o,BJ,gY,gY,nN,nO];rfl
    case rest=>
     obtain⟨rs3,HL3,HM3,HB3,HX3⟩:=hcut;clear HL2 HX2 aeQ HB2 y0 y1;have hil:i<rs3.length:=by
      have:=(AU (rs.map (·.x)) s.f0).1;rw[HI.o,← HM3.o,bJ] at this;exact this
     obtain⟨gv,adv,hv3,hgv⟩:=GR HL3.o (by omega);subst hv3;obtain⟨r,hri⟩:∃ r,rs3[i]? = some r:=⟨_,aQ hil⟩;have HRI:=Yu hri;have HGV:=Yu hgv;have hRS:=(HL3.o.2.1 r (dP hri)).2;obtain⟨As,cs,hsv⟩:=Kd.qo hRS;obtain⟨_,x2,_,_⟩:=GN HL3.o i r hri;have x3:=pq HX3.o 1;have HSV:=Yu hsv;rw[hsv] at x2 hRS;have HRS:=Yu hRS;have HBB:oZ (w.heap.size≤wc.heap.size):=⟨HB3.o.size⟩;have HLT:oZ ((r.x.f1.length+L1)*16≤140737488355328):=⟨by
      have h1:r.x∈uT (rs.map (·.x)) s.f0:=by rw[← HM3.o];exact List.mem_map.2 ⟨r,dP hri,rfl⟩
      have h2:=HSL.o.2;rw[aeO.o] at h2;rcases G9 h1 with h1 | h1
      ·rw[HM.o] at h1;have:=HGL.o.2 _ h1;omega
      ·rw[h1];show ((0:Nat)+L1)*16≤_;omega⟩
     have HSM:oZ (Kd.C vk wc.drew A1 L1 s.f1):=⟨Kd.pI G1.o (pF HB3.o)⟩;have HST:oZ (qZ (l.take (k+1))=Ck (uT (rs.map (·.x)) s.f0) i s.f1):=⟨by
      rw[HGT.o,stepG,aK HZ.o,← HM.o,HI.o]⟩
     have hiz:(i:Int)<(rs3.length:Int):=by omega
     generalize hns:r.x.f1.length=ns at x2 HRS;have HNS:=Yu hns;clear hri hgv hsv hRS hns;replace x2:wc.drew.cell? ⟨gv,i*2+1,none⟩=some (.slice As ns cs):=x2;replace x3:wc.drew.cell? ⟨bx,1,none⟩=some (.slice A1 L1 c1):=x3
     go_upto_region 9 with (fail)
     refine Ee (n:=13) (ds:=[9,12]) (S:=fun w'=>w'.cell? ⟨gv,i*2+1,none⟩=some (.slice As ns cs)∧w'.cell? ⟨bx,1,none⟩=some (.slice A1 L1 c1)) #[false,false,false,false,false,false,false,false,false,false,false,false,false] mixed rfl rfl ⟨x2,x3⟩ (fun hS=>?_);refine rJ (i:=0) (N:=some 36) (v:=?_) (a':=?_) #[true,false,false,false,false,false,false,false,false,false,false,false,false] rfl rfl (by kernel_rfl) (fun _ _ _ h=>h) (Or.inl ⟨by rfl,?_⟩) ?_ ?_
     rotate_left
     ·intro w';go_simp
      try (with_reducible rfl)
     rotate_left
     ·simp only[Act.put,ah,aI,ay];rfl
     refine rJ (i:=1) (N:=some 37) (v:=?_) (a':=?_) #[true,true,false,false,false,false,false,false,false,false,false,false,false] rfl rfl (by kernel_rfl) (fun _ _ _ h=>h) (Or.inl ⟨by rfl,?_⟩) ?_ ?_
     rotate_left
     ·intro w';go_simp
      try (with_reducible rfl)
     rotate_left
     ·simp only[Act.put,ah,aI,ay];rfl
     refine rJ (i:=2) (N:=some 38) (v:=?_) (a':=?_) #[true,true,true,false,false,false,false,false,false,false,false,false,false] rfl rfl (by kernel_rfl) (fun _ _ _ h=>h) (Or.inl ⟨by rfl,?_⟩) ?_ ?_
     rotate_left
     ·intro w';go_simp
      try (with_reducible rfl)
     rotate_left
     ·simp only[Act.put,ah,aI,ay];rfl
     refine rJ (i:=3) (N:=some 39) (v:=?_) (a':=?_) #[true,true,true,true,false,false,false,false,false,false,false,false,false] rfl rfl (by kernel_rfl) (fun _ _ _ h=>h) (Or.inl ⟨by rfl,?_⟩) ?_ ?_
     rotate_left
     ·intro w';go_simp
      try (with_reducible rfl)
     rotate_left
     ·simp only[Act.put,ah,aI,ay];rfl
     refine rJ (i:=4) (N:=some 40) (v:=?_) (a':=?_) #[true,true,true,true,true,false,false,false,false,false,false,false,false] rfl rfl (by kernel_rfl) (fun _ _ _ h=>h) (Or.inl ⟨by rfl,?_⟩) ?_ ?_
     rotate_left
     ·intro w';go_simp
      try (with_reducible rfl)
     rotate_left
     ·simp only[Act.put,ah,aI,ay];rfl
     refine rJ (i:=5) (N:=some 41) (v:=?_) (a':=?_) #[true,true,true,true,true,true,false,false,false,false,false,false,false] rfl rfl (by kernel_rfl) (fun _ _ _ h=>h) (Or.inl ⟨by rfl,?_⟩) ?_ ?_
     rotate_left
     ·intro w';go_simp
      try (with_reducible rfl)
     rotate_left
     ·simp only[Act.put,ah,aI,ay];rfl
     refine Bw (i:=6) (N:=some 42) (v:=?_) (a':=?_) #[true,true,true,true,true,true,true,false,false,false,false,false,false] rfl rfl (by kernel_rfl) (fun _ _ _ h=>h) (Or.inl ⟨by rfl,?_⟩) hS ?_ ?_
     rotate_left
     ·rintro w' ⟨hc1,hc2⟩;go_simp
      try (with_reducible rfl)
     rotate_left
     ·simp only[Act.put,ah,aI,ay];rfl
     refine rJ (i:=7) (N:=some 43) (v:=?_) (a':=?_) #[true,true,true,true,true,true,true,true,false,false,false,false,false] rfl rfl (by kernel_rfl) (fun _ _ _ h=>h) (Or.inl ⟨by rfl,?_⟩) ?_ ?_
     rotate_left
     ·intro w';go_simp
      try (with_reducible rfl)
     rotate_left
     ·simp only[Act.put,ah,aI,ay];rfl
     refine Bw (i:=8) (N:=some 44) (v:=?_) (a':=?_) #[true,true,true,true,true,true,true,true,true,false,false,false,false] rfl rfl (by kernel_rfl) (fun _ _ _ h=>h) (Or.inl ⟨by rfl,?_⟩) hS ?_ ?_
     rotate_left
     ·rintro w' ⟨hc1,hc2⟩;go_simp
      try (with_reducible rfl)
     rotate_left
     ·simp only[Act.put,ah,aI,ay];rfl
     refine EB (i:=9) (N:=some 45) #[true,true,true,true,true,true,true,true,true,true,false,false,false] rfl rfl (by kernel_rfl) (by decide) (fun K hK=>?_);refine Kd.qV vk (w0:=w) w.heap.size (by rfl) (.tmp 42) (.tmp 44) 49 70 (.agg #[.int .i64 0,.int .u64 0]) 16 rfl Tryz.underlying49 yj rfl (by decide) (by omega) (.slice As ns cs) r.x.f1 s.f1 A1 L1 c1 (fun _=>True) (fun _=>False) rfl rfl (Kd.FR HRS.o) HSM.o (fun x cs hx=>zm hx) (fun _ hk=>hk.elim) (fun _ _=>dD) (pF HB3.o) ?hb ?hl ?_
     case hb=>exact HBB.o
     case hl=>exact HLT.o
     intro v1 w1 hR1 hB1 hg1 Zw;have HR1:oZ (RS w1 w.heap.size v1 (r.x.f1++s.f1)):=⟨hR1⟩;have HB4:=Yu hB1;have HG1:oZ (wc.grownBy w1 r.sv.ownBlock):=⟨by rw[HSV.o,HNS.o];exact⟨hg1.os,hg1.tape,hg1.output,hg1.size,hg1.block⟩⟩;have HAT:oZ (v1.ownBlock=r.sv.ownBlock∨∃ b,v1.ownBlock=some b∧wc.heap.size≤b):=⟨by rw[HSV.o,HNS.o];exact Zw⟩;clear hR1 hB1 hg1 Zw;refine hK.o _ _ ?_;clear hK K;obtain⟨A9,c9,hv9⟩:=Kd.qo HR1.o;generalize (r.x.f1++s.f1).length=n9 at hv9;subst hv9;refine vv (a':=?_) ?_ ?_
     rotate_left
     ·show Act.put _ (some 45) _=_;simp only[Act.put,ah,aI,ay];rfl
     have HRR:oZ (RR w1 w.heap.size (.slice (some ⟨gv,0,none⟩) rs3.length adv) (rs3.map vH)):=⟨wF rfl HL3.o.1 HG1.o (wG (by decide) HL3.o.1 (HL3.o.2.1 r (dP HRI.o)).2)⟩;obtain⟨_,z1,_,z3⟩:=Fx HRR.o i r.lv r.sv (by rw[fC,HRI.o];rfl);have HL5:=Yu (Lay.samples HL3.o i r HRI.o HG1.o HR1.o HAT.o);have HB5:=Yu (pW (j:=i*2+1) (v := .slice A9 n9 c9) HB4.o HGV.o);refine rJ (i:=10) (N:=some 46) (v:=?_) (a':=?_) #[true,true,true,true,true,true,true,true,true,true,true,false,false] rfl rfl (by kernel_rfl) (fun _ _ _ h=>h) (Or.inl ⟨by rfl,?_⟩) ?_ ?_
     rotate_left
     ·intro w';go_simp
      try (with_reducible rfl)
     rotate_left
     ·simp only[Act.put,ah,aI,ay];rfl
     refine rJ (i:=11) (N:=some 47) (v:=?_) (a':=?_) #[true,true,true,true,true,true,true,true,true,true,true,true,false] rfl rfl (by kernel_rfl) (fun _ _ _ h=>h) (Or.inl ⟨by rfl,?_⟩) ?_ ?_
     rotate_left
     ·intro w';go_simp
      try (with_reducible rfl)
     rotate_left
     ·simp only[Act.put,ah,aI,ay];rfl
     refine EB (i:=12) (N:=none) #[true,true,true,true,true,true,true,true,true,true,true,true,true] rfl rfl (by kernel_rfl) (by decide) (fun K hK=>?_);refine V3 (w1:=?_) (by rfl) rfl ?_ ?_
     rotate_left
     ·go_simp
      rfl
     refine hK.o _ _ ?_;clear hK K;refine Jb (by kernel_rfl) ?_
     try go_wp2
     go_roundg (l.length-(k+1))
     case measure=>omega
     case rel=>exact⟨k+1,.slice (some ⟨gv,0,none⟩) rs3.length adv,_,by first | rfl | go_num,by first | rfl | go_num,by omega,aD _,HL5,⟨by
      rw[HST.o];have hil:i<rs3.length:=(List.getElem?_eq_some_iff.1 HRI.o).1;unfold Ck;rw[← HM3.o,kL];have hri:pK (rs3.map (·.x)) (i:Int)=r.x:=by
       rw[qR (by rw[bJ];exact hil),nY,(List.getElem?_eq_some_iff.1 HRI.o).2]
      rw[hri]⟩,HB5⟩
  ·obtain rfl:k=l.length:=by omega
   have hkz:¬ (l.length:Int)<(l.length:Int):=by omega
   rw[dW] at HM;have HGL:=Yu (zS l);have HGP:=Yu (Gz l);have HRB:oZ (rs.length=(qZ l).length):=⟨by rw[← HM.o,bJ]⟩;obtain⟨Av,cv,hu,_,_⟩:=HL.o.reads;subst hu;have hrl:rs.length≤100000:=by rw[HRB.o];exact bM HGL.o.1 hlen
   go_wp2
   go_loopg [51] rs.length (fun kx s51 wr=>∃ (j:Nat) (rs2:List Rec),s51 = .int .i64 j∧j≤rs.length∧rs.length-j≤kx∧oZ (rs2.length=rs.length)∧oZ (Lay wr w.heap.size (.slice Av rs.length cv) rs2)∧oZ (rs2.map (·.x)=NT (qZ l) j)∧oZ (Below w.heap.size w wr))
   case atStart=>exact⟨0,rs,rfl,bV _,aD _,⟨rfl⟩,HL,⟨by rw[HM.o];rfl⟩,HB⟩
   case round=>
    clear HL HM HB;obtain⟨j,rs2,rfl,hj,adp,HLE,HL,HM,HB⟩:=hrel
    by_cases hjl:j<rs.length
    ·have hjz:(j:Int)<(rs.length:Int):=by omega
     have hjG:j<(qZ l).length:=by rw[← HRB.o];exact hjl
     obtain⟨gv,adv,he,hgv⟩:=GR HL.o (by rw[HLE.o];omega);simp only[kJ] at he;obtain⟨rfl,hxx,rfl⟩:=he;clear hxx;have hj2:j<rs2.length:=by rw[HLE.o];exact hjl
     obtain⟨r,hri⟩:∃ r,rs2[j]? = some r:=⟨_,aQ hj2⟩;have hrx:r.x=(qZ l)[j]:=by
      have h1:=U9 (qZ l) j hjG;rw[← HM.o,fC,hri] at h1
      simpa using h1
     have hm:r.x∈qZ l:=by rw[hrx];exact eF hjG
     have hp:=HGP.o _ hm;have hpl:=HGL.o.2 _ hm;have hRS:=(HL.o.2.1 r (dP hri)).2;obtain⟨gs,caps,hsv,hbs,hgs,_⟩:=Kd.FT hRS (by omega);have hown:=TU hRS;rw[hsv] at hown;have HC:=Yu (Nu.c w.heap.size gs caps r.x.f1 wr hown (by omega) (by have:=HT.o;omega));obtain⟨_,x2,_,_⟩:=GN HL.o j r hri;rw[hsv] at x2;have HSV:=Yu hsv;have HRI:=Yu hri;have HRX:=Yu hrx;have HGV:=Yu hgv;have HBS:oZ (w.heap.size≤gs):=⟨hbs⟩;have HJG:=Yu hjG;clear hri hgv hsv hRS hown hbs hgs hrx hm hp hpl;generalize hns:r.x.f1.length=ns at x2 HC;generalize hnr:(tN r.x.f1).length=nr at HC;have HNS:=Yu hns;have HNR:=Yu hnr;clear hns hnr
     go_wp2_with (first|(go_at_call 73;(with_reducible refine HC.o.mono ?_);rintro e w2 ⟨rfl,hO,hG⟩;have HO:=Yu hO;have HG:=Yu hG;clear hO hG;have HG1:oZ (wr.grownBy w2 r.sv.ownBlock):=⟨by rw[HSV.o];exact HG.o⟩;have HRR:oZ (RR w2 w.heap.size (.slice (some ⟨gv,0,none⟩) rs.length cv) (rs2.map vH)):=⟨wF rfl HL.o.1 HG1.o (wG (by decide) HL.o.1 (HL.o.2.1 r (dP HRI.o)).2)⟩;obtain⟨_,z1,_,z3⟩:=Fx HRR.o j r.lv r.sv (by rw[fC,HRI.o];rfl)))
     have HR1:oZ (RS w2 w.heap.size (.slice (some ⟨gs,0,none⟩) nr caps) (tN r.x.f1)):=⟨NY (by rw[HNR.o];exact HO.o)⟩;have HL5:=Yu (Lay.samples HL.o j r HRI.o HG1.o HR1.o (.inl (by rw[HSV.o];rfl)));have HB5:=Yu (pW (j:=j*2+1) (v := .slice (some ⟨gs,0,none⟩) nr caps) (zV HB.o _ HB.o.size HG.o (fun k hk=>by cases hk;exact HBS.o)) HGV.o)
     go_roundg (rs.length-(j+1))
     case measure=>omega
     case rel=>exact⟨j+1,_,by go_num,by omega,aD _,⟨by rw[eZ];exact HLE.o⟩,HL5,⟨by
      rw[kL,HM.o,← Tc (qZ l) j HJG.o];unfold Hq;rw[HRX.o]⟩,HB5⟩
    ·obtain rfl:j=rs.length:=by omega
     have hjz:¬ (rs.length:Int)<(rs.length:Int):=by omega
     have HJ:oZ (rs2.map (·.x)=joinL l):=⟨by
      rw[HM.o,NT,HRB.o,dW,mE,fq];rfl⟩
     go_wp2;go_ret;obtain⟨A2,c2,he,hc2,hC⟩:=HL.o.reads;have acG:(joinL l).length=rs2.length:=by rw[← HJ.o,bJ]
     refine⟨A2,c2,?_,by rw[acG];exact hc2,by rw[acG,← HJ.o];exact hC,HB.o⟩;rw[acG,← he];rfl
end Go.Proofs.Y.PA
namespace Go.Proofs.Y.PA
def Da (G:List qJ)(i:Nat)(ss:List qC):List qJ:=G.set i ⟨(pK G (i:Int)).f0,tY (pK G (i:Int)).f1 ss⟩
theorem T9 (G:List qJ)(i:Nat)(ss:List qC):(Da G i ss).length=G.length:=eZ
theorem Ua {G:List qJ}{i:Nat}(h:i<G.length):Da G i []=G:=by
 unfold Da;rw[qR h];show G.set i G[i]=G;exact List.set_getElem_self h
theorem Vn {G:List qJ}{i:Nat}(h:i<G.length)(ss:List qC):(Da G i ss)[i]? = some ⟨(pK G (i:Int)).f0,tY (pK G (i:Int)).f1 ss⟩:=by
 unfold Da;rw[l6 h]
theorem QL {G:List qJ}{i:Nat}(ss:List qC)(s:qC) :
 (Da G i ss).set i ⟨(pK G (i:Int)).f0,wN (tY (pK G (i:Int)).f1 ss) s⟩=Da G i (ss++[s]):=by
 unfold Da;rw[List.set_set];unfold tY;rw[kG];rfl
theorem IG (l a b:List qC):tY l (a++b)=tY (tY l a) b:=by
 unfold tY;rw[kG]
theorem TR {G:List qJ}{i:Nat}(h:i<G.length)(ss:List qC):(Ck G i ss).map Hq=Da (G.map Hq) i ss:=by
 unfold Ck Da;rw[kL,qR h,qR (by rw[bJ];exact h),nY];unfold Hq tN;rw[IG]
theorem G8 (G:List qJ)(t:List rW):posB (G.map Hq) t=posB G t:=by
 unfold posB;rw[List.takeWhile_map,bJ];rfl
theorem SI (G:List qJ)(t:List rW):yC (G.map Hq) t=yC G t:=by
 unfold yC;rw[G8,bJ]
 by_cases h:posB G t<G.length
 ·rw[qR h,qR (by rw[bJ];exact h),nY];rfl
 ·rw[aN h];rfl
theorem TD (G:List qJ)(t:List rW):uT (G.map Hq) t=(uT G t).map Hq:=by
 unfold uT;rw[SI,G8];split
 ·rfl
 ·unfold BJ;rw[gY,gY,nN,nO];rfl
theorem QT (G:List qJ)(s:qJ)(h:¬ s.f1.length=0):(stepG G s).map Hq=Da (uT (G.map Hq) s.f0) (posB (G.map Hq) s.f0) s.f1:=by
 unfold stepG;rw[aK h,TR (AU G s.f0).1,TD,G8]
theorem Rz {G:List qJ}(h:vE G):vE (G.map Hq):=FV h (by rw[nX];rfl)
theorem BZ (a:List qC):(tN a).length≤a.length:=by
 have:=Ca a []
 simpa [tN] using this
theorem QA {G:List qJ}{t:List rW}{q:Nat}(hq:q≤posB G t)(hl:q<G.length)(hc:cmpL (pK G (q:Int)).f0 t<0):q+1≤posB G t:=by
 rcases eH q (posB G t) with h | h
 ·exact h
 ·have:q=posB G t:=by omega
  subst this;exact absurd hc (Fu G t hl)
theorem QB {G:List qJ}{t:List rW}{q:Nat}(hq:q≤posB G t)(hc:¬ cmpL (pK G (q:Int)).f0 t<0):q=posB G t:=by
 rcases eH q (posB G t) with h | h
 ·exact absurd (Fv G t q h) hc
 ·omega
def tL (t:List rW):List qJ→List qC
 | []=>[]
 | x::l=>(if cmpL x.f0 t=0 then x.f1 else [])++tL t l
theorem vg (t:List rW):∀ a b:List qJ,tL t (a++b)=tL t a++tL t b
 | [],b=>rfl
 | x::a,b=>by rw[gI,tL,tL,vg t a b,bH]
theorem xW {t:List rW}:∀ {l:List qJ},(∀ x∈l,¬ cmpL x.f0 t=0)→tL t l=[]
 | [],_=>rfl
 | x::l,h=>by rw[tL,aK (h x (bK ..)),xW (fun y hy=>h y (dh _ hy))];rfl
theorem I5 {t:List rW}:∀ {l:List qJ},tL t l≠[]→∃ x∈l,x.f0=t
 | [],h=>absurd rfl h
 | x::l,h=>by
   by_cases hx:cmpL x.f0 t=0
   ·exact⟨x,bK ..,(yc _ _).1 hx⟩
   ·rw[tL,aK hx] at h;obtain⟨y,hy,e⟩:=I5 h;exact⟨y,dh _ hy,e⟩
theorem I7 (t:List rW):cmpL t t=0:=(yc t t).2 rfl
theorem yU:∀ {l:List qJ} {x:qJ},vE l→x∈l→tL x.f0 l=x.f1
 | y::l,x,h,hx=>by
   obtain⟨h1,h2⟩:=List.pairwise_cons.1 h;rcases List.mem_cons.1 hx with rfl | hx
   ·rw[tL,ak (I7 _),xW (fun z hz=>?_),fq];have:=h1 z hz;rw[yV];omega
   ·rw[tL,aK (by have:=h1 x hx;omega),yU h2 hx];rfl
theorem KZ:∀ {a b:List qJ},vE a→vE b→(∀ x,x∈a↔x∈b)→a=b
 | [],[],_,_,_=>rfl
 | [],y::b,_,_,h=>by cases (h y).2 (bK ..)
 | x::a,[],_,_,h=>by cases (h x).1 (bK ..)
 | x::a,y::b,ha,hb,h=>by
   obtain⟨a1,a2⟩:=List.pairwise_cons.1 ha;obtain⟨b1,b2⟩:=List.pairwise_cons.1 hb;have hxy:x=y:=by
    rcases List.mem_cons.1 ((h x).1 (bK ..)) with e | hx
    ·exact e
    ·rcases List.mem_cons.1 ((h y).2 (bK ..)) with e | hy
     ·exact e.symm
     ·have h1:=b1 x hx;have h2:=a1 y hy;rw[yV] at h1;omega
   subst hxy;have hself:=I7 x.f0;rw[KZ a2 b2 (fun z=>⟨fun hz=>by
    rcases List.mem_cons.1 ((h z).1 (dh _ hz)) with rfl | h1
    ·have:=a1 z hz;omega
    ·exact h1,fun hz=>by
    rcases List.mem_cons.1 ((h z).2 (dh _ hz)) with rfl | h1
    ·have:=b1 z hz;omega
    ·exact h1⟩)]
theorem QK {x y:qJ}(h0:x.f0=y.f0)(h1:x.f1=y.f1):x=y:=by
 cases x;cases y;simp only at h0 h1;subst h0 h1;rfl
theorem Lj {a b:List qJ}(ha:vE a)(hb:vE b)(na:∀ x∈a,x.f1≠[])(nb:∀ x∈b,x.f1≠[])(h:∀ t,tL t a=tL t b):a=b:=by
 have key:∀ {a b:List qJ},vE a→vE b→(∀ x∈a,x.f1≠[])→(∀ t,tL t a=tL t b)→∀ x,x∈a→x∈b:=fun {a b} ha hb na h x hx=>by
  have h1:=yU ha hx;have h2:tL x.f0 b≠[]:=by rw[← h,h1];exact na x hx
  obtain⟨y,hy,e⟩:=I5 h2;have h3:=yU hb hy;rw[e,← h,h1] at h3;rw[QK e.symm h3];exact hy
 exact KZ ha hb (fun x=>⟨key ha hb na h x,key hb ha nb (fun t=>(h t).symm) x⟩)
theorem PZ (t u:List rW)(G:List qJ):tL t (uT G u)=tL t G:=by
 unfold uT;split
 ·rfl
 ·unfold BJ;rw[vg,vg]
  conv=>rhs;rw[← fA (posB G u) G,vg]
  rw[show tL t [⟨u,[]⟩]=[] from by rw[tL];split<;>rfl,fq]
theorem PY {t:List rW}{G:List qJ}(h:vE G){i:Nat}(hi:i<G.length)(ss:List qC):tL t (Ck G i ss)=tL t G++(if cmpL G[i].f0 t=0 then ss else []):=by
 unfold Ck;rw[qR hi,jI,ak hi,vg,tL];have hG:tL t G=tL t (G.take i)++((if cmpL G[i].f0 t=0 then G[i].f1 else [])++tL t (G.drop (i+1))):=by
  conv=>lhs;rw[← fA i G,fH hi,vg,tL]
 rw[hG];show _++((if cmpL G[i].f0 t=0 then G[i].f1++ss else [])++_)=_;split
 ·rename_i he;have hd:tL t (G.drop (i+1))=[]:=xW (fun x hx=>by
   obtain⟨j,hj,rfl⟩:=List.mem_iff_getElem.1 hx;rw[jG];have hj2:i+1+j<G.length:=by rw[bB] at hj;omega
   have h1:=List.pairwise_iff_getElem.1 h i (i+1+j) hi hj2 (by omega);have e:=(yc _ _).1 he;rw[e] at h1;rw[yV];omega)
  rw[hd];simp
 ·simp
theorem Nr {t:List rW}{G:List qJ}(h:vE G)(s:qJ):tL t (stepG G s)=tL t G++(if cmpL s.f0 t=0 then s.f1 else []):=by
 unfold stepG;split
 ·rename_i h0;have:s.f1=[]:=dG h0;rw[this];simp
 ·obtain⟨hp,hf⟩:=AU G s.f0;rw[PY (IY h _) hp,PZ];rw[qR hp] at hf;rw[hf]
theorem I4 (t:List rW):∀ (l G:List qJ),vE G→tL t (l.foldl stepG G)=tL t G++tL t l
 | [],G,_=>by rw[List.foldl_nil,tL,fq]
 | s::l,G,h=>by rw[jc,I4 t l _ (FW h s),Nr h,tL,bH]
theorem Ll (t:List rW)(l:List qJ):tL t (qZ l)=tL t l:=by
 rw[qZ,I4 t l [] K4];rfl
theorem R8 {t:List rW}{G:List qJ}(h:vE G):tL t (G.map Hq)=tN (tL t G):=by
 by_cases hn:∃ x∈G,x.f0=t
 ·obtain⟨x,hx,rfl⟩:=hn;rw[yU h hx];have:=yU (Rz h) (List.mem_map_of_mem (f:=Hq) hx);exact this
 ·have h1:∀ x∈G,¬ cmpL x.f0 t=0:=fun x hx e=>hn ⟨x,hx,(yc _ _).1 e⟩
  rw[xW h1,xW (fun x hx=>by
   obtain⟨y,hy,rfl⟩:=List.mem_map.1 hx;exact h1 y hy)]
  rfl
theorem Dw (t:List rW)(l:List qJ):tL t (joinL l)=tN (tL t l):=by
 rw[show joinL l=(qZ l).map Hq from rfl,R8 (zM l),Ll]
theorem Fj (l:List qJ):∀ x∈joinL l,x.f1≠[]:=fun x hx=>by
 obtain⟨y,hy,rfl⟩:=List.mem_map.1 (show x∈(qZ l).map Hq from hx);have h1:=Gz l y hy;exact Ht _ _ (.inr (fun e=>h1 (by rw[e];rfl)))
theorem Qn {l:List qJ}(h:vE l)(hn:∀ x∈l,x.f1≠[])(hs:∀ x∈l,Rs x.f1):joinL l=l:=
 Lj (Dt _) h (Fj _) hn (fun t=>by
  rw[Dw]
  by_cases he:∃ x∈l,x.f0=t
  ·obtain⟨x,hx,rfl⟩:=he;rw[yU h hx,MP (hs x hx)]
  ·rw[xW (fun x hx e=>he ⟨x,hx,(yc _ _).1 e⟩)];rfl)
theorem O5 (l:List qJ):∀ x∈joinL l,Rs x.f1:=fun x hx=>by
 obtain⟨y,hy,rfl⟩:=List.mem_map.1 (show x∈(qZ l).map Hq from hx);exact Ea y.f1
end Go.Proofs.Y.PA
