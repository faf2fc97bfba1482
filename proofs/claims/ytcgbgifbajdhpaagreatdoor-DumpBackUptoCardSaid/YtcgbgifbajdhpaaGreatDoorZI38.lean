/- Of the law rZIQDumpBack. -/
import Derived.Test.YtcgbgifbajdhpaaGreatDoorZI37
import Derived.Test.YtcgbgifbajdhpaaGreatDoorZI34
set_option linter.unusedVariables false
set_option linter.unusedSimpArgs false
set_option maxHeartbeats 8000000
set_option maxRecDepth 1000000
namespace Go.Proofs.Y.PA
open Go.RowKit Go.Proofs.Y.G Go.Proofs.YW.o7 Go.Proofs.YW.pJ Go.Proofs.YW.pO
theorem Jf:∀ (l:List qC) (q:Nat) (s:qC),xg (l.set q s)=((xg l).set (q*2) (.int .i64 s.f0)).set (q*2+1) (.int .u64 s.f1)
 | [],q,s=>by simp[xg]
 | x::l,0,s=>rfl
 | x::l,q+1,s=>by
   rw[ay,yh,yh,Jf l q s,show (q+1)*2=q*2+1+1 from by omega,ay,ay,ay,ay]
theorem Xd {w:World}{base g cap n:Nat}{l:List qC}(h:RS w base (.slice (some ⟨g,0,none⟩) n cap) l)(hn:l.length=n)(h0:0<n)(q:Nat)(s:qC) :
 RS ((w.setCell ⟨g,q*2,none⟩ (.int .i64 s.f0)).setCell ⟨g,q*2+1,none⟩ (.int .u64 s.f1)) base (.slice (some ⟨g,0,none⟩) n cap) (l.set q s):=by
 obtain⟨hl,ho⟩:=TU h;rcases ho with ⟨_,h1⟩ | ⟨g',cap',cur,he,hb,hh,h2,h3,h4,h5⟩
 ·omega
 ·simp only[kJ,cO,oQ,lS] at he;obtain⟨rfl,hnn,rfl⟩:=he;refine NY ⟨by rw[Ap],.inr ⟨g,cap,(cur.setIfInBounds (q*2) (.int .i64 s.f0)).setIfInBounds (q*2+1) (.int .u64 s.f1),by rw[eZ,hn],hb,Cn (Cn hh _ _) _ _,by rw[eZ];exact h2,h3,by simp[h4],?_⟩⟩;rw[jh,jh,nM,nM,eZ,h5,Jf]
theorem vR (w:World)(o:Obj):(w.alloc o).heap.size=w.heap.size+1:=Array.size_push _
theorem vN {a b n c:Nat}(h:a≠b):some a≠(Value.slice (some ⟨b,0,none⟩) n c).ownBlock:=by
 intro e;simp only[Value.ownBlock,lq,cO] at e;exact h e
theorem AJ {W:World}{v v':Value}{b:Nat}(hb:b<W.heap.size)(hne:some b≠v.ownBlock)(hat:v'.ownBlock=v.ownBlock∨∃ k,v'.ownBlock=some k∧W.heap.size≤k):some b≠v'.ownBlock:=by
 rcases hat with h | ⟨k,h,hk⟩
 ·rwa [h]
 ·rw[h];intro e;injection e with e
  omega
theorem Yg.c (A:Option Addr)(c n:Nat)(l:List qC)(s:qC)(w:World)(hn:l.length=n)(hr:Kd.C vk w A n l)(hc:n≤c)(hlen:n≤1000000) :
 Calls Tryz.prog 52 #[.slice A n c,.agg #[.int .i64 s.f0,.int .u64 s.f1]] w fun e w'=>∃ v:Value,e = .returned v∧RS w' w.heap.size v (wN l s)∧Below w.heap.size w w':=by
 subst hn;have mixed:Tryz.prog.follows .mixedOrders=true:=by kernel_rfl
 have HR:=Yu hr;clear hr
 go_enter Tryz.func52,Tryz.ntmps52
 go_upto_region 1 with (fail)
 have HX0:=Yu (qG w (.cells #[.int .i64 s.f0,.int .u64 s.f1] 70 (0,0)));have HB0:=Yu (o8 (bq w.heap.size w) (.cells #[.int .i64 s.f0,.int .u64 s.f1] 70 (0,0)));generalize w.alloc (.cells #[.int .i64 s.f0,.int .u64 s.f1] 70 (0,0))=W0 at HX0 HB0 ⊢;obtain⟨bx,hbx⟩:∃ bx,bx=w.heap.size:=⟨_,rfl⟩;have HBX:=Yu hbx;rw[← hbx] at HX0 ⊢;clear hbx
 go_upto_block 0 with (fail)
 go_cut [5] (fun v wx=>v = .int .i64 (xO l s.f0 l.length:Nat)∧oZ (Below W0.heap.size W0 wx))
 case first=>
  go_wp2_with fail
  go_loopg [5] l.length (fun kx s5 wr=>∃ (q:Nat),s5 = .int .i64 q∧q≤l.length∧q≤kx∧oZ (xO l s.f0 q=xO l s.f0 l.length)∧oZ (Below W0.heap.size W0 wr))
  case atStart=>exact⟨l.length,rfl,aD _,aD _,⟨rfl⟩,⟨bq _ _⟩⟩
  case round=>
   obtain⟨q,rfl,hq,hkx,HQ,HB⟩:=hrel;have HX:=Yu (pG HX0.o HB.o);have y0:=pq HX.o 0;have HBw:=Yu (o9 HB0.o HB.o);rcases fP q with rfl | hq0
   ·have HP:oZ (xO l s.f0 l.length=0):=⟨by rw[← HQ.o];rfl⟩;have g2:decide ((0:Int)>0)=false:=rfl
    go_wp2_with fail
    go_quiet (fail)
    go_wp2_with fail
    go_meet
    exact⟨by rw[HP.o],⟨pz HB.o _⟩⟩
   ·obtain⟨p,rfl⟩:∃ p,q=p+1:=⟨q-1,by omega⟩;obtain⟨ad,rfl,x0,_⟩:=uD (Kd.pI HR.o HBw.o) (p:Int) (by omega) (by omega);rw[bf] at x0;have g2:decide ((p:Int)+1>0)=true:=aM (by omega);have e2:(p:Int)+1-1=(p:Int):=by omega
    have r2:IntKind.i64.wrap ((p:Int)+1-1)=(p:Int):=by rw[bI];omega
    have r3:IntKind.i64.wrap (p:Int)=(p:Int):=by rw[bI];omega
    have bp:(p:Int)<(l.length:Int):=by omega
    have HPS:oZ (xO l s.f0 (p+1)=if s.f0≤(pV l (p:Int)).f0 then xO l s.f0 p else p+1):=⟨rfl⟩;generalize (pV l (p:Int)).f0=t at x0 HPS
    by_cases hge:s.f0≤t
    ·have g3:decide (s.f0≤t)=true:=aM hge;have g4:decide (t≥s.f0)=true:=aM hge;have HPN:oZ (xO l s.f0 p=xO l s.f0 l.length):=⟨by rw[← HQ.o,HPS.o,ak hge]⟩
     go_wp2_with fail
     go_quiet (fail)
     go_wp2
     go_roundg p
     case measure=>omega
     case rel=>exact⟨p,by go_num,by omega,aD _,HPN,⟨pz HB.o _⟩⟩
    ·have g3:decide (s.f0≤t)=false:=aN hge;have g4:decide (t≥s.f0)=false:=aN hge;have HPN:oZ (xO l s.f0 l.length=p+1):=⟨by rw[← HQ.o,HPS.o,aK hge]⟩
     go_wp2_with fail
     go_quiet (fail)
     go_wp2_with fail
     go_meet
     exact⟨by rw[HPN.o];go_num,⟨pz HB.o _⟩⟩
 case rest=>
  obtain⟨rfl,HB⟩:=hcut;have HX:=Yu (pG HX0.o HB.o);have HBw:=Yu (o9 HB0.o HB.o);have afu:=Fw l s.f0 l.length;obtain⟨q,hq⟩:∃ q,q=xO l s.f0 l.length:=⟨_,rfl⟩;rw[← hq] at afu ⊢;have HQ:=Yu hq;clear hq HX0 HB;have y0:=pq HX.o 0;have y1:=pq HX.o 1
  by_cases hit:q<l.length∧(pV l (q:Int)).f0=s.f0
  ·obtain⟨hql,he⟩:=hit;have HV:oZ (wN l s=l.set q s):=⟨by
    unfold wN;rw[← HQ.o];exact ak ⟨hql,he⟩⟩
   obtain⟨ad,rfl,x0,_⟩:=uD (Kd.pI HR.o HBw.o) (q:Int) (by omega) (by omega);rw[bf,he] at x0;have g1:decide ((q:Int)<(l.length:Int))=true:=aM (by omega);have gq:(q:Int)<(l.length:Int):=by omega
   clear he
   go_wp2_with fail
   go_quiet (fail)
   have HX2:oZ ((wc.drewN nq).heap[bx]? = some (.cells #[.int .i64 s.f0,.int .u64 s.f1] 70 (0,0))):=HX;have HB2:=Yu (pz HBw.o nq);clear HX HBw y0 y1 x0;generalize wc.drewN nq=w1 at HX2 HB2 ⊢;have hE:=Yu (xH vk 70 w.heap.size w1 (fun _=>True) HB2.o.size dD);have HBA:=Yu (o8 HB2.o (.cells #[] 70 (0,0)));have HRA:=Yu (Kd.pI HR.o HBA.o);have HXA:=Yu (pU HX2.o (.cells #[] 70 (0,0)))
   go_upto_region 6 with ((with_reducible refine qK (N:=40) rfl ?_);refine Kd.uy vk (w0:=w) w.heap.size rfl (.tmp 38) (.tmp 39) 49 70 (.agg #[.int .i64 0,.int .u64 0]) 16 rfl Tryz.underlying49 yj rfl (by decide) (by omega) _ [] l (some ad) l.length c (fun _=>True) (fun _=>False) rfl rfl hE.o HRA.o (fun x cs hx=>zm hx) (fun _ hk=>hk.elim) (fun _ _=>dD) HBA.o ?hb ?hl ?_;(case hb=>exact HBA.o.size);(case hl=>(simp;omega));intro v1 w2 hR1 hB1 hg_ ho_;rw[dL] at hR1;have HR1:=Yu hR1;have HB1:=Yu hB1;have HG1:=Yu hg_;clear hR1 hB1 hg_ ho_)
   have hbl:=rE HX2.o;have HX3:=Yu (rQ HXA.o HG1.o (by
    show some bx≠some w1.heap.size;intro e;injection e with e
    omega))
   obtain⟨g,cap,hv,hbg,hgl,cur,hcur⟩:=Kd.FT HR1.o (by omega);subst hv;have HR2:oZ (RS w2 w.heap.size (.slice (some ⟨g,0,none⟩) l.length cap) l):=HR1;obtain⟨ad2,agF,z0,z1⟩:=uD (Kd.pR HR1.o).2.2 (q:Int) (by omega) (by omega);injection agF with agF
   subst agF;rw[bf,add_plain] at z0 z1;have f0:=pE hcur (q*2);have f1:=pE hcur (q*2+1);have y0:=pq HX3.o 0;have y1:=pq HX3.o 1;have HRS:=Yu (Xd HR2.o rfl (by omega) q s);have HBS:=Yu (pW (j:=q*2+1) (v := .int .u64 s.f1) (pW (j:=q*2) (v := .int .i64 s.f0) HB1.o hbg) hbg);clear hcur HG1 HR1 hbg hgl hbl;go_wp2;go_ret;exact⟨_,rfl,by rw[HV.o];exact HRS.o,HBS.o⟩
  ·have HV:oZ (wN l s=l.take q++s::l.drop q):=⟨by
    unfold wN;rw[← HQ.o];exact aK hit⟩
   have HXD:oZ (∀ (W:World) (bi:Nat),Below w.heap.size w W→W.heap[bi]? = some (.cells #[.int .i64 s.f0,.int .u64 s.f1] 70 (0,0))→w.heap.size≤bi→RS W w.heap.size (.slice (some ⟨bi,0,none⟩) 1 1) [s]):=⟨fun W bi _ hb hbi=>NY ⟨rfl,.inr ⟨bi,1,#[.int .i64 s.f0,.int .u64 s.f1],rfl,hbi,hb,aD 1,by decide,rfl,rfl⟩⟩⟩;have HTK:oZ (∀ W,Below w.heap.size w W→Kd.C vk W A q (l.take q)):=⟨fun W hb=>by
    have:=Kd.zI (Kd.pI HR.o hb) afu;rwa [bG,dY afu] at this⟩
   have HDR:oZ (∀ W,Below w.heap.size w W→Kd.C vk W (if c=q then A else A.map (·.add (q*2))) (l.length-q) (l.drop q)):=⟨fun W hb=>by
    have:=Kd.Dp (Kd.pI HR.o hb) afu hc;rwa [bB] at this⟩
   have akA:(q:Int)≤(c:Int):=by omega
   have akB:(q:Int)≤(l.length:Int):=by omega
   have HIT:oZ (¬ (q<l.length∧(pV l (q:Int)).f0=s.f0)):=⟨hit⟩;have HLL:oZ ((l.take q).length=q):=⟨by rw[bG];omega⟩;clear hit
   go_upto_region 4 with (fail)
   go_cut [37] (fun v37 wx=>v37 = .bool false∧oZ (Below w.heap.size w wx)∧oZ (wx.heap[bx]? = some (.cells #[.int .i64 s.f0,.int .u64 s.f1] 70 (0,0))))
   case first=>
    rcases eH q l.length with hql | hql
    ·obtain⟨ad,rfl,x0,_⟩:=uD (Kd.pI HR.o HBw.o) (q:Int) (by omega) (by omega);rw[bf] at x0;have g1:decide ((q:Int)<(l.length:Int))=true:=aM (by omega);have gq:(q:Int)<(l.length:Int):=by omega
     have hne:¬ (pV l (q:Int)).f0=s.f0:=fun e=>HIT.o ⟨hql,e⟩
     generalize (pV l (q:Int)).f0=t at x0 hne;have g2:(t==s.f0)=false:=beq_eq_false_iff_ne.2 hne;have g3:decide (t=s.f0)=false:=aN hne
     go_wp2_with fail
     go_quiet (fail)
     go_wp2_with fail
     go_meet
     exact⟨rfl,⟨pz HBw.o _⟩,HX⟩
    ·have g1:decide ((q:Int)<(l.length:Int))=false:=aN (by omega);have gq:¬ (q:Int)<(l.length:Int):=by omega
     have gn:¬ q<l.length:=by omega
     have g3:decide (q<l.length)=false:=aN gn
     go_wp2_with fail
     go_quiet (fail)
     go_wp2_with fail
     go_meet
     exact⟨rfl,⟨pz HBw.o _⟩,HX⟩
   case rest=>
    obtain⟨rfl,HB2,HX2⟩:=hcut;clear HX HBw HB0 y0 y1 HIT
    go_upto_region 8 with (fail)
    refine Ee (n:=13) (ds:=[]) (S:=fun w'=>w'.heap[bx]? = some (.cells #[.int .i64 s.f0,.int .u64 s.f1] 70 (0,0))) #[false,false,false,false,false,false,false,false,false,false,false,false,false] mixed rfl rfl HX2.o (fun hS=>?_);have hb2:=pF HB2.o;refine rJ (i:=1) (N:=some 47) (v:=?_) (a':=?_) #[false,true,false,false,false,false,false,false,false,false,false,false,false] rfl rfl (by kernel_rfl) (fun _ _ _ h=>h) (Or.inl ⟨by rfl,?_⟩) ?_ ?_
    rotate_left
    ·intro w';go_simp
     try (with_reducible rfl)
    rotate_left
    ·simp only[Act.put,ah,aI,ay];rfl
    refine rJ (i:=2) (N:=some 48) (v:=?_) (a':=?_) #[false,true,true,false,false,false,false,false,false,false,false,false,false] rfl rfl (by kernel_rfl) (fun _ _ _ h=>h) (Or.inl ⟨by rfl,?_⟩) ?_ ?_
    rotate_left
    ·intro w';go_simp
     try (with_reducible rfl)
    rotate_left
    ·simp only[Act.put,ah,aI,ay];rfl
    refine rJ (i:=3) (N:=some 49) (v:=?_) (a':=?_) #[false,true,true,true,false,false,false,false,false,false,false,false,false] rfl rfl (by kernel_rfl) (fun _ _ _ h=>h) (Or.inl ⟨by rfl,?_⟩) ?_ ?_
    rotate_left
    ·intro w';go_simp
     try (with_reducible rfl)
    rotate_left
    ·simp only[Act.put,ah,aI,ay];rfl
    refine rJ (i:=8) (N:=some 54) (v:=?_) (a':=?_) #[false,true,true,true,false,false,false,false,true,false,false,false,false] rfl rfl (by kernel_rfl) (fun _ _ _ h=>h) (Or.inl ⟨by rfl,?_⟩) ?_ ?_
    rotate_left
    ·intro w';go_simp
     try (with_reducible rfl)
    rotate_left
    ·simp only[Act.put,ah,aI,ay];rfl
    refine rJ (i:=9) (N:=some 55) (v:=?_) (a':=?_) #[false,true,true,true,false,false,false,false,true,true,false,false,false] rfl rfl (by kernel_rfl) (fun _ _ _ h=>h) (Or.inl ⟨by rfl,?_⟩) ?_ ?_
    rotate_left
    ·intro w';go_simp
     try (with_reducible rfl)
    rotate_left
    ·simp only[Act.put,ah,aI,ay];rfl
    refine rJ (i:=10) (N:=some 56) (v:=?_) (a':=?_) #[false,true,true,true,false,false,false,false,true,true,true,false,false] rfl rfl (by kernel_rfl) (fun _ _ _ h=>h) (Or.inl ⟨by rfl,?_⟩) ?_ ?_
    rotate_left
    ·intro w';go_simp
     try (with_reducible rfl)
    rotate_left
    ·simp only[Act.put,ah,aI,ay];rfl
    refine Bw (i:=5) (N:=some 51) (v:=?_) (a':=?_) #[false,true,true,true,false,true,false,false,true,true,true,false,false] rfl rfl (by kernel_rfl) (fun _ _ _ h=>h) (Or.inl ⟨by rfl,?_⟩) hS ?_ ?_
    rotate_left
    ·rintro w' hS2;have c1:=pq hS2 0;have c2:=pq hS2 1;go_simp
     try (with_reducible rfl)
    rotate_left
    ·simp only[Act.put,ah,aI,ay];rfl
    have HB4:=Yu hb2;have HX4:=Yu hS;clear hS hb2 HX2 HB2;generalize wc.drew=w4 at HB4 HX4 ⊢;refine XK (σ:=Value × Value × Nat) 3 #[true,true,true,true,true,true,true,false,true,true,true,false,false] (fun z=>[(46,z.1),(50,z.2.1),(52,.slice (some ⟨z.2.2,0,none⟩) 1 1)]) (fun z W=>oZ (W.heap[bx]? = some (.cells #[.int .i64 s.f0,.int .u64 s.f1] 70 (0,0)))∧oZ (RS W w.heap.size z.2.1 (l.take q))∧oZ (Below w.heap.size w W)∧oZ (W.heap[z.2.2]? = some (.cells #[.int .i64 s.f0,.int .u64 s.f1] 70 (0,0)))∧oZ (some z.2.2≠z.2.1.ownBlock)∧oZ (w.heap.size≤z.2.2)∧oZ (some bx≠z.2.1.ownBlock)) ?_ (fun HC=>?_)
    rotate_left
    -- SPLIT
    refine XZ (i:=0) (j:=6) (Ni:=some 46) (Nj:=some 52) #[true,true,true,true,false,true,false,false,true,true,true,false,false] #[false,true,true,true,false,true,true,false,true,true,true,false,false] rfl rfl rfl rfl (by kernel_rfl) (by decide) (by decide) (fun K hK=>?_) (fun K hK=>?_)
    ·refine Ad (v:=?_) (w1:=?_) (by rfl) rfl ?_ ?_
     rotate_left;rotate_left
     ·go_simp
      refine⟨?_,?_⟩<;>rfl
     have hE:=Yu (xH vk 70 w.heap.size w4 (fun _=>True) HB4.o.size dD);have HB5:=Yu (o8 HB4.o (.cells #[] 70 (0,0)));have HX5:=Yu (pU HX4.o (.cells #[] 70 (0,0)));refine hK.o _ _ HX5.o (fun hS9=>?_);clear hK hS9;clear K;refine vv (a':=?_) ?_ ?_
     rotate_left
     ·show Act.put _ (some 46) _=_;simp only[Act.put,ah,aI,ay];rfl
     refine XZ (i:=4) (j:=6) (Ni:=some 50) (Nj:=some 52) #[true,true,true,true,true,true,false,false,true,true,true,false,false] #[true,true,true,true,false,true,true,false,true,true,true,false,false] rfl rfl rfl rfl (by kernel_rfl) (by decide) (by decide) (fun K hK=>?_) (fun K hK=>?_)
     ·refine Kd.qV vk (w0:=w) w.heap.size (by rfl) (.tmp 46) (.tmp 49) 49 70 (.agg #[.int .i64 0,.int .u64 0]) 16 rfl Tryz.underlying49 yj rfl (by decide) (by omega) _ [] (l.take q) A q c (fun _=>True) (fun _=>False) rfl rfl hE.o (HTK.o _ HB5.o) (fun x cs hx=>zm hx) (fun _ hk=>hk.elim) (fun _ _=>dD) HB5.o ?hb ?hl ?_
      case hb=>exact HB5.o.size
      case hl=>(simp;omega)
      intro v5 w5 hR1 hB1 hg1 Zw;rw[dL] at hR1;have HX6:=Yu (rQ HX5.o hg1 (vN (by have:=rE HX4.o;omega)));have HN5:=Yu (AJ (rE HX5.o) (vN (by have:=rE HX4.o;omega)) Zw);refine hK.o _ _ HX6.o (fun hS9=>?_);clear hK hS9;clear K;refine vv (a':=?_) ?_ ?_
      rotate_left
      ·show Act.put _ (some 50) _=_;simp only[Act.put,ah,aI,ay];rfl
      refine ER (i:=6) (N:=some 52) #[true,true,true,true,true,true,true,false,true,true,true,false,false] rfl rfl (by kernel_rfl) (by decide) (fun K hK=>?_);refine Ad (v:=?_) (w1:=?_) (by rfl) rfl ?_ ?_
      rotate_left;rotate_left
      ·go_simp
       refine⟨?_,?_⟩<;>rfl
      have HX7:=Yu (pU HX6.o (.cells #[.int .i64 s.f0,.int .u64 s.f1] 70 (0,0)));refine hK.o _ _ HX7.o (fun hS9=>?_);clear hK hS9;clear K;refine vv (a':=?_) ?_ ?_
      rotate_left
      ·show Act.put _ (some 52) _=_;simp only[Act.put,ah,aI,ay];rfl
      exact HC (_,v5,w5.heap.size) _ ⟨HX7,⟨Kd.vO hR1 _⟩,⟨o8 hB1 _⟩,⟨qG _ _⟩,⟨show some w5.heap.size≠v5.ownBlock from fun e=>oO _ (Kd.Rv hR1 _ e.symm)⟩,⟨hB1.size⟩,HN5⟩
     ·refine Ad (v:=?_) (w1:=?_) (by rfl) rfl ?_ ?_
      rotate_left;rotate_left
      ·go_simp
       refine⟨?_,?_⟩<;>rfl
      have HX6:=Yu (pU HX5.o (.cells #[.int .i64 s.f0,.int .u64 s.f1] 70 (0,0)));refine hK.o _ _ HX6.o (fun hS9=>?_);clear hK hS9;clear K;refine vv (a':=?_) ?_ ?_
      rotate_left
      ·show Act.put _ (some 52) _=_;simp only[Act.put,ah,aI,ay];rfl
      refine ER (i:=4) (N:=some 50) #[true,true,true,true,true,true,true,false,true,true,true,false,false] rfl rfl (by kernel_rfl) (by decide) (fun K hK=>?_);have HB6:=Yu (o8 HB5.o (.cells #[.int .i64 s.f0,.int .u64 s.f1] 70 (0,0)));refine Kd.qV vk (w0:=w) w.heap.size (by rfl) (.tmp 46) (.tmp 49) 49 70 (.agg #[.int .i64 0,.int .u64 0]) 16 rfl Tryz.underlying49 yj rfl (by decide) (by omega) _ [] (l.take q) A q c (fun _=>True) (fun _=>False) rfl rfl (Kd.vO hE.o _) (HTK.o _ HB6.o) (fun x cs hx=>zm hx) (fun _ hk=>hk.elim) (fun _ _=>dD) HB6.o ?hb ?hl ?_
      case hb=>exact HB6.o.size
      case hl=>(simp;omega)
      intro v5 w5 hR1 hB1 hg1 Zw;rw[dL] at hR1;refine hK.o _ _ (rQ HX6.o hg1 (vN (by have:=rE HX4.o;omega))) (fun hS9=>?_);clear hK;clear K;have hn:(w4.alloc (.cells #[] 70 (0,0))).heap.size=w4.heap.size+1:=vR _ _;have HV5:oZ (w5.heap[w4.heap.size+1]? = some (.cells #[.int .i64 s.f0,.int .u64 s.f1] 70 (0,0))):=⟨hn ▸ rQ (qG (w4.alloc (.cells #[] 70 (0,0))) (.cells #[.int .i64 s.f0,.int .u64 s.f1] 70 (0,0))) hg1 (vN (by omega))⟩;refine vv (a':=?_) ?_ ?_
      rotate_left
      ·show Act.put _ (some 50) _=_;simp only[Act.put,ah,aI,ay];rfl
      exact HC (_,v5,w4.heap.size+1) _ ⟨⟨hS9⟩,⟨hR1⟩,⟨hB1⟩,HV5,⟨show some (w4.heap.size+1)≠v5.ownBlock from AJ (by rw[vR,vR];omega) (vN (by omega)) Zw⟩,⟨show w.heap.size≤w4.heap.size+1 from Nat.le_succ_of_le HB4.o.size⟩,⟨AJ (rE HX6.o) (vN (by have:=rE HX4.o;omega)) Zw⟩⟩
    ·refine Ad (v:=?_) (w1:=?_) (by rfl) rfl ?_ ?_
     rotate_left;rotate_left
     ·go_simp
      refine⟨?_,?_⟩<;>rfl
     have HB5:=Yu (o8 HB4.o (.cells #[.int .i64 s.f0,.int .u64 s.f1] 70 (0,0)));have HX5:=Yu (pU HX4.o (.cells #[.int .i64 s.f0,.int .u64 s.f1] 70 (0,0)));refine hK.o _ _ HX5.o (fun hS9=>?_);clear hK hS9;clear K;refine vv (a':=?_) ?_ ?_
     rotate_left
     ·show Act.put _ (some 52) _=_;simp only[Act.put,ah,aI,ay];rfl
     refine ER (i:=0) (N:=some 46) #[true,true,true,true,false,true,true,false,true,true,true,false,false] rfl rfl (by kernel_rfl) (by decide) (fun K hK=>?_);refine Ad (v:=?_) (w1:=?_) (by rfl) rfl ?_ ?_
     rotate_left;rotate_left
     ·go_simp
      refine⟨?_,?_⟩<;>rfl
     have hE:oZ (RS ((w4.alloc (.cells #[.int .i64 s.f0,.int .u64 s.f1] 70 (0,0))).alloc (.cells #[] 70 (0,0))) w.heap.size (.slice (some ⟨w4.heap.size+1,0,none⟩) 0 0) []):=⟨by
      have:=xH vk 70 w.heap.size (w4.alloc (.cells #[.int .i64 s.f0,.int .u64 s.f1] 70 (0,0))) (fun _=>True) HB5.o.size dD;rwa [vR] at this⟩
     have HB6:=Yu (o8 HB5.o (.cells #[] 70 (0,0)));have HX6:=Yu (pU HX5.o (.cells #[] 70 (0,0)));refine hK.o _ _ HX6.o (fun hS9=>?_);clear hK hS9;clear K;refine vv (a':=?_) ?_ ?_
     rotate_left
     ·show Act.put _ (some 46) _=_;simp only[Act.put,ah,aI,ay];rfl
     refine ER (i:=4) (N:=some 50) #[true,true,true,true,true,true,true,false,true,true,true,false,false] rfl rfl (by kernel_rfl) (by decide) (fun K hK=>?_);refine Kd.qV vk (w0:=w) w.heap.size (by rfl) (.tmp 46) (.tmp 49) 49 70 (.agg #[.int .i64 0,.int .u64 0]) 16 rfl Tryz.underlying49 yj rfl (by decide) (by omega) _ [] (l.take q) A q c (fun _=>True) (fun _=>False) rfl rfl hE.o (HTK.o _ HB6.o) (fun x cs hx=>zm hx) (fun _ hk=>hk.elim) (fun _ _=>dD) HB6.o ?hb ?hl ?_
     case hb=>exact HB6.o.size
     case hl=>(simp;omega)
     intro v5 w5 hR1 hB1 hg1 Zw;rw[dL] at hR1;have hn:(w4.alloc (.cells #[.int .i64 s.f0,.int .u64 s.f1] 70 (0,0))).heap.size=w4.heap.size+1:=vR _ _;refine hK.o _ _ (rQ HX6.o hg1 (vN (by have:=rE HX4.o;omega))) (fun hS9=>?_);clear hK;clear K;have HV5:=Yu (rQ (pU (qG w4 (.cells #[.int .i64 s.f0,.int .u64 s.f1] 70 (0,0))) (.cells #[] 70 (0,0))) hg1 (vN (by omega)));refine vv (a':=?_) ?_ ?_
     rotate_left
     ·show Act.put _ (some 50) _=_;simp only[Act.put,ah,aI,ay];rfl
     exact HC (_,v5,w4.heap.size) _ ⟨⟨hS9⟩,⟨hR1⟩,⟨hB1⟩,HV5,⟨show some w4.heap.size≠v5.ownBlock from AJ (by rw[vR,vR];omega) (vN (by omega)) Zw⟩,⟨HB4.o.size⟩,⟨AJ (rE HX6.o) (vN (by have:=rE HX4.o;omega)) Zw⟩⟩
    rintro⟨v46,v50,vb⟩ w5 ⟨HX5,HR5,HB5,HV5,HN5,HG5,HNB⟩;refine vv (a':=?_) ?_ ?_
    rotate_left
    ·simp only[Kw,Act.put,ah,aI,ay];rfl
    have HS5:=Yu (HXD.o w5 vb HB5.o HV5.o HG5.o);refine ER (i:=7) (N:=some 53) #[true,true,true,true,true,true,true,true,true,true,true,false,false] rfl rfl (by kernel_rfl) (by decide) (fun K hK=>?_);refine Kd.qV vk (w0:=w) w.heap.size (by rfl) (.tmp 50) (.tmp 52) 49 70 (.agg #[.int .i64 0,.int .u64 0]) 16 rfl Tryz.underlying49 yj rfl (by decide) (by omega) v50 (l.take q) [s] (some ⟨vb,0,none⟩) 1 1 (fun _=>True) (fun _=>False) rfl rfl HR5.o (Kd.pR HS5.o).2.2 (fun x cs hx=>zm hx) (fun _ hk=>hk.elim) (fun _ _=>dD) HB5.o ?hb ?hl ?_
    case hb=>exact HB5.o.size
    case hl=>(have:=HLL.o;omega)
    intro v6 w6 hR6 hB6 hg6 aju;have ajv:=Yu (AJ (rE HX5.o) HNB.o aju);refine hK.o _ _ (rQ HX5.o hg6 HNB.o) (fun hS9=>?_);clear hK;clear K;refine vv (a':=?_) ?_ ?_
    rotate_left
    ·show Act.put _ (some 53) _=_;simp only[Act.put,ah,aI,ay];rfl
    refine ER (i:=11) (N:=some 57) #[true,true,true,true,true,true,true,true,true,true,true,true,false] rfl rfl (by kernel_rfl) (by decide) (fun K hK=>?_);refine Kd.qV vk (w0:=w) w.heap.size (by rfl) (.tmp 53) (.tmp 56) 49 70 (.agg #[.int .i64 0,.int .u64 0]) 16 rfl Tryz.underlying49 yj rfl (by decide) (by omega) v6 (l.take q++[s]) (l.drop q) _ _ _ (fun _=>True) (fun _=>False) rfl rfl hR6 (HDR.o _ hB6) (fun x cs hx=>zm hx) (fun _ hk=>hk.elim) (fun _ _=>dD) hB6 ?hb ?hl ?_
    case hb=>exact hB6.size
    case hl=>(have:=HLL.o;rw[bg,this];simp;omega)
    intro v7 w7 hR7 hB7 hg7 afv;refine hK.o _ _ (rQ hS9 hg7 ajv.o) (fun hS8=>?_);clear hK hS9;clear K;refine vv (a':=?_) ?_ ?_
    rotate_left
    ·show Act.put _ (some 57) _=_;simp only[Act.put,ah,aI,ay];rfl
    refine rJ (i:=12) (N:=some 4) (v:=?_) (a':=?_) #[true,true,true,true,true,true,true,true,true,true,true,true,true] rfl rfl (by kernel_rfl) (fun _ _ _ h=>h) (Or.inl ⟨by rfl,?_⟩) ?_ ?_
    rotate_left
    ·intro w';go_simp
     try (with_reducible rfl)
    rotate_left
    ·simp only[Act.put,ah,aI,ay];rfl
    refine Jb (by kernel_rfl) ?_;go_wp2
    all_goals
     go_ret;exact⟨v7,rfl,by rw[HV.o];rw[bH] at hR7;exact hR7,hB7⟩
theorem Ia {m:Nat}:∀ {l:List qJ},(∀ x∈l,x.f1.length≤m)→tot l≤l.length*m
 | [],_=>bV _
 | x::l,h=>by
   have h1:=h x (bK ..);have h2:=Ia (fun y hy=>h y (dh _ hy):∀ y∈l,y.f1.length≤m);show x.f1.length+tot l≤(l.length+1)*m;rw[iD,Nat.one_mul];omega
theorem DU (l:List qJ):(joinL l).length≤l.length:=by
 have:=(zS l).1;show ((qZ l).map _).length≤_;rwa [bJ]
theorem Au {l:List qJ}{x:qJ}(h:x∈joinL l):(∃ s∈l,x.f0=s.f0)∧x.f1.length≤tot l:=by
 obtain⟨y,hy,rfl⟩:=List.mem_map.1 h;exact⟨BH l y hy,bM (BZ y.f1) ((zS l).2 y hy)⟩
theorem Mg:Kd.Heap yD:=Kd.GI _ (Kd.DR (Kd.GJ _ (Kd.GI _ (Kd.DR Kd.Ey Kd.Ey))) (Kd.GJ _ (Kd.GI _ (Kd.DR (Kd.GH .i64) (Kd.GH .u64)))))
end Go.Proofs.Y.PA
