/- Of the law ZHQDumpReads. -/
import Derived.Test.YtcgbgifbajdhpaaGreatDoorZH37
import Derived.Test.YtcgbgifbajdhpaaGreatDoorZH36
import Derived.Test.YtcgbgifbajdhpaaGreatDoorZH34
import Derived.Test.YtcgbgifbajdhpaaGreatDoorZH35
set_option linter.unusedVariables false
set_option linter.unusedSimpArgs false
set_option maxHeartbeats 16000000
set_option maxRecDepth 1000000
namespace Go.Proofs.Y.PA
open Go.RowKit Go.Proofs.Y.G Go.Proofs.YW.oO Go.Proofs.YW.pq Go.Proofs.YW.pz
theorem KL:∀ (k:Nat) (b:List Int),okB b=true→∀ f∈yP k b,f.pay.length≤1000∧okB f.pay=true
 | 0,_,_,f,hf=>by cases hf
 | k+1,b,hok,f,hf=>by
   rw[yP] at hf;split at hf
   ·cases hf
   ·split at hf
    ·exact KL k _ (tC hok (jF _ _)) f hf
    ·rename_i g hg;rcases List.mem_cons.1 hf with rfl | hf
     ·exact⟨(xK hg).2.1,Ko hok hg⟩
     ·exact KL k _ (tC hok (jF _ _)) f hf
def Dy (f:Fr):Int:=(f.num:Int)
noncomputable def zm (f:Fr):Bool:=decide (f.kind=2)&&(wh f.pay).isSome
noncomputable def gP (f:Fr):Pt:=⟨f.num,(wh f.pay).getD ⟨[],[]⟩⟩
theorem Du {f:Fr}(h:zm f=true):f.kind=2∧wh f.pay=some (gP f).ser:=by
 unfold zm at h;rw[dw,fM] at h;obtain⟨s,hs⟩:=Option.isSome_iff_exists.1 h.2;exact⟨h.1,by rw[gP,hs];rfl⟩
theorem OI (f:Fr):uO f=if zm f=true then some (gP f) else none:=by
 by_cases h:zm f=true
 ·obtain⟨h1,h2⟩:=Du h;rw[au h,uO,au h1,h2];rfl
 ·rw[av h,uO];split
  ·rename_i hk;cases hc:wh f.pay with
   | none=>rfl
   | some s=>exact absurd (by rw[zm,hk,hc];rfl) h
  ·rfl
noncomputable def Ej (l:List Fr):List Fr:=l.filter zm
theorem FV:∀ l:List Fr,l.filterMap uO=(Ej l).map gP
 | []=>rfl
 | f::l=>by
   rw[mK,OI,FV l,Ej,Ej,gM]
   by_cases h:zm f=true
   ·rw[au h,au h];rfl
   ·rw[av h,av h]
theorem Ia (l:List Fr)(k:Nat)(h:k<l.length):Ej (l.take (k+1))=Ej (l.take k)++(if zm l[k]=true then [l[k]] else []):=by
 rw[bQ h,Ej,jQ];congr 1;rw[gM,List.filter_nil]
theorem RB {α:Type}(key:α→Int)(l:List α)(p:α):Ba key (l++[p])=xI key p (Ba key l):=by
 rw[Ba,Ba,jv];rfl
noncomputable def DF (l:List Fr):List Fr:=Ba Dy (Ej l)
theorem QT (b:List Int):qL b=(DF (tZ b)).map (fun f=>(gP f).ser):=by
 rw[qL,zU,CP,FV];have h:=IJ gP (fun q:Pt=>(q.num:Int)) (Ej (tZ b));rw[← h,List.map_map];rfl
theorem Nc {l:List Fr}{f:Fr}(h:f∈DF l):f∈l∧zm f=true:=by
 rw[DF,UZ,Ej,List.mem_filter] at h;exact h
theorem Uf (l:List Fr):(DF l).length≤l.length:=by
 rw[DF,EC];exact List.length_filter_le ..
theorem TJ {α:Type}(key:α→Int)(p:α):∀ (l:List α) (a:Nat),Up key l→a≤l.length→(∀ (j:Nat) (h:j<l.length),a≤j→key p<key l[j])→(a=0∨∃ h:a-1<l.length,key l[a-1]≤key p)→xI key p l=l.take a++([p]++l.drop a)
 | [],a,_,ha,_,_=>by
   simp at ha;subst ha;rfl
 | q::l,a,hu,ha,hj,h0=>by
   obtain⟨h1,h2⟩:=List.pairwise_cons.1 hu;rw[xI]
   by_cases hp:key p<key q
   ·rw[au hp];cases a with
    | zero=>rfl
    | succ a=>
      rcases h0 with h0 | ⟨h,h0⟩
      ·omega
      ·simp only[ji] at h h0;cases a with
       | zero=>simp at h0;omega
       | succ a=>
         rw[List.getElem_cons_succ] at h0;have:=h1 _ (dL (by simpa using h));omega
   ·rw[av hp];cases a with
    | zero=>exact absurd (hj 0 (by simp) (ay _)) hp
    | succ a=>
      rw[TJ key p l a h2 (by simpa using ha) (fun j h hja=>by have:=hj (j+1) (by simpa using h) (by omega);simpa using this) (by
       rcases h0 with h0 | ⟨h,h0⟩
       ·omega
       ·simp only[ji] at h h0;cases a with
        | zero=>exact .inl rfl
        | succ a=>exact .inr ⟨by simpa using h,by simpa using h0⟩)]
      rfl
theorem Rb (l:List Fr)(k:Nat)(h:k<l.length)(hg:zm l[k]=true):DF (l.take (k+1))=xI Dy l[k] (DF (l.take k)):=by
 rw[DF,Ia l k h,au hg,RB];rfl
theorem Ra (l:List Fr)(k:Nat)(h:k<l.length)(hg:¬ zm l[k]=true):DF (l.take (k+1))=DF (l.take k):=by
 rw[DF,Ia l k h,av hg,dZ];rfl
theorem Yq {α:Type}{d:Kd α}{W:World}{g t:Nat}{cs:List Value}{x:α}{ok:Nat→Prop}(hb:W.heap[g]? = some (.cells cs.toArray t (0,0)))(hK:Kd.FK d W ok x cs)(hg:ok g):Kd.F d W ok (some ⟨g,0,none⟩) 1 [x]:=fun W' hW=>
 P9 d ((hW g hg (qQ hb)).trans hb) (by simpa using hK W' hW)
theorem PV:∃ i,Tryz.prog.info? 127=some i∧i.size=3:=by
 obtain⟨i,hi,hz⟩:=Option.map_eq_some_iff.1 Dx;simp only[bG] at hz;exact⟨i,hi,hz.2.1⟩
theorem Yd (A:Option Addr)(n c hi:Nat)(h2:hi≤n)(hc:n≤c) :
 ∀ j:Int,j=(hi:Int)→∀ W:World,(Instr.slice 82 (.slice A n c) none (some (.int .i64 j)) none).run Tryz.prog W = .ok (.slice A hi c) W:=by
 intro j hj W;subst hj;obtain⟨i0,hi0,hsz⟩:=PV;have h1:=Dp (P:=Tryz.prog) 82 127 .i64 Tryz.underlying82 hi0 A n c (hi:Int) (by omega) (by omega) hc W;rwa [aG] at h1
theorem YB (A:Option Addr)(len c lo:Nat)(h1:lo≤len)(hc:len≤c)(i:Int)(hi':i=(lo:Int)) :
 ∀ W:World,(Instr.slice 82 (.slice A len c) (some (.int .i64 i)) none none).run Tryz.prog W = .ok (.slice (if c=lo then A else A.map (·.add (lo*kF.sz))) (len-lo) (c-lo)) W:=by
 subst hi';intro W;obtain⟨i0,hi0,hsz⟩:=PV;have hu:=Tryz.underlying82;have hel:Tryz.prog.elem 82=127:=by simp[Program.elem,hu]
 have hu':Tryz.prog.underlying 82=some (.slice (Tryz.prog.elem 82)):=by rw[hel];exact hu
 rw[mP W 82 A len c hu' .i64 (lo:Int) (by omega) (by omega),hel];simp[sizeOf,typeInfo,hi0,hsz,sliced,Result.andThen,Yl]
theorem Xe {W w0:World}{base:Nat}{ok:Nat→Prop}{A:Option Addr}{n:Nat}{xs:List Fr}(h:Kd.F kF W ok A n xs)(k:Nat)(hk:k<n)(x:Fr)(hx:xs.getD k zF=x) :
 ∃ ad Af cf,A=some ad∧W.cell? (ad.add (k*3))=some (.int .i64 x.kind)∧W.cell? ⟨(ad.add (k*3)).block,(ad.add (k*3)).off+1,none⟩=some (.int .i64 x.num)∧W.cell? ⟨(ad.add (k*3)).block,(ad.add (k*3)).off+2,none⟩=some (.slice Af x.pay.length cf)∧x.pay.length≤cf∧Kd.FK kF W ok x [.int .i64 x.kind,.int .i64 x.num,.slice Af x.pay.length cf]:=by
 obtain⟨ad,cs,rfl,hcl,hFK,hcc,_⟩:=Kd.Sc h zF (k:Int) (by omega) (by omega);rw[aG] at hFK hcc;rw[hx] at hFK;obtain⟨Af,cf,rfl,hl,_⟩:=KT (Kd.zA hFK);refine⟨ad,Af,cf,rfl,hcc 0 _ rfl,?_,?_,hl,hFK⟩
 ·rw[← xX _ _ 1 (by omega)];exact hcc 1 _ rfl
 ·rw[← xX _ _ 2 (by omega)];exact hcc 2 _ rfl
theorem WG.c (A:Option Addr)(c n:Nat)(b:List Int)(w:World)(hn:b.length=n)(hr:Kd.C (Kd.int .u8) w A n b)(hc:n≤c)(hok:okB b=true)(hlen:n≤1000000)(hF1:(qL b).length≤100000)(hF2:tot (qL b)≤1000000)(hF3:∀ x∈qL b,x.f0.length≤1000000) :
 Calls Tryz.prog 43 #[.slice A n c] w fun e w'=>∃ (A':Option Addr) (c':Nat),e = .returned (.tuple #[.slice A' (joinL (qL b)).length c',.int .i64 ((qL b).length:Nat)])∧(joinL (qL b)).length≤c'∧Kd.C Bc w' A' (joinL (qL b)).length (joinL (qL b))∧Below w.heap.size w w':=by
 have mixed:Tryz.prog.follows .mixedOrders=true:=by kernel_rfl
 have FR:=Y7 (Qe.c A c n b w hn hr hc hok (by omega));have HFL:oM ((tZ b).length≤1000000):=⟨by have:=Eh b.length b;unfold tZ;omega⟩;have HFO:oM (∀ f∈tZ b,f.pay.length≤1000∧okB f.pay=true):=⟨fun f hf=>KL _ _ hok f hf⟩;have aeX:=Y7 (QT b);have HFF:oM ((qL b).length≤100000∧tot (qL b)≤1000000∧∀ x∈qL b,x.f0.length≤1000000):=⟨⟨hF1,hF2,hF3⟩⟩;clear hr hok hn hF1 hF2 hF3;generalize tZ b=fs at *;generalize qL b=FD at *
 go_enter Tryz.func43,Tryz.ntmps43
 go_wp2_with (first|(go_at_call 46;(with_reducible refine FR.o.mono ?_);rintro e wS ⟨v1,rfl,hn1,hb⟩;obtain⟨A16,c16,rfl,hc16,_⟩:=Kd.yj hn1;have HFS:=Y7 (Kd.BU (Kd.YG hn1));have HBS:=Y7 hb;clear hn1 hb))
 go_loopg [4,18] fs.length (fun kx s4 s18 wr=>∃ k:Nat,s18 = .int .i64 k∧k≤fs.length∧fs.length-k≤kx∧oM (Kd.N kF 127 wr wS.heap.size (fun _=>True) s4 (DF (fs.take k)))∧oM (Below wS.heap.size wS wr))
 case atStart=>exact⟨0,rfl,bP _,by omega,⟨by rw[kD];exact Kd.FJ _ _ _ _ _⟩,⟨aU _ _⟩⟩
 case round=>
  obtain⟨k,rfl,hk,hkx,HN,HB⟩:=hrel;obtain⟨wo,hwo⟩:∃ wo,wo=wr:=⟨_,rfl⟩;subst hwo
  by_cases hlt:k<fs.length
  ·obtain⟨f,hf⟩:∃ f,fs[k]=f:=⟨_,rfl⟩;obtain⟨ad,Af,cf,rfl,x0,x1,x2,hcf,hFK⟩:=Xe (w0:=wS) (base:=0) (Kd.xJ HFS.o HB.o) k hlt f (by rw[← hf];simp[aV,aR hlt]);have hkz:(k:Int)<(fs.length:Int):=by omega
   have agV:=Y7 (HFO.o f (hf ▸ dL hlt));have HGS:=Y7 (fun hg=>Rb fs k hlt (hf ▸ hg));have HGK:=Y7 (fun hg=>Ra fs k hlt (hf ▸ hg));have hfl:=HFL.o;obtain⟨nf,hnf⟩:∃ nf,f.pay.length=nf:=⟨_,rfl⟩;have HNF:=Y7 hnf;have afy:=Y7 hFK;rw[hnf] at x2 hcf afy;have afz:=Y7 (qx wo (.cells #[.int .i64 f.kind,.int .i64 f.num,.slice Af nf cf] 127 (0,0)));have adZ:=Y7 (oN (aU wo.heap.size wo) (.cells #[.int .i64 f.kind,.int .i64 f.num,.slice Af nf cf] 127 (0,0)));have HCP:oM (∀ W,Below wo.heap.size wo W→Kd.C (Kd.int .u8) W Af nf f.pay):=⟨fun W hb=>by
    obtain⟨Ag,cg,he,_,hC⟩:=KT (Kd.zA (Kd.y7 afy.o hb));injection he with _ he
    injection he with _ he
    injection he with he _
    injection he with he _ _
    rw[hnf] at hC;rw[he];exact hC⟩
   have q2:=(oQ afz.o 2).trans rfl;have hps:=agV.o;clear hFK hnf
   by_cases hg:zm f=true
   ·have hg2:=Du hg;have hki:((f.kind:Int) != 2)=false:=by rw[hg2.1];rfl
    have CHW:oM (∀ W,Below wo.heap.size wo W→Calls Tryz.prog 78 #[.slice Af nf cf] W fun e w'=>∃ (A1:Option Addr) (n1 c1:Nat) (A2:Option Addr) (n2 c2:Nat),e = .returned (.tuple #[.agg #[.slice A1 n1 c1,.slice A2 n2 c2],.bool true])∧Below W.heap.size W w'):=⟨fun W hb=>(Lc.c Af cf nf f.pay W HNF.o (HCP.o W hb) hcf hps.2 (by have:=hps.1;have:=HNF.o;omega)).mono fun e w' ⟨A1,A2,n1,c1,n2,c2,ok,he,hb,h⟩=>by
     rcases h with ⟨_,h⟩ | ⟨rfl,_⟩
     ·rw[hg2.2] at h;cases h
     ·exact⟨A1,n1,c1,A2,n2,c2,he,hb⟩⟩
    have HST:=Y7 (HGS.o hg);obtain⟨L,hL⟩:∃ L,DF (fs.take k)=L:=⟨_,rfl⟩;have HLL:oM (L.length≤1000000):=⟨by rw[← hL];have:=Uf (fs.take k);rw[aW] at this;omega⟩;have HUP:oM (Up Dy L):=⟨by rw[← hL];exact Qm _ _⟩;rw[hL] at HST HN;clear hL hg2 HGS HGK hg hps;obtain⟨A4,c4,rfl,hc4,_⟩:=Kd.yj HN.o;have anJ:=Y7 (Kd.BU (Kd.YG HN.o))
    go_wp2_with (first|(go_at_call 78;(with_reducible refine (CHW.o _ adZ.o).mono ?_);rintro e w2 ⟨A1,n1,c1,A2,n2,c2,rfl,hb⟩;have HB2:=Y7 (oP adZ.o hb);have HXX:=Y7 (o7 afz.o hb);have z0:=qH (.cells #[.slice A1 n1 c1,.slice A2 n2 c2] 51 (0,0)) ((oQ HXX.o 0).trans rfl);have z1:=qH (.cells #[.slice A1 n1 c1,.slice A2 n2 c2] 51 (0,0)) ((oQ HXX.o 1).trans rfl);have z2:=qH (.cells #[.slice A1 n1 c1,.slice A2 n2 c2] 51 (0,0)) ((oQ HXX.o 2).trans rfl);have abl:=Y7 (oN HB2.o (.cells #[.slice A1 n1 c1,.slice A2 n2 c2] 51 (0,0)));have afA:=Y7 (pK HXX.o (.cells #[.slice A1 n1 c1,.slice A2 n2 c2] 51 (0,0)));clear hb))
    clear z0 z1 z2 HXX HB2;have akF:=Y7 (Kd.xJ anJ.o abl.o);have anK:=Y7 (Kd.y7 afy.o abl.o);have hbx:wo.heap.size<(w2.alloc (.cells #[.slice A1 n1 c1,.slice A2 n2 c2] 51 (0,0))).heap.size:=qQ afA.o;generalize hW3:w2.alloc (.cells #[.slice A1 n1 c1,.slice A2 n2 c2] 51 (0,0))=W3 at *;clear hW3
    go_loopg [9] L.length (fun kx s9 wr=>∃ a:Nat,s9 = .int .i64 a∧a≤L.length∧a≤kx∧oM (∀ (j:Nat) (h:j<L.length),a≤j→Dy f<Dy L[j])∧oM (Below W3.heap.size W3 wr))
    case atStart=>exact⟨L.length,rfl,ay _,ay _,⟨fun j h hj=>by omega⟩,⟨aU _ _⟩⟩
    case round=>
     obtain⟨a,rfl,ha,hax,HJ,HB3⟩:=hrel;have HXR:=Y7 (o7 afA.o HB3.o);have hla:=HLL.o
     go_upto_region 8 with (fail)
     rename_i hKK
     go_cut [49] (fun v wx=>∃ bv:Bool,v = .bool bv∧oM (bv=true↔∃ h:a-1<L.length,0<a∧Dy f<Dy L[a-1])∧oM (Below W3.heap.size W3 wx))
     case first=>
      have xk:=BW.cell ((oQ HXR.o 1).trans rfl);rcases dW a with rfl | ha0
      ·have hg:¬ (((0:Nat):Int)>0):=by omega
       go_wp2_with fail
       refine qD mixed (by kernel_rfl) ?_
       repeat (any_goals (first | go_big_quiet_step (fail)|quiet_step (fail)))
       all_goals (refine dU ?_;intro _ hw';obtain⟨⟨w8,hb⟩,hw''⟩:=hw';subst hw'';have HB8:=Y7 (oP HB3.o hb);clear hb)
       go_wp2
       go_meet
       exact⟨false,rfl,⟨⟨fun h=>(by cases h),fun ⟨_,h,_⟩=>by omega⟩⟩,HB8⟩
      ·have hal:a-1<L.length:=by omega
       obtain⟨g,hg⟩:∃ g,L[a-1]=g:=⟨_,rfl⟩;obtain⟨ag,Ag,cg,rfl,_,xg,_,_,_⟩:=Xe (w0:=wS) (base:=0) (Kd.xJ akF.o HB3.o) (a-1) hal g (by rw[← hg];simp[aV,aR hal]);have xgB:=BW.cell xg;have hga:((a:Int)>0):=by omega
       have hwa:IntKind.i64.wrap ((a:Int)-1)=((a-1:Nat):Int):=by rw[bD];omega
       have hwb:(a:Int)-1=((a-1:Nat):Int):=by omega
       have hai:((a-1:Nat):Int)<(L.length:Int):=by omega
       have HGG:oM (Dy L[a-1]=(g.num:Int)):=⟨by rw[hg];rfl⟩;clear hg
       by_cases hcmp:(f.num:Int)<(g.num:Int)
       ·have hc1:((g.num:Int)>(f.num:Int)):=hcmp
        go_wp2_with fail
        refine qD mixed (by kernel_rfl) ?_
        repeat (any_goals (first | go_big_quiet_step (fail)|quiet_step (fail)))
        all_goals (refine dU ?_;intro _ hw';obtain⟨⟨w8,hb⟩,hw''⟩:=hw';subst hw'';have HB8:=Y7 (oP HB3.o hb);clear hb)
        go_wp2
        go_meet
        exact⟨true,rfl,⟨⟨fun _=>⟨hal,ha0,by rw[HGG.o];exact hcmp⟩,fun _=>rfl⟩⟩,HB8⟩
       ·have hc1:¬ ((g.num:Int)>(f.num:Int)):=hcmp;have HCN:oM (¬ f.num<g.num):=⟨by omega⟩
        go_wp2_with fail
        refine qD mixed (by kernel_rfl) ?_
        repeat (any_goals (first | go_big_quiet_step (fail)|quiet_step (fail)))
        all_goals (refine dU ?_;intro _ hw';obtain⟨⟨w8,hb⟩,hw''⟩:=hw';subst hw'';have HB8:=Y7 (oP HB3.o hb);clear hb)
        go_wp2
        go_meet
        exact⟨decide (f.num<g.num),rfl,⟨⟨fun h=>absurd (aJ h) HCN.o,fun ⟨_,_,h⟩=>(by rw[HGG.o] at h;unfold Dy at h;exact absurd (by omega) HCN.o)⟩⟩,HB8⟩
     case rest=>
      obtain⟨bv,rfl,HBV,HB8⟩:=hcut;refine hKK _ _ ?_;cases bv with
      | true=>
        obtain⟨hal,ha0,hcmp⟩:=HBV.o.1 rfl;have HJ2:oM (∀ (j:Nat) (h:j<L.length),a-1≤j→Dy f<Dy L[j]):=⟨fun j h hj=>by
         rcases mW hj with h2 | h2
         ·subst h2;exact hcmp
         ·exact HJ.o j h (by omega)⟩
        have hwa:IntKind.i64.wrap ((a:Int)-1)=((a-1:Nat):Int):=by rw[bD];omega
        have hwb:(a:Int)-1=((a-1:Nat):Int):=by omega
        clear hcmp;go_wp2
        go_roundg (a-1)
        case measure=>omega
        case rel=>exact⟨a-1,by first | rfl | go_num,by omega,ay _,HJ2,HB8⟩
      | false=>
        have HIN:oM (xI Dy f L=L.take a++([f]++L.drop a)):=⟨TJ Dy f L a HUP.o ha HJ.o (by
         rcases dW a with h | h
         ·exact .inl h
         ·refine .inr ⟨by omega,?_⟩;rcases Int.lt_or_le (Dy f) (Dy L[a-1]) with h2 | h2
          ·have:=HBV.o.2 ⟨by omega,h,h2⟩;cases this
          ·exact h2)⟩
        have HF8:=Y7 (Kd.xJ akF.o HB8.o);have HK8:=Y7 (Kd.y7 anK.o HB8.o);have ai3:=Y7 (o7 afA.o HB8.o);have akG:=Y7 (oP abl.o HB8.o);obtain⟨bx,ai4⟩:∃ bx,wo.heap.size=bx:=⟨_,rfl⟩;have HBX:oM (bx<wc.heap.size):=⟨by rw[← ai4];exact qQ ai3.o⟩;have HS0:oM (wS.heap.size≤wc.heap.size):=⟨bY HB.o.size akG.o.size⟩;have akB:=Yd A4 L.length c4 a ha hc4 (a:Int) rfl;have ah6:=YB A4 L.length c4 a ha hc4 (a:Int) rfl;have hFT:=Kd.WT HF8.o ha;have hFD:=Kd.X6 HF8.o ha hc4;obtain⟨AT,hAT⟩:∃ AT,(if c4=a then A4 else A4.map (·.add (a*kF.sz)))=AT:=⟨_,rfl⟩;rw[hAT] at ah6 hFD;obtain⟨cT,hcT⟩:∃ cT,c4-a=cT:=⟨_,rfl⟩;obtain⟨nT,hnT⟩:∃ nT,L.length-a=nT:=⟨_,rfl⟩;rw[hcT,hnT] at ah6;rw[aX,hnT] at hFD;rw[aW,dJ ha] at hFT;have HNT:oM (nT≤L.length):=⟨by omega⟩;have HDL:oM ((L.drop a).length=nT):=⟨by rw[aX,hnT]⟩;have HTK:oM (∀ W,Below wc.heap.size wc W→Kd.F kF W (fun k=>k<wc.heap.size) A4 a (L.take a)):=⟨fun W hb=>Kd.xJ (Kd.Sd (Kd.BU hFT) (fun k hk=>hk.2)) hb⟩;have HDR:oM (∀ W,Below wc.heap.size wc W→Kd.F kF W (fun k=>k<wc.heap.size) AT nT (L.drop a)):=⟨fun W hb=>Kd.xJ (Kd.Sd (Kd.BU hFD) (fun k hk=>hk.2)) hb⟩;have HFK:oM (∀ W,Below wc.heap.size wc W→Kd.FK kF W (fun k=>k<wc.heap.size) f [.int .i64 f.kind,.int .i64 f.num,.slice Af nf cf]):=⟨fun W hb=>Kd.y7 (Kd.J9 (Kd.LG HK8.o) (fun k hk=>hk.2)) hb⟩;have HXB:=ai3;rw[ai4] at HXB;clear hFT hFD hAT hcT hnT HB8 HF8 HK8 HBV HJ ai3 HXR afA hbx
        go_wp2_with fail
        rw[ai4];refine DR (n:=13) (ds:=[]) (S:=fun W'=>W'.heap[bx]? = some (.cells #[.int .i64 f.kind,.int .i64 f.num,.slice Af nf cf] 127 (0,0))) #[false,false,false,false,false,false,false,false,false,false,false,false,false] mixed rfl rfl HXB.o (fun hS=>?_);refine rC (i:=1) (N:=some 53) (v:=?_) (a':=?_) #[false,true,false,false,false,false,false,false,false,false,false,false,false] rfl rfl (by kernel_rfl) (fun _ _ _ h=>h) (Or.inl ⟨by rfl,?_⟩) ?_ ?_
        rotate_left
        ·intro w';go_simp
         try (with_reducible rfl)
        rotate_left
        ·simp only[Act.put,ah,ak,aj];rfl
        refine rC (i:=2) (N:=some 54) (v:=?_) (a':=?_) #[false,true,true,false,false,false,false,false,false,false,false,false,false] rfl rfl (by kernel_rfl) (fun _ _ _ h=>h) (Or.inl ⟨by rfl,?_⟩) ?_ ?_
        rotate_left
        ·intro w';go_simp
         try (with_reducible rfl)
        rotate_left
        ·simp only[Act.put,ah,ak,aj];rfl
        refine rC (i:=3) (N:=some 55) (v:=?_) (a':=?_) #[false,true,true,true,false,false,false,false,false,false,false,false,false] rfl rfl (by kernel_rfl) (fun _ _ _ h=>h) (Or.inl ⟨by rfl,?_⟩) ?_ ?_
        rotate_left
        ·intro w';go_simp
         try (with_reducible rfl)
        rotate_left
        ·simp only[Act.put,ah,ak,aj];rfl
        refine rC (i:=8) (N:=some 60) (v:=?_) (a':=?_) #[false,true,true,true,false,false,false,false,true,false,false,false,false] rfl rfl (by kernel_rfl) (fun _ _ _ h=>h) (Or.inl ⟨by rfl,?_⟩) ?_ ?_
        rotate_left
        ·intro w';go_simp
         try (with_reducible rfl)
        rotate_left
        ·simp only[Act.put,ah,ak,aj];rfl
        refine rC (i:=9) (N:=some 61) (v:=?_) (a':=?_) #[false,true,true,true,false,false,false,false,true,true,false,false,false] rfl rfl (by kernel_rfl) (fun _ _ _ h=>h) (Or.inl ⟨by rfl,?_⟩) ?_ ?_
        rotate_left
        ·intro w';go_simp
         try (with_reducible rfl)
        rotate_left
        ·simp only[Act.put,ah,ak,aj];rfl
        refine rC (i:=10) (N:=some 62) (v:=?_) (a':=?_) #[false,true,true,true,false,false,false,false,true,true,true,false,false] rfl rfl (by kernel_rfl) (fun _ _ _ h=>h) (Or.inl ⟨by rfl,?_⟩) ?_ ?_
        rotate_left
        ·intro w';go_simp
         try (with_reducible rfl)
        rotate_left
        ·simp only[Act.put,ah,ak,aj];rfl
        refine EI (i:=5) (N:=some 57) (v:=?_) (a':=?_) #[false,true,true,true,false,true,false,false,true,true,true,false,false] rfl rfl (by kernel_rfl) (fun _ _ _ h=>h) (Or.inl ⟨by rfl,?_⟩) hS ?_ ?_
        rotate_left
        ·rintro w' hS2;have c0:=(oQ hS2 0).trans rfl;have c1:=(oQ hS2 1).trans rfl;have c2:=(oQ hS2 2).trans rfl;go_simp
         try (with_reducible rfl)
        rotate_left
        ·simp only[Act.put,ah,ak,aj];rfl
        have HX4:=Y7 (show wc.drew.heap[bx]? = some (.cells #[.int .i64 f.kind,.int .i64 f.num,.slice Af nf cf] 127 (0,0)) from hS);have HB4:=Y7 (q9 (aU wc.heap.size wc));clear hS HXB;generalize wc.drew=w4 at HB4 HX4 ⊢;refine TM (σ:=Value × Value × Nat) 3 #[true,true,true,true,true,true,true,false,true,true,true,false,false] (fun z=>[(52,z.1),(56,z.2.1),(58,.slice (some ⟨z.2.2,0,none⟩) 1 1)]) (fun z W=>oM (W.heap[bx]? = some (.cells #[.int .i64 f.kind,.int .i64 f.num,.slice Af nf cf] 127 (0,0)))∧oM (Kd.N kF 127 W wc.heap.size (fun _=>True) z.2.1 (L.take a))∧oM (Below wc.heap.size wc W)∧oM (W.heap[z.2.2]? = some (.cells #[.int .i64 f.kind,.int .i64 f.num,.slice Af nf cf] 127 (0,0)))∧oM (some z.2.2≠z.2.1.ownBlock)) ?_ (fun HC=>?_)
        rotate_left
        ·refine RV (i:=0) (j:=6) (Ni:=some 52) (Nj:=some 58) #[true,true,true,true,false,true,false,false,true,true,true,false,false] #[false,true,true,true,false,true,true,false,true,true,true,false,false] rfl rfl rfl rfl (by kernel_rfl) (by decide) (by decide) (fun K hK=>?_) (fun K hK=>?_)
         ·refine wF (v:=?_) (w1:=?_) (by rfl) rfl ?_ ?_
          rotate_left;rotate_left
          ·go_simp
           refine⟨?_,?_⟩<;>rfl
          have hE:=Y7 (Kd.YM (wu kF 127 wc.heap.size w4 (fun _=>True) HB4.o.size bE));have HB5:=Y7 (oN HB4.o (.cells #[] 127 (0,0)));have HX5:=Y7 (pK HX4.o (.cells #[] 127 (0,0)));have hs4:=HB4.o.size;refine hK.o _ _ HX5.o (fun hS9=>?_);clear hK hS9;clear K;refine tu (a':=?_) ?_ ?_
          rotate_left
          ·show Act.put _ (some 52) _=_;simp only[Act.put,ah,ak,aj];rfl
          refine RV (i:=4) (j:=6) (Ni:=some 56) (Nj:=some 58) #[true,true,true,true,true,true,false,false,true,true,true,false,false] #[true,true,true,true,false,true,true,false,true,true,true,false,false] rfl rfl rfl rfl (by kernel_rfl) (by decide) (by decide) (fun K hK=>?_) (fun K hK=>?_)
          ·refine Kd.uR kF (w0:=wc) wc.heap.size (by rfl) (.tmp 52) (.tmp 55) 82 127 (.agg #[.int .i64 0,.int .i64 0,.slice none 0 0]) 40 rfl Tryz.underlying82 Dx rfl (by decide) (by omega) _ [] (L.take a) A4 a c4 (fun _=>True) (fun k=>k<wc.heap.size) rfl rfl hE.o (HTK.o _ HB5.o) ?ho (fun _ _=>bE) HB5.o ?hb ?hl ?_
           case ho=>
            intro k hk;exact⟨bE,su (by omega)⟩
           case hb=>exact (HB5.o).size
           case hl=>(simp;omega)
           intro v5 w5 hN1 hB1 hg1 ZL;rw[cB] at hN1;have HX6:=Y7 (qK HX5.o hg1 (su (by have:=qQ HX4.o;omega)));refine hK.o _ _ HX6.o (fun hS9=>?_);clear hK hS9;clear K;refine tu (a':=?_) ?_ ?_
           rotate_left
           ·show Act.put _ (some 56) _=_;simp only[Act.put,ah,ak,aj];rfl
           refine zG (i:=6) (N:=some 58) #[true,true,true,true,true,true,true,false,true,true,true,false,false] rfl rfl (by kernel_rfl) (by decide) (fun K hK=>?_);refine wF (v:=?_) (w1:=?_) (by rfl) rfl ?_ ?_
           rotate_left;rotate_left
           ·go_simp
            refine⟨?_,?_⟩<;>rfl
           have HX7:=Y7 (pK HX6.o (.cells #[.int .i64 f.kind,.int .i64 f.num,.slice Af nf cf] 127 (0,0)));refine hK.o _ _ HX7.o (fun hS9=>?_);clear hK hS9;clear K;refine tu (a':=?_) ?_ ?_
           rotate_left
           ·show Act.put _ (some 58) _=_;simp only[Act.put,ah,ak,aj];rfl
           exact HC (_,v5,w5.heap.size) _ ⟨HX7,⟨Kd.DX hN1 _⟩,⟨oN hB1 _⟩,⟨qx _ _⟩,⟨show some w5.heap.size≠v5.ownBlock from fun e=>kL _ (Kd.Vj hN1 _ e.symm)⟩⟩
          ·refine wF (v:=?_) (w1:=?_) (by rfl) rfl ?_ ?_
           rotate_left;rotate_left
           ·go_simp
            refine⟨?_,?_⟩<;>rfl
           have HX6:=Y7 (pK HX5.o (.cells #[.int .i64 f.kind,.int .i64 f.num,.slice Af nf cf] 127 (0,0)));refine hK.o _ _ HX6.o (fun hS9=>?_);clear hK hS9;clear K;refine tu (a':=?_) ?_ ?_
           rotate_left
           ·show Act.put _ (some 58) _=_;simp only[Act.put,ah,ak,aj];rfl
           refine zG (i:=4) (N:=some 56) #[true,true,true,true,true,true,true,false,true,true,true,false,false] rfl rfl (by kernel_rfl) (by decide) (fun K hK=>?_);have HB6:=Y7 (oN HB5.o (.cells #[.int .i64 f.kind,.int .i64 f.num,.slice Af nf cf] 127 (0,0)));refine Kd.uR kF (w0:=wc) wc.heap.size (by rfl) (.tmp 52) (.tmp 55) 82 127 (.agg #[.int .i64 0,.int .i64 0,.slice none 0 0]) 40 rfl Tryz.underlying82 Dx rfl (by decide) (by omega) _ [] (L.take a) A4 a c4 (fun _=>True) (fun k=>k<wc.heap.size) rfl rfl (Kd.DX hE.o _) (HTK.o _ HB6.o) ?ho (fun _ _=>bE) HB6.o ?hb ?hl ?_
           case ho=>
            intro k hk;exact⟨bE,su (by omega)⟩
           case hb=>exact (HB6.o).size
           case hl=>(simp;omega)
           intro v5 w5 hN1 hB1 hg1 ZL;rw[cB] at hN1;have HX7:=Y7 (qK HX6.o hg1 (su (by have:=qQ HX4.o;omega)));refine hK.o _ _ HX7.o (fun hS9=>?_);clear hK hS9;clear K;have hn:(w4.alloc (.cells #[] 127 (0,0))).heap.size=w4.heap.size+1:=bW ..;have HV5:w5.heap[w4.heap.size+1]? = some (.cells #[.int .i64 f.kind,.int .i64 f.num,.slice Af nf cf] 127 (0,0)):=hn ▸ qK (qx (w4.alloc (.cells #[] 127 (0,0))) (.cells #[.int .i64 f.kind,.int .i64 f.num,.slice Af nf cf] 127 (0,0))) hg1 (su (by omega));refine tu (a':=?_) ?_ ?_
           rotate_left
           ·show Act.put _ (some 56) _=_;simp only[Act.put,ah,ak,aj];rfl
           exact HC (_,v5,w4.heap.size+1) _ ⟨HX7,⟨hN1⟩,⟨hB1⟩,⟨HV5⟩,⟨show some (w4.heap.size+1)≠v5.ownBlock from yt (by rw[bW,bW];omega) (su (by omega)) ZL⟩⟩
         ·refine wF (v:=?_) (w1:=?_) (by rfl) rfl ?_ ?_
          rotate_left;rotate_left
          ·go_simp
           refine⟨?_,?_⟩<;>rfl
          have HB5:=Y7 (oN HB4.o (.cells #[.int .i64 f.kind,.int .i64 f.num,.slice Af nf cf] 127 (0,0)));have HX5:=Y7 (pK HX4.o (.cells #[.int .i64 f.kind,.int .i64 f.num,.slice Af nf cf] 127 (0,0)));have hs4:=HB4.o.size;refine hK.o _ _ HX5.o (fun hS9=>?_);clear hK hS9;clear K;refine tu (a':=?_) ?_ ?_
          rotate_left
          ·show Act.put _ (some 58) _=_;simp only[Act.put,ah,ak,aj];rfl
          refine zG (i:=0) (N:=some 52) #[true,true,true,true,false,true,true,false,true,true,true,false,false] rfl rfl (by kernel_rfl) (by decide) (fun K hK=>?_);refine wF (v:=?_) (w1:=?_) (by rfl) rfl ?_ ?_
          rotate_left;rotate_left
          ·go_simp
           refine⟨?_,?_⟩<;>rfl
          have hE:oM (Kd.N kF 127 ((w4.alloc (.cells #[.int .i64 f.kind,.int .i64 f.num,.slice Af nf cf] 127 (0,0))).alloc (.cells #[] 127 (0,0))) wc.heap.size (fun _=>True) (.slice (some ⟨w4.heap.size+1,0,none⟩) 0 0) []):=⟨by
           have:=Kd.YM (wu kF 127 wc.heap.size (w4.alloc (.cells #[.int .i64 f.kind,.int .i64 f.num,.slice Af nf cf] 127 (0,0))) (fun _=>True) HB5.o.size bE);rwa [bW] at this⟩
          have HB6:=Y7 (oN HB5.o (.cells #[] 127 (0,0)));have HX6:=Y7 (pK HX5.o (.cells #[] 127 (0,0)));refine hK.o _ _ HX6.o (fun hS9=>?_);clear hK hS9;clear K;refine tu (a':=?_) ?_ ?_
          rotate_left
          ·show Act.put _ (some 52) _=_;simp only[Act.put,ah,ak,aj];rfl
          refine zG (i:=4) (N:=some 56) #[true,true,true,true,true,true,true,false,true,true,true,false,false] rfl rfl (by kernel_rfl) (by decide) (fun K hK=>?_);refine Kd.uR kF (w0:=wc) wc.heap.size (by rfl) (.tmp 52) (.tmp 55) 82 127 (.agg #[.int .i64 0,.int .i64 0,.slice none 0 0]) 40 rfl Tryz.underlying82 Dx rfl (by decide) (by omega) _ [] (L.take a) A4 a c4 (fun _=>True) (fun k=>k<wc.heap.size) rfl rfl hE.o (HTK.o _ HB6.o) ?ho (fun _ _=>bE) HB6.o ?hb ?hl ?_
          case ho=>
           intro k hk;exact⟨bE,su (by omega)⟩
          case hb=>exact (HB6.o).size
          case hl=>(simp;omega)
          intro v5 w5 hN1 hB1 hg1 ZL;rw[cB] at hN1;have HX7:=Y7 (qK HX6.o hg1 (su (by have:=qQ HX4.o;omega)));refine hK.o _ _ HX7.o (fun hS9=>?_);clear hK hS9;clear K;have HV5:w5.heap[w4.heap.size]? = some (.cells #[.int .i64 f.kind,.int .i64 f.num,.slice Af nf cf] 127 (0,0)):=qK (pK (qx w4 (.cells #[.int .i64 f.kind,.int .i64 f.num,.slice Af nf cf] 127 (0,0))) (.cells #[] 127 (0,0))) hg1 (su (by omega));refine tu (a':=?_) ?_ ?_
          rotate_left
          ·show Act.put _ (some 56) _=_;simp only[Act.put,ah,ak,aj];rfl
          exact HC (_,v5,w4.heap.size) _ ⟨HX7,⟨hN1⟩,⟨hB1⟩,⟨HV5⟩,⟨show some w4.heap.size≠v5.ownBlock from yt (by rw[bW,bW];omega) (su (by omega)) ZL⟩⟩
        rintro⟨v52,v56,vb⟩ w5 ⟨HX5,HN5,HB5,HV5,HG5⟩;dsimp only at HN5 HV5 HG5;refine tu (a':=?_) ?_ ?_
        rotate_left
        ·simp only[Fq,Act.put,ah,ak,aj];rfl
        refine zG (i:=7) (N:=some 59) #[true,true,true,true,true,true,true,true,true,true,true,false,false] rfl rfl (by kernel_rfl) (by decide) (fun K hK=>?_);have hvb:vb<w5.heap.size:=qQ HV5.o;refine Kd.uR kF (w0:=wc) wc.heap.size (by rfl) (.tmp 56) (.tmp 58) 82 127 (.agg #[.int .i64 0,.int .i64 0,.slice none 0 0]) 40 rfl Tryz.underlying82 Dx rfl (by decide) (by omega) v56 (L.take a) [f] (some ⟨vb,0,none⟩) 1 1 (fun _=>True) (fun k=>k<wc.heap.size∧some k≠v56.ownBlock∨k=vb) rfl rfl HN5.o (Yq (HV5.o) (Kd.J9 (HFK.o _ HB5.o) (fun k hk => .inl ⟨hk,fun e=>by have:=Kd.Df HN5.o k e.symm;omega⟩)) (.inr rfl)) ?ho (fun _ _=>bE) HB5.o ?hb ?hl ?_
        case ho=>
         intro k hk;refine⟨bE,?_⟩;rcases hk with hk | rfl
         ·exact hk.2
         ·exact HG5.o
        case hb=>exact HB5.o.size
        case hl=>(rw[aW];have:=HLL.o;omega)
        intro v6 w6 hN6 hB6 hg6 akn;have HNB:=Y7 (Kd.Vk HN5.o);have HX6:oM (w6.heap[bx]? = some (.cells #[.int .i64 f.kind,.int .i64 f.num,.slice Af nf cf] 127 (0,0))):=⟨qK HX5.o hg6 (fun e=>by have h1:=Kd.Df HN5.o bx e.symm;have h2:=HBX.o;omega)⟩;refine hK.o _ _ HX6.o (fun hS9=>?_);clear hK hS9;clear K;refine tu (a':=?_) ?_ ?_
        rotate_left
        ·show Act.put _ (some 59) _=_;simp only[Act.put,ah,ak,aj];rfl
        refine zG (i:=11) (N:=some 63) #[true,true,true,true,true,true,true,true,true,true,true,true,false] rfl rfl (by kernel_rfl) (by decide) (fun K hK=>?_);refine Kd.uR kF (w0:=wc) wc.heap.size (by rfl) (.tmp 59) (.tmp 62) 82 127 (.agg #[.int .i64 0,.int .i64 0,.slice none 0 0]) 40 rfl Tryz.underlying82 Dx rfl (by decide) (by omega) v6 (L.take a++[f]) (L.drop a) AT nT cT (fun _=>True) (fun k=>k<wc.heap.size) rfl rfl hN6 (HDR.o _ hB6) ?ho (fun _ _=>bE) hB6 ?hb ?hl ?_
        case ho=>
         intro k hk;exact⟨bE,fun e=>by have:=Kd.Df hN6 k e.symm;omega⟩
        case hb=>exact hB6.size
        case hl=>(rw[aT,aW];have h1:=HLL.o;have h2:=HNT.o;simp;omega)
        intro v7 w7 hN7 hB7 hg7 agK;have HX7:oM (w7.heap[bx]? = some (.cells #[.int .i64 f.kind,.int .i64 f.num,.slice Af nf cf] 127 (0,0))):=⟨qK HX6.o hg7 (fun e=>by have h1:=Kd.Df hN6 bx e.symm;have h2:=HBX.o;omega)⟩;refine hK.o _ _ HX7.o (fun hS8=>?_);clear hK hS8;clear K;refine tu (a':=?_) ?_ ?_
        rotate_left
        ·show Act.put _ (some 63) _=_;simp only[Act.put,ah,ak,aj];rfl
        refine rC (i:=12) (N:=some 4) (v:=?_) (a':=?_) #[true,true,true,true,true,true,true,true,true,true,true,true,true] rfl rfl (by kernel_rfl) (fun _ _ _ h=>h) (Or.inl ⟨by rfl,?_⟩) ?_ ?_
        rotate_left
        ·intro w';go_simp
         try (with_reducible rfl)
        rotate_left
        ·simp only[Act.put,ah,ak,aj];rfl
        refine Hr (by kernel_rfl) ?_;clear HX5 HX6 HX7;go_wp2
        go_roundg (fs.length-(k+1))
        case measure=>omega
        case rel=>exact⟨k+1,by go_num,hlt,ay _,⟨by rw[HST.o,hf,HIN.o,← bC];exact Kd.Pq hN7 HS0.o⟩,⟨HB.o.trans ((oP akG.o hB7).mono HB.o.size)⟩⟩
   ·have HST:=Y7 (HGK.o hg)
    by_cases hk2:f.kind=2
    ·have hki:((f.kind:Int) != 2)=false:=by rw[hk2];rfl
     have CHW:oM (∀ W,Below wo.heap.size wo W→Calls Tryz.prog 78 #[.slice Af nf cf] W fun e w'=>∃ (A1:Option Addr) (n1 c1:Nat) (A2:Option Addr) (n2 c2:Nat),e = .returned (.tuple #[.agg #[.slice A1 n1 c1,.slice A2 n2 c2],.bool false])∧Below W.heap.size W w'):=⟨fun W hb=>(Lc.c Af cf nf f.pay W HNF.o (HCP.o W hb) hcf hps.2 (by have:=hps.1;have:=HNF.o;omega)).mono fun e w' ⟨A1,A2,n1,c1,n2,c2,ok,he,hb,h⟩=>by
      rcases h with ⟨rfl,_⟩ | ⟨_,s,h,_⟩
      ·exact⟨A1,n1,c1,A2,n2,c2,he,hb⟩
      ·exact absurd (by rw[zm,hk2,h];rfl) hg⟩
     clear HGS HGK hg hk2 hps
     go_wp2_with (first|(go_at_call 78;(with_reducible refine (CHW.o _ adZ.o).mono ?_);rintro e w2 ⟨A1,n1,c1,A2,n2,c2,rfl,hb⟩;have HB2:=Y7 (oP adZ.o hb);have HXX:=Y7 (o7 afz.o hb);have z0:=qH (.cells #[.slice A1 n1 c1,.slice A2 n2 c2] 51 (0,0)) ((oQ HXX.o 0).trans rfl);have z1:=qH (.cells #[.slice A1 n1 c1,.slice A2 n2 c2] 51 (0,0)) ((oQ HXX.o 1).trans rfl);have z2:=qH (.cells #[.slice A1 n1 c1,.slice A2 n2 c2] 51 (0,0)) ((oQ HXX.o 2).trans rfl);have abl:=Y7 (oN HB2.o (.cells #[.slice A1 n1 c1,.slice A2 n2 c2] 51 (0,0)));have afA:=Y7 (pK HXX.o (.cells #[.slice A1 n1 c1,.slice A2 n2 c2] 51 (0,0)));clear hb))
     go_roundg (fs.length-(k+1))
     case measure=>omega
     case rel=>exact⟨k+1,by go_num,hlt,ay _,⟨by rw[HST.o];exact Kd.wV HN.o abl.o⟩,⟨oP HB.o abl.o⟩⟩
    ·have hki:((f.kind:Int) != 2)=true:=by simp;omega
     have CHW:oM (∀ W,Below wo.heap.size wo W→Calls Tryz.prog 78 #[.slice Af nf cf] W fun e w'=>∃ (A1:Option Addr) (n1 c1:Nat) (A2:Option Addr) (n2 c2:Nat) (okv:Bool),e = .returned (.tuple #[.agg #[.slice A1 n1 c1,.slice A2 n2 c2],.bool okv])∧Below W.heap.size W w'):=⟨fun W hb=>(Lc.c Af cf nf f.pay W HNF.o (HCP.o W hb) hcf hps.2 (by have:=hps.1;have:=HNF.o;omega)).mono fun e w' ⟨A1,A2,n1,c1,n2,c2,ok,he,hb,h⟩=>⟨A1,n1,c1,A2,n2,c2,ok,he,hb⟩⟩;clear HGS HGK hg hk2 hps
     go_wp2_with (first|(go_at_call 78;(with_reducible refine (CHW.o _ adZ.o).mono ?_);rintro e w2 ⟨A1,n1,c1,A2,n2,c2,okv,rfl,hb⟩;have HB2:=Y7 (oP adZ.o hb);have HXX:=Y7 (o7 afz.o hb);have z0:=qH (.cells #[.slice A1 n1 c1,.slice A2 n2 c2] 51 (0,0)) ((oQ HXX.o 0).trans rfl);have z1:=qH (.cells #[.slice A1 n1 c1,.slice A2 n2 c2] 51 (0,0)) ((oQ HXX.o 1).trans rfl);have z2:=qH (.cells #[.slice A1 n1 c1,.slice A2 n2 c2] 51 (0,0)) ((oQ HXX.o 2).trans rfl);have abl:=Y7 (oN HB2.o (.cells #[.slice A1 n1 c1,.slice A2 n2 c2] 51 (0,0)));have afA:=Y7 (pK HXX.o (.cells #[.slice A1 n1 c1,.slice A2 n2 c2] 51 (0,0)));clear hb))
     go_roundg (fs.length-(k+1))
     case measure=>omega
     case rel=>exact⟨k+1,by go_num,hlt,ay _,⟨by rw[HST.o];exact Kd.wV HN.o abl.o⟩,⟨oP HB.o abl.o⟩⟩
  ·obtain rfl:k=fs.length:=by omega
   have hkz:¬ ((fs.length:Int)<(fs.length:Int)):=by omega
   rw[dz] at HN;have HLM:oM (∀ f∈DF fs,zm f=true∧f.pay.length≤1000∧okB f.pay=true):=⟨fun f hf=>⟨(Nc hf).2,HFO.o f (Nc hf).1⟩⟩;have HBW:=Y7 (oP HBS.o HB.o);obtain⟨L,hL⟩:∃ L,DF fs=L:=⟨_,rfl⟩;rw[hL] at HN HLM aeX;obtain⟨A4,c4,rfl,hc4,_⟩:=Kd.yj HN.o;have HF4:=Y7 (Kd.BU (Kd.YG HN.o));have HDL:oM (FD.length=L.length):=⟨by rw[aeX.o,bN]⟩;have hll:L.length≤100000:=by have:=HFF.o.1;have:=HDL.o;omega
   clear HN HB hL HFO HFL hlt hk hkx hc4 hc16
   go_wp2_with fail
   go_loopg [10,67] L.length (fun kx s10 s67 wr=>∃ k:Nat,s67 = .int .i64 k∧k≤L.length∧L.length-k≤kx∧oM (Kd.N Bc 51 wr wo.heap.size (fun _=>True) s10 ((L.take k).map (fun f=>(gP f).ser)))∧oM (Below wo.heap.size wo wr))
   case atStart=>exact⟨0,rfl,bP _,by omega,⟨Kd.FJ _ _ _ _ _⟩,⟨aU _ _⟩⟩
   case round=>
    obtain⟨k,rfl,hk,hkx,HN,HB⟩:=hrel
    by_cases hlt:k<L.length
    ·obtain⟨f,hf⟩:∃ f,L[k]=f:=⟨_,rfl⟩;obtain⟨ad,Af,cf,rfl,x0,x1,x2,hcf,hFK⟩:=Xe (w0:=wo) (base:=0) (Kd.xJ HF4.o HB.o) k hlt f (by rw[← hf];simp[aV,aR hlt]);have hkz:(k:Int)<(L.length:Int):=by omega
     have agV:=Y7 (HLM.o f (hf ▸ dL hlt));obtain⟨nf,hnf⟩:∃ nf,f.pay.length=nf:=⟨_,rfl⟩;have HNF:=Y7 hnf;have afy:=Y7 hFK;rw[hnf] at x2 hcf afy;have afz:=Y7 (qx wr (.cells #[.int .i64 f.kind,.int .i64 f.num,.slice Af nf cf] 127 (0,0)));have adZ:=Y7 (oN (aU wr.heap.size wr) (.cells #[.int .i64 f.kind,.int .i64 f.num,.slice Af nf cf] 127 (0,0)));have q2:=(oQ afz.o 2).trans rfl;have HTF:oM ((L.take (k+1)).map (fun f=>(gP f).ser)=(L.take k).map (fun f=>(gP f).ser)++[(gP f).ser]):=⟨by
      rw[bQ hlt,fJ,hf];rfl⟩
     have HTL:oM (((L.take k).map (fun f=>(gP f).ser)).length≤100000):=⟨by rw[bN,aW];omega⟩;have hsr:=(Du agV.o.1).2;obtain⟨s,hs⟩:∃ s,(gP f).ser=s:=⟨_,rfl⟩;rw[hs] at hsr HTF;have CHW:oM (∀ W,Below wr.heap.size wr W→Calls Tryz.prog 78 #[.slice Af nf cf] W fun e w'=>∃ (A1:Option Addr) (c1:Nat) (A2:Option Addr) (c2:Nat),e = .returned (.tuple #[.agg #[.slice A1 s.f0.length c1,.slice A2 s.f1.length c2],.bool true])∧Below W.heap.size W w'∧Kd.R xU 68 w' W.heap.size (fun _=>True) (.slice A1 s.f0.length c1) s.f0∧Kd.R vX 70 w' W.heap.size (fun _=>True) (.slice A2 s.f1.length c2) s.f1):=⟨fun W hb=>(Lc.c Af cf nf f.pay W HNF.o (by
      obtain⟨Ag,cg,he,_,hC⟩:=KT (Kd.zA (Kd.y7 afy.o hb));injection he with _ he
      injection he with _ he
      injection he with he _
      injection he with he _ _
      rw[HNF.o] at hC;rw[he];exact hC) hcf agV.o.2.2 (by have:=agV.o.2.1;have:=HNF.o;omega)).mono fun e w' ⟨A1,A2,n1,c1,n2,c2,ok,he,hb,h⟩=>by
      rcases h with ⟨_,h⟩ | ⟨rfl,s',h,_,_,h1,h2⟩
      ·rw[hsr] at h;cases h
      ·rw[hsr] at h;injection h with h
       subst h;obtain⟨_,_,e1⟩:=Kd.pO h1;obtain⟨_,_,e2⟩:=Kd.pO h2;cases e1;cases e2;exact⟨A1,c1,A2,c2,he,hb,h1,h2⟩⟩
     clear hFK hnf hsr hs hf
     go_wp2_with (first|(go_at_call 78;(with_reducible refine (CHW.o _ adZ.o).mono ?_);rintro e w2 ⟨A1,c1,A2,c2,rfl,hb,h1,h2⟩;have HB2:=Y7 (oP adZ.o hb);have HR1:=Y7 (Kd.sJ h1 (.cells #[.slice A1 s.f0.length c1,.slice A2 s.f1.length c2] 51 (0,0)));have HR2:=Y7 (Kd.sJ h2 (.cells #[.slice A1 s.f0.length c1,.slice A2 s.f1.length c2] 51 (0,0)));have abl:=Y7 (oN HB2.o (.cells #[.slice A1 s.f0.length c1,.slice A2 s.f1.length c2] 51 (0,0)));have HNA:=Y7 (Kd.wV HN.o abl.o);have HBB:=Y7 (oP HB.o abl.o);have HNL:=Y7 (Kd.Vj HN.o);clear hb h1 h2)|((with_reducible refine qm (N:=80) rfl ?_);go_must (refine Kd.Bg Bc (w0:=wo) wo.heap.size rfl (.tmp 77) (.tmp 79) 22 51 (.agg #[.slice none 0 0,.slice none 0 0]) 48 rfl Tryz.underlying22 Bz rfl (by decide) (by decide) u10 _ s _ (fun _=>True) (fun k=>wr.heap.size+1≤k∧k<w2.heap.size+1) rfl (by rw[bW];rfl) ?h3 ?h4 (fun _ _=>bE) HNA.o HBB.o HBB.o.size ?h6 ?_);(case h3=>exact (by have hz:(wr.alloc (.cells #[.int .i64 f.kind,.int .i64 f.num,.slice Af nf cf] 127 (0,0))).heap.size=wr.heap.size+1:=bW ..;have hz2:(w2.alloc (.cells #[.slice A1 s.f0.length c1,.slice A2 s.f1.length c2] 51 (0,0))).heap.size=w2.heap.size+1:=bW ..;have g1:=Kd.X9 (Kd.qR (Kd.uK HR1.o) (ok':=fun k=>wr.heap.size+1≤k∧k<w2.heap.size+1) (fun k hk=>⟨by have:=hk.2.1;omega,by have:=hk.2.2.1;omega⟩));have g2:=Kd.X9 (Kd.qR (Kd.uK HR2.o) (ok':=fun k=>wr.heap.size+1≤k∧k<w2.heap.size+1) (fun k hk=>⟨by have:=hk.2.1;omega,by have:=hk.2.2.1;omega⟩));exact VH _ _ s (Kd.pE HR1.o).2.1 g1 (Kd.pE HR2.o).2.1 g2));(case h4=>exact fun k hk=>⟨bE,fun e=>by have:=HNL.o k e.symm;omega⟩);(case h6=>(have:=HTL.o;omega));intro v4 w4 hn4 hb4 hg4 adX;have HN4:=Y7 hn4;have HB4:=Y7 hb4;clear hn4 hb4 hg4 adX))
     go_roundg (L.length-(k+1))
     case measure=>omega
     case rel=>exact⟨k+1,by go_num,hlt,ay _,⟨by rw[HTF.o];exact HN4.o⟩,HB4⟩
    ·obtain rfl:k=L.length:=by omega
     have hkz:¬ (L.length:Int)<(L.length:Int):=by omega
     rw[dz,← aeX.o] at HN;obtain⟨A10,c10,rfl,ao6,akH⟩:=Kd.yj HN.o;have JN:=Y7 (Yt.c A10 c10 FD.length FD wr rfl akH HFF.o.1 HFF.o.2.1 HFF.o.2.2);clear akH
     go_wp2_with (first|(go_at_call 24;(with_reducible refine JN.o.mono ?_);rintro e w5 ⟨A5,c5,rfl,hc5,hC5,hb⟩;have HC5:=Y7 (And.intro hc5 hC5);have HB5:=Y7 (oP HB.o hb);clear hb hC5))
     refine bf (dD rfl _ _ _) rfl ?_;exact⟨A5,c5,rfl,HC5.o.1,HC5.o.2,HBW.o.trans (HB5.o.mono HBW.o.size)⟩
theorem Uu.c (A:Option Addr)(c n:Nat)(b:List Int)(w:World)(hn:b.length=n)(hr:Kd.C (Kd.int .u8) w A n b)(hc:n≤c)(hok:okB b=true)(hlen:n≤1000000)(hF:yK b) :
 Calls Tryz.prog 17 #[.slice A n c] w fun e w'=>∃ (A':Option Addr) (c':Nat),e = .returned (.tuple #[.slice A' (uq b).1.length c',.int .i64 (uq b).2])∧(uq b).1.length≤c'∧Kd.C Bc w' A' (uq b).1.length (uq b).1∧Below w.heap.size w w':=by
 have HOK:=Y7 hok;have FO:=Y7 (WG.c A c n b w hn hr hc hok hlen hF.2.1 hF.2.2.1 hF.2.2.2.1);obtain⟨F,hFe⟩:∃ F,qL b=F:=⟨_,rfl⟩;obtain⟨J,hJe⟩:∃ J,joinL F=J:=⟨_,rfl⟩;have hRF:uq b=if vP J=(b,0) then (J,0) else ([],5):=by rw[uq,hFe,hJe]
 unfold yK at hF;rw[hFe,hJe] at hF FO;obtain⟨eb,ee,hw⟩:∃ eb ee,vP J=(eb,ee):=⟨_,_,rfl⟩;rw[hw] at hRF hF;have HF:=Y7 hF;have HW:=Y7 hw;have HRF:=Y7 hRF;have hee:ee=0∨ee=1:=by
  unfold vP at hw;split at hw
  ·injection hw with _ h;exact .inl h.symm
  ·injection hw with _ h;exact .inr h.symm
 obtain⟨S1,hS1⟩:∃ S1,strOfNums eb=S1:=⟨_,rfl⟩;obtain⟨S2,hS2⟩:∃ S2,strOfNums b=S2:=⟨_,rfl⟩;have CV1:oM (∀ A3 c3 W,Kd.C (Kd.int .u8) W A3 eb.length eb→(convert 24 9 (.slice A3 eb.length c3)).run Tryz.prog W = .ok (.string S1) W):=⟨fun A3 c3 W h=>hS1 ▸ Kd.vJ (P:=Tryz.prog) (c:=c3) Tryz.underlying24 Tryz.underlying5 Tryz.underlying9 h⟩;have CV2:oM (∀ W,Below w.heap.size w W→(convert 24 9 (.slice A n c)).run Tryz.prog W = .ok (.string S2) W):=⟨fun W hb=>hS2 ▸ Kd.vJ (P:=Tryz.prog) (c:=c) Tryz.underlying24 Tryz.underlying5 Tryz.underlying9 (Kd.o9 hr hb)⟩;have hinj:=wU HF.o.2.2.2.2.2.2.2 HOK.o;rw[hS1,hS2] at hinj;clear hr hok hF hFe hJe hRF hw hn;rcases hee with rfl | rfl
 ·by_cases he:eb=b
  ·have HE:oM (uq b=(J,0)):=⟨by rw[HRF.o,au (by rw[he])]⟩;have hSS:S1=S2:=by rw[← hS1,← hS2,he]
   clear hS1 hS2 hinj;subst hSS;rw[HE.o];clear HRF he
   go_enter Tryz.func17,Tryz.ntmps17
   go_wp2_with (first|(go_at_call 43;(with_reducible refine FO.o.mono ?_);rintro e w2 ⟨A2,c2,rfl,hc2,hC2,hb⟩;have HC2:=Y7 (And.intro hc2 hC2);have HB2:=Y7 hb;clear hc2 hC2 hb)|(go_at_call 10;(with_reducible refine (K9.c A2 c2 J.length J eb 0 _ rfl HC2.o.2 HC2.o.1 HF.o.2.2.2.2.1 HF.o.2.2.2.2.2.1 HF.o.2.2.2.2.2.2.1 HW.o).mono ?_);rintro e w3 ⟨v3,rfl,hr3,hb⟩;obtain⟨A3,c3,rfl⟩:=Kd.pO hr3;have HR3:=Y7 (Kd.pE hr3);have adY:=Y7 (Kd.o9 HC2.o.2 hb);have HB3:=Y7 (oP HB2.o hb);clear hr3 hb;have hs1:=CV1.o A3 c3 w3 HR3.o.2.2;have hs2:=CV2.o w3 HB3.o))
   refine bf (dD rfl _ _ _) rfl ?_;exact⟨A2,c2,rfl,HC2.o.1,adY.o,HB3.o⟩
  ·have HE:oM (uq b=([],5)):=⟨by rw[HRF.o,av (by intro h;injection h with h _;exact he h)]⟩;rw[HE.o];rw[aD he] at hinj;clear HRF he hS1 hS2
   go_enter Tryz.func17,Tryz.ntmps17
   go_wp2_with (first|(go_at_call 43;(with_reducible refine FO.o.mono ?_);rintro e w2 ⟨A2,c2,rfl,hc2,hC2,hb⟩;have HC2:=Y7 (And.intro hc2 hC2);have HB2:=Y7 hb;clear hc2 hC2 hb)|(go_at_call 10;(with_reducible refine (K9.c A2 c2 J.length J eb 0 _ rfl HC2.o.2 HC2.o.1 HF.o.2.2.2.2.1 HF.o.2.2.2.2.2.1 HF.o.2.2.2.2.2.2.1 HW.o).mono ?_);rintro e w3 ⟨v3,rfl,hr3,hb⟩;obtain⟨A3,c3,rfl⟩:=Kd.pO hr3;have HR3:=Y7 (Kd.pE hr3);have adY:=Y7 (Kd.o9 HC2.o.2 hb);have HB3:=Y7 (oP HB2.o hb);clear hr3 hb;have hs1:=CV1.o A3 c3 w3 HR3.o.2.2;have hs2:=CV2.o w3 HB3.o))
   refine bf (dD rfl _ _ _) rfl ?_;exact⟨none,0,rfl,ay _,Kd.Pn _ _,HB3.o⟩
 ·have HE:oM (uq b=([],5)):=⟨by rw[HRF.o,av (by intro h;injection h with _ h;exact absurd h (by decide))]⟩;rw[HE.o];clear HRF hinj hS1 hS2
  go_enter Tryz.func17,Tryz.ntmps17
  go_wp2_with (first|(go_at_call 43;(with_reducible refine FO.o.mono ?_);rintro e w2 ⟨A2,c2,rfl,hc2,hC2,hb⟩;have HC2:=Y7 (And.intro hc2 hC2);have HB2:=Y7 hb;clear hc2 hC2 hb)|(go_at_call 10;(with_reducible refine (K9.c A2 c2 J.length J eb 1 _ rfl HC2.o.2 HC2.o.1 HF.o.2.2.2.2.1 HF.o.2.2.2.2.2.1 HF.o.2.2.2.2.2.2.1 HW.o).mono ?_);rintro e w3 ⟨v3,rfl,hr3,hb⟩;obtain⟨A3,c3,rfl⟩:=Kd.pO hr3;have adY:=Y7 (Kd.o9 HC2.o.2 hb);have HB3:=Y7 (oP HB2.o hb);clear hr3 hb))
  refine bf (dD rfl _ _ _) rfl ?_;exact⟨none,0,rfl,ay _,Kd.Pn _ _,HB3.o⟩
noncomputable def Xu (b:List Int):Bool:=(uq b).2==0
theorem XH.c (A:Option Addr)(c n:Nat)(b:List Int)(w:World)(hn:b.length=n)(hr:Kd.C (Kd.int .u8) w A n b)(hc:n≤c)(hok:okB b=true)(hlen:n≤1000000)(hF:yK b) :
 Calls Tryz.prog 19 #[.slice A n c] w fun e w'=>∃ (A':Option Addr) (c':Nat),e = .returned (.tuple #[.slice A' (joinL (qL b)).length c',.int .i64 ((qL b).length:Nat),.bool (Xu b)])∧(joinL (qL b)).length≤c'∧Kd.C Bc w' A' (joinL (qL b)).length (joinL (qL b))∧Below w.heap.size w w':=by
 have SA:=Y7 (WG.c A c n b w hn hr hc hok hlen hF.2.1 hF.2.2.1 hF.2.2.2.1);have RD:=Y7 (fun W (hb:Below w.heap.size w W)=>Uu.c A c n b W hn (Kd.o9 hr hb) hc hok hlen hF);have HI:oM (((uq b).2==0)=Xu b):=⟨rfl⟩;clear hn hr hok hF;generalize Xu b=fi at *;generalize (uq b).2=re at *;generalize (uq b).1=rl at *;generalize joinL (qL b)=J at *;generalize qL b=FD at *;have hI:=HI.o;clear HI
 go_enter Tryz.func19,Tryz.ntmps19
 go_wp2_with (first|(go_at_call 43;(with_reducible refine SA.o.mono ?_);rintro e w2 ⟨A2,c2,rfl,hc2,hC2,hb⟩;have HC2:=Y7 (And.intro hc2 hC2);have HB2:=Y7 hb;clear hc2 hC2 hb)|(go_at_call 17;(with_reducible refine (RD.o _ HB2.o).mono ?_);rintro e w3 ⟨A3,c3,rfl,_,_,hb⟩;have HC3:=Y7 (Kd.o9 HC2.o.2 hb);have HB3:=Y7 (oP HB2.o hb);clear hb))
 all_goals refine bf (fB rfl _ _ _) rfl ?_
 all_goals exact⟨A2,c2,rfl,HC2.o.1,HC3.o,HB3.o⟩
theorem Yw.c (A:Option Addr)(c n:Nat)(b:List Int)(w:World)(hn:b.length=n)(hr:Kd.C (Kd.int .u8) w A n b)(hc:n≤c)(hok:okB b=true)(hlen:n≤1000000)(hT:zZ w)(hZ:yN w)(hF:yK b) :
 Calls Tryz.prog 18 #[.slice A n c] w fun e w'=>∃ (A':Option Addr) (c':Nat),e = .returned (.tuple #[.slice A' (joinL (qL b)).length c',.int .i64 ((qL b).length:Nat),.bool (Xu b)])∧(joinL (qL b)).length≤c'∧Kd.C Bc w' A' (joinL (qL b)).length (joinL (qL b))∧Below w.heap.size w w':=by
 have FO:=Y7 (found.c A c n b w hn hr hc hok hlen hT hZ hF.1);have RD:=Y7 (fun W (hb:Below w.heap.size w W)=>UA.c A c n b W hn (Kd.o9 hr hb) hc hok hlen (hT.below hb) (hZ.below hb) hF);have HI:oM (((uq b).2==0)=Xu b):=⟨rfl⟩;have HFF:=Y7 (And.intro hF.2.1 (And.intro hF.2.2.1 hF.2.2.2.1));clear hn hr hok hF hT hZ;generalize Xu b=fi at *;generalize (uq b).2=re at *;generalize (uq b).1=rl at *;generalize qL b=FD at *;have hI:=HI.o;clear HI
 go_enter Tryz.func18,Tryz.ntmps18
 go_wp2_with (first|(go_at_call 37;(with_reducible refine FO.o.mono ?_);rintro e w1 ⟨v1,rfl,hn1,hb⟩;obtain⟨A1,c1,rfl,hc1,hC1⟩:=Kd.yj hn1;have HC1:=Y7 hC1;have HB1:=Y7 hb;clear hn1 hc1 hC1 hb)|(go_at_call 14;(with_reducible refine (RD.o _ HB1.o).mono ?_);rintro e w3 ⟨A3,c3,rfl,_,_,hb⟩;have anL:=Y7 (Kd.o9 HC1.o hb);have HB3:=Y7 (oP HB1.o hb);clear hb)|(go_at_call 36;(with_reducible refine (join.c A1 c1 FD.length FD _ rfl anL.o HFF.o.1 HFF.o.2.1 HFF.o.2.2).mono ?_);rintro e w4 ⟨A4,c4,rfl,hc4,hC4,hb⟩;have HC4:=Y7 (And.intro hc4 hC4);have HB4:=Y7 (oP HB3.o hb);clear hb hc4 hC4))
 all_goals refine bf (fB rfl _ _ _) rfl ?_
 all_goals exact⟨A4,c4,rfl,HC4.o.1,HC4.o.2,HB4.o⟩
end Go.Proofs.Y.PA
