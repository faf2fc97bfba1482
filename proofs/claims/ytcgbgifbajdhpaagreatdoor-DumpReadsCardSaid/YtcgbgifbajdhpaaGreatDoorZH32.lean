/- Of the law ZHQDumpReads. -/
import Derived.Test.YtcgbgifbajdhpaaGreatDoorZH28
import Derived.Test.YtcgbgifbajdhpaaGreatDoorZH31
import Derived.Test.YtcgbgifbajdhpaaGreatDoorZH29
set_option linter.unusedVariables false
set_option linter.unusedSimpArgs false
set_option maxHeartbeats 8000000
set_option maxRecDepth 100000
namespace Go.Proofs.Y.PA
open Go.RowKit Go.Proofs.Y.G Go.Proofs.YW.oO Go.Proofs.YW.pq Go.Proofs.YW.pz
theorem D7 (tmps:Array Value)(W:World)(r:Nat)(x0 x1:Value)(h:W.heap[r]? = some (.cells #[x0,x1] 51 (0,0)))(h2:tmps.getD 2 undef = .pointer (some ⟨r,0,none⟩)) :
 (results Tryz.f78 tmps).run Tryz.prog W = .ok (.tuple #[.agg #[x0,x1],tmps.getD 3 undef]) W:=by
 have c0:=(oQ h 0).trans rfl;have c1:=(oQ h 1).trans rfl;simp at h2;simp[results,Tryz.f78,go_sem,h2,c0,c1]
def NZ (w:World)(p:List Int)(e:Ending)(w':World):Prop:=∃ (A1 A2:Option Addr) (n1 c1 n2 c2:Nat) (ok:Bool),e = .returned (.tuple #[.agg #[.slice A1 n1 c1,.slice A2 n2 c2],.bool ok])∧Below w.heap.size w w'∧(ok=false∧wh p=none∨ok=true∧∃ s:ru,wh p=some s∧s.f1.length≤20∧s.f0.length≤8∧Kd.R xU 68 w' w.heap.size (fun _=>True) (.slice A1 n1 c1) s.f0∧Kd.R vX 70 w' w.heap.size (fun _=>True) (.slice A2 n2 c2) s.f1)
theorem NZ.none_ {w W:World}{p:List Int}{A1 A2:Option Addr}{n1 c1 n2 c2:Nat}(h:wh p=none)(hb:Below w.heap.size w W):NZ w p (.returned (.tuple #[.agg #[.slice A1 n1 c1,.slice A2 n2 c2],.bool false])) W:=
 ⟨A1,A2,n1,c1,n2,c2,false,rfl,hb,.inl ⟨rfl,h⟩⟩
theorem yx {w W:World}{x0 x1:Value}(hb:Below w.heap.size w W):Below w.heap.size w ((W.setCell ⟨w.heap.size,0,none⟩ x0).setCell ⟨w.heap.size,1,none⟩ x1):=
 (hb.setCell (p:=⟨w.heap.size,0,none⟩) (ay _) _).setCell (p:=⟨w.heap.size,1,none⟩) (ay _) _
theorem Lc.c (A:Option Addr)(c m:Nat)(p:List Int)(w:World)(hm:p.length=m)(hr:Kd.C (Kd.int .u8) w A m p)(hc:m≤c)(hok:okB p=true)(hl:m≤1000) :
 Calls Tryz.prog 78 #[.slice A m c] w (NZ w p):=by
 have HX:=Y7 (qx w (.cells #[.slice none 0 0,.slice none 0 0] 51 (0,0)));have HBA:=Y7 (oN (aU w.heap.size w) (.cells #[.slice none 0 0,.slice none 0 0] 51 (0,0)));have DL:oM (∀ W,Below w.heap.size w W→Calls Tryz.prog 84 #[.slice A m c] W (uJ W p)):=⟨fun W hb=>XI.c A c m p W hm (Kd.o9 hr hb) hc hok (by omega)⟩;obtain⟨rl,rr,re,hd⟩:∃ rl rr re,rR p=(rl,rr,re):=⟨_,_,_,rfl⟩;have HD:=Y7 hd;have HRR:oM (okB rr=true∧rr.length≤2500∧rl.length≤8):=⟨by
  have h1:=Ho p;have h2:=PN p;rw[hd] at h1 h2;exact⟨tC hok h1.1,by have:=h1.2;simp only at this;omega,h2⟩⟩
 have HCB:oM (wh p=(if re≠0 then none else if (wH rr).2≠0∨(wH rr).1.length=0∨20<(wH rr).1.length then none else some ⟨rl,(wH rr).1⟩:Option ru)):=⟨by rw[wh,hd]⟩;clear hok hr hd hm
 by_cases hre:re=0
 ·subst hre;obtain⟨sl,se,hs⟩:∃ sl se,wH rr=(sl,se):=⟨_,_,rfl⟩;have HDE:oM (∀ A' c' W,Kd.C (Kd.int .u8) W A' rr.length rr→rr.length≤c'→Below w.heap.size w W→Calls Tryz.prog 85 #[.slice A' rr.length c'] W fun e w'=>∃ v:Value,e = .returned (.tuple #[v,.int .i64 se])∧Kd.R vX 70 w' W.heap.size (fun _=>True) v sl∧Below W.heap.size W w'):=⟨fun A' c' W h1 h2 hb=>K6.qM A' c' rr W sl se rfl h1 h2 HRR.o.1 HRR.o.2.1 hs⟩;rw[hs] at HCB;simp only[ne_eq,nD,if_false] at HCB;clear hs
  by_cases hbad:se≠0∨sl.length=0∨20<sl.length
  ·have HE:oM (wh p=none):=⟨by rw[HCB.o,au hbad]⟩;clear HCB
   by_cases hs0:se=0
   ·subst hs0
    by_cases hl0:sl.length=0
    ·have ahw:(sl.length:Int)<1:=by omega
     clear hl0 hbad
     go_enter Tryz.func78,Tryz.ntmps78
     go_wp2_with (first|(go_at_call 84;(with_reducible refine (DL.o _ HBA.o).mono ?_);rintro e w2 ⟨v1,v2,rfl,h1,h2,hb⟩;rw[HD.o] at h1 h2 ⊢;dsimp only at h1 h2 ⊢;obtain⟨A7,c7,rfl⟩:=Kd.pO h1;obtain⟨A8,c8,rfl⟩:=Kd.pO h2;have HV1:=Y7 h1;have HV2:=Y7 h2;have HB2:=Y7 (oP HBA.o hb);have HX2:=Y7 (o7 HX.o hb);have q0:=(oQ HX2.o 0).trans rfl;have q1:=(oQ HX2.o 1).trans rfl;have y0:=oW HX2.o 0;have y1:=oW HX2.o 1;clear hb h1 h2)|(go_at_call 85;(with_reducible refine (HDE.o A8 c8 _ (Kd.pE HV2.o).2.2 (Kd.pE HV2.o).2.1 HB2.o).mono ?_);rintro e w3 ⟨v3,rfl,h3,hb⟩;obtain⟨A9,c9,rfl⟩:=Kd.pO h3;have HV3:=Y7 h3;have adW:=Y7 (Kd.qo HV1.o hb);have HB3:=Y7 (oP HB2.o hb);have HX3:=Y7 (o7 HX2.o hb);clear q0 q1 y0 y1;have q0:=(oQ HX3.o 0).trans rfl;have q1:=(oQ HX3.o 1).trans rfl;have y0:=oW HX3.o 0;have y1:=oW HX3.o 1;clear hb h3))
     refine bf (D7 _ _ w.heap.size _ _ (wP HX3.o _ _) rfl) rfl ?_;exact NZ.none_ HE.o (yx HB3.o)
    ·have ahw:¬ ((sl.length:Int)<1):=by omega
     have aiR:((sl.length:Int)>20):=by omega
     clear hl0 hbad
     go_enter Tryz.func78,Tryz.ntmps78
     go_wp2_with (first|(go_at_call 84;(with_reducible refine (DL.o _ HBA.o).mono ?_);rintro e w2 ⟨v1,v2,rfl,h1,h2,hb⟩;rw[HD.o] at h1 h2 ⊢;dsimp only at h1 h2 ⊢;obtain⟨A7,c7,rfl⟩:=Kd.pO h1;obtain⟨A8,c8,rfl⟩:=Kd.pO h2;have HV1:=Y7 h1;have HV2:=Y7 h2;have HB2:=Y7 (oP HBA.o hb);have HX2:=Y7 (o7 HX.o hb);have q0:=(oQ HX2.o 0).trans rfl;have q1:=(oQ HX2.o 1).trans rfl;have y0:=oW HX2.o 0;have y1:=oW HX2.o 1;clear hb h1 h2)|(go_at_call 85;(with_reducible refine (HDE.o A8 c8 _ (Kd.pE HV2.o).2.2 (Kd.pE HV2.o).2.1 HB2.o).mono ?_);rintro e w3 ⟨v3,rfl,h3,hb⟩;obtain⟨A9,c9,rfl⟩:=Kd.pO h3;have HV3:=Y7 h3;have adW:=Y7 (Kd.qo HV1.o hb);have HB3:=Y7 (oP HB2.o hb);have HX3:=Y7 (o7 HX2.o hb);clear q0 q1 y0 y1;have q0:=(oQ HX3.o 0).trans rfl;have q1:=(oQ HX3.o 1).trans rfl;have y0:=oW HX3.o 0;have y1:=oW HX3.o 1;clear hb h3))
     refine bf (D7 _ _ w.heap.size _ _ (wP HX3.o _ _) rfl) rfl ?_;exact NZ.none_ HE.o (yx HB3.o)
   ·have ZW:(se != 0)=true:=by simpa using hs0
    clear hs0 hbad
    go_enter Tryz.func78,Tryz.ntmps78
    go_wp2_with (first|(go_at_call 84;(with_reducible refine (DL.o _ HBA.o).mono ?_);rintro e w2 ⟨v1,v2,rfl,h1,h2,hb⟩;rw[HD.o] at h1 h2 ⊢;dsimp only at h1 h2 ⊢;obtain⟨A7,c7,rfl⟩:=Kd.pO h1;obtain⟨A8,c8,rfl⟩:=Kd.pO h2;have HV1:=Y7 h1;have HV2:=Y7 h2;have HB2:=Y7 (oP HBA.o hb);have HX2:=Y7 (o7 HX.o hb);have q0:=(oQ HX2.o 0).trans rfl;have q1:=(oQ HX2.o 1).trans rfl;have y0:=oW HX2.o 0;have y1:=oW HX2.o 1;clear hb h1 h2)|(go_at_call 85;(with_reducible refine (HDE.o A8 c8 _ (Kd.pE HV2.o).2.2 (Kd.pE HV2.o).2.1 HB2.o).mono ?_);rintro e w3 ⟨v3,rfl,h3,hb⟩;obtain⟨A9,c9,rfl⟩:=Kd.pO h3;have HV3:=Y7 h3;have adW:=Y7 (Kd.qo HV1.o hb);have HB3:=Y7 (oP HB2.o hb);have HX3:=Y7 (o7 HX2.o hb);clear q0 q1 y0 y1;have q0:=(oQ HX3.o 0).trans rfl;have q1:=(oQ HX3.o 1).trans rfl;have y0:=oW HX3.o 0;have y1:=oW HX3.o 1;clear hb h3))
    refine bf (D7 _ _ w.heap.size _ _ (wP HX3.o _ _) rfl) rfl ?_;exact NZ.none_ HE.o (yx HB3.o)
  ·have hs0:se=0:=by omega
   subst hs0;have HE:oM (wh p=some ⟨rl,sl⟩):=⟨by rw[HCB.o,av hbad]⟩;have HL2:oM (sl.length≤20):=⟨by omega⟩;have ahw:¬ ((sl.length:Int)<1):=by omega
   have aiR:¬ ((sl.length:Int)>20):=by omega
   clear HCB hbad
   go_enter Tryz.func78,Tryz.ntmps78
   go_wp2_with (first|(go_at_call 84;(with_reducible refine (DL.o _ HBA.o).mono ?_);rintro e w2 ⟨v1,v2,rfl,h1,h2,hb⟩;rw[HD.o] at h1 h2 ⊢;dsimp only at h1 h2 ⊢;obtain⟨A7,c7,rfl⟩:=Kd.pO h1;obtain⟨A8,c8,rfl⟩:=Kd.pO h2;have HV1:=Y7 h1;have HV2:=Y7 h2;have HB2:=Y7 (oP HBA.o hb);have HX2:=Y7 (o7 HX.o hb);have q0:=(oQ HX2.o 0).trans rfl;have q1:=(oQ HX2.o 1).trans rfl;have y0:=oW HX2.o 0;have y1:=oW HX2.o 1;clear hb h1 h2)|(go_at_call 85;(with_reducible refine (HDE.o A8 c8 _ (Kd.pE HV2.o).2.2 (Kd.pE HV2.o).2.1 HB2.o).mono ?_);rintro e w3 ⟨v3,rfl,h3,hb⟩;obtain⟨A9,c9,rfl⟩:=Kd.pO h3;have HV3:=Y7 h3;have adW:=Y7 (Kd.qo HV1.o hb);have HB3:=Y7 (oP HB2.o hb);have HX3:=Y7 (o7 HX2.o hb);clear q0 q1 y0 y1;have q0:=(oQ HX3.o 0).trans rfl;have q1:=(oQ HX3.o 1).trans rfl;have y0:=oW HX3.o 0;have y1:=oW HX3.o 1;clear hb h3))
   refine bf (D7 _ _ w.heap.size _ _ (wP HX3.o _ _) rfl) rfl ?_;have hsz2:w.heap.size+1≤w2.heap.size:=qQ HX2.o;refine⟨_,_,_,_,_,_,true,rfl,yx HB3.o,.inr ⟨rfl,⟨rl,sl⟩,HE.o,HL2.o,HRR.o.2.2,?_,?_⟩⟩
   ·exact Kd.qW (Kh (adW.o) (by rw[bW];omega)) (by rw[bW];omega)
   ·exact Kd.qW (Kh (HV3.o) (by omega)) (by omega)
 ·have HE:oM (wh p=none):=⟨by rw[HCB.o,au hre]⟩;have amL:(re != 0)=true:=by simpa using hre
  clear HCB hre
  go_enter Tryz.func78,Tryz.ntmps78
  go_wp2_with (first|(go_at_call 84;(with_reducible refine (DL.o _ HBA.o).mono ?_);rintro e w2 ⟨v1,v2,rfl,h1,h2,hb⟩;rw[HD.o] at h1 h2 ⊢;dsimp only at h1 h2 ⊢;obtain⟨A7,c7,rfl⟩:=Kd.pO h1;obtain⟨A8,c8,rfl⟩:=Kd.pO h2;have HV1:=Y7 h1;have HV2:=Y7 h2;have HB2:=Y7 (oP HBA.o hb);have HX2:=Y7 (o7 HX.o hb);have q0:=(oQ HX2.o 0).trans rfl;have q1:=(oQ HX2.o 1).trans rfl;have y0:=oW HX2.o 0;have y1:=oW HX2.o 1;clear hb h1 h2))
  refine bf (D7 _ _ w.heap.size _ _ (wP HX2.o _ _) rfl) rfl ?_;exact NZ.none_ HE.o (yx HB2.o)
theorem L6 {w1 w2:World}{g base t:Nat}{cs:Array Value}{v:Value}{xs:List Int}(h:w1.heap[g]? = some (.cells cs t (0,0)))(hr:Kd.R (Kd.int .u8) 5 w1 base (fun _=>True) v xs)(hg:w1.grownBy w2 v.ownBlock)(ht:t≠5):w2.heap[g]? = some (.cells cs t (0,0)):=
 qK h hg (fun e=>by
  obtain⟨cells,hc⟩:=Kd.Ca hr g e.symm;rw[h] at hc;injection hc with hc
  injection hc with _ h2
  exact ht h2)
theorem Rv {w wd we:World}{base:Nat}{u v:Value}{xs ys:List Int}(hu:Kd.R (Kd.int .u8) 5 wd w.heap.size (fun _=>True) u xs)(hv:Kd.R (Kd.int .u8) 5 w base (fun _=>True) v ys)(hg:wd.grownBy we v.ownBlock):Kd.R (Kd.int .u8) 5 we w.heap.size (fun _=>True) u xs:=
 Kd.qR (Kd.Gr (Kd.uK hu) hg (fun k hk he=>by
  obtain⟨cells,hc⟩:=Kd.Ca hv k he.symm;have h1:=(Array.getElem?_eq_some_iff.1 hc).1;have h2:=hk.2.1;omega)) (fun _ _=>bE)
theorem Uj {u e:List Int}(hu:u.length≤600)(he:e.length≤410):uZ.f (IntKind.u64.wrap (((u++e).length:Nat):Int)) 4=some (rD (u.length+e.length) 4):=by
 have h:=Qd (q:=(((u++e).length:Nat):Int)) (by omega) (by rw[aT];omega) 4;rw[aG] at h;have e:(u++e).length=u.length+e.length:=aT;rw[e] at h ⊢;exact h
theorem UC.c (A:Option Addr)(c n:Nat)(l:List ru)(w:World)(hn:l.length=n)(hr:Kd.C Bc w A n l)(hc:n≤c)(hok:Na l)(hl:n≤1000000)(hM:vG l=true→(vE l).length≤500000000)(h:vG l=true) :
 Calls Tryz.prog 22 #[.slice A n c] w fun e w'=>∃ v:Value,e = .returned (.tuple #[v,.int .i64 0])∧Kd.R (Kd.int .u8) 5 w' w.heap.size (fun _=>True) v (vE l)∧Below w.heap.size w w':=by
 subst hn;have HR:=Y7 hr;have HK:=Y7 hok;have aeU:oM (Calls Tryz.prog 35 #[.slice A l.length c] w fun e w'=>e = .returned (.bool true)∧Below w.heap.size w w'):=⟨h ▸ WH.c A c l.length l w rfl hr hc hok (by omega)⟩;have HP:=Y7 (Di h);have HEC:=Y7 (hM h);clear hr hok h hM
 go_enter Tryz.func22,Tryz.ntmps22
 go_wp2_with (first|(go_at_call 35;(with_reducible refine aeU.o.mono ?_);rintro e w1 ⟨rfl,hb⟩;have HB1:=Y7 hb;clear hb))
 have HV1:oM (Kd.R (Kd.int .u8) 5 w1 w.heap.size (fun _=>True) (.slice none 0 0) (vE (l.take 0))):=⟨Kd.tJ _ _ _ _ _⟩
 go_loopw [4,17] (fun v i wr=>∃ k:Nat,k≤l.length∧i = .int .i64 k∧oM (Kd.R (Kd.int .u8) 5 wr w.heap.size (fun _=>True) v (vE (l.take k)))∧oM (Below w.heap.size w wr)) (fun _ i _=>l.length-(intOf i).toNat)
 case atStart=>exact⟨0,bP _,rfl,HV1,HB1⟩
 case round=>
  clear HV1 HB1;obtain⟨k,hk,rfl,HV,HB⟩:=hrel
  by_cases hlt:k<l.length
  ·obtain⟨ad,A0,c0,A1,c1,rfl,e0,e1,l0,g0,l1,g1⟩:=wL HR.o (k:Int) (by omega) (by omega);rw[aG] at e0 e1;have e0:=pW HB.o e0;have e1:=pW HB.o e1;have HX:=Y7 (HK.o _ (zw l k hlt));have aft:=Y7 (HK.o _ (zw l k hlt)).2.2.1;have HCX:=Y7 (HP.o k hlt);have HST:=Y7 (Jv l k hlt);obtain⟨x,ex⟩:∃ x,qc l (k:Int)=x:=⟨_,rfl⟩;have HCL:oM (sI x.f0=true∧vC x.f1=true∧¬ x.f1.length=0):=⟨by
    have h1:=HCX.o;rw[KX,ex,CJ] at h1;simp only[dw,jw,jL] at h1;exact⟨h1.1.1,h1.1.2.2,h1.1.2.1⟩⟩
   rw[ex] at e0 e1 HX g0 l0 g1 l1 aft HST;have HG0:=Y7 g0;have HL0:=Y7 l0;have HL1:=Y7 l1;obtain⟨a1,hA1,_⟩:=g1.2.2 (Nat.pos_of_ne_zero HCL.o.2.2);have HG1:=Y7 g1;clear ex g0 l0 g1 l1 HCX;subst hA1;have HOS:oM (∀ s∈x.f1,Bd s):=⟨HX.o.2.2.2⟩;have HEL:oM ((vQ x.f0).length≤600):=⟨Cc HCL.o.1⟩;have HUL:oM (0<(vQ x.f0).length):=⟨by simp[vQ]⟩;have HPL:oM ((vE (l.take k)).length≤500000000):=⟨bY (Ju l k) HEC.o⟩;have CE:=Y7 (fun W (hb:Below w.heap.size w W)=>XJ.c A0 c0 _ x.f0 W rfl (Kd.o9 HG0.o hb) HL0.o HX.o.1 HCL.o.1);have hx0:=aft.o;have hc1:=HL1.o;generalize hu:vQ x.f0=u at *;have HSE:oM (Dt x=yI u x.f1 ((x.f1.length+19) / 20)):=⟨by rw[Dt,hu]⟩;have aiV:=Y7 (qx wr (.cells #[.slice A0 x.f0.length c0,.slice (some a1) x.f1.length c1] 51 (0,0)));have HBA:=Y7 (oN HB.o (.cells #[.slice A0 x.f0.length c0,.slice (some a1) x.f1.length c1] 51 (0,0)));have HV2:oM (Kd.R (Kd.int .u8) 5 (wr.alloc (.cells #[.slice A0 x.f0.length c0,.slice (some a1) x.f1.length c1] 51 (0,0))) w.heap.size (fun _=>True) u4 (vE (l.take k)++yI u x.f1 0)):=⟨by have:=Kd.qo HV.o (oN (aU _ _) (.cells #[.slice A0 x.f0.length c0,.slice (some a1) x.f1.length c1] 51 (0,0)));simpa [yI] using this⟩;clear HK HP hu;go_wp2;generalize wr.heap.size=g at aiV ⊢
   go_loopw [4,7] (fun v i wi=>∃ j:Nat,j≤(x.f1.length+19) / 20∧i = .int .i64 ((20*j:Nat):Int)∧oM (Kd.R (Kd.int .u8) 5 wi w.heap.size (fun _=>True) v (vE (l.take k)++yI u x.f1 j))∧oM (Below w.heap.size w wi)∧oM (wi.heap[g]? = some (.cells #[.slice A0 x.f0.length c0,.slice (some a1) x.f1.length c1] 51 (0,0)))) (fun _ i _=>x.f1.length+20-(intOf i).toNat)
   case atStart=>exact⟨0,bP _,rfl,HV2,HBA,aiV⟩
   case round=>
    clear HV HB HV2 HBA aiV e0 e1;obtain⟨j,hj,rfl,HV,HB,HBX⟩:=hrel;have b0:=(oQ HBX.o 0).trans rfl;have b1:=(oQ HBX.o 1).trans rfl
    by_cases hjl:20*j<x.f1.length
    ·obtain⟨m,hm⟩:∃ m,zH x.f1.length j=m:=⟨_,rfl⟩;obtain⟨q,hq⟩:∃ q,xQ x.f1 j=q:=⟨_,rfl⟩;have hql:q.length=m:=by rw[← hq,y5,hm]
     have aiT:1≤m∧m≤20∧j*20+m≤x.f1.length∧(m=20∨j*20+m=x.f1.length):=by rw[← hm];unfold zH;omega
     have HQO:oM (∀ s∈q,Bd s):=⟨fun s hs=>HOS.o s (zS (hq ▸ hs))⟩;have HQC:oM (vC q=true):=⟨hq ▸ zO HCL.o.2.1 j⟩;have HQ:oM (∀ W,Below w.heap.size w W→Kd.C vX W (some (a1.add (j*20*2))) q.length q):=⟨fun W hb=>by
      have h1:=Kd.Pm (c:=c1) (lo:=j*20) (hi:=j*20+m) (Kd.o9 HG1.o hb) (by omega) aiT.2.2.1 HL1.o;rw[av (by omega)] at h1;have e:(x.f1.take (j*20+m)).drop (j*20)=q:=by rw[← hq,← hm];rfl
      rw[e] at h1;exact h1⟩
     have ENC:=Y7 (fun W (hb:Below w.heap.size w W)=>Ct.SX (n:=m) (some (a1.add (20*j*2))) (c1-20*j) q W hql (by rw[dX 20 j];exact HQ.o W hb) (by omega) HQO.o (by omega) HQC.o);have HQL:oM ((sU q).length≤410∧0<(sU q).length):=⟨Ec (by omega) HQO.o HQC.o,by rw[sU,aT,pY];omega⟩;have HPS:oM (vE (l.take k)++yI u x.f1 (j+1)=vE (l.take k)++yI u x.f1 j++rD (u.length+(sU q).length) 4++(u++sU q)):=⟨by rw[Hu,hq,wW];simp only[bC]⟩;have HLV:oM ((vE (l.take k)++yI u x.f1 j).length≤600000000):=⟨by
      rw[aT];have h1:=HPL.o;have h2:=Jw (l:=x.f1) HEL.o HOS.o HCL.o.2.1 j;omega⟩
     obtain⟨LB,hLB⟩:∃ LB,u++sU q=LB:=⟨_,rfl⟩;have HLB:=Y7 hLB;have akq:oM (LB.length≤1010∧0<LB.length):=⟨by rw[← hLB,aT];have:=HEL.o;have:=HQL.o;omega⟩;have PUT:=Y7 (fun W=>tV.c (IntKind.u64.wrap ((LB.length:Nat):Int)) 4 (rD (u.length+(sU q).length) 4) W (by rw[← hLB];exact Uj HEL.o HQL.o.1));rw[hLB] at HPS;clear hLB;obtain⟨OU,hOU⟩:∃ OU,vE (l.take k)++yI u x.f1 j=OU:=⟨_,rfl⟩;rw[hOU] at HV HPS HLV;have HMN:oM ((min (20*(j:Int)+20) (x.f1.length:Int)).toNat-20*j=m):=⟨by omega⟩
     go_wp2_with (first|(go_at_call 47;(with_reducible refine (CE.o _ HB.o).mono ?_);rintro e wa ⟨v5,rfl,hr5,hb⟩;obtain⟨a5,c5,rfl⟩:=Kd.rV hr5 HUL.o;have aiU:=Y7 hr5;have HBa:=Y7 hb;have am8:=Y7 (oP HB.o hb);have b0a:=pW hb b0;have b1a:=pW hb b1;clear hb hr5)|(go_at_call 48;rw[HMN.o];(with_reducible refine (ENC.o _ am8.o).mono ?_);rintro e wb ⟨v6,rfl,hr6,hb⟩;obtain⟨a6,c6,rfl⟩:=Kd.rV hr6 HQL.o.2;have am9:=Y7 hr6;have ana:=Y7 (Kd.qo aiU.o hb);have HBb:=Y7 (oP HBa.o hb);clear hb hr6)|((with_reducible refine qm (N:=50) rfl ?_);go_must (refine Kd.uX (Value.int .u8) 0 (h1:=fun _=>rfl) (w0:=wr) wr.heap.size rfl (.tmp 48) (.tmp 49) 24 5 (.int .u8 0) 1 rfl Tryz.underlying24 rW rfl (by decide) _ u (sU q) (some a6) (sU q).length c6 (fun _=>True) rfl rfl (fun _ _=>bE) ana.o (Kd.pE am9.o).2.2 HBb.o HBb.o.size ?h6 ?_);(case h6=>(have h1:=HEL.o;have h2:=HQL.o;omega));intro v7 wc hr7 hb hg7 ho7;rw[HLB.o] at hr7;obtain⟨a7,c7,rfl⟩:=Kd.rV hr7 akq.o.2;have HRc:=Y7 hr7;have HBc:=Y7 hb;clear hr7 hb hg7 ho7)|(go_at_call 34;(with_reducible refine (PUT.o _).mono ?_);rintro e wd ⟨v8,rfl,hr8,hb⟩;obtain⟨a8,c8,rfl⟩:=Kd.rV hr8 (by rw[pY];decide);have anb:=Y7 hr8;have anc:=Y7 (Kd.qo HRc.o hb);have HBd:=Y7 (oP HBc.o hb);clear hb hr8)|((with_reducible refine qm (N:=56) rfl ?_);go_must (refine Kd.uX (Value.int .u8) 0 (h1:=fun _=>rfl) (w0:=w) w.heap.size rfl (.tmp 51) (.tmp 55) 24 5 (.int .u8 0) 1 rfl Tryz.underlying24 rW rfl (by decide) _ OU (rD (u.length+(sU q).length) 4) (some a8) (rD (u.length+(sU q).length) 4).length c8 (fun _=>True) rfl rfl (fun _ _=>bE) (Kd.qo HV.o HBd.o) (Kd.pE anb.o).2.2 (oP HB.o HBd.o) (oP HB.o HBd.o).size ?h6 ?_);(case h6=>(have h1:=HLV.o;rw[pY];omega));intro v9 we hr9 hb hg9 ho9;have HRe:=Y7 hr9;have HBe:=Y7 hb;have ane:=Y7 (Rv anc.o HV.o hg9);have anf:=Y7 (L6 (o7 HBX.o HBd.o) (Kd.qo HV.o HBd.o) hg9 (by decide));clear hr9 hb hg9 ho9)|((with_reducible refine qm (N:=58) rfl ?_);go_must (refine Kd.uX (Value.int .u8) 0 (h1:=fun _=>rfl) (w0:=w) w.heap.size rfl (.tmp 56) (.tmp 57) 24 5 (.int .u8 0) 1 rfl Tryz.underlying24 rW rfl (by decide) _ (OU++rD (u.length+(sU q).length) 4) LB (some a7) LB.length c7 (fun _=>True) rfl rfl (fun _ _=>bE) HRe.o (Kd.pE ane.o).2.2 HBe.o HBe.o.size ?h6 ?_);(case h6=>(have h1:=HLV.o;have h2:=akq.o;rw[aT,pY];omega));intro v9 wf hr9 hb hg9 ho9;have HRf:=Y7 hr9;have HBf:=Y7 hb;have ang:=Y7 (L6 anf.o HRe.o hg9 (by decide));clear hr9 hb hg9 ho9))
     go_roundw
     case rel=>exact⟨j+1,by omega,by go_num,⟨by rw[HPS.o];exact HRf.o⟩,HBf,ang⟩
     case measure=>simp[intOf];omega
    ·have HE:oM (vE (l.take (k+1))=vE (l.take k)++yI u x.f1 j):=⟨by rw[HST.o,HSE.o];congr 2;omega⟩;have hnj:¬ (((20*j:Nat):Int)<(x.f1.length:Int)):=by omega
     go_wp2
     go_roundw
     case rel=>exact⟨k+1,by omega,by go_num,⟨by rw[HE.o];exact HV.o⟩,HB⟩
     case measure=>simp[intOf];omega
  ·obtain rfl:k=l.length:=by omega
   rw[dz] at HV;go_wp2;refine bf (dD rfl _ _ _) rfl ?_;exact⟨_,rfl,HV.o,HB.o⟩
theorem UC.bad (A:Option Addr)(c n:Nat)(l:List ru)(w:World)(hn:l.length=n)(hr:Kd.C Bc w A n l)(hc:n≤c)(hok:Na l)(hl:n≤1000000)(h:vG l=false) :
 Calls Tryz.prog 22 #[.slice A n c] w fun e w'=>e = .returned (.tuple #[.slice none 0 0,.int .i64 1])∧Below w.heap.size w w':=by
 subst hn;have aeU:oM (Calls Tryz.prog 35 #[.slice A l.length c] w fun e w'=>e = .returned (.bool false)∧Below w.heap.size w w'):=⟨h ▸ WH.c A c l.length l w rfl hr hc hok (by omega)⟩;clear hr hok h
 go_enter Tryz.func22,Tryz.ntmps22
 go_wp2_with (first|(go_at_call 35;(with_reducible refine aeU.o.mono ?_);rintro e w1 ⟨rfl,hb⟩;have HB1:=Y7 hb;clear hb))
 refine bf (dD rfl _ _ _) rfl ?_;exact⟨rfl,HB1.o⟩
theorem UD.c (A:Option Addr)(c n:Nat)(l:List ru)(eb:List Int)(ee:Int)(w:World)(hn:l.length=n)(hr:Kd.C Bc w A n l)(hc:n≤c)(hok:Na l)(hl:n≤1000000)(hM:vG l=true→(vE l).length≤500000000)(he:Bo l=(eb,ee)) :
 Calls Tryz.prog 22 #[.slice A n c] w fun e w'=>∃ v:Value,e = .returned (.tuple #[v,.int .i64 ee])∧Kd.R (Kd.int .u8) 5 w' w.heap.size (fun _=>True) v eb∧Below w.heap.size w w':=by
 unfold Bo at he;split at he
 ·rename_i h;cases he;exact UC.c A c n l w hn hr hc hok hl hM h
 ·rename_i h;cases he;refine (UC.bad A c n l w hn hr hc hok hl (by simpa using h)).mono ?_;rintro e w' ⟨rfl,hb⟩;exact⟨_,rfl,Kd.tJ _ _ _ _ _,hb⟩
end Go.Proofs.Y.PA
