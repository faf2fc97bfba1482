/- Of the law ZHQDumpReads. -/
import Derived.Test.YtcgbgifbajdhpaaGreatDoorZH21
import Derived.Test.YtcgbgifbajdhpaaGreatDoorZH16
set_option linter.unusedVariables false
set_option linter.unusedSimpArgs false
set_option maxHeartbeats 4000000
set_option maxRecDepth 100000
namespace Go
abbrev eP:=@List.take_left'
abbrev fV:=@List.drop_left'
abbrev gW:=@Int.le_refl
abbrev jL:=@decide_eq_false_iff_not
abbrev kZ:=@and_true
abbrev mE:=@Bool.or_eq_false_iff
abbrev nM:=@Nat.div_eq_of_lt
abbrev nW:=@Nat.mul_add_div
abbrev oD:=@List.set_getElem_self
end Go
namespace Go.Proofs.Y.PA
open Go.RowKit Go.Proofs.Y.G Go.Proofs.YW.oO Go.Proofs.YW.pq Go.Proofs.YW.pz
def UP (W:World)(g:Nat)(A:Option Addr)(n c:Nat)(N p:Int)(bad:Bool):Prop:=W.heap[g]? = some (.cells #[.slice A n c,.int .i64 N,.int .i64 p,.bool bad] 201 (0,0))
noncomputable def vW (l:List Int)(N:Int)(s:Int × Bool)(c:Int):Int × Int × Bool:=((AV l N s.1 c).1,wrap64 (s.1+c),s.2||(AV l N s.1 c).2 != 0)
noncomputable def R6 (l:List Int)(N:Int)(s:Int × Bool):Int × Int × Bool:=((EH l N s.1).1,(EH l N s.1).2.1,s.2||(EH l N s.1).2.2 != 0)
theorem NT.c (g:Nat)(A:Option Addr)(c:Nat)(l:List Int)(N p k:Int)(bad:Bool)(w0 w:World)(hU:UP w g A l.length c N p bad)(hr:Kd.C (Kd.int .u8) w0 A l.length l)(hc:l.length≤c)(hB:Below w0.heap.size w0 w)(hg:w0.heap.size≤g)
 (hl:Bh l) (hn:l.length≤1000000) (hN : -9223372036854775808≤N∧N≤9223372036854775807) :
 Calls Tryz.prog 150 #[.pointer (some ⟨g,0,none⟩),.int .i64 k] w fun e w'=>e = .returned (.int .u64 (vW l N (p,bad) k).1)∧UP w' g A l.length c N (vW l N (p,bad) k).2.1 (vW l N (p,bad) k).2.2∧Below w0.heap.size w0 w'∧pG w w' g none:=by
 obtain⟨r,e,hre⟩:∃ r e,AV l N p k=(r,e):=⟨_,_,rfl⟩;have HF:oM (pV.f 100 l N p k=some (r,e)):=⟨by rw[L9 hl (by omega) N p k hN.1 hN.2 100 (by decide),hre]⟩;simp only[vW,hre];have HB:=Y7 hB;have HC:=Y7 hc;have HR:=Y7 hr;have HU:=Y7 hU;have HG:=Y7 hg;have u0:w.cell? ⟨g,0,none⟩=some (.slice A l.length c):=(oQ hU 0).trans rfl;have u1:w.cell? ⟨g,1,none⟩=some (.int .i64 N):=(oQ hU 1).trans rfl;have u2:w.cell? ⟨g,2,none⟩=some (.int .i64 p):=(oQ hU 2).trans rfl;have amF:=Tryz.underlying149;clear hB hc hr hU hg hl hn hN hre
 go_enter Tryz.func150,Tryz.ntmps150
 go_wp2
 go_cut [5,6] (fun v5 v6 wx=>v5 = .int .u64 r∧v6 = .int .i64 e∧oM (Below w.heap.size w wx))
 case first=>
  go_region_with (go_at_call 156;(refine (pV.c 100 A c l N p k r e _ ?s1 HC.o HF.o).mono ?_);(case s1=>exact Kd.sH (Kd.o9 HR.o HB.o));rintro e_ wx ⟨rfl,hb⟩;have HX:=Y7 hb;clear hb)
  all_goals (go_wp2_with fail;go_meet;exact⟨rfl,rfl,⟨Dh (oV (aU _ _)) (by simp) HX.o⟩⟩)
 case rest=>
  obtain⟨rfl,rfl,HX⟩:=hcut;have HU2:=Y7 (o7 HU.o HX.o);clear u0 u1 u2;have u2:wc.cell? ⟨g,2,none⟩=some (.int .i64 p):=(oQ HU2.o 2).trans rfl;have u3:wc.cell? ⟨g,3,none⟩=some (.bool bad):=(oQ HU2.o 3).trans rfl;have f2:=oW HU2.o 2;have f3:=oW HU2.o 3;cases bad <;>
  ·go_wp2;go_ret;refine⟨rfl,?_,((oP HB.o HX.o).setCell (p:=⟨g,3,none⟩) HG.o _).setCell (p:=⟨g,2,none⟩) HG.o _,((pG.of_below HX.o g none).sG 3 _).sG 2 _⟩
   first
    | exact qF (qF HU2.o 3 _ rfl) 2 _ rfl
    | (refine (qF (qF HU2.o 3 _ rfl) 2 _ rfl).trans ?_;simp;trace_state)
theorem Ji.c (g:Nat)(A:Option Addr)(c:Nat)(l:List Int)(N p:Int)(bad:Bool)(w0 w:World)(hU:UP w g A l.length c N p bad)(hr:Kd.C (Kd.int .u8) w0 A l.length l)(hc:l.length≤c)(hB:Below w0.heap.size w0 w)(hg:w0.heap.size≤g)
 (hl:Bh l) (hn:l.length≤1000000) (hN : -9223372036854775808≤N∧N≤9223372036854775807) :
 Calls Tryz.prog 151 #[.pointer (some ⟨g,0,none⟩)] w fun e w'=>e = .returned (.int .i64 (R6 l N (p,bad)).1)∧UP w' g A l.length c N (R6 l N (p,bad)).2.1 (R6 l N (p,bad)).2.2∧Below w0.heap.size w0 w'∧pG w w' g none:=by
 obtain⟨r,q,e,hre⟩:∃ r q e,EH l N p=(r,q,e):=⟨_,_,_,rfl⟩;have HF:oM (pU.f 200 l N p=some (r,q,e)):=⟨by rw[O5 hl hn N p hN.1 hN.2 200 (by decide),hre]⟩;simp only[R6,hre];have HB:=Y7 hB;have HC:=Y7 hc;have HR:=Y7 hr;have HU:=Y7 hU;have HG:=Y7 hg;have u0:w.cell? ⟨g,0,none⟩=some (.slice A l.length c):=(oQ hU 0).trans rfl;have u1:w.cell? ⟨g,1,none⟩=some (.int .i64 N):=(oQ hU 1).trans rfl;have u2:w.cell? ⟨g,2,none⟩=some (.int .i64 p):=(oQ hU 2).trans rfl;have amF:=Tryz.underlying149;clear hB hc hr hU hg hl hn hN hre
 go_enter Tryz.func151,Tryz.ntmps151
 go_wp2
 go_cut [3,4,5] (fun v3 v4 v5 wx=>v3 = .int .i64 r∧v4 = .int .i64 q∧v5 = .int .i64 e∧oM (Below w.heap.size w wx))
 case first=>
  go_region_with (go_at_call 157;(refine (pU.c 200 A c l N p r q e _ ?s1 HC.o HF.o).mono ?_);(case s1=>exact Kd.sH (Kd.o9 HR.o HB.o));rintro e_ wx ⟨rfl,hb⟩;have HX:=Y7 hb;clear hb)
  all_goals (go_wp2_with fail;go_meet;exact⟨rfl,rfl,rfl,⟨Dh (oV (aU _ _)) (by simp) HX.o⟩⟩)
 case rest=>
  obtain⟨rfl,rfl,rfl,HX⟩:=hcut;have HU2:=Y7 (o7 HU.o HX.o);clear u0 u1 u2;have u2:wc.cell? ⟨g,2,none⟩=some (.int .i64 p):=(oQ HU2.o 2).trans rfl;have u3:wc.cell? ⟨g,3,none⟩=some (.bool bad):=(oQ HU2.o 3).trans rfl;have f2:=oW HU2.o 2;have f3:=oW HU2.o 3;cases bad <;>
  ·go_wp2;go_ret;refine⟨rfl,?_,((oP HB.o HX.o).setCell (p:=⟨g,3,none⟩) HG.o _).setCell (p:=⟨g,2,none⟩) HG.o _,((pG.of_below HX.o g none).sG 3 _).sG 2 _⟩
   first
    | exact qF (qF HU2.o 3 _ rfl) 2 _ rfl
    | (refine (qF (qF HU2.o 3 _ rfl) 2 _ rfl).trans ?_;simp;trace_state)
noncomputable def BF (L:List Bool):List Int:=open Classical in if h:∃ b,yV b L.length∧Bs b L.length=L then h.choose else []
theorem Ik {b:List Int}{L:List Bool}(h1:yV b L.length)(h2:Bs b L.length=L):BF L=b:=by
 have h:∃ b,yV b L.length∧Bs b L.length=L:=⟨b,h1,h2⟩;unfold BF;rw[dif_pos h];exact yV.ext h.choose_spec.1 h1 (h.choose_spec.2.trans h2.symm)
noncomputable def sU (l:List qG):List Int:=rD l.length 2++BF (tH l l.length)
noncomputable def xM (l:List qG):List Int × Int:=if vC l=true then (sU l,0) else ([],1)
theorem Dw {l:List Int}{n n':Nat}(hn:n≤n'){v q:Int}:∀ (m p:Nat),wJ l n m p=(v,q,0)→wJ l n' m p=(v,q,0)
 | 0,p,h=>by
   simp only[wJ,AU] at h ⊢;split at h
   ·simp at h
   ·rw[av (by omega)];exact h
 | m+1,p,h=>by
   simp only[wJ] at h ⊢;split at h
   ·simp at h
   ·rename_i h1;rw[av (by omega)];split at h
    ·rename_i h2;rw[au h2];exact Dw hn m (p+1) h
    ·rename_i h2;rw[av h2];simp only[AU] at h ⊢;split at h
     ·simp at h
     ·rw[av (by omega)];exact h
theorem Pk {l:List Int}{N m:Nat}{B Z:List Bool}(h:Bs l N=B++Z)(hm:B.length=m):Bs l m=B:=by
 have hN:m≤N:=by have:=eU List.length h;simp at this;omega
 have:=Vb l N 0 m (by omega);rw[dK,gT,h,← hm,eP] at this
 ·rw[← hm];exact this
 ·rfl
theorem O4 {l:List Int}{N:Nat}{B Z:List Bool}{v:Int}(hX:yV l N)(hv:(Lit.int .i64 v).wf=true)(h:Bs l N=B++intBits v++Z):EH l (N:Int) (B.length:Int)=(v,((B.length+(intBits v).length:Nat):Int),0):=by
 have hN:B.length+(intBits v).length≤N:=by have:=eU List.length h;simp at this;omega
 have h1:=Pk h (m:=B.length+(intBits v).length) (by simp);have h2:=Dw hN 4 B.length (JD v hv h1);unfold EH;rw[av (by intro q;rcases q with q | q | q;exact q ⟨by omega,by simpa using hX⟩;all_goals omega),aG,aG];exact h2
theorem O6 {l:List Int}{N c:Nat}{B L Z:List Bool}(hX:yV l N)(hL:L.length=c)(hc:c≤64)(h:Bs l N=B++L++Z):AV l (N:Int) (B.length:Int) (c:Int)=(((num L:Nat):Int),0):=by
 have hN:B.length+L.length≤N:=by have:=eU List.length h;simp at this;omega
 have h1:=IV h rfl hL;unfold AV;rw[av (by intro q;rcases q with q | q | q | q | q;exact q ⟨by omega,by simpa using hX⟩;all_goals omega),av (by omega),aG,aG,h1]
theorem Jp:∀ x:Nat,x<2 ^ 64→x<2 ^ Lib.bitLen x:=by
 intro x
 induction x using Nat.strongRecOn with
 | _ x ih=>
   intro hx
   by_cases h0:x=0
   ·subst h0;exact gU _
   ·rw[Lib.bitLen_half x h0 hx,mo,jk];have:=ih (x / 2) (by omega) (by omega);omega
theorem xC {a:Nat}(h:a<9000000000000000000):wrap64 (a:Int)=(a:Int):=wK (by omega) (by omega)
noncomputable def GK (l:List Int)(N:Int)(s:Int × Bool):Int × Int × Bool:=
 if s.2=true then (0,s.1,true) else
 if (vW l N s 1).1=0 then (0,(vW l N s 1).2) else
 if ((vW l N (vW l N (vW l N s 1).2 6).2 6).2.2||decide (64<wrap64 (wrap64 (vW l N (vW l N s 1).2 6).1+wrap64 (wrap64 (vW l N (vW l N (vW l N s 1).2 6).2 6).1+1))))=true then (0,(vW l N (vW l N (vW l N s 1).2 6).2 6).2.1,true) else
 (shl .u64 (vW l N (vW l N (vW l N (vW l N s 1).2 6).2 6).2 (wrap64 (wrap64 (vW l N (vW l N (vW l N s 1).2 6).2 6).1+1))).1 (wrap64 (wrap64 (64-wrap64 (vW l N (vW l N s 1).2 6).1)-wrap64 (wrap64 (vW l N (vW l N (vW l N s 1).2 6).2 6).1+1))),
  (vW l N (vW l N (vW l N (vW l N s 1).2 6).2 6).2 (wrap64 (wrap64 (vW l N (vW l N (vW l N s 1).2 6).2 6).1+1))).2)
theorem xS {l:List Int}{N c:Nat}{B L Z:List Bool}(hX:yV l N)(hL:L.length=c)(hc:c≤64)(hb:B.length≤100000000)(h:Bs l N=B++L++Z):vW l (N:Int) ((B.length:Int),false) (c:Int)=(((num L:Nat):Int),((B.length+c:Nat):Int),false):=by
 unfold vW;rw[O6 hX hL hc h];rw[show ((B.length:Int)+(c:Int))=((B.length+c:Nat):Int) by omega,xC (by omega)];rfl
theorem NS {l:List Int}{N x:Nat}{B Z:List Bool}(hX:yV l N)(hx:x<18446744073709551616)(hb:B.length≤10000000)(h:Bs l N=B++sK x++Z):GK l (N:Int) ((B.length:Int),false)=((x:Int),((B.length+(sK x).length:Nat):Int),false):=by
 by_cases h0:x=0
 ·have e:sK x=low 0 1:=by rw[sK,au h0]
  rw[e] at h ⊢;have h1:=xS hX (rH 0 1) (by decide) (by omega) h;rw[zq] at h1;unfold GK;rw[av (by simp),show ((1:Nat):Int)=1 from rfl] at *;rw[h1];simp[h0]
 ·obtain⟨z1,z2⟩:=zs hx h0;obtain⟨H,hH⟩:∃ H,VE x=H:=⟨_,rfl⟩;obtain⟨S,hS⟩:∃ S,F6 x=S:=⟨_,rfl⟩;obtain⟨D,hD⟩:∃ D,Qq x=D:=⟨_,rfl⟩;have hs:H+S+D=64:=by rw[← hH,← hS,← hD];unfold VE F6 Qq;unfold F6 at z1;omega
  have hd:1≤D:=by rw[← hD];unfold Qq;unfold F6 at z1;omega
  have e:sK x=low 1 1++low (H*64+(D-1)) 12++low (x / 2 ^ S) D:=by rw[sK,av h0,hH,hS,hD]
  have e12:low (H*64+(D-1)) 12=low H 6++low (D-1) 6:=by
   rw[Cm _ 12 6 (by decide),show (H*64+(D-1)) / 2 ^ (12-6) % 2 ^ 6=H by rw[show 2 ^ (12-6)=64 from rfl,dX H 64,nW (by decide),nM (show D-1<64 by omega),iA,iy (show H<64 by omega)],← Gw (H*64+(D-1)) 6,← Gw (D-1) 6];congr 2;omega
  have hxS:x / 2 ^ S*2 ^ S=x:=by
   have hc:Lib.ctz 64 x=Lib.ctzFrom 64 x:=by unfold Lib.ctz;rw[av h0]
   obtain⟨m,hm,_⟩:=nL 64 x (by omega) hx;rw[← hc] at hm;rw[show Lib.ctz 64 x=S from hS] at hm;exact Nat.div_mul_cancel ⟨2*m+1,hm⟩
  have hxD:x / 2 ^ S<2 ^ D:=by
   have:=Jp x hx;rw[kr (gU _),← nY];rwa [show D+S=Lib.bitLen x by rw[← hS,← hD];unfold Qq;unfold F6 at *;omega]
  rw[e,e12] at h ⊢;clear e e12 z1 z2 hH hS hD;have a1:=xS (c:=1) (B:=B) (L:=low 1 1) (Z:=low H 6++(low (D-1) 6++(low (x / 2 ^ S) D++Z))) hX (rH _ _) (by decide) (by omega) (by rw[h];simp only[bC]);have a2:=xS (c:=6) (B:=B++low 1 1) (L:=low H 6) (Z:=low (D-1) 6++(low (x / 2 ^ S) D++Z)) hX (rH _ _) (by decide) (by simp;omega) (by rw[h];simp only[bC]);have a3:=xS (c:=6) (B:=B++low 1 1++low H 6) (L:=low (D-1) 6) (Z:=low (x / 2 ^ S) D++Z) hX (rH _ _) (by decide) (by simp;omega) (by rw[h];simp only[bC]);have a4:=xS (c:=D) (B:=B++low 1 1++low H 6++low (D-1) 6) (L:=low (x / 2 ^ S) D) (Z:=Z) hX (rH _ _) (by omega) (by simp;omega) (by rw[h];simp only[bC]);rw[zq] at a1 a2 a3 a4;simp only[aT,rH] at a1 a2 a3 a4;rw[show 1 % 2 ^ 1=1 from rfl] at a1;rw[show H % 2 ^ 6=H by omega] at a2;rw[show (D-1) % 2 ^ 6=D-1 by omega] at a3;rw[iy hxD] at a4;rw[show ((1:Nat):Int)=1 from rfl] at a1;rw[show ((6:Nat):Int)=6 from rfl] at a2 a3;unfold GK;simp only[a1,a2,a3];rw[xC (show H<9000000000000000000 by omega),xC (show D-1<9000000000000000000 by omega),show (((D-1:Nat):Int)+1)=((D:Nat):Int) by omega,xC (show D<9000000000000000000 by omega),show ((H:Int)+(D:Int))=((H+D:Nat):Int) by omega,xC (show H+D<9000000000000000000 by omega),a4];rw[show (64-(H:Int))=((64-H:Nat):Int) by omega,xC (show 64-H<9000000000000000000 by omega),show (((64-H:Nat):Int)-(D:Int))=((S:Nat):Int) by omega,xC (show S<9000000000000000000 by omega)];rw[av (by simp),av (by simp),av (by simp;omega)];have e5:shl .u64 ((x / 2 ^ S:Nat):Int) (S:Int)=(x:Int):=by
   unfold shl;rw[aG,dJ (by simp[IntKind.bits];omega)];have:((x / 2 ^ S:Nat):Int)*2 ^ S=(x:Int):=by rw[show (2:Int) ^ S=((2 ^ S:Nat):Int) by simp,← kQ,hxS]
   rw[this];exact AL hx
  rw[e5];simp only[aT,rH,bG,true_and,kZ];omega
theorem tF.at_ (B g:Nat)(L:List Bool)(V C:Int)(v c:Nat)(w0 w:World)(hO:OU B w g L)(hB:Below B w0 w)(hgB:B≤g)(hV:V=(v:Int))(hC:C=(c:Int))(hv:v<18446744073709551616)(hc:c≤64)(hL:L.length≤7000000) :
 Calls Tryz.prog 81 #[.pointer (some ⟨g,0,none⟩),.int .u64 V,.int .i64 C] w fun e w'=>e = .returned (.tuple #[])∧OU B w' g (L++low v c)∧Below B w0 w'∧zJ g w w':=by
 subst hV hC;exact tF.c B g L v c w0 w hO hB hgB hv hc hL
theorem QW:intBits 0=low 0 1:=by decide
theorem QX {v:Int}{u:Nat}(h0:v≠0)(h1 : -64≤v)(h2:v≤63)(hu:IntKind.u64.wrap v=(u:Int)):intBits v=low 2 2++low u 7:=by
 have e:rG v=1:=by unfold rG;rw[av h0,au ⟨h1,by omega⟩]
 unfold intBits;rw[e,hu];rfl
theorem QY {v:Int}{u:Nat}(h1:¬ (-64≤v∧v≤63))(h2 : -2048≤v)(h3:v≤2047)(hu:IntKind.u64.wrap v=(u:Int)):intBits v=low 6 3++low u 12:=by
 have e:rG v=2:=by unfold rG;rw[av (by omega),av (by omega),au ⟨h2,by omega⟩]
 unfold intBits;rw[e,hu];rfl
theorem QZ {v:Int}{u:Nat}(h1:¬ (-2048≤v∧v≤2047))(h2 : -2147483648≤v)(h3:v≤2147483647)(hu:IntKind.u64.wrap v=(u:Int)):intBits v=low 14 4++low u 32:=by
 have e:rG v=3:=by unfold rG;rw[av (by omega),av (by omega),av (by omega),au ⟨h2,by omega⟩]
 unfold intBits;rw[e,hu];rfl
theorem Q0 {v:Int}{u:Nat}(h1:¬ (-2147483648≤v∧v≤2147483647))(hu:IntKind.u64.wrap v=(u:Int)):intBits v=low 15 4++low u 64:=by
 have e:rG v=4:=by unfold rG;rw[av (by omega),av (by omega),av (by omega),av (by omega)]
 unfold intBits;rw[e,hu];rfl
theorem OC.c (B g:Nat)(L:List Bool)(v:Int)(w0 w:World)(hO:OU B w g L)(hB:Below B w0 w)(hgB:B≤g)(hL:L.length≤6000000) :
 Calls Tryz.prog 82 #[.pointer (some ⟨g,0,none⟩),.int .i64 v] w fun e w'=>e = .returned (.tuple #[])∧OU B w' g (L++intBits v)∧Below B w0 w'∧zJ g w w':=by
 have HO:=Y7 hO;have HB:=Y7 hB;have HGB:=Y7 hgB;have HL:=Y7 hL;obtain⟨u,hu,hu64⟩:=DU v;have HU:=Y7 hu;clear hO hB hgB hL
 by_cases h0:v=0
 ·have d0:(v==0)=true:=beq_iff_eq.2 h0;have HE:oM (intBits v=low 0 1):=⟨by rw[h0];exact QW⟩;clear h0 hu
  go_enter Tryz.func82,Tryz.ntmps82
  go_wp2_with (go_at_call 81;(with_reducible refine (tF.at_ B g L 0 1 0 1 w0 _ HO.o HB.o HGB.o rfl rfl (by decide) (by decide) (by have:=HL.o;omega)).mono ?_);rintro e w1 ⟨rfl,ho,hb,hk⟩;have HO1:=Y7 ho;have HB1:=Y7 hb;have HK1:=Y7 hk;clear ho hb hk)
  refine fF (dQ rfl _ _ _) rfl ?_;exact⟨rfl,by rw[HE.o];exact HO1.o,HB1.o,HK1.o⟩
 have d0:(v==0)=false:=beq_eq_false_iff_ne.2 h0
 by_cases h1 : -64≤v∧v≤63
 ·have d1:decide (-64≤v)=true:=aC h1.1;have d2:decide (v≤63)=true:=aC h1.2;have HE:=Y7 (QX h0 h1.1 h1.2 hu);clear h0 hu h1
  go_enter Tryz.func82,Tryz.ntmps82
  go_wp2_with (first
   | (go_at_call 81;(with_reducible refine (tF.at_ B g L 2 2 2 2 w0 _ HO.o HB.o HGB.o rfl rfl (by decide) (by decide) (by have:=HL.o;omega)).mono ?_);rintro e w1 ⟨rfl,ho,hb,hk⟩;have HO1:=Y7 ho;have HB1:=Y7 hb;have HK1:=Y7 hk;clear ho hb hk)
   | (go_at_call 81;(with_reducible refine (tF.at_ B g (L++low 2 2) _ 7 u 7 w0 _ HO1.o HB1.o HGB.o HU.o rfl hu64 (by decide) (by have:=HL.o;simp;omega)).mono ?_);rintro e w2 ⟨rfl,ho,hb,hk⟩;have HO2:=Y7 ho;have HB2:=Y7 hb;have HK2:=Y7 (HK1.o.trans hk);clear ho hb hk))
  refine fF (dQ rfl _ _ _) rfl ?_;exact⟨rfl,by rw[HE.o,← bC];exact HO2.o,HB2.o,HK2.o⟩
 clear d0;have d0:(v==0)=false:=beq_eq_false_iff_ne.2 h0
 by_cases h2 : -2048≤v∧v≤2047
 ·have e2:decide (-2048≤v)=true:=aC h2.1;have e3:decide (v≤2047)=true:=aC h2.2;have HE:=Y7 (QY h1 h2.1 h2.2 hu);clear h0 hu h2
  by_cases hneg:v<0
  ·have agC:decide (-64≤v)=false:=aD (by omega);clear h1;clear hneg
   go_enter Tryz.func82,Tryz.ntmps82
   go_wp2_with (first
    | (go_at_call 81;(with_reducible refine (tF.at_ B g L 6 3 6 3 w0 _ HO.o HB.o HGB.o rfl rfl (by decide) (by decide) (by have:=HL.o;omega)).mono ?_);rintro e w1 ⟨rfl,ho,hb,hk⟩;have HO1:=Y7 ho;have HB1:=Y7 hb;have HK1:=Y7 hk;clear ho hb hk)
    | (go_at_call 81;(with_reducible refine (tF.at_ B g (L++low 6 3) _ 12 u 12 w0 _ HO1.o HB1.o HGB.o HU.o rfl hu64 (by decide) (by have:=HL.o;simp;omega)).mono ?_);rintro e w2 ⟨rfl,ho,hb,hk⟩;have HO2:=Y7 ho;have HB2:=Y7 hb;have HK2:=Y7 (HK1.o.trans hk);clear ho hb hk))
   refine fF (dQ rfl _ _ _) rfl ?_;exact⟨rfl,by rw[HE.o,← bC];exact HO2.o,HB2.o,HK2.o⟩
  ·have agC:decide (-64≤v)=true:=aC (by omega);have aki:decide (v≤63)=false:=aD (by omega);clear h1;clear hneg
   go_enter Tryz.func82,Tryz.ntmps82
   go_wp2_with (first
    | (go_at_call 81;(with_reducible refine (tF.at_ B g L 6 3 6 3 w0 _ HO.o HB.o HGB.o rfl rfl (by decide) (by decide) (by have:=HL.o;omega)).mono ?_);rintro e w1 ⟨rfl,ho,hb,hk⟩;have HO1:=Y7 ho;have HB1:=Y7 hb;have HK1:=Y7 hk;clear ho hb hk)
    | (go_at_call 81;(with_reducible refine (tF.at_ B g (L++low 6 3) _ 12 u 12 w0 _ HO1.o HB1.o HGB.o HU.o rfl hu64 (by decide) (by have:=HL.o;simp;omega)).mono ?_);rintro e w2 ⟨rfl,ho,hb,hk⟩;have HO2:=Y7 ho;have HB2:=Y7 hb;have HK2:=Y7 (HK1.o.trans hk);clear ho hb hk))
   refine fF (dQ rfl _ _ _) rfl ?_;exact⟨rfl,by rw[HE.o,← bC];exact HO2.o,HB2.o,HK2.o⟩
 clear h1;have h1:=h2;clear h2
 by_cases h2 : -2147483648≤v∧v≤2147483647
 ·have e2:decide (-2147483648≤v)=true:=aC h2.1;have e3:decide (v≤2147483647)=true:=aC h2.2;have HE:=Y7 (QZ h1 h2.1 h2.2 hu);clear h0 hu h2
  by_cases hneg:v<0
  ·have agC:decide (-64≤v)=false:=aD (by omega);have aeR:decide (-2048≤v)=false:=aD (by omega);clear h1;clear hneg
   go_enter Tryz.func82,Tryz.ntmps82
   go_wp2_with (first
    | (go_at_call 81;(with_reducible refine (tF.at_ B g L 14 4 14 4 w0 _ HO.o HB.o HGB.o rfl rfl (by decide) (by decide) (by have:=HL.o;omega)).mono ?_);rintro e w1 ⟨rfl,ho,hb,hk⟩;have HO1:=Y7 ho;have HB1:=Y7 hb;have HK1:=Y7 hk;clear ho hb hk)
    | (go_at_call 81;(with_reducible refine (tF.at_ B g (L++low 14 4) _ 32 u 32 w0 _ HO1.o HB1.o HGB.o HU.o rfl hu64 (by decide) (by have:=HL.o;simp;omega)).mono ?_);rintro e w2 ⟨rfl,ho,hb,hk⟩;have HO2:=Y7 ho;have HB2:=Y7 hb;have HK2:=Y7 (HK1.o.trans hk);clear ho hb hk))
   refine fF (dQ rfl _ _ _) rfl ?_;exact⟨rfl,by rw[HE.o,← bC];exact HO2.o,HB2.o,HK2.o⟩
  ·have agC:decide (-64≤v)=true:=aC (by omega);have aki:decide (v≤63)=false:=aD (by omega);have aeR:decide (-2048≤v)=true:=aC (by omega);have aiN:decide (v≤2047)=false:=aD (by omega);clear h1;clear hneg
   go_enter Tryz.func82,Tryz.ntmps82
   go_wp2_with (first
    | (go_at_call 81;(with_reducible refine (tF.at_ B g L 14 4 14 4 w0 _ HO.o HB.o HGB.o rfl rfl (by decide) (by decide) (by have:=HL.o;omega)).mono ?_);rintro e w1 ⟨rfl,ho,hb,hk⟩;have HO1:=Y7 ho;have HB1:=Y7 hb;have HK1:=Y7 hk;clear ho hb hk)
    | (go_at_call 81;(with_reducible refine (tF.at_ B g (L++low 14 4) _ 32 u 32 w0 _ HO1.o HB1.o HGB.o HU.o rfl hu64 (by decide) (by have:=HL.o;simp;omega)).mono ?_);rintro e w2 ⟨rfl,ho,hb,hk⟩;have HO2:=Y7 ho;have HB2:=Y7 hb;have HK2:=Y7 (HK1.o.trans hk);clear ho hb hk))
   refine fF (dQ rfl _ _ _) rfl ?_;exact⟨rfl,by rw[HE.o,← bC];exact HO2.o,HB2.o,HK2.o⟩
 ·clear h1;have h1:=h2;have HE:=Y7 (Q0 h1 hu);clear h0 hu h2
  by_cases hneg:v<0
  ·have agC:decide (-64≤v)=false:=aD (by omega);have aeR:decide (-2048≤v)=false:=aD (by omega);have adV:decide (-2147483648≤v)=false:=aD (by omega);clear h1;clear hneg
   go_enter Tryz.func82,Tryz.ntmps82
   go_wp2_with (first
    | (go_at_call 81;(with_reducible refine (tF.at_ B g L 15 4 15 4 w0 _ HO.o HB.o HGB.o rfl rfl (by decide) (by decide) (by have:=HL.o;omega)).mono ?_);rintro e w1 ⟨rfl,ho,hb,hk⟩;have HO1:=Y7 ho;have HB1:=Y7 hb;have HK1:=Y7 hk;clear ho hb hk)
    | (go_at_call 81;(with_reducible refine (tF.at_ B g (L++low 15 4) _ 64 u 64 w0 _ HO1.o HB1.o HGB.o HU.o rfl hu64 (by decide) (by have:=HL.o;simp;omega)).mono ?_);rintro e w2 ⟨rfl,ho,hb,hk⟩;have HO2:=Y7 ho;have HB2:=Y7 hb;have HK2:=Y7 (HK1.o.trans hk);clear ho hb hk))
   refine fF (dQ rfl _ _ _) rfl ?_;exact⟨rfl,by rw[HE.o,← bC];exact HO2.o,HB2.o,HK2.o⟩
  ·have agC:decide (-64≤v)=true:=aC (by omega);have aki:decide (v≤63)=false:=aD (by omega);have aeR:decide (-2048≤v)=true:=aC (by omega);have aiN:decide (v≤2047)=false:=aD (by omega);have adV:decide (-2147483648≤v)=true:=aC (by omega);have ahu:decide (v≤2147483647)=false:=aD (by omega);clear h1;clear hneg
   go_enter Tryz.func82,Tryz.ntmps82
   go_wp2_with (first
    | (go_at_call 81;(with_reducible refine (tF.at_ B g L 15 4 15 4 w0 _ HO.o HB.o HGB.o rfl rfl (by decide) (by decide) (by have:=HL.o;omega)).mono ?_);rintro e w1 ⟨rfl,ho,hb,hk⟩;have HO1:=Y7 ho;have HB1:=Y7 hb;have HK1:=Y7 hk;clear ho hb hk)
    | (go_at_call 81;(with_reducible refine (tF.at_ B g (L++low 15 4) _ 64 u 64 w0 _ HO1.o HB1.o HGB.o HU.o rfl hu64 (by decide) (by have:=HL.o;simp;omega)).mono ?_);rintro e w2 ⟨rfl,ho,hb,hk⟩;have HO2:=Y7 ho;have HB2:=Y7 hb;have HK2:=Y7 (HK1.o.trans hk);clear ho hb hk))
   refine fF (dQ rfl _ _ _) rfl ?_;exact⟨rfl,by rw[HE.o,← bC];exact HO2.o,HB2.o,HK2.o⟩
theorem P6 (v i:Nat)(hv:v<18446744073709551616)(hi:i≤64):(Go.bits .and .u64 ((v:Int) / 2 ^ i) 1==0) = !v.testBit i:=by
 have:=and_one v i hv hi;have h2:v / 2 ^ i<18446744073709551616:=fT (iI _ _) hv;have e:(v:Int) / 2 ^ i=((v / 2 ^ i:Nat):Int):=by simp
 rw[e] at this ⊢;rw[show (1:Int)=((1:Nat):Int) from rfl,u64_and_nat _ 1 h2 (by omega),Nat.and_one_is_mod] at this ⊢;rw[← this];rcases gD (v / 2 ^ i) with h | h<;>rw[h]<;>rfl
theorem VF {x:Nat}(hx:x<18446744073709551616)(h0:x≠0):1≤Lib.bitLen x∧Lib.bitLen x≤64∧x.testBit (Lib.bitLen x-1)=true∧∀ j,Lib.bitLen x≤j→x.testBit j=false:=by
 have h1:=gQ x 64 (by decide) hx;have h2:=Jp x hx;have h3:1≤Lib.bitLen x:=by
  rcases dW (Lib.bitLen x) with h | h
  ·rw[h] at h2;omega
  ·exact h
 refine⟨h3,h1,?_,fun j hj=>jV (dA h2 (dH (by decide) hj))⟩;refine Nat.testBit_of_two_pow_le_and_two_pow_add_one_gt ?_ (by rwa [show Lib.bitLen x-1+1=Lib.bitLen x by omega]);rcases dN x (2 ^ (Lib.bitLen x-1)) with h | h
 ·have:=gQ x (Lib.bitLen x-1) (by omega) h;omega
 ·exact h
theorem VJ {x:Nat}(hx:x<18446744073709551616)(h0:x≠0):x.testBit (F6 x)=true∧∀ j,j<F6 x→x.testBit j=false:=by
 have hc:F6 x=Lib.ctzFrom 64 x:=by unfold F6 Lib.ctz;rw[av h0]
 obtain⟨m,hm,_⟩:=nL 64 x (by omega) hx;rw[← hc] at hm;constructor
 ·rw[show x.testBit (F6 x)=(2 ^ F6 x*(2*m+1)).testBit (F6 x) from eU (fun z=>z.testBit (F6 x)) hm,jI];simp
 ·intro j hj;rw[show x.testBit j=(2 ^ F6 x*(2*m+1)).testBit j from eU (fun z=>z.testBit j) hm,jI];simp;omega
theorem Yo {H D:Nat}(hH:H<64)(hD:D<64):low (H*64+D) 12=low H 6++low D 6:=by
 rw[Cm _ 12 6 (by decide),show (H*64+D) / 2 ^ (12-6) % 2 ^ 6=H by rw[show 2 ^ (12-6)=64 from rfl,dX H 64,nW (by decide),nM hD,iA,iy hH],← Gw (H*64+D) 6,← Gw D 6];congr 2;omega
theorem YW {n:Nat}(h:n<18446744073709551616):IntKind.u64.wrap (n:Int)=(n:Int):=AL h
theorem DI.c (B g:Nat)(L:List Bool)(x:Nat)(w0 w:World)(hO:OU B w g L)(hB:Below B w0 w)(hgB:B≤g)(hx:x<18446744073709551616)(hL:L.length≤6000000) :
 Calls Tryz.prog 83 #[.pointer (some ⟨g,0,none⟩),.int .u64 (x:Int)] w fun e w'=>e = .returned (.tuple #[])∧OU B w' g (L++sK x)∧Below B w0 w'∧zJ g w w':=by
 have HO:=Y7 hO;have HB:=Y7 hB;have HGB:=Y7 hgB;have HL:=Y7 hL;clear hO hB hgB hL
 by_cases h0:x=0
 ·have hb:((x:Int)==0)=true:=beq_iff_eq.2 (by omega);have HX:oM (sK x=low 0 1):=⟨by rw[sK,au h0]⟩;clear h0
  go_enter Tryz.func83,Tryz.ntmps83
  go_wp2_with (go_at_call 81;(with_reducible refine (tF.at_ B g L 0 1 0 1 w0 _ HO.o HB.o HGB.o rfl rfl (by decide) (by decide) (by have:=HL.o;omega)).mono ?_);rintro e w1 ⟨rfl,ho,hb,hk⟩;have HO1:=Y7 ho;have HB1:=Y7 hb;have HK1:=Y7 hk;clear ho hb hk)
  refine bg (dQ rfl _ _ _) rfl ?_;exact⟨rfl,by rw[HX.o];exact HO1.o,HB1.o,HK1.o⟩
 ·have hb:((x:Int)==0)=false:=beq_eq_false_iff_ne.2 (by omega);obtain⟨b1,b2,b3,b4⟩:=VF hx h0;obtain⟨c3,c4⟩:=VJ hx h0;obtain⟨z1,z2⟩:=zs hx h0;obtain⟨H,hH⟩:∃ H,VE x=H:=⟨_,rfl⟩;obtain⟨S,hS⟩:∃ S,F6 x=S:=⟨_,rfl⟩;obtain⟨D,hD⟩:∃ D,Qq x=D:=⟨_,rfl⟩;have hs:H+S+D=64:=by rw[← hH,← hS,← hD];unfold VE F6 Qq;unfold F6 at z1;omega
  have hd:1≤D:=by rw[← hD];unfold Qq;unfold F6 at z1;omega
  have HX:oM (sK x=low 1 1++(low H 6++low (D-1) 6)++low (x / 2 ^ S) D):=⟨by rw[sK,av h0,hH,hS,hD,Yo (by omega) (by omega)]⟩;have HHI:oM (∀ h:Nat,h≤H→(x.testBit (63-h)=decide (h=H))):=⟨fun h hh=>by
   unfold VE at hH
   by_cases e:h=H
   ·rw[aC e,show 63-h=Lib.bitLen x-1 by omega,b3]
   ·rw[aD e,b4 _ (by omega)]⟩
  have HLO:oM (∀ h:Nat,h≤S→(x.testBit h=decide (h=S))):=⟨fun h hh=>by
   by_cases e:h=S
   ·rw[aC e,e,← hS,c3]
   ·rw[aD e,c4 _ (by omega)]⟩
  have HXL:=Y7 hx;clear b1 b2 b3 b4 c3 c4 z1 z2 hH hS hD h0
  go_enter Tryz.func83,Tryz.ntmps83
  go_wp2
  go_loop [4] (fun v4=>∃ h:Nat,h≤H∧v4 = .int .i64 h) (fun v4=>64-(intOf v4).toNat)
  case atStart=>exact⟨0,bP _,rfl⟩
  case round=>
   obtain⟨h,hh,rfl⟩:=hrel;have amG:63-(h:Int)=((63-h:Nat):Int):=by omega
   have ht:=P6 x (63-h) HXL.o (by omega);rw[HHI.o h hh] at ht
   by_cases hlt:h=H
   ·rw[aC hlt] at ht;subst hlt;go_wp2;clear ht amG
    go_loop [5] (fun v5=>∃ q:Nat,q≤S∧v5 = .int .i64 q) (fun v5=>64-(intOf v5).toNat)
    case atStart=>exact⟨0,bP _,rfl⟩
    case round=>
     obtain⟨q,hq,rfl⟩:=hrel;have ht2:=P6 x q HXL.o (by omega);rw[HLO.o q hq] at ht2
     by_cases hl2:q=S
     ·rw[aC hl2] at ht2;subst hl2;have hxs:(x:Int) / 2 ^ q=((x / 2 ^ q:Nat):Int):=by simp
      have hxq:x / 2 ^ q<18446744073709551616:=fT (iI _ _) HXL.o;have CA:=Y7 (fun W h1 h2=>tF.at_ B g L 1 1 1 1 w0 W h1 h2 HGB.o rfl rfl (by decide) (by decide) (by have:=HL.o;omega));have CB:=Y7 (fun W h1 h2=>tF.at_ B g (L++low 1 1) (h:Int) 6 h 6 w0 W h1 h2 HGB.o rfl rfl (by omega) (by decide) (by have:=HL.o;simp;omega));have CC:=Y7 (fun W h1 h2=>tF.at_ B g (L++low 1 1++low h 6) (64-(h:Int)-(q:Int)-1) 6 (D-1) 6 w0 W h1 h2 HGB.o (by omega) rfl (by omega) (by decide) (by have:=HL.o;simp;omega));have CD:=Y7 (fun W h1 h2=>tF.at_ B g (L++low 1 1++low h 6++low (D-1) 6) ((x:Int) / 2 ^ q) (64-(h:Int)-(q:Int)) (x / 2 ^ q) D w0 W h1 h2 HGB.o hxs (by omega) hxq (by omega) (by have:=HL.o;simp;omega));clear hxs hxq
      go_wp2_with (first
       | (go_at_call 81;(with_reducible refine (CA.o _ HO.o HB.o).mono ?_);rintro e w1 ⟨rfl,ho,hb,hk⟩;have HO1:=Y7 ho;have HB1:=Y7 hb;have HK1:=Y7 hk;clear ho hb hk)
       | (go_at_call 81;(with_reducible refine (CB.o _ HO1.o HB1.o).mono ?_);rintro e w2 ⟨rfl,ho,hb,hk⟩;have HO2:=Y7 ho;have HB2:=Y7 hb;have HK2:=Y7 (HK1.o.trans hk);clear ho hb hk)
       | (go_at_call 81;(with_reducible refine (CC.o _ HO2.o HB2.o).mono ?_);rintro e w3 ⟨rfl,ho,hb,hk⟩;have HO3:=Y7 ho;have HB3:=Y7 hb;have HK3:=Y7 (HK2.o.trans hk);clear ho hb hk)
       | (go_at_call 81;(with_reducible refine (CD.o _ HO3.o HB3.o).mono ?_);rintro e w4 ⟨rfl,ho,hb,hk⟩;have HO4:=Y7 ho;have HB4:=Y7 hb;have HK4:=Y7 (HK3.o.trans hk);clear ho hb hk))
      refine fF (dQ rfl _ _ _) rfl ?_;refine⟨rfl,?_,HB4.o,HK4.o⟩;have:=HO4.o;rw[HX.o];simp only[bC] at this ⊢;exact this
     ·rw[aD hl2] at ht2;go_wp2
      go_round
      case rel=>exact⟨q+1,by omega,by go_num⟩
      case measure=>simp[intOf]<;>omega
   ·rw[aD hlt] at ht;go_wp2
    go_round
    case rel=>exact⟨h+1,by omega,by go_num⟩
    case measure=>simp[intOf]<;>omega
theorem Qb (L:List Bool)(hL:L.length≤7000000):∀ n,n≤L.length→∃ b,yV b n∧Bs b n=L.take n
 | 0,_=>⟨[],KY,rfl⟩
 | n+1,h=>by
   obtain⟨b,hb,hbs⟩:=Qb L hL n (by omega);obtain⟨b',_,h1,h2⟩:=Ur hb (by have:=hb.near;omega) (if L[n]=true then 1 else 0) 1 (by split<;>decide) (by decide);refine⟨b',h1,?_⟩;rw[h2,hbs,bQ h];congr 1;cases L[n]<;>rfl
theorem Il (L:List Bool)(hL:L.length≤7000000):yV (BF L) L.length∧Bs (BF L) L.length=L:=by
 obtain⟨b,h1,h2⟩:=Qb L hL L.length (ay _);rw[dz] at h2;rw[Ik h1 h2];exact⟨h1,h2⟩
theorem RY (l:List Int)(N c:Int)(s:Int × Bool):0≤(vW l N s c).1∧(vW l N s c).1<18446744073709551616:=by
 unfold vW AV;split
 ·exact⟨gW _,by show (0:Int)<_;decide⟩
 ·rename_i h;split
  ·exact⟨gW _,by show (0:Int)<_;decide⟩
  ·have:=Es (win l s.1.toNat c.toNat) (by rw[win_length];omega);exact⟨eZ _,by show ((num _:Nat):Int)<_;omega⟩
theorem vZ {l:List Int}{N:Nat}{c:Int}{s:Int × Bool}(hN:N≤100000000)(h:(vW l (N:Int) s c).2.2=false):s.2=false∧(vW l (N:Int) s c).2.1=s.1+c∧0≤s.1∧s.1+c≤N∧0≤c:=by
 obtain⟨p,bad⟩:=s;unfold vW AV at *;simp only[mE] at h;obtain⟨hb,h⟩:=h;split at h
 ·simp at h
 ·rename_i h1;split at h
  ·simp at h
  ·rename_i h2;simp only at h1 h2 ⊢;exact⟨hb,wK (by omega) (by omega),by omega,by omega,by omega⟩
theorem FX {l:List Int}{n:Nat}{v q:Int}:∀ (m p:Nat),p≤n→wJ l n m p=(v,q,0)→(p:Int)+(if m=0 then 0 else 1)≤q∧q≤(n:Int)
 | 0,p,hp,h=>by
   simp only[wJ,AU] at h;split at h
   ·simp at h
   ·split at h
    ·have hw:=(width_le 4).1;simp only[bG] at h;rw[au rfl];omega
    ·simp at h
 | m+1,p,hp,h=>by
   rw[av (by omega)];simp only[wJ] at h;split at h
   ·simp at h
   ·split at h
    ·have:=FX m (p+1) (by omega) h;split at this<;>omega
    ·simp only[AU] at h;split at h
     ·simp at h
     ·split at h
      ·have hw:=(width_le (3-(m:Int))).1;simp only[bG] at h;omega
      ·simp at h
theorem RX {l:List Int}{N:Nat}{s:Int × Bool}(h:(R6 l (N:Int) s).2.2=false):s.2=false∧s.1+1≤(R6 l (N:Int) s).2.1∧0≤s.1∧(R6 l (N:Int) s).2.1≤N:=by
 obtain⟨p,bad⟩:=s;unfold R6 EH at *;simp only[mE] at h ⊢;obtain⟨hb,h⟩:=h;split at h
 ·simp at h
 ·rename_i h1;rw[av h1];have e:¬ p<0∧¬ (N:Int)<p:=⟨by omega,by omega⟩;obtain⟨v,q,z,hq⟩:∃ v q z,wJ l ((N:Int)).toNat 4 p.toNat=(v,q,z):=⟨_,_,_,rfl⟩;rw[hq] at h ⊢;have hz:z=0:=by simpa using h
  subst hz;have:=FX 4 p.toNat (by simp;omega) hq;rw[av (by decide)] at this;simp only[aG] at this;refine⟨hb,?_,by omega,?_⟩
  ·show p+1≤q;omega
  ·show q≤_;omega
theorem R4 (l:List Int)(N:Int)(s:Int × Bool):0≤(GK l N s).1∧(GK l N s).1<18446744073709551616:=by
 unfold GK
 repeat' split
 ·exact⟨gW _,by show (0:Int)<_;decide⟩
 ·exact⟨gW _,by show (0:Int)<_;decide⟩
 ·exact⟨gW _,by show (0:Int)<_;decide⟩
 ·unfold shl;exact uy _
theorem RZ {l:List Int}{N:Nat}{s:Int × Bool}(hN:N≤100000000)(h:(GK l (N:Int) s).2.2=false):s.2=false∧s.1+1≤(GK l (N:Int) s).2.1∧(GK l (N:Int) s).2.1≤N:=by
 cases hs:s.2 with
 | true=>rw[GK,au hs] at h;simp at h
 | false=>
   obtain⟨a,ha⟩:∃ a,vW l (N:Int) s 1=a:=⟨_,rfl⟩;obtain⟨b,hb⟩:∃ b,vW l (N:Int) a.2 6=b:=⟨_,rfl⟩;obtain⟨d,hd⟩:∃ d,vW l (N:Int) b.2 6=d:=⟨_,rfl⟩;obtain⟨w,hw⟩:∃ w,wrap64 (wrap64 d.1+1)=w:=⟨_,rfl⟩;obtain⟨t,ht⟩:∃ t,vW l (N:Int) d.2 w=t:=⟨_,rfl⟩;unfold GK at h ⊢;simp only[ha,hb,hd,hw,ht] at h ⊢;rw[av (by rw[hs];simp)] at h ⊢
   by_cases c1:a.1=0
   ·rw[au c1] at h ⊢;have hpl:=vZ (l:=l) (N:=N) (c:=1) (s:=s) hN (by rw[ha];exact h);rw[ha] at hpl;exact⟨bE,by show s.1+1≤a.2.1;omega,by show a.2.1≤_;omega⟩
   ·rw[av c1] at h ⊢
    by_cases c2:(d.2.2||decide (64<wrap64 (wrap64 b.1+w)))=true
    ·rw[au c2] at h;simp at h
    ·rw[av c2] at h ⊢;have p4:=vZ (l:=l) (N:=N) (c:=w) (s:=d.2) hN (by rw[ht];exact h);have p3:=vZ (l:=l) (N:=N) (c:=6) (s:=b.2) hN (by rw[hd];exact p4.1);have p2:=vZ (l:=l) (N:=N) (c:=6) (s:=a.2) hN (by rw[hb];exact p3.1);have p1:=vZ (l:=l) (N:=N) (c:=1) (s:=s) hN (by rw[ha];exact p2.1);rw[ht] at p4;rw[hd] at p3;rw[hb] at p2;rw[ha] at p1;exact⟨bE,by show s.1+1≤t.2.1;omega,by show t.2.1≤_;omega⟩
noncomputable def Ms (xb:List Int)(N p:Int):Int × Int × Bool:=vW xb N (p,false) 64
noncomputable def Jb (xb:List Int)(N p:Int):Int × Int × Bool:=vW xb N (Ms xb N p).2 64
noncomputable def CK (xb:List Int)(N p:Int):Int × Int × Bool:=R6 xb N (p,false)
noncomputable def Jc (xb:List Int)(N p:Int):Int × Int × Bool:=GK xb N (CK xb N p).2
noncomputable def ug (xb:List Int)(N:Int):Nat→Int × Bool × List qG × Int
 | 0=>(0,false,[],0)
 | 1=>((Jb xb N 0).2.1,(Jb xb N 0).2.2,if (Jb xb N 0).2.2=true then [] else [⟨wrap64 (Ms xb N 0).1,(Jb xb N 0).1⟩],0)
 | k+2=>if (ug xb N (k+1)).2.1=true then ug xb N (k+1) else
    ((Jc xb N (ug xb N (k+1)).1).2.1,(Jc xb N (ug xb N (k+1)).1).2.2,
      if (Jc xb N (ug xb N (k+1)).1).2.2=true then (ug xb N (k+1)).2.2.1 else (ug xb N (k+1)).2.2.1++[⟨wrap64 ((pI (ug xb N (k+1)).2.2.1 (k:Int)).f0+wrap64 ((ug xb N (k+1)).2.2.2+(CK xb N (ug xb N (k+1)).1).1)),Go.bits .xor .u64 (pI (ug xb N (k+1)).2.2.1 (k:Int)).f1 (Jc xb N (ug xb N (k+1)).1).1⟩],
      wrap64 ((ug xb N (k+1)).2.2.2+(CK xb N (ug xb N (k+1)).1).1))
noncomputable def wH (b:List Int):List qG × Int:=
 if b.length<2 then ([],5) else
 if (ug (b.drop 2) ((8*(b.length-2):Nat):Int) (wI 0 (b.take 2))).2.1=false∧xM (ug (b.drop 2) ((8*(b.length-2):Nat):Int) (wI 0 (b.take 2))).2.2.1=(b,0)
  then ((ug (b.drop 2) ((8*(b.length-2):Nat):Int) (wI 0 (b.take 2))).2.2.1,0) else ([],5)
theorem wrap64_in (x:Int) : -9223372036854775808≤wrap64 x∧wrap64 x≤9223372036854775807:=by
 unfold wrap64;omega
theorem Ph {a b:Int}(ha:0≤a∧a<18446744073709551616)(hb:0≤b∧b<18446744073709551616):Go.bits .xor .u64 a b=((a.toNat ^^^ b.toNat:Nat):Int)∧a.toNat ^^^ b.toNat<18446744073709551616:=by
 refine⟨?_,I6 ha hb⟩;obtain⟨x,hx⟩:=bO ha.1;obtain⟨y,hy⟩:=bO hb.1;rw[hx,hy,u64_xor_nat x y (by omega) (by omega)];simp
theorem Ue {l:List qG}(h:∀ x∈l,Bd x)(i:Int):Bd (pI l i):=by
 unfold pI;rw[aV];cases hq:l[i.toNat]? with
 | none=>exact⟨⟨by decide,by decide⟩,by decide,by decide⟩
 | some x=>exact h x (dI hq)
theorem Hq (xb:List Int)(N:Nat)(hN:N≤100000000):∀ k,(∀ x∈(ug xb (N:Int) k).2.2.1,Bd x)∧(ug xb (N:Int) k).2.2.1.length≤N ∧
 ((ug xb (N:Int) k).2.1=false→(ug xb (N:Int) k).2.2.1.length=k∧(k:Int)≤(ug xb (N:Int) k).1∧(ug xb (N:Int) k).1≤N)
 | 0=>⟨fun x hx=>absurd hx (by simp[ug]),by simp[ug],fun _=>⟨rfl,by simp[ug],by simp[ug]⟩⟩
 | 1=>by
   simp only[ug];cases hb:(Jb xb (N:Int) 0).2.2 with
   | true=>exact⟨fun x hx=>absurd hx (by simp),by simp,fun h=>absurd h (by simp)⟩
   | false=>
     have p2:=vZ (l:=xb) (N:=N) (c:=64) (s:=(Ms xb (N:Int) 0).2) hN hb;have p1:=vZ (l:=xb) (N:=N) (c:=64) (s:=(0,false)) hN p2.1;have e2:vW xb (N:Int) (Ms xb (N:Int) 0).2 64=Jb xb (N:Int) 0:=rfl;have e1:vW xb (N:Int) (0,false) 64=Ms xb (N:Int) 0:=rfl;rw[e2] at p2;rw[e1] at p1;refine⟨fun x hx=>?_,by simp;omega,fun _=>⟨by simp,by omega,by omega⟩⟩;rw[av (by simp),fu] at hx;subst hx;exact⟨wrap64_in _,RY xb (N:Int) 64 (Ms xb (N:Int) 0).2⟩
 | k+2=>by
   have ih:=Hq xb N hN (k+1);simp only[ug];obtain⟨⟨p,bad,l,st⟩,hs⟩:∃ s,ug xb (N:Int) (k+1)=s:=⟨_,rfl⟩;rw[hs] at ih ⊢;cases bad with
   | true=>rw[au rfl];exact⟨ih.1,ih.2.1,fun h=>absurd h (by simp)⟩
   | false=>
     rw[av (by simp)];obtain⟨i1,i2,i3⟩:=ih;obtain⟨i3,i4,i5⟩:=i3 rfl;simp only at i1 i2 i3 i4 i5 ⊢;cases hb:(Jc xb (N:Int) p).2.2 with
     | true=>exact⟨by rw[au rfl];exact i1,by rw[au rfl];exact i2,fun h=>absurd h (by simp)⟩
     | false=>
       have p2:=RZ hN (s:=(CK xb (N:Int) p).2) hb;have p1:=RX (l:=xb) (N:=N) (s:=(p,false)) p2.1;have e1:R6 xb (N:Int) (p,false)=CK xb (N:Int) p:=rfl;have e2:GK xb (N:Int) (CK xb (N:Int) p).2=Jc xb (N:Int) p:=rfl;rw[e1] at p1;rw[e2] at p2;rw[av (by simp)];refine⟨fun x hx=>?_,by simp;omega,fun _=>⟨by simp;omega,by omega,by omega⟩⟩;rcases List.mem_append.1 hx with hx | hx
       ·exact i1 x hx
       ·rw[fu] at hx;subst hx;have hv:=R4 xb (N:Int) (CK xb (N:Int) p).2;have hy:=(Ue i1 (k:Int)).2;have hxx:=Ph hy hv;refine⟨wrap64_in _,?_⟩;show 0≤Go.bits .xor .u64 _ (GK xb (N:Int) (CK xb (N:Int) p).2).1∧_;constructor
        ·show 0≤Go.bits .xor .u64 _ (GK xb (N:Int) (CK xb (N:Int) p).2).1;rw[hxx.1];omega
        ·show Go.bits .xor .u64 _ (GK xb (N:Int) (CK xb (N:Int) p).2).1<_;rw[hxx.1];have:=hxx.2;omega
theorem M9 {l:List Int}{n:Nat}(h:yV l n):yV l (8*l.length):=
 ⟨h.bytes,ay _,by omega,fun i h1 h2=>absurd h2 (by omega)⟩
theorem Tk (l:List qG):∀ k,∃ Z,tH l (k+1)=tH l k++Z
 | 0=>⟨_,rfl⟩
 | k+1=>⟨_,rfl⟩
theorem Br (l:List qG)(k:Nat):∀ d,∃ Z,tH l (k+d)=tH l k++Z
 | 0=>⟨[],by simp⟩
 | d+1=>by
   obtain⟨Z,hZ⟩:=Br l k d;obtain⟨Y,hY⟩:=Tk l (k+d);exact⟨Z++Y,by rw[← jM,hY,hZ,bC]⟩
theorem Pj {l:List Int}{n:Nat}(h:yV l n):∃ Z,Bs l (8*l.length)=Bs l n++Z:=by
 unfold Bs;exact⟨_,J6 l 0 (8*l.length) n h.le⟩
theorem TG {v:Int}(h : -9223372036854775808≤v∧v≤9223372036854775807):(Lit.int .i64 v).wf=true:=by
 simp[Lit.wf,IntKind.min,IntKind.max,IntKind.signed,IntKind.bits];omega
theorem U8 {l:List Int}{N:Nat}{B Z:List Bool}{v:Int}(hX:yV l N)(hv:(Lit.int .i64 v).wf=true)(h:Bs l N=B++intBits v++Z):R6 l (N:Int) ((B.length:Int),false)=(v,((B.length+(intBits v).length:Nat):Int),false):=by
 unfold R6;rw[O4 hX hv h];rfl
theorem J4 (x y st:Int)(hx : -9223372036854775808≤x∧x≤9223372036854775807)(hs : -9223372036854775808≤st∧st≤9223372036854775807):wrap64 (st+wrap64 (wrap64 (x-y)-st))=wrap64 (x-y)∧wrap64 (y+wrap64 (x-y))=x:=by
 constructor
 ·generalize hd:wrap64 (x-y)=d;have : -9223372036854775808≤d∧d≤9223372036854775807:=hd ▸ wrap64_in _;unfold wrap64;omega
 ·unfold wrap64;omega
theorem NM (l:List qG):∀ k,-9223372036854775808≤uP l k∧uP l k≤9223372036854775807
 | 0=>by simp[uP]
 | 1=>by simp[uP]
 | k+2=>wrap64_in _
theorem Hy (x:Int)(hx : -9223372036854775808≤x∧x≤9223372036854775807):wrap64 (((IntKind.u64.wrap x).toNat:Nat):Int)=x:=by
 rw[wrap_u64];unfold wrap64;omega
theorem NV {x y:Int}(hx:0≤x∧x<18446744073709551616)(hy:0≤y∧y<18446744073709551616):Go.bits .xor .u64 y ((x.toNat ^^^ y.toNat:Nat):Int)=x:=by
 obtain⟨a,ha⟩:=bO hx.1;obtain⟨b,hb⟩:=bO hy.1;subst ha hb;rw[aG,aG,u64_xor_nat b (a ^^^ b) (by omega) (iW (n:=64) (by omega) (by omega)),Nat.xor_comm a b,← Nat.xor_assoc,Nat.xor_self,Nat.zero_xor]
theorem zx (l:List qG)(k:Nat)(h:k<l.length):l.take (k+1)=l.take k++[pI l (k:Int)]:=by
 have e:pI l (k:Int)=l[k]:=by simp[pI,aV,aR h]
 rw[bQ h,e]
theorem Cu (l:List qG)(k m:Nat)(h:k<m):pI (l.take m) (k:Int)=pI l (k:Int):=by
 simp only[pI,aG,aV,dB,au h]
theorem Jt {xb:List Int}{NN:Nat}{l:List qG}{Z:List Bool}(hok:∀ x∈l,Bd x)(hl:l.length≤20000)(hX:yV xb NN)(hB:Bs xb NN=tH l l.length++Z):∀ k,k≤l.length→ug xb (NN:Int) k=(((tH l k).length:Int),false,l.take k,uP l k)
 | 0,_=>by simp[ug,tH,uP]
 | 1,h=>by
   obtain⟨Y,hY⟩:=Br l 1 (l.length-1);rw[show 1+(l.length-1)=l.length by omega] at hY;have hm:=hok _ (xR l 0 (by omega));have hu:=uy (pI l 0).f0;obtain⟨u,eu⟩:=bO hu.1;obtain⟨v,ev⟩:=bO hm.2.1;have ev':(pI l 0).f1=(v:Int):=ev;have hv:v<18446744073709551616:=by have:=hm.2.2;rw[ev] at this;omega
   have huu:u<18446744073709551616:=by rw[eu] at hu;omega
   have e1:tH l 1=low u 64++low v 64:=by
    show low (IntKind.u64.wrap (pI l 0).f0).toNat 64++low (pI l 0).f1.toNat 64=_;rw[eu,ev'];rfl
   rw[hY,e1] at hB;have a1:=xS (c:=64) (B:=[]) (L:=low u 64) (Z:=low v 64++(Y++Z)) hX (rH _ _) (by decide) (by simp) (by rw[hB];simp only[cB,bC]);have a2:=xS (c:=64) (B:=low u 64) (L:=low v 64) (Z:=Y++Z) hX (rH _ _) (by decide) (by simp) (by rw[hB];simp only[bC]);rw[zq,iy huu] at a1;rw[zq,iy hv,rH] at a2;have eA:Ms xb (NN:Int) 0=((u:Int),64,false):=a1;have eB:Jb xb (NN:Int) 0=((v:Int),128,false):=by
    unfold Jb;rw[eA];exact a2
   have ef:wrap64 (u:Int)=(pI l 0).f0:=by
    have:=Hy (pI l 0).f0 hm.1;rw[eu] at this;exact this
   have et:=zx l 0 (by omega);rw[ug,eB,eA,e1,et];rw[av (by simp)];have es:(⟨wrap64 (u:Int),(v:Int)⟩:qG)=pI l ((0:Nat):Int):=by
    rw[ef,← ev'];rfl
   simp only[es];simp[uP]
 | k+2,h=>by
   have ih:=Jt hok hl hX hB (k+1) (by omega);obtain⟨Y,hY⟩:=Br l (k+2) (l.length-(k+2));rw[show k+2+(l.length-(k+2))=l.length by omega] at hY;have hlen:=wD l hok (k+1) (by omega);have hx:=hok _ (xR l (k+1) (by omega));have hy:=hok _ (xR l k (by omega));have e2:tH l (k+2)=tH l (k+1)++(intBits (wrap64 (wrap64 ((pI l ((k+1:Nat):Int)).f0-(pI l ((k:Nat):Int)).f0)-uP l (k+1)))++sK ((pI l ((k+1:Nat):Int)).f1.toNat ^^^ (pI l ((k:Nat):Int)).f1.toNat)):=rfl;have hst:=NM l (k+1);have hsp:uP l (k+2)=wrap64 ((pI l ((k+1:Nat):Int)).f0-(pI l ((k:Nat):Int)).f0):=rfl;have et:=zx l (k+1) (by omega);have er:=Cu l k (k+1) (by omega);obtain⟨x,ex⟩:∃ x,pI l ((k+1:Nat):Int)=x:=⟨_,rfl⟩;obtain⟨y,ey⟩:∃ y,pI l ((k:Nat):Int)=y:=⟨_,rfl⟩;rw[ex,ey] at e2 hsp;rw[ex] at hx et;rw[ey] at hy er;obtain⟨st,est⟩:∃ st,uP l (k+1)=st:=⟨_,rfl⟩;rw[est] at e2 hst ih;obtain⟨v,ev⟩:∃ v,wrap64 (wrap64 (x.f0-y.f0)-st)=v:=⟨_,rfl⟩;have hv:(Lit.int .i64 v).wf=true:=ev ▸ TG (wrap64_in _);have hxx:=I6 hx.2 hy.2;have htb:=J4 x.f0 y.f0 st hx.1 hst;have hxb:=NV hx.2 hy.2;rw[ev] at e2 htb;obtain⟨X,eX⟩:∃ X,x.f1.toNat ^^^ y.f1.toNat=X:=⟨_,rfl⟩;rw[eX] at e2 hxx hxb;rw[hY,e2] at hB;have a1:=U8 (B:=tH l (k+1)) (Z:=sK X++(Y++Z)) hX hv (by rw[hB];simp only[bC]);have hil:=yC v;have a2:=NS (x:=X) (B:=tH l (k+1)++intBits v) (Z:=Y++Z) hX hxx (by simp;omega) (by rw[hB];simp only[bC]);rw[aT] at a2;have eN:CK xb (NN:Int) ((tH l (k+1)).length:Int)=(v,(((tH l (k+1)).length+(intBits v).length:Nat):Int),false):=a1;have eV:Jc xb (NN:Int) ((tH l (k+1)).length:Int)=((X:Int),(((tH l (k+1)).length+(intBits v).length+(sK X).length:Nat):Int),false):=by
    unfold Jc;rw[eN];exact a2
   rw[ug,ih];simp only;rw[av (by simp),eV,eN,er,htb.1,htb.2,hxb,hsp,et,e2];simp only[aT];rw[av (by simp)];simp only[bG,true_and,kZ];omega
theorem Px (n:Nat)(h:n≤65535):wI 0 (rD n 2)=n:=by
 rw[Pw];omega
theorem KD (l:List qG)(hok:∀ x∈l,Bd x)(hl:l.length≤20000)(hc:vC l=true):xM l=(sU l,0)∧wH (sU l)=(l,0)∧(sU l).length≤2+20*l.length+1:=by
 have e0:xM l=(sU l,0):=by rw[xM,au hc]
 have hP:=wD l hok l.length (ay _);obtain⟨hX,hBs⟩:=Il (tH l l.length) (by omega);obtain⟨Z,hZ⟩:=Pj hX;rw[hBs] at hZ;have hbl:(sU l).length=2+(BF (tH l l.length)).length:=by rw[sU,aT,pY]
 have hn:=hX.near;refine⟨e0,?_,by omega⟩;have hd:(sU l).drop 2=BF (tH l l.length):=by rw[sU,fV (pY _ _)]
 have ht:(sU l).take 2=rD l.length 2:=by rw[sU,eP (pY _ _)]
 have hs:=Jt hok hl (M9 hX) hZ l.length (ay _);rw[dz] at hs;have h8:8*((sU l).length-2)=8*(BF (tH l l.length)).length:=by omega
 rw[wH,av (by omega),hd,ht,h8,Px _ (by omega),hs,au ⟨rfl,e0⟩]
def DJ (L:List Bool):Nat→List Int
 | 0=>[]
 | j+1=>Aw (vS (DJ L j) j) (j / 8) ((if L.getD j false=true then 1 else 0)*2 ^ (8-j % 8-1))
theorem Az (L:List Bool):∀ j,j≤L.length→yV (DJ L j) j∧Bs (DJ L j) j=L.take j
 | 0,_=>⟨KY,rfl⟩
 | j+1,h=>by
   obtain⟨h1,h2⟩:=Az L j (by omega);obtain⟨h3,h4⟩:=Nn (T:=1) (X:=if L.getD j false=true then 1 else 0) h1 (by decide) (by omega) (by split<;>decide);refine⟨h3,?_⟩;rw[show DJ L (j+1)=Aw (vS (DJ L j) j) (j / 8) ((if L.getD j false=true then 1 else 0)*2 ^ (8-j % 8-1)) from rfl,h4,h2,bQ (by omega)];congr 1;rw[aV,aR (by omega),jC];cases L[j]'(by omega)<;>rfl
theorem Qc (L:List Bool):DJ L L.length=BF L:=by
 obtain⟨h1,h2⟩:=Az L L.length (ay _);rw[dz] at h2;exact (Ik h1 h2).symm
theorem Uk {L:List Bool}{j:Nat}(hj:j<L.length)(hb:L.getD j false=false):DJ L (j+1)=vS (DJ L j) j:=by
 have h1:=(Az L j (by omega)).1;have hz:=zL h1;have hby:Bh (vS (DJ L j) j):=by
  unfold vS;split
  ·intro x hx;rcases List.mem_append.1 hx with hx | hx
   ·exact h1.bytes x hx
   ·rw[List.mem_singleton.1 hx];exact⟨by decide,by decide⟩
  ·exact h1.bytes
 have ha:=(hby.at (j / 8)).1;show Aw (vS (DJ L j) j) (j / 8) _=_;rw[av (by rw[hb];simp),gH];unfold Aw;rw[Nat.or_zero,Int.toNat_of_nonneg ha];rw[aV,aR (by omega),jC];exact oD _
theorem VT {L:List Bool}{j m:Nat}(hj:j<L.length)(hb:L.getD j false=true)(B:List Int)(hm:B.length=m) :
 (B++vS (DJ L j) j).set (m+j / 8) (Go.bits .or .u8 ((vS (DJ L j) j).getD (j / 8) 0) (128 / 2 ^ (j % 8)))=B++DJ L (j+1)∧(B++vS (DJ L j) j).length=m+j / 8+1∧(B++vS (DJ L j) j).getD (m+j / 8) 0=(vS (DJ L j) j).getD (j / 8) 0:=by
 have h1:=(Az L j (by omega)).1;have hz:=zL h1;have hby:Bh (vS (DJ L j) j):=by
  unfold vS;split
  ·intro x hx;rcases List.mem_append.1 hx with hx | hx
   ·exact h1.bytes x hx
   ·rw[List.mem_singleton.1 hx];exact⟨by decide,by decide⟩
  ·exact h1.bytes
 have ha:=hby.at (j / 8);refine⟨?_,by rw[aT,hz];omega,?_⟩
 ·rw[iV _ _ (by omega),show m+j / 8-B.length=j / 8 by omega];congr 1;show _=Aw (vS (DJ L j) j) (j / 8) _;unfold Aw;congr 1;rw[au hb,nX];obtain⟨a,hA⟩:=bO ha.1;rw[hA] at ha ⊢;rw[aG,show 8-j % 8-1=7-j % 8 by omega];have e:(128:Int) / 2 ^ (j % 8)=((2 ^ (7-j % 8):Nat):Int):=by
   have hlt:j % 8<8:=gG _ (by decide);generalize j % 8=q at hlt
   match q,hlt with
   | 0,_ | 1,_ | 2,_ | 3,_ | 4,_ | 5,_ | 6,_ | 7,_=>rfl
  rw[e];exact u8_or_nat a _ (by omega) (dA (Nat.pow_lt_pow_right (by decide) (show 7-j % 8<8 by omega)) (by decide))
 ·rw[aV,aV,fq (by omega),show m+j / 8-B.length=j / 8 by omega]
theorem GJ (l:List Int)(N:Int)(s:Int × Bool):0≤(vW l N s 6).1∧(vW l N s 6).1<64:=by
 unfold vW AV;split
 ·exact⟨gW _,by show (0:Int)<_;decide⟩
 ·split
  ·exact⟨gW _,by show (0:Int)<_;decide⟩
  ·have:=Fe (win l s.1.toNat 6);rw[win_length] at this;exact⟨eZ _,by show ((num (win l s.1.toNat 6):Nat):Int)<_;omega⟩
theorem J3 (g:Nat)(A:Option Addr)(c:Nat)(l:List Int)(N k:Int)(s r:Int × Int × Bool)(w0 w:World)(hr:Kd.C (Kd.int .u8) w0 A l.length l)(hc:l.length≤c)(hg:w0.heap.size≤g)
 (hl:Bh l) (hn:l.length≤1000000) (hN : -9223372036854775808≤N∧N≤9223372036854775807) (hU:UP w g A l.length c N s.2.1 s.2.2) (hB:Below w0.heap.size w0 w) (he:vW l N s.2 k=r) :
 Calls Tryz.prog 150 #[.pointer (some ⟨g,0,none⟩),.int .i64 k] w fun e w'=>e = .returned (.int .u64 r.1)∧UP w' g A l.length c N r.2.1 r.2.2∧Below w0.heap.size w0 w'∧pG w w' g none:=by
 subst he;exact NT.c g A c l N s.2.1 k s.2.2 w0 w hU hr hc hB hg hl hn hN
theorem Lj.c (g:Nat)(A:Option Addr)(c:Nat)(l:List Int)(N p:Int)(bad:Bool)(w0 w:World)(hU:UP w g A l.length c N p bad)(hr:Kd.C (Kd.int .u8) w0 A l.length l)(hc:l.length≤c)(hB:Below w0.heap.size w0 w)(hg:w0.heap.size≤g)
 (hl:Bh l) (hn:l.length≤1000000) (hN : -9223372036854775808≤N∧N≤9223372036854775807) :
 Calls Tryz.prog 152 #[.pointer (some ⟨g,0,none⟩)] w fun e w'=>e = .returned (.int .u64 (GK l N (p,bad)).1)∧UP w' g A l.length c N (GK l N (p,bad)).2.1 (GK l N (p,bad)).2.2∧Below w0.heap.size w0 w'∧pG w w' g none:=by
 have CT:=Y7 (fun k s r W hU hB he=>J3 g A c l N k s r w0 W hr hc hg hl hn hN hU hB he);have HB:=Y7 hB;have HU:=Y7 hU;have HG:=Y7 hg;have u3:w.cell? ⟨g,3,none⟩=some (.bool bad):=(oQ hU 3).trans rfl;clear hU hr hc hB hg hl hn hN;cases bad with
 | true=>
   rw[GK,au rfl]
   go_enter Tryz.func152,Tryz.ntmps152
   go_wp2;go_ret;exact⟨rfl,HU.o,HB.o,pG.refl _ _ _⟩
 | false=>
   obtain⟨a,ha⟩:∃ a,vW l N (p,false) 1=a:=⟨_,rfl⟩;obtain⟨b,hb⟩:∃ b,vW l N a.2 6=b:=⟨_,rfl⟩;obtain⟨d,hd⟩:∃ d,vW l N b.2 6=d:=⟨_,rfl⟩;obtain⟨w_,hw⟩:∃ w,wrap64 (wrap64 d.1+1)=w:=⟨_,rfl⟩;obtain⟨t,ht⟩:∃ t,vW l N d.2 w_=t:=⟨_,rfl⟩;have HE:oM (GK l N (p,false)=if a.1=0 then (0,a.2) else if (d.2.2||decide (64<wrap64 (wrap64 b.1+w_)))=true then (0,d.2.1,true) else (shl .u64 t.1 (wrap64 (wrap64 (64-wrap64 b.1)-w_)),t.2)):=⟨by
    unfold GK;simp only[ha,hb,hd,hw,ht];rw[av (by simp)]⟩
   have hb6:=hb ▸ GJ l N a.2;have hd6:=hd ▸ GJ l N b.2;have hwv:w_=d.1+1:=by rw[← hw,wK (x:=d.1) (by omega) (by omega),wK (by omega) (by omega)]
   have HSH:oM (¬ 64<wrap64 (wrap64 b.1+w_)→0≤wrap64 (wrap64 (64-wrap64 b.1)-w_)):=⟨fun h=>by
    rw[wK (x:=b.1) (by omega) (by omega),wK (by omega) (by omega)] at h;rw[wK (x:=b.1) (by omega) (by omega),wK (x:=64-b.1) (by omega) (by omega),wK (by omega) (by omega)];omega⟩
   clear hb6 hd6 hwv;have HA:=Y7 ha;have HBE:=Y7 hb;have HD:=Y7 hd;have HT:=Y7 ht;clear ha hb hd ht
   by_cases c1:a.1=0
   ·have c1b:(a.1==0)=true:=beq_iff_eq.2 c1;have HC1:=Y7 c1;clear c1
    go_enter Tryz.func152,Tryz.ntmps152
    go_wp2_with (go_at_call 150;(with_reducible refine (CT.o 1 (0,p,false) a _ HU.o HB.o HA.o).mono ?_);rintro e w1 ⟨rfl,hu,hb,hk⟩;have HU1:=Y7 hu;have HB1:=Y7 hb;have HK1:=Y7 hk;clear hu hb hk)
    go_ret;rw[HE.o,au HC1.o];exact⟨rfl,HU1.o,HB1.o,HK1.o⟩
   ·have c1b:(a.1==0)=false:=beq_eq_false_iff_ne.2 c1;have HC1:=Y7 c1;clear c1;cases h2:d.2.2 with
    | true=>
      go_enter Tryz.func152,Tryz.ntmps152
      go_wp2_with (first
       | (go_at_call 150;(with_reducible refine (CT.o 1 (0,p,false) a _ HU.o HB.o HA.o).mono ?_);rintro e w1 ⟨rfl,hu,hb,hk⟩;have HU1:=Y7 hu;have HB1:=Y7 hb;have HK1:=Y7 hk;clear hu hb hk)
       | (go_at_call 150;(with_reducible refine (CT.o 6 a b _ HU1.o HB1.o HBE.o).mono ?_);rintro e w2 ⟨rfl,hu,hb,hk⟩;have HU2:=Y7 hu;have HB2:=Y7 hb;have HK2:=Y7 (HK1.o.trans hk (.inl rfl));clear hu hb hk)
       | (go_at_call 150;(with_reducible refine (CT.o 6 b d _ HU2.o HB2.o HD.o).mono ?_);rintro e w3 ⟨rfl,hu,hb,hk⟩;rw[h2] at hu;have HU3:=Y7 hu;have HB3:=Y7 hb;have HK3:=Y7 (HK2.o.trans hk (.inl rfl));have c3:=(oQ hu 3).trans rfl;have f3:=oW hu 3;clear hu hb hk))
      go_ret;rw[HE.o,av HC1.o,au (by rw[h2];rfl)];exact⟨rfl,qF HU3.o 3 _ rfl,HB3.o.setCell (p:=⟨g,3,none⟩) HG.o _,HK3.o.sG 3 _⟩
    | false=>
      by_cases hq:64<wrap64 (wrap64 b.1+w_)
      ·have hqb:decide (64<wrap64 (wrap64 b.1+w_))=true:=aC hq
       go_enter Tryz.func152,Tryz.ntmps152
       go_wp2_with (first
        | (go_at_call 150;(with_reducible refine (CT.o 1 (0,p,false) a _ HU.o HB.o HA.o).mono ?_);rintro e w1 ⟨rfl,hu,hb,hk⟩;have HU1:=Y7 hu;have HB1:=Y7 hb;have HK1:=Y7 hk;clear hu hb hk)
        | (go_at_call 150;(with_reducible refine (CT.o 6 a b _ HU1.o HB1.o HBE.o).mono ?_);rintro e w2 ⟨rfl,hu,hb,hk⟩;have HU2:=Y7 hu;have HB2:=Y7 hb;have HK2:=Y7 (HK1.o.trans hk (.inl rfl));clear hu hb hk)
        | (go_at_call 150;(with_reducible refine (CT.o 6 b d _ HU2.o HB2.o HD.o).mono ?_);rintro e w3 ⟨rfl,hu,hb,hk⟩;rw[h2] at hu;have HU3:=Y7 hu;have HB3:=Y7 hb;have HK3:=Y7 (HK2.o.trans hk (.inl rfl));have c3:=(oQ hu 3).trans rfl;have f3:=oW hu 3;clear hu hb hk))
       go_ret;rw[HE.o,av HC1.o,au (by rw[h2,hqb];rfl)];exact⟨rfl,qF HU3.o 3 _ rfl,HB3.o.setCell (p:=⟨g,3,none⟩) HG.o _,HK3.o.sG 3 _⟩
      ·have hqb:decide (64<wrap64 (wrap64 b.1+w_))=false:=aD hq;have hsh:=HSH.o hq;have CT4:=Y7 (fun W (hu:UP W g A l.length c N d.2.1 false) hB=>CT.o w_ d t W (by rw[h2];exact hu) hB HT.o)
       go_enter Tryz.func152,Tryz.ntmps152
       go_wp2_with (first
        | (go_at_call 150;(with_reducible refine (CT.o 1 (0,p,false) a _ HU.o HB.o HA.o).mono ?_);rintro e w1 ⟨rfl,hu,hb,hk⟩;have HU1:=Y7 hu;have HB1:=Y7 hb;have HK1:=Y7 hk;clear hu hb hk)
        | (go_at_call 150;(with_reducible refine (CT.o 6 a b _ HU1.o HB1.o HBE.o).mono ?_);rintro e w2 ⟨rfl,hu,hb,hk⟩;have HU2:=Y7 hu;have HB2:=Y7 hb;have HK2:=Y7 (HK1.o.trans hk (.inl rfl));clear hu hb hk)
        | (go_at_call 150;(with_reducible refine (CT.o 6 b d _ HU2.o HB2.o HD.o).mono ?_);rintro e w3 ⟨rfl,hu,hb,hk⟩;rw[h2] at hu;have HU3:=Y7 hu;have HB3:=Y7 hb;have HK3:=Y7 (HK2.o.trans hk (.inl rfl));have c3:=(oQ hu 3).trans rfl;have f3:=oW hu 3;clear hu hb hk)
        | (go_at_call 150;(refine (CT4.o _ ?s1 ?s2).mono ?_);(case s1=>exact qF HU3.o 3 _ rfl);(case s2=>exact HB3.o.setCell (p:=⟨g,3,none⟩) HG.o _);rintro e w4 ⟨rfl,hu,hb,hk⟩;have HU4:=Y7 hu;have HB4:=Y7 hb;have HK4:=Y7 ((HK3.o.sG 3 _).trans hk (.inl rfl));clear hu hb hk))
       go_ret;rw[HE.o,av HC1.o,av (by rw[h2,hqb];simp)];exact⟨rfl,HU4.o,HB4.o,HK4.o⟩
def rT (xb:List Int)(p:Nat)(bad:Bool)(c:Nat):Nat × Nat × Bool:=if p+c≤8*xb.length then (num (win xb p c),p+c,bad) else (0,8*xb.length,true)
theorem Vu {xb:List Int}(hx:Bh xb)(p:Nat):IntKind.u64.wrap (Go.bits .and .u8 (shr .u8 (rd xb ((p / 8:Nat):Int)) ((7-p % 8:Nat):Int)) 1)=(((bit xb p).toNat:Nat):Int):=by
 have ha:=hx.at (p / 8);rw[Le];unfold bit;obtain⟨a,hA⟩:=bO ha.1;rw[hA] at ha ⊢;have ha2:a<256:=by omega
 rw[aG,EB .u8 a (7-p % 8) (by simp[IntKind.bits];omega),show (1:Int)=((1:Nat):Int) from rfl,u8_and_nat _ 1 (fT (iI _ _) ha2) (by omega),Nat.and_one_is_mod];rw[AL (by have:=gG (a / 2 ^ (7-p % 8)) (show 0<2 by decide);omega),jE];rcases gD (a / 2 ^ (7-p % 8)) with h | h<;>rw[h]<;>rfl
theorem win_snoc (l:List Int)(p i:Nat):win l p (i+1)=win l p i++[bit l (p+i)]:=by
 unfold win;rw[List.range_succ,fI];rfl
theorem Ub (l:List Int)(p i:Nat):num (win l p (i+1))=2*num (win l p i)+(bit l (p+i)).toNat:=by
 rw[win_snoc,Ar];show num (win l p i)*2 ^ 1+num [bit l (p+i)]=_;rw[show num [bit l (p+i)]=(bit l (p+i)).toNat by cases bit l (p+i)<;>rfl];omega
theorem YX {q:Nat}(h:q≤10000000):wrap64 (Int.tdiv (q:Int) 8)=((q / 8:Nat):Int):=by rw[Y2];exact Jj (by omega)
theorem YZ {q:Nat}(h:q≤10000000):wrap64 (7-Int.tmod (q:Int) 8)=((7-q % 8:Nat):Int):=by rw[Y3,wK (by omega) (by omega)];omega
theorem YE {q:Nat}(h:q≤10000000):wrap64 ((q:Int)+1)=((q+1:Nat):Int):=by rw[wK (by omega) (by omega)];omega
theorem Y5 {q:Nat}(h:q≤10000000):wrap64 (8*(q:Int))=((8*q:Nat):Int):=by rw[wK (by omega) (by omega)];omega
theorem Sw (xb:List Int)(p i:Nat)(hi:i<64):IntKind.u64.wrap (IntKind.u64.wrap (((num (win xb p i):Nat):Int)*2)+(((bit xb (p+i)).toNat:Nat):Int))=((num (win xb p (i+1)):Nat):Int):=by
 have hlt:=Fe (win xb p i);rw[win_length] at hlt;have h2:2 ^ (i+1)≤2 ^ 64:=dH (by decide) (by omega);rw[jk] at h2;have hb1:(bit xb (p+i)).toNat≤1:=by cases bit xb (p+i)<;>decide
 rw[Ub];generalize num (win xb p i)=n at *;generalize (bit xb (p+i)).toNat=b at *;have h3:n*2<18446744073709551616:=by omega
 clear hlt h2;rw[show ((n:Int)*2)=((n*2:Nat):Int) by omega,AL h3,show (((n*2:Nat):Int)+(b:Int))=((2*n+b:Nat):Int) by omega];exact AL (by omega)
theorem take_one {xb:List Int}(hx:Bh xb)(hlen:xb.length≤100000)(p0:Nat)(bad:Bool)(c i k:Nat)(hi:i<c)(hc:c≤64)(hq:p0+i<8*xb.length) :
 o8.l0 (k+1) ((num (win xb p0 i):Nat):Int) (c:Int) (i:Int) xb ((p0+i:Nat):Int) bad=o8.l0 k ((num (win xb p0 (i+1)):Nat):Int) (c:Int) ((i+1:Nat):Int) xb ((p0+(i+1):Nat):Int) bad:=by
 rw[o8.l0];rw[au (by omega),Y5 (by omega),av (by omega),YX (by omega),YZ (by omega),au (by omega),au (by omega),au (by omega),Vu hx,Sw xb p0 i (by omega),YE (by omega),YE (by omega),jM]
theorem Qo {xb:List Int}(hx:Bh xb)(hlen:xb.length≤100000)(p0:Nat)(bad:Bool)(c:Nat)(hc:c≤64):∀ d i,i+d=c→p0+i≤8*xb.length→∀ k,d<k →
 o8.l0 k ((num (win xb p0 i):Nat):Int) (c:Int) (i:Int) xb ((p0+i:Nat):Int) bad=some (((rT xb p0 bad c).1:Int),((rT xb p0 bad c).2.1:Int),(rT xb p0 bad c).2.2)
 | 0,i,h,hp,k+1,hk=>by
   rw[o8.l0];obtain rfl:i=c:=by omega
   rw[av (by omega),rT,au hp]
 | d+1,i,h,hp,k+1,hk=>by
   by_cases hq:p0+i<8*xb.length
   ·rw[take_one hx hlen p0 bad c i k (by omega) hc hq];exact Qo hx hlen p0 bad c hc d (i+1) (by omega) (by omega) k (by omega)
   ·rw[o8.l0];rw[au (by omega),Y5 (by omega),au (by omega),rT,av (by omega),show p0+i=8*xb.length by omega];rfl
theorem BO {xb:List Int}(hx:Bh xb)(hlen:xb.length≤100000)(p:Nat)(bad:Bool)(c:Nat)(hc:c≤64)(hp:p≤8*xb.length)(k:Nat)(hk:c<k) :
 o8.f k xb (p:Int) bad (c:Int)=some (((rT xb p bad c).1:Int),((rT xb p bad c).2.1:Int),(rT xb p bad c).2.2):=by
 unfold o8.f;exact Qo hx hlen p bad c hc c 0 (by omega) (by omega) k hk
theorem uT (xb:List Int)(p:Nat)(bad:Bool)(c:Nat)(hp:p≤8*xb.length):p≤(rT xb p bad c).2.1∧(rT xb p bad c).2.1≤8*xb.length∧((rT xb p bad c).2.2=false→bad=false∧(rT xb p bad c).2.1=p+c)∧(rT xb p bad c).1<2 ^ c:=by
 unfold rT;split
 ·refine⟨nK _ _,by assumption,fun h=>⟨h,rfl⟩,?_⟩;have:=Fe (win xb p c);rwa [win_length] at this
 ·exact⟨hp,ay _,fun h=>by simp at h,gU _⟩
def Ev (xb:List Int)(p:Nat)(bad:Bool)(K:Int):Int × Nat × Bool:=(NY (rT xb p bad (rA K).toNat).1 (rA K).toNat,(rT xb p bad (rA K).toNat).2)
def wT (xb:List Int):Nat→Nat→Bool→Int × Nat × Bool
 | 0,p,bad=>Ev xb p bad 4
 | m+1,p,bad=>if (rT xb p bad 1).1=1 then wT xb m (rT xb p bad 1).2.1 (rT xb p bad 1).2.2 else Ev xb (rT xb p bad 1).2.1 (rT xb p bad 1).2.2 (3-(m:Int))
theorem NG {n w:Nat}(P:Int)(b:Bool)(hw:w=0∨w=7∨w=12∨w=32∨w=64)(hn:n<2 ^ w) :
 (if (w:Int)>0 then (if (w:Int)<64 then (if 0≤wrap64 ((w:Int)-1) then (if wrap64 (n:Int)≥shl .i64 1 (wrap64 ((w:Int)-1)) then (if 0≤(w:Int) then some (wrap64 (wrap64 (n:Int)-shl .i64 1 (w:Int)),P,b) else none) else some (wrap64 (n:Int),P,b)) else none) else some (wrap64 (n:Int),P,b)) else some (wrap64 (n:Int),P,b))=some (NY n w,P,b):=by
 have hsm:w=0∨w=7∨w=12∨w=32∨w=64:=hw;rcases hw with rfl | rfl | rfl | rfl | rfl
 ·have:n=0:=by omega
  subst this;rw[av (by decide),show wrap64 ((0:Nat):Int)=NY 0 0 by decide +kernel]
 ·rw[au (by decide),au (by decide),au (by decide +kernel),show shl .i64 1 (wrap64 (((7:Nat):Int)-1))=64 by decide +kernel,show shl .i64 1 ((7:Nat):Int)=128 by decide +kernel,Jj (by omega)];unfold NY
  by_cases h:64≤n
  ·rw[au (by omega),au (by decide),wK (by omega) (by omega),au ⟨by decide,by simpa using h⟩];rfl
  ·rw[av (by omega),av (by simp;omega)]
 ·rw[au (by decide),au (by decide),au (by decide +kernel),show shl .i64 1 (wrap64 (((12:Nat):Int)-1))=2048 by decide +kernel,show shl .i64 1 ((12:Nat):Int)=4096 by decide +kernel,Jj (by omega)];unfold NY
  by_cases h:2048≤n
  ·rw[au (by omega),au (by decide),wK (by omega) (by omega),au ⟨by decide,by simpa using h⟩];rfl
  ·rw[av (by omega),av (by simp;omega)]
 ·rw[au (by decide),au (by decide),au (by decide +kernel),show shl .i64 1 (wrap64 (((32:Nat):Int)-1))=2147483648 by decide +kernel,show shl .i64 1 ((32:Nat):Int)=4294967296 by decide +kernel,Jj (by omega)];unfold NY
  by_cases h:2147483648≤n
  ·rw[au (by omega),au (by decide),wK (by omega) (by omega),au ⟨by decide,by simpa using h⟩];rfl
  ·rw[av (by omega),av (by simp;omega)]
 ·rw[au (by decide),av (by decide),XQ (by omega)]
theorem Qr (K:Int):(rA K).toNat=0∨(rA K).toNat=7∨(rA K).toNat=12∨(rA K).toNat=32∨(rA K).toNat=64:=widths K
theorem Wm {xb:List Int}(hx:Bh xb)(hlen:xb.length≤100000):∀ (m:Nat),m≤4→∀ (p:Nat) (bad:Bool),p≤8*xb.length→∀ k,70+m<k →
 qw.l0 k (4-(m:Int)) xb (p:Int) bad=some ((wT xb m p bad).1,((wT xb m p bad).2.1:Int),(wT xb m p bad).2.2):=by
 have hw:∀ K:Int,rA K=(((rA K).toNat:Nat):Int):=fun K=>by have:=(width_le K).1;omega
 have hw64:∀ K:Int,(rA K).toNat≤64:=fun K=>by have:=(width_le K).2;omega
 intro m
 induction m with
 | zero=>
   intro _ p bad hp k hk;obtain⟨k,rfl⟩:∃ k',k=k'+1:=⟨k-1,by omega⟩;rw[qw.l0,show (4-((0:Nat):Int))=4 from rfl];rw[av (by decide),cZ,au (by decide),au (by decide),U3 4 (by decide) (by decide),hw 4,BO hx hlen p bad _ (hw64 4) hp k (by have:=hw64 4;omega),cZ];have h3:=(uT xb p bad (rA 4).toNat hp).2.2.2;exact NG _ _ (Qr 4) h3
 | succ m ih=>
   intro hm p bad hp k hk;obtain⟨k,rfl⟩:∃ k',k=k'+1:=⟨k-1,by omega⟩;rw[qw.l0];have h1:=uT xb p bad 1 hp;have ht:=BO hx hlen p bad 1 (by decide) hp k (by omega);rw[show ((1:Nat):Int)=1 from rfl] at ht;rw[au (by omega),ht,cZ];simp only;obtain⟨⟨t1,p1,b1⟩,e1⟩:∃ t,rT xb p bad 1=t:=⟨_,rfl⟩;rw[wT];rw[e1] at h1 ⊢;simp only at h1 ⊢
   by_cases h:t1=1
   ·rw[au (by omega),au h,show wrap64 (4-((m+1:Nat):Int)+1)=4-(m:Int) by rw[wK (by omega) (by omega)];omega];exact ih (by omega) p1 b1 h1.2.1 k (by omega)
   ·rw[av (by omega),av h,cZ,show 4-((m+1:Nat):Int)=3-(m:Int) by omega,au (by omega),au (by simp;omega),U3 (3-(m:Int)) (by omega) (by omega),hw (3-(m:Int)),BO hx hlen p1 b1 _ (hw64 _) h1.2.1 k (by have:=hw64 (3-(m:Int));omega),cZ];have h3:=(uT xb p1 b1 (rA (3-(m:Int))).toNat h1.2.1).2.2.2;exact NG _ _ (Qr _) h3
theorem XR {xb:List Int}(hx:Bh xb)(hlen:xb.length≤100000)(p:Nat)(bad:Bool)(hp:p≤8*xb.length) :
 qw.f 100 xb (p:Int) bad=some ((wT xb 4 p bad).1,((wT xb 4 p bad).2.1:Int),(wT xb 4 p bad).2.2):=by
 unfold qw.f;exact Wm hx hlen 4 (by decide) p bad hp 100 (by decide)
theorem Ga (xb:List Int)(p:Nat)(bad:Bool)(K:Int)(hp:p≤8*xb.length):p≤(Ev xb p bad K).2.1∧(Ev xb p bad K).2.1≤8*xb.length∧((Ev xb p bad K).2.2=false→bad=false):=by
 have h:=uT xb p bad (rA K).toNat hp;exact⟨h.1,h.2.1,fun e=>(h.2.2.1 e).1⟩
theorem BL (xb:List Int):∀ (m p:Nat) (bad:Bool),p≤8*xb.length→p≤(wT xb m p bad).2.1∧(wT xb m p bad).2.1≤8*xb.length∧((wT xb m p bad).2.2=false→bad=false∧p+(if m=0 then 0 else 1)≤(wT xb m p bad).2.1)
 | 0,p,bad,hp=>by
   have h:=Ga xb p bad 4 hp;exact⟨h.1,h.2.1,fun e=>⟨h.2.2 e,h.1⟩⟩
 | m+1,p,bad,hp=>by
   have h1:=uT xb p bad 1 hp;have hz:(if m+1=0 then 0 else 1)=1:=av (Nat.succ_ne_zero m);rw[hz]
   by_cases h:(rT xb p bad 1).1=1
   ·rw[wT,au h];have h2:=BL xb m (rT xb p bad 1).2.1 (rT xb p bad 1).2.2 h1.2.1;refine⟨by omega,h2.2.1,fun e=>?_⟩;have h3:=h2.2.2 e;have h4:=h1.2.2.1 h3.1;exact⟨h4.1,by omega⟩
   ·rw[wT,av h];have h2:=Ga xb (rT xb p bad 1).2.1 (rT xb p bad 1).2.2 (3-(m:Int)) h1.2.1;refine⟨by omega,h2.2.1,fun e=>?_⟩;have h4:=h1.2.2.1 (h2.2.2 e);exact⟨h4.1,by omega⟩
theorem Ut (xb:List Int)(bad:Bool){v q:Int}:∀ (m p:Nat),p≤8*xb.length→wJ xb (8*xb.length) m p=(v,q,0)→(wT xb m p bad).1=v∧((wT xb m p bad).2.1:Int)=q∧(wT xb m p bad).2.2=bad:=by
 have tl:∀ (K:Int) (p:Nat),AU xb (8*xb.length) p K=(v,q,0)→(Ev xb p bad K).1=v∧((Ev xb p bad K).2.1:Int)=q∧(Ev xb p bad K).2.2=bad:=by
  intro K p h;have hw:=(width_le K).1;unfold AU at h;split at h
  ·simp at h
  ·split at h
   ·simp only[bG,kZ] at h;unfold Ev rT;rw[au (by omega)];exact⟨h.1,h.2,rfl⟩
   ·simp at h
 intro m
 induction m with
 | zero=>intro p hp h;exact tl 4 p h
 | succ m ih=>
   intro p hp h;rw[wJ] at h;split at h
   ·simp at h
   ·rename_i hlt;have e1:rT xb p bad 1=((bit xb p).toNat,p+1,bad):=by
     unfold rT;rw[au (by omega),Ll];congr 1;cases bit xb p<;>rfl
    rw[wT,e1];split at h
    ·rename_i hb;rw[au (by rw[hb];rfl)];exact ih (p+1) (by omega) h
    ·rename_i hb;rw[av (by rw[Bool.not_eq_true] at hb;rw[hb];simp)];exact tl _ (p+1) h
def rX (xb:List Int)(p:Nat)(bad:Bool):Int × Nat × Bool:=
 if (rT xb p bad 1).1=0 then (0,(rT xb p bad 1).2) else
 if 64<(rT xb (rT xb p bad 1).2.1 (rT xb p bad 1).2.2 6).1+((rT xb (rT xb (rT xb p bad 1).2.1 (rT xb p bad 1).2.2 6).2.1 (rT xb (rT xb p bad 1).2.1 (rT xb p bad 1).2.2 6).2.2 6).1+1) then
  (0,(rT xb (rT xb (rT xb (rT xb p bad 1).2.1 (rT xb p bad 1).2.2 6).2.1 (rT xb (rT xb p bad 1).2.1 (rT xb p bad 1).2.2 6).2.2 6).2.1 (rT xb (rT xb (rT xb p bad 1).2.1 (rT xb p bad 1).2.2 6).2.1 (rT xb (rT xb p bad 1).2.1 (rT xb p bad 1).2.2 6).2.2 6).2.2 ((rT xb (rT xb (rT xb p bad 1).2.1 (rT xb p bad 1).2.2 6).2.1 (rT xb (rT xb p bad 1).2.1 (rT xb p bad 1).2.2 6).2.2 6).1+1)).2.1,true) else
 (shl .u64 (rT xb (rT xb (rT xb (rT xb p bad 1).2.1 (rT xb p bad 1).2.2 6).2.1 (rT xb (rT xb p bad 1).2.1 (rT xb p bad 1).2.2 6).2.2 6).2.1 (rT xb (rT xb (rT xb p bad 1).2.1 (rT xb p bad 1).2.2 6).2.1 (rT xb (rT xb p bad 1).2.1 (rT xb p bad 1).2.2 6).2.2 6).2.2 ((rT xb (rT xb (rT xb p bad 1).2.1 (rT xb p bad 1).2.2 6).2.1 (rT xb (rT xb p bad 1).2.1 (rT xb p bad 1).2.2 6).2.2 6).1+1)).1 ((64-(rT xb (rT xb p bad 1).2.1 (rT xb p bad 1).2.2 6).1-((rT xb (rT xb (rT xb p bad 1).2.1 (rT xb p bad 1).2.2 6).2.1 (rT xb (rT xb p bad 1).2.1 (rT xb p bad 1).2.2 6).2.2 6).1+1):Nat):Int),
  (rT xb (rT xb (rT xb (rT xb p bad 1).2.1 (rT xb p bad 1).2.2 6).2.1 (rT xb (rT xb p bad 1).2.1 (rT xb p bad 1).2.2 6).2.2 6).2.1 (rT xb (rT xb (rT xb p bad 1).2.1 (rT xb p bad 1).2.2 6).2.1 (rT xb (rT xb p bad 1).2.1 (rT xb p bad 1).2.2 6).2.2 6).2.2 ((rT xb (rT xb (rT xb p bad 1).2.1 (rT xb p bad 1).2.2 6).2.1 (rT xb (rT xb p bad 1).2.1 (rT xb p bad 1).2.2 6).2.2 6).1+1)).2)
theorem Uv {xb:List Int}{p:Nat}{bad:Bool}{n1 p1 n2 p2 n3 p3 n4 p4:Nat}{b1 b2 b3 b4:Bool}(h1:rT xb p bad 1=(n1,p1,b1))(h2:rT xb p1 b1 6=(n2,p2,b2))(h3:rT xb p2 b2 6=(n3,p3,b3))(h4:rT xb p3 b3 (n3+1)=(n4,p4,b4)) :
 rX xb p bad=if n1=0 then (0,p1,b1) else if 64<n2+(n3+1) then (0,p4,true) else (shl .u64 (n4:Int) ((64-n2-(n3+1):Nat):Int),p4,b4):=by
 unfold rX;simp only[h1,h2,h3,h4]
theorem XV {xb:List Int}(hx:Bh xb)(hlen:xb.length≤100000)(p:Nat)(bad:Bool)(hp:p≤8*xb.length) :
 tL.f 100 xb (p:Int) bad=some ((rX xb p bad).1,((rX xb p bad).2.1:Int),(rX xb p bad).2.2):=by
 obtain⟨⟨n1,p1,b1⟩,h1⟩:∃ t,rT xb p bad 1=t:=⟨_,rfl⟩;obtain⟨⟨n2,p2,b2⟩,h2⟩:∃ t,rT xb p1 b1 6=t:=⟨_,rfl⟩;obtain⟨⟨n3,p3,b3⟩,h3⟩:∃ t,rT xb p2 b2 6=t:=⟨_,rfl⟩;obtain⟨⟨n4,p4,b4⟩,h4⟩:∃ t,rT xb p3 b3 (n3+1)=t:=⟨_,rfl⟩;have g1:=uT xb p bad 1 hp;rw[h1] at g1;have g2:=uT xb p1 b1 6 g1.2.1;rw[h2] at g2;have g3:=uT xb p2 b2 6 g2.2.1;rw[h3] at g3;simp only at g1 g2 g3;have m2:n2<64:=g2.2.2.2;have m3:n3<64:=g3.2.2.2;have t1:=BO hx hlen p bad 1 (by decide) hp 100 (by decide);have t2:=BO hx hlen p1 b1 6 (by decide) g1.2.1 100 (by decide);have t3:=BO hx hlen p2 b2 6 (by decide) g2.2.1 100 (by decide);have t4:=BO hx hlen p3 b3 (n3+1) (by omega) g3.2.1 100 (by omega);rw[h1] at t1;rw[h2] at t2;rw[h3] at t3;rw[h4] at t4;rw[Uv h1 h2 h3 h4];unfold tL.f;rw[show (1:Int)=((1:Nat):Int) from rfl,t1,cZ];simp only
 by_cases z:n1=0
 ·rw[au (by omega),au z]
 ·rw[av (by omega),av z,show (6:Int)=((6:Nat):Int) from rfl,t2,cZ];simp only;rw[t3,cZ];simp only;have e3:wrap64 (wrap64 (n3:Int)+((1:Nat):Int))=((n3+1:Nat):Int):=by rw[xC (by omega),wK (by omega) (by omega)];omega
  have e2:wrap64 (n2:Int)=(n2:Int):=xC (by omega);rw[e3,t4,cZ,e2];simp only;clear e3 e2;have e5:wrap64 ((n2:Int)+((n3+1:Nat):Int))=((n2+(n3+1):Nat):Int):=by rw[wK (by omega) (by omega)];omega
  rw[e5];clear e5
  by_cases y:64<n2+(n3+1)
  ·rw[au (by omega),au y]
  ·have e6:wrap64 (wrap64 (64-(n2:Int))-((n3+1:Nat):Int))=((64-n2-(n3+1):Nat):Int):=by rw[wK (x:=64-(n2:Int)) (by omega) (by omega),wK (by omega) (by omega)];omega
   rw[av (by omega),av y,e6];clear e6;rw[au (by omega)]
theorem Ux (xb:List Int)(p:Nat)(bad:Bool):0≤(rX xb p bad).1∧(rX xb p bad).1<18446744073709551616:=by
 unfold rX;split
 ·exact⟨gW 0,(by decide:(0:Int)<18446744073709551616)⟩
 ·split
  ·exact⟨gW 0,(by decide:(0:Int)<18446744073709551616)⟩
  ·unfold shl;exact uy _
theorem Uw (xb:List Int)(p:Nat)(bad:Bool)(hp:p≤8*xb.length):p≤(rX xb p bad).2.1∧(rX xb p bad).2.1≤8*xb.length∧((rX xb p bad).2.2=false→bad=false∧p<(rX xb p bad).2.1):=by
 obtain⟨⟨n1,p1,b1⟩,h1⟩:∃ t,rT xb p bad 1=t:=⟨_,rfl⟩;obtain⟨⟨n2,p2,b2⟩,h2⟩:∃ t,rT xb p1 b1 6=t:=⟨_,rfl⟩;obtain⟨⟨n3,p3,b3⟩,h3⟩:∃ t,rT xb p2 b2 6=t:=⟨_,rfl⟩;obtain⟨⟨n4,p4,b4⟩,h4⟩:∃ t,rT xb p3 b3 (n3+1)=t:=⟨_,rfl⟩;have g1:=uT xb p bad 1 hp;rw[h1] at g1;have g2:=uT xb p1 b1 6 g1.2.1;rw[h2] at g2;have g3:=uT xb p2 b2 6 g2.2.1;rw[h3] at g3;have g4:=uT xb p3 b3 (n3+1) g3.2.1;rw[h4] at g4;simp only at g1 g2 g3 g4;rw[Uv h1 h2 h3 h4];split
 ·refine⟨g1.1,g1.2.1,fun e=>?_⟩;have:=g1.2.2.1 e;exact⟨this.1,by show p<p1;omega⟩
 ·split
  ·exact⟨by show p≤p4;omega,g4.2.1,fun e=>by simp at e⟩
  ·refine⟨by show p≤p4;omega,g4.2.1,fun e=>?_⟩;have a4:=g4.2.2.1 e;have a3:=g3.2.2.1 a4.1;have a2:=g2.2.2.1 a3.1;have a1:=g1.2.2.1 a2.1;exact⟨a1.1,by show p<p4;omega⟩
theorem DV {xb:List Int}{p c:Nat}(bad:Bool)(h:(vW xb ((8*xb.length:Nat):Int) ((p:Int),false) (c:Int)).2.2=false)(hl:xb.length≤100000) :
 (vW xb ((8*xb.length:Nat):Int) ((p:Int),false) (c:Int))=(((rT xb p bad c).1:Int),((rT xb p bad c).2.1:Int),false)∧(rT xb p bad c).2.2=bad:=by
 have hq:=vZ (l:=xb) (N:=8*xb.length) (c:=(c:Int)) (s:=((p:Int),false)) (by omega) h;simp only at hq;have hle:p+c≤8*xb.length:=by omega
 have e:rT xb p bad c=(num (win xb p c),p+c,bad):=by rw[rT,au hle]
 rw[e];refine⟨?_,rfl⟩;unfold vW AV at h ⊢;simp only[oF] at h ⊢;split at h
 ·simp at h
 ·rename_i z;rw[av z];split at h
  ·simp at h
  ·rename_i y;rw[av y,aG,aG];simp only[bG,true_and];refine⟨?_,rfl⟩;rw[wK (by omega) (by omega)];omega
theorem Yu {xb:List Int}{p:Nat}(bad:Bool){v q:Int}(h:GK xb ((8*xb.length:Nat):Int) ((p:Int),false)=(v,q,false))(hl:xb.length≤100000):(rX xb p bad).1=v∧((rX xb p bad).2.1:Int)=q∧(rX xb p bad).2.2=bad:=by
 obtain⟨⟨n1,p1,b1⟩,h1⟩:∃ t,rT xb p bad 1=t:=⟨_,rfl⟩;obtain⟨⟨n2,p2,b2⟩,h2⟩:∃ t,rT xb p1 b1 6=t:=⟨_,rfl⟩;obtain⟨⟨n3,p3,b3⟩,h3⟩:∃ t,rT xb p2 b2 6=t:=⟨_,rfl⟩;obtain⟨⟨n4,p4,b4⟩,h4⟩:∃ t,rT xb p3 b3 (n3+1)=t:=⟨_,rfl⟩;rw[Uv h1 h2 h3 h4];obtain⟨a,ha⟩:∃ a,vW xb ((8*xb.length:Nat):Int) ((p:Int),false) 1=a:=⟨_,rfl⟩;obtain⟨b,hb⟩:∃ b,vW xb ((8*xb.length:Nat):Int) a.2 6=b:=⟨_,rfl⟩;obtain⟨d,hd⟩:∃ d,vW xb ((8*xb.length:Nat):Int) b.2 6=d:=⟨_,rfl⟩;obtain⟨w,hw⟩:∃ w,wrap64 (wrap64 d.1+1)=w:=⟨_,rfl⟩;obtain⟨t,ht⟩:∃ t,vW xb ((8*xb.length:Nat):Int) d.2 w=t:=⟨_,rfl⟩;unfold GK at h;simp only[ha,hb,hd,hw,ht] at h;rw[av (by simp)] at h
 by_cases c1:a.1=0
 ·rw[au c1] at h;simp only[bG] at h;obtain⟨hv,hq⟩:=h;have z:(vW xb ((8*xb.length:Nat):Int) ((p:Int),false) ((1:Nat):Int)).2.2=false:=by show (vW xb _ _ 1).2.2=false;rw[ha,hq]
  obtain⟨e1,e2⟩:=DV bad z hl;rw[h1] at e1 e2;have e1':a=((n1:Int),(p1:Int),false):=ha ▸ e1;rw[e1'] at c1 hq;simp only[bG] at hq;rw[au (by simpa using c1)];exact⟨hv,hq.1,e2⟩
 ·rw[av c1] at h
  by_cases c2:(d.2.2||decide (64<wrap64 (wrap64 b.1+w)))=true
  ·rw[au c2] at h;simp at h
  ·rw[av c2] at h;rw[Bool.not_eq_true,mE,jL] at c2;have pd:=vZ (l:=xb) (N:=8*xb.length) (c:=6) (s:=b.2) (by omega) (by rw[hd];exact c2.1);have pb:=vZ (l:=xb) (N:=8*xb.length) (c:=6) (s:=a.2) (by omega) (by rw[hb];exact pd.1);have z1:(vW xb ((8*xb.length:Nat):Int) ((p:Int),false) ((1:Nat):Int)).2.2=false:=by show (vW xb _ _ 1).2.2=false;rw[ha];exact pb.1
   obtain⟨e1,f1⟩:=DV bad z1 hl;rw[h1] at e1 f1;have e1':a=((n1:Int),(p1:Int),false):=ha ▸ e1;have z2:(vW xb ((8*xb.length:Nat):Int) ((p1:Int),false) ((6:Nat):Int)).2.2=false:=by
    have:(vW xb ((8*xb.length:Nat):Int) a.2 6).2.2=false:=by rw[hb];exact pd.1
    rw[e1'] at this;exact this
   obtain⟨e2,f2⟩:=DV b1 z2 hl;rw[h2] at e2 f2;have e2':b=((n2:Int),(p2:Int),false):=by rw[← hb,e1'];exact e2
   have z3:(vW xb ((8*xb.length:Nat):Int) ((p2:Int),false) ((6:Nat):Int)).2.2=false:=by
    have:(vW xb ((8*xb.length:Nat):Int) b.2 6).2.2=false:=by rw[hd];exact c2.1
    rw[e2'] at this;exact this
   obtain⟨e3,f3⟩:=DV b2 z3 hl;rw[h3] at e3 f3;have e3':d=((n3:Int),(p3:Int),false):=by rw[← hd,e2'];exact e3
   have hn3:n3<64:=by
    have:=GJ xb ((8*xb.length:Nat):Int) b.2;rw[hd,e3'] at this;simp only at this;omega
   have hn2:n2<64:=by
    have:=GJ xb ((8*xb.length:Nat):Int) a.2;rw[hb,e2'] at this;simp only at this;omega
   have hw':w=((n3+1:Nat):Int):=by rw[← hw,e3',xC (by omega),wK (by omega) (by omega)];omega
   simp only[bG] at h;obtain⟨hv,hq⟩:=h;have z4:(vW xb ((8*xb.length:Nat):Int) ((p3:Int),false) ((n3+1:Nat):Int)).2.2=false:=by
    have:(vW xb ((8*xb.length:Nat):Int) d.2 w).2.2=false:=by rw[ht,hq]
    rw[e3',hw'] at this;exact this
   obtain⟨e4,f4⟩:=DV b3 z4 hl;rw[h4] at e4 f4;have e4':t=((n4:Int),(p4:Int),false):=by rw[← ht,e3',hw'];exact e4
   have c3:=c2.2;rw[e2',hw',xC (by omega),show ((n2:Int)+((n3+1:Nat):Int))=((n2+(n3+1):Nat):Int) by omega,xC (by omega)] at c3;rw[e1'] at c1;rw[av (by simpa using c1),av (by omega)];rw[e4'] at hv hq;simp only[bG,kZ] at hq;refine⟨?_,hq,f4.trans (f3.trans (f2.trans f1))⟩;rw[← hv,e2',hw'];congr 1;rw[xC (by omega),show 64-(n2:Int)=((64-n2:Nat):Int) by omega,xC (by omega),show (((64-n2:Nat):Int)-((n3+1:Nat):Int))=((64-n2-(n3+1):Nat):Int) by omega,xC (by omega)]
end Go.Proofs.Y.PA
