/- Of the law rZIQDumpBack. -/
import Derived.Test.YtcgbgifbajdhpaaGreatDoorZI31
set_option linter.unusedVariables false
set_option linter.unusedSimpArgs false
set_option maxHeartbeats 4000000
set_option maxRecDepth 100000
namespace Go
abbrev iT:=@Int.le_refl
end Go
namespace Go.Proofs.Y.PA
open Go.RowKit Go.Proofs.Y.G Go.Proofs.YW.o7 Go.Proofs.YW.pJ Go.Proofs.YW.pO
def UP (W:World)(g:Nat)(A:Option Addr)(n c:Nat)(N p:Int)(bad:Bool):Prop:=W.heap[g]? = some (.cells #[.slice A n c,.int .i64 N,.int .i64 p,.bool bad] 201 (0,0))
noncomputable def vW (l:List Int)(N:Int)(s:Int × Bool)(c:Int):Int × Int × Bool:=((zZ l N s.1 c).1,wrap64 (s.1+c),s.2||(zZ l N s.1 c).2 != 0)
noncomputable def Rf (l:List Int)(N:Int)(s:Int × Bool):Int × Int × Bool:=((Dg l N s.1).1,(Dg l N s.1).2.1,s.2||(Dg l N s.1).2.2 != 0)
theorem M7.c (g:Nat)(A:Option Addr)(c:Nat)(l:List Int)(N p k:Int)(bad:Bool)(w0 w:World)(hU:UP w g A l.length c N p bad)(hr:Kd.C (Kd.int .u8) w0 A l.length l)(hc:l.length≤c)(hB:Below w0.heap.size w0 w)(hg:w0.heap.size≤g)
 (hl:JL l) (hn:l.length≤1000000) (hN : -9223372036854775808≤N∧N≤9223372036854775807) :
 Calls Tryz.prog 150 #[.pointer (some ⟨g,0,none⟩),.int .i64 k] w fun e w'=>e = .returned (.int .u64 (vW l N (p,bad) k).1)∧UP w' g A l.length c N (vW l N (p,bad) k).2.1 (vW l N (p,bad) k).2.2∧Below w0.heap.size w0 w'∧q8 w w' g none:=by
 obtain⟨r,e,hre⟩:∃ r e,zZ l N p k=(r,e):=⟨_,_,rfl⟩;have HF:oZ (p8.f 100 l N p k=some (r,e)):=⟨by rw[Lc hl (by omega) N p k hN.1 hN.2 100 (by decide),hre]⟩;simp only[vW,hre];have HB:=Yu hB;have HC:=Yu hc;have HR:=Yu hr;have HU:=Yu hU;have HG:=Yu hg;have u0:w.cell? ⟨g,0,none⟩=some (.slice A l.length c):=(pq hU 0).trans rfl;have u1:w.cell? ⟨g,1,none⟩=some (.int .i64 N):=(pq hU 1).trans rfl;have u2:w.cell? ⟨g,2,none⟩=some (.int .i64 p):=(pq hU 2).trans rfl;have ajr:=Tryz.underlying149;clear hB hc hr hU hg hl hn hN hre
 go_enter Tryz.func150,Tryz.ntmps150
 go_wp2
 go_cut [5,6] (fun v5 v6 wx=>v5 = .int .u64 r∧v6 = .int .i64 e∧oZ (Below w.heap.size w wx))
 case first=>
  go_region_with (go_at_call 156;(refine (p8.c 100 A c l N p k r e _ ?s1 HC.o HF.o).mono ?_);(case s1=>exact Kd.rD (Kd.pI HR.o HB.o));rintro e_ wx ⟨rfl,hb⟩;have HX:=Yu hb;clear hb)
  all_goals (go_wp2_with fail;go_meet;exact⟨rfl,rfl,⟨BD (pF (bq _ _)) (by simp) HX.o⟩⟩)
 case rest=>
  obtain⟨rfl,rfl,HX⟩:=hcut;have HU2:=Yu (pG HU.o HX.o);clear u0 u1 u2;have u2:wc.cell? ⟨g,2,none⟩=some (.int .i64 p):=(pq HU2.o 2).trans rfl;have u3:wc.cell? ⟨g,3,none⟩=some (.bool bad):=(pq HU2.o 3).trans rfl;have f2:=pE HU2.o 2;have f3:=pE HU2.o 3;cases bad <;>
  ·go_wp2;go_ret;refine⟨rfl,?_,((o9 HB.o HX.o).setCell (p:=⟨g,3,none⟩) HG.o _).setCell (p:=⟨g,2,none⟩) HG.o _,((q8.of_below HX.o g none).Ec 3 _).Ec 2 _⟩
   first
    | exact qH (qH HU2.o 3 _ rfl) 2 _ rfl
    | (refine (qH (qH HU2.o 3 _ rfl) 2 _ rfl).trans ?_;simp;trace_state)
theorem IK.c (g:Nat)(A:Option Addr)(c:Nat)(l:List Int)(N p:Int)(bad:Bool)(w0 w:World)(hU:UP w g A l.length c N p bad)(hr:Kd.C (Kd.int .u8) w0 A l.length l)(hc:l.length≤c)(hB:Below w0.heap.size w0 w)(hg:w0.heap.size≤g)
 (hl:JL l) (hn:l.length≤1000000) (hN : -9223372036854775808≤N∧N≤9223372036854775807) :
 Calls Tryz.prog 151 #[.pointer (some ⟨g,0,none⟩)] w fun e w'=>e = .returned (.int .i64 (Rf l N (p,bad)).1)∧UP w' g A l.length c N (Rf l N (p,bad)).2.1 (Rf l N (p,bad)).2.2∧Below w0.heap.size w0 w'∧q8 w w' g none:=by
 obtain⟨r,q,e,hre⟩:∃ r q e,Dg l N p=(r,q,e):=⟨_,_,_,rfl⟩;have HF:oZ (pY.f 200 l N p=some (r,q,e)):=⟨by rw[Ow hl hn N p hN.1 hN.2 200 (by decide),hre]⟩;simp only[Rf,hre];have HB:=Yu hB;have HC:=Yu hc;have HR:=Yu hr;have HU:=Yu hU;have HG:=Yu hg;have u0:w.cell? ⟨g,0,none⟩=some (.slice A l.length c):=(pq hU 0).trans rfl;have u1:w.cell? ⟨g,1,none⟩=some (.int .i64 N):=(pq hU 1).trans rfl;have u2:w.cell? ⟨g,2,none⟩=some (.int .i64 p):=(pq hU 2).trans rfl;have ajr:=Tryz.underlying149;clear hB hc hr hU hg hl hn hN hre
 go_enter Tryz.func151,Tryz.ntmps151
 go_wp2
 go_cut [3,4,5] (fun v3 v4 v5 wx=>v3 = .int .i64 r∧v4 = .int .i64 q∧v5 = .int .i64 e∧oZ (Below w.heap.size w wx))
 case first=>
  go_region_with (go_at_call 157;(refine (pY.c 200 A c l N p r q e _ ?s1 HC.o HF.o).mono ?_);(case s1=>exact Kd.rD (Kd.pI HR.o HB.o));rintro e_ wx ⟨rfl,hb⟩;have HX:=Yu hb;clear hb)
  all_goals (go_wp2_with fail;go_meet;exact⟨rfl,rfl,rfl,⟨BD (pF (bq _ _)) (by simp) HX.o⟩⟩)
 case rest=>
  obtain⟨rfl,rfl,rfl,HX⟩:=hcut;have HU2:=Yu (pG HU.o HX.o);clear u0 u1 u2;have u2:wc.cell? ⟨g,2,none⟩=some (.int .i64 p):=(pq HU2.o 2).trans rfl;have u3:wc.cell? ⟨g,3,none⟩=some (.bool bad):=(pq HU2.o 3).trans rfl;have f2:=pE HU2.o 2;have f3:=pE HU2.o 3;cases bad <;>
  ·go_wp2;go_ret;refine⟨rfl,?_,((o9 HB.o HX.o).setCell (p:=⟨g,3,none⟩) HG.o _).setCell (p:=⟨g,2,none⟩) HG.o _,((q8.of_below HX.o g none).Ec 3 _).Ec 2 _⟩
   first
    | exact qH (qH HU2.o 3 _ rfl) 2 _ rfl
    | (refine (qH (qH HU2.o 3 _ rfl) 2 _ rfl).trans ?_;simp;trace_state)
noncomputable def CY (L:List Bool):List Int:=open Classical in if h:∃ b,xY b L.length∧Bs b L.length=L then h.choose else []
theorem GY {b:List Int}{L:List Bool}(h1:xY b L.length)(h2:Bs b L.length=L):CY L=b:=by
 have h:∃ b,xY b L.length∧Bs b L.length=L:=⟨b,h1,h2⟩;unfold CY;rw[dif_pos h];exact xY.ext h.choose_spec.1 h1 (h.choose_spec.2.trans h2.symm)
noncomputable def uJ (l:List qC):List Int:=sS l.length 2++CY (uN l l.length)
noncomputable def zG (l:List qC):List Int × Int:=if uZ l=true then (uJ l,0) else ([],1)
theorem GD {l:List Int}{n n':Nat}(hn:n≤n'){v q:Int}:∀ (m p:Nat),wD l n m p=(v,q,0)→wD l n' m p=(v,q,0)
 | 0,p,h=>by
   simp only[wD,Bv] at h ⊢;split at h
   ·simp at h
   ·rw[aK (by omega)];exact h
 | m+1,p,h=>by
   simp only[wD] at h ⊢;split at h
   ·simp at h
   ·rename_i h1;rw[aK (by omega)];split at h
    ·rename_i h2;rw[ak h2];exact GD hn m (p+1) h
    ·rename_i h2;rw[aK h2];simp only[Bv] at h ⊢;split at h
     ·simp at h
     ·rw[aK (by omega)];exact h
theorem Uy {l:List Int}{N m:Nat}{B Z:List Bool}(h:Bs l N=B++Z)(hm:B.length=m):Bs l m=B:=by
 have hN:m≤N:=by have:=gG List.length h;simp at this;omega
 have:=Ut l N 0 m (by omega);rw[dX,iA,h,← hm,gF] at this
 ·rw[← hm];exact this
 ·rfl
theorem Ov {l:List Int}{N:Nat}{B Z:List Bool}{v:Int}(hX:xY l N)(hv:(Lit.int .i64 v).wf=true)(h:Bs l N=B++intBits v++Z):Dg l (N:Int) (B.length:Int)=(v,((B.length+(intBits v).length:Nat):Int),0):=by
 have hN:B.length+(intBits v).length≤N:=by have:=gG List.length h;simp at this;omega
 have h1:=Uy h (m:=B.length+(intBits v).length) (by simp);have h2:=GD hN 4 B.length (Ql v hv h1);unfold Dg;rw[aK (by intro q;rcases q with q | q | q;exact q ⟨by omega,by simpa using hX⟩;all_goals omega),bf,bf];exact h2
theorem Ox {l:List Int}{N c:Nat}{B L Z:List Bool}(hX:xY l N)(hL:L.length=c)(hc:c≤64)(h:Bs l N=B++L++Z):zZ l (N:Int) (B.length:Int) (c:Int)=(((num L:Nat):Int),0):=by
 have hN:B.length+L.length≤N:=by have:=gG List.length h;simp at this;omega
 have h1:=Ig h rfl hL;unfold zZ;rw[aK (by intro q;rcases q with q | q | q | q | q;exact q ⟨by omega,by simpa using hX⟩;all_goals omega),aK (by omega),bf,bf,h1]
theorem PO:∀ x:Nat,x<2 ^ 64→x<2 ^ Lib.bitLen x:=by
 intro x
 induction x using Nat.strongRecOn with
 | _ x ih=>
   intro hx
   by_cases h0:x=0
   ·subst h0;exact iJ _
   ·rw[Lib.bitLen_half x h0 hx,mU,lJ];have:=ih (x / 2) (by omega) (by omega);omega
theorem Cc {a:Nat}(h:a<9000000000000000000):wrap64 (a:Int)=(a:Int):=yM (by omega) (by omega)
noncomputable def Io (l:List Int)(N:Int)(s:Int × Bool):Int × Int × Bool:=
 if s.2=true then (0,s.1,true) else
 if (vW l N s 1).1=0 then (0,(vW l N s 1).2) else
 if ((vW l N (vW l N (vW l N s 1).2 6).2 6).2.2||decide (64<wrap64 (wrap64 (vW l N (vW l N s 1).2 6).1+wrap64 (wrap64 (vW l N (vW l N (vW l N s 1).2 6).2 6).1+1))))=true then (0,(vW l N (vW l N (vW l N s 1).2 6).2 6).2.1,true) else
 (shl .u64 (vW l N (vW l N (vW l N (vW l N s 1).2 6).2 6).2 (wrap64 (wrap64 (vW l N (vW l N (vW l N s 1).2 6).2 6).1+1))).1 (wrap64 (wrap64 (64-wrap64 (vW l N (vW l N s 1).2 6).1)-wrap64 (wrap64 (vW l N (vW l N (vW l N s 1).2 6).2 6).1+1))),
  (vW l N (vW l N (vW l N (vW l N s 1).2 6).2 6).2 (wrap64 (wrap64 (vW l N (vW l N (vW l N s 1).2 6).2 6).1+1))).2)
theorem yw {l:List Int}{N c:Nat}{B L Z:List Bool}(hX:xY l N)(hL:L.length=c)(hc:c≤64)(hb:B.length≤100000000)(h:Bs l N=B++L++Z):vW l (N:Int) ((B.length:Int),false) (c:Int)=(((num L:Nat):Int),((B.length+c:Nat):Int),false):=by
 unfold vW;rw[Ox hX hL hc h];rw[show ((B.length:Int)+(c:Int))=((B.length+c:Nat):Int) by omega,Cc (by omega)];rfl
theorem Uq {l:List Int}{N x:Nat}{B Z:List Bool}(hX:xY l N)(hx:x<18446744073709551616)(hb:B.length≤10000000)(h:Bs l N=B++uw x++Z):Io l (N:Int) ((B.length:Int),false)=((x:Int),((B.length+(uw x).length:Nat):Int),false):=by
 by_cases h0:x=0
 ·have e:uw x=low 0 1:=by rw[uw,ak h0]
  rw[e] at h ⊢;have h1:=yw hX (tK 0 1) (by decide) (by omega) h;rw[AB] at h1;unfold Io;rw[aK (by simp),show ((1:Nat):Int)=1 from rfl] at *;rw[h1];simp[h0]
 ·obtain⟨z1,z2⟩:=zs hx h0;obtain⟨H,hH⟩:∃ H,Xq x=H:=⟨_,rfl⟩;obtain⟨S,hS⟩:∃ S,Qq x=S:=⟨_,rfl⟩;obtain⟨D,hD⟩:∃ D,Us x=D:=⟨_,rfl⟩;have hs:H+S+D=64:=by rw[← hH,← hS,← hD];unfold Xq Qq Us;unfold Qq at z1;omega
  have hd:1≤D:=by rw[← hD];unfold Us;unfold Qq at z1;omega
  have e:uw x=low 1 1++low (H*64+(D-1)) 12++low (x / 2 ^ S) D:=by rw[uw,aK h0,hH,hS,hD]
  have e12:low (H*64+(D-1)) 12=low H 6++low (D-1) 6:=by
   rw[DX _ 12 6 (by decide),show (H*64+(D-1)) / 2 ^ (12-6) % 2 ^ 6=H by rw[show 2 ^ (12-6)=64 from rfl,fJ H 64,Nat.mul_add_div (by decide),Nat.div_eq_of_lt (show D-1<64 by omega),iB,jN (show H<64 by omega)],← O7 (H*64+(D-1)) 6,← O7 (D-1) 6];congr 2;omega
  have hxS:x / 2 ^ S*2 ^ S=x:=by
   have hc:Lib.ctz 64 x=Lib.ctzFrom 64 x:=by unfold Lib.ctz;rw[aK h0]
   obtain⟨m,hm,_⟩:=Lib.ctzFrom_spec 64 x (by omega) hx;rw[← hc] at hm;rw[show Lib.ctz 64 x=S from hS] at hm;exact Nat.div_mul_cancel ⟨2*m+1,hm⟩
  have hxD:x / 2 ^ S<2 ^ D:=by
   have:=PO x hx;rw[kM (iJ _),← oD];rwa [show D+S=Lib.bitLen x by rw[← hS,← hD];unfold Us;unfold Qq at *;omega]
  rw[e,e12] at h ⊢;clear e e12 z1 z2 hH hS hD;have a1:=yw (c:=1) (B:=B) (L:=low 1 1) (Z:=low H 6++(low (D-1) 6++(low (x / 2 ^ S) D++Z))) hX (tK _ _) (by decide) (by omega) (by rw[h];simp only[bH]);have a2:=yw (c:=6) (B:=B++low 1 1) (L:=low H 6) (Z:=low (D-1) 6++(low (x / 2 ^ S) D++Z)) hX (tK _ _) (by decide) (by simp;omega) (by rw[h];simp only[bH]);have a3:=yw (c:=6) (B:=B++low 1 1++low H 6) (L:=low (D-1) 6) (Z:=low (x / 2 ^ S) D++Z) hX (tK _ _) (by decide) (by simp;omega) (by rw[h];simp only[bH]);have a4:=yw (c:=D) (B:=B++low 1 1++low H 6++low (D-1) 6) (L:=low (x / 2 ^ S) D) (Z:=Z) hX (tK _ _) (by omega) (by simp;omega) (by rw[h];simp only[bH]);rw[AB] at a1 a2 a3 a4;simp only[bg,tK] at a1 a2 a3 a4;rw[show 1 % 2 ^ 1=1 from rfl] at a1;rw[show H % 2 ^ 6=H by omega] at a2;rw[show (D-1) % 2 ^ 6=D-1 by omega] at a3;rw[jN hxD] at a4;rw[show ((1:Nat):Int)=1 from rfl] at a1;rw[show ((6:Nat):Int)=6 from rfl] at a2 a3;unfold Io;simp only[a1,a2,a3];rw[Cc (show H<9000000000000000000 by omega),Cc (show D-1<9000000000000000000 by omega),show (((D-1:Nat):Int)+1)=((D:Nat):Int) by omega,Cc (show D<9000000000000000000 by omega),show ((H:Int)+(D:Int))=((H+D:Nat):Int) by omega,Cc (show H+D<9000000000000000000 by omega),a4];rw[show (64-(H:Int))=((64-H:Nat):Int) by omega,Cc (show 64-H<9000000000000000000 by omega),show (((64-H:Nat):Int)-(D:Int))=((S:Nat):Int) by omega,Cc (show S<9000000000000000000 by omega)];rw[aK (by simp),aK (by simp),aK (by simp;omega)];have e5:shl .u64 ((x / 2 ^ S:Nat):Int) (S:Int)=(x:Int):=by
   unfold shl;rw[bf,dY (by simp[IntKind.bits];omega)];have:((x / 2 ^ S:Nat):Int)*2 ^ S=(x:Int):=by rw[show (2:Int) ^ S=((2 ^ S:Nat):Int) by simp,← lg,hxS]
   rw[this];exact KE hx
  rw[e5];simp only[bg,tK,dB,true_and,lS];omega
theorem Pf (L:List Bool)(hL:L.length≤7000000):∀ n,n≤L.length→∃ b,xY b n∧Bs b n=L.take n
 | 0,_=>⟨[],Kr,rfl⟩
 | n+1,h=>by
   obtain⟨b,hb,hbs⟩:=Pf L hL n (by omega);obtain⟨b',_,h1,h2⟩:=TF hb (by have:=hb.near;omega) (if L[n]=true then 1 else 0) 1 (by split<;>decide) (by decide);refine⟨b',h1,?_⟩;rw[h2,hbs,cZ h];congr 1;cases L[n]<;>rfl
theorem Ms (L:List Bool)(hL:L.length≤7000000):xY (CY L) L.length∧Bs (CY L) L.length=L:=by
 obtain⟨b,h1,h2⟩:=Pf L hL L.length (aD _);rw[dW] at h2;rw[GY h1 h2];exact⟨h1,h2⟩
theorem Q7 (l:List Int)(N c:Int)(s:Int × Bool):0≤(vW l N s c).1∧(vW l N s c).1<18446744073709551616:=by
 unfold vW zZ;split
 ·exact⟨iT _,by show (0:Int)<_;decide⟩
 ·rename_i h;split
  ·exact⟨iT _,by show (0:Int)<_;decide⟩
  ·have:=CW (win l s.1.toNat c.toNat) (by rw[win_length];omega);exact⟨gT _,by show ((num _:Nat):Int)<_;omega⟩
theorem vG {l:List Int}{N:Nat}{c:Int}{s:Int × Bool}(hN:N≤100000000)(h:(vW l (N:Int) s c).2.2=false):s.2=false∧(vW l (N:Int) s c).2.1=s.1+c∧0≤s.1∧s.1+c≤N∧0≤c:=by
 obtain⟨p,bad⟩:=s;unfold vW zZ at *;simp only[Bool.or_eq_false_iff] at h;obtain⟨hb,h⟩:=h;split at h
 ·simp at h
 ·rename_i h1;split at h
  ·simp at h
  ·rename_i h2;simp only at h1 h2 ⊢;exact⟨hb,yM (by omega) (by omega),by omega,by omega,by omega⟩
theorem Ew {l:List Int}{n:Nat}{v q:Int}:∀ (m p:Nat),p≤n→wD l n m p=(v,q,0)→(p:Int)+(if m=0 then 0 else 1)≤q∧q≤(n:Int)
 | 0,p,hp,h=>by
   simp only[wD,Bv] at h;split at h
   ·simp at h
   ·split at h
    ·have hw:=(width_le 4).1;simp only[dB] at h;rw[ak rfl];omega
    ·simp at h
 | m+1,p,hp,h=>by
   rw[aK (by omega)];simp only[wD] at h;split at h
   ·simp at h
   ·split at h
    ·have:=Ew m (p+1) (by omega) h;split at this<;>omega
    ·simp only[Bv] at h;split at h
     ·simp at h
     ·split at h
      ·have hw:=(width_le (3-(m:Int))).1;simp only[dB] at h;omega
      ·simp at h
theorem Q6 {l:List Int}{N:Nat}{s:Int × Bool}(h:(Rf l (N:Int) s).2.2=false):s.2=false∧s.1+1≤(Rf l (N:Int) s).2.1∧0≤s.1∧(Rf l (N:Int) s).2.1≤N:=by
 obtain⟨p,bad⟩:=s;unfold Rf Dg at *;simp only[Bool.or_eq_false_iff] at h ⊢;obtain⟨hb,h⟩:=h;split at h
 ·simp at h
 ·rename_i h1;rw[aK h1];have e:¬ p<0∧¬ (N:Int)<p:=⟨by omega,by omega⟩;obtain⟨v,q,z,hq⟩:∃ v q z,wD l ((N:Int)).toNat 4 p.toNat=(v,q,z):=⟨_,_,_,rfl⟩;rw[hq] at h ⊢;have hz:z=0:=by simpa using h
  subst hz;have:=Ew 4 p.toNat (by simp;omega) hq;rw[aK (by decide)] at this;simp only[bf] at this;refine⟨hb,?_,by omega,?_⟩
  ·show p+1≤q;omega
  ·show q≤_;omega
theorem Q9 (l:List Int)(N:Int)(s:Int × Bool):0≤(Io l N s).1∧(Io l N s).1<18446744073709551616:=by
 unfold Io
 repeat' split
 ·exact⟨iT _,by show (0:Int)<_;decide⟩
 ·exact⟨iT _,by show (0:Int)<_;decide⟩
 ·exact⟨iT _,by show (0:Int)<_;decide⟩
 ·unfold shl;exact wI _
theorem Q8 {l:List Int}{N:Nat}{s:Int × Bool}(hN:N≤100000000)(h:(Io l (N:Int) s).2.2=false):s.2=false∧s.1+1≤(Io l (N:Int) s).2.1∧(Io l (N:Int) s).2.1≤N:=by
 cases hs:s.2 with
 | true=>rw[Io,ak hs] at h;simp at h
 | false=>
   obtain⟨a,ha⟩:∃ a,vW l (N:Int) s 1=a:=⟨_,rfl⟩;obtain⟨b,hb⟩:∃ b,vW l (N:Int) a.2 6=b:=⟨_,rfl⟩;obtain⟨d,hd⟩:∃ d,vW l (N:Int) b.2 6=d:=⟨_,rfl⟩;obtain⟨w,hw⟩:∃ w,wrap64 (wrap64 d.1+1)=w:=⟨_,rfl⟩;obtain⟨t,ht⟩:∃ t,vW l (N:Int) d.2 w=t:=⟨_,rfl⟩;unfold Io at h ⊢;simp only[ha,hb,hd,hw,ht] at h ⊢;rw[aK (by rw[hs];simp)] at h ⊢
   by_cases c1:a.1=0
   ·rw[ak c1] at h ⊢;have hpl:=vG (l:=l) (N:=N) (c:=1) (s:=s) hN (by rw[ha];exact h);rw[ha] at hpl;exact⟨dD,by show s.1+1≤a.2.1;omega,by show a.2.1≤_;omega⟩
   ·rw[aK c1] at h ⊢
    by_cases c2:(d.2.2||decide (64<wrap64 (wrap64 b.1+w)))=true
    ·rw[ak c2] at h;simp at h
    ·rw[aK c2] at h ⊢;have p4:=vG (l:=l) (N:=N) (c:=w) (s:=d.2) hN (by rw[ht];exact h);have p3:=vG (l:=l) (N:=N) (c:=6) (s:=b.2) hN (by rw[hd];exact p4.1);have p2:=vG (l:=l) (N:=N) (c:=6) (s:=a.2) hN (by rw[hb];exact p3.1);have p1:=vG (l:=l) (N:=N) (c:=1) (s:=s) hN (by rw[ha];exact p2.1);rw[ht] at p4;rw[hd] at p3;rw[hb] at p2;rw[ha] at p1;exact⟨dD,by show s.1+1≤t.2.1;omega,by show t.2.1≤_;omega⟩
noncomputable def Iu (xb:List Int)(N p:Int):Int × Int × Bool:=vW xb N (p,false) 64
noncomputable def Iw (xb:List Int)(N p:Int):Int × Int × Bool:=vW xb N (Iu xb N p).2 64
noncomputable def Bf (xb:List Int)(N p:Int):Int × Int × Bool:=Rf xb N (p,false)
noncomputable def Iy (xb:List Int)(N p:Int):Int × Int × Bool:=Io xb N (Bf xb N p).2
noncomputable def sQ (xb:List Int)(N:Int):Nat→Int × Bool × List qC × Int
 | 0=>(0,false,[],0)
 | 1=>((Iw xb N 0).2.1,(Iw xb N 0).2.2,if (Iw xb N 0).2.2=true then [] else [⟨wrap64 (Iu xb N 0).1,(Iw xb N 0).1⟩],0)
 | k+2=>if (sQ xb N (k+1)).2.1=true then sQ xb N (k+1) else
    ((Iy xb N (sQ xb N (k+1)).1).2.1,(Iy xb N (sQ xb N (k+1)).1).2.2,
      if (Iy xb N (sQ xb N (k+1)).1).2.2=true then (sQ xb N (k+1)).2.2.1 else (sQ xb N (k+1)).2.2.1++[⟨wrap64 ((pV (sQ xb N (k+1)).2.2.1 (k:Int)).f0+wrap64 ((sQ xb N (k+1)).2.2.2+(Bf xb N (sQ xb N (k+1)).1).1)),Go.bits .xor .u64 (pV (sQ xb N (k+1)).2.2.1 (k:Int)).f1 (Iy xb N (sQ xb N (k+1)).1).1⟩],
      wrap64 ((sQ xb N (k+1)).2.2.2+(Bf xb N (sQ xb N (k+1)).1).1))
noncomputable def xA (b:List Int):List qC × Int:=
 if b.length<2 then ([],5) else
 if (sQ (b.drop 2) ((8*(b.length-2):Nat):Int) (yA 0 (b.take 2))).2.1=false∧zG (sQ (b.drop 2) ((8*(b.length-2):Nat):Int) (yA 0 (b.take 2))).2.2.1=(b,0)
  then ((sQ (b.drop 2) ((8*(b.length-2):Nat):Int) (yA 0 (b.take 2))).2.2.1,0) else ([],5)
theorem wrap64_in (x:Int) : -9223372036854775808≤wrap64 x∧wrap64 x≤9223372036854775807:=by
 unfold wrap64;omega
theorem Xo {a b:Int}(ha:0≤a∧a<18446744073709551616)(hb:0≤b∧b<18446744073709551616):Go.bits .xor .u64 a b=((a.toNat ^^^ b.toNat:Nat):Int)∧a.toNat ^^^ b.toNat<18446744073709551616:=by
 refine⟨?_,KJ ha hb⟩;obtain⟨x,hx⟩:=dA ha.1;obtain⟨y,hy⟩:=dA hb.1;rw[hx,hy,u64_xor_nat x y (by omega) (by omega)];simp
theorem WT {l:List qC}(h:∀ x∈l,Dn x)(i:Int):Dn (pV l i):=by
 unfold pV;rw[bn];cases hq:l[i.toNat]? with
 | none=>exact⟨⟨by decide,by decide⟩,by decide,by decide⟩
 | some x=>exact h x (dP hq)
theorem Cq (xb:List Int)(N:Nat)(hN:N≤100000000):∀ k,(∀ x∈(sQ xb (N:Int) k).2.2.1,Dn x)∧(sQ xb (N:Int) k).2.2.1.length≤N ∧
 ((sQ xb (N:Int) k).2.1=false→(sQ xb (N:Int) k).2.2.1.length=k∧(k:Int)≤(sQ xb (N:Int) k).1∧(sQ xb (N:Int) k).1≤N)
 | 0=>⟨fun x hx=>absurd hx (by simp[sQ]),by simp[sQ],fun _=>⟨rfl,by simp[sQ],by simp[sQ]⟩⟩
 | 1=>by
   simp only[sQ];cases hb:(Iw xb (N:Int) 0).2.2 with
   | true=>exact⟨fun x hx=>absurd hx (by simp),by simp,fun h=>absurd h (by simp)⟩
   | false=>
     have p2:=vG (l:=xb) (N:=N) (c:=64) (s:=(Iu xb (N:Int) 0).2) hN hb;have p1:=vG (l:=xb) (N:=N) (c:=64) (s:=(0,false)) hN p2.1;have e2:vW xb (N:Int) (Iu xb (N:Int) 0).2 64=Iw xb (N:Int) 0:=rfl;have e1:vW xb (N:Int) (0,false) 64=Iu xb (N:Int) 0:=rfl;rw[e2] at p2;rw[e1] at p1;refine⟨fun x hx=>?_,by simp;omega,fun _=>⟨by simp,by omega,by omega⟩⟩;rw[aK (by simp),gu] at hx;subst hx;exact⟨wrap64_in _,Q7 xb (N:Int) 64 (Iu xb (N:Int) 0).2⟩
 | k+2=>by
   have ih:=Cq xb N hN (k+1);simp only[sQ];obtain⟨⟨p,bad,l,st⟩,hs⟩:∃ s,sQ xb (N:Int) (k+1)=s:=⟨_,rfl⟩;rw[hs] at ih ⊢;cases bad with
   | true=>rw[ak rfl];exact⟨ih.1,ih.2.1,fun h=>absurd h (by simp)⟩
   | false=>
     rw[aK (by simp)];obtain⟨i1,i2,i3⟩:=ih;obtain⟨i3,i4,i5⟩:=i3 rfl;simp only at i1 i2 i3 i4 i5 ⊢;cases hb:(Iy xb (N:Int) p).2.2 with
     | true=>exact⟨by rw[ak rfl];exact i1,by rw[ak rfl];exact i2,fun h=>absurd h (by simp)⟩
     | false=>
       have p2:=Q8 hN (s:=(Bf xb (N:Int) p).2) hb;have p1:=Q6 (l:=xb) (N:=N) (s:=(p,false)) p2.1;have e1:Rf xb (N:Int) (p,false)=Bf xb (N:Int) p:=rfl;have e2:Io xb (N:Int) (Bf xb (N:Int) p).2=Iy xb (N:Int) p:=rfl;rw[e1] at p1;rw[e2] at p2;rw[aK (by simp)];refine⟨fun x hx=>?_,by simp;omega,fun _=>⟨by simp;omega,by omega,by omega⟩⟩;rcases List.mem_append.1 hx with hx | hx
       ·exact i1 x hx
       ·rw[gu] at hx;subst hx;have hv:=Q9 xb (N:Int) (Bf xb (N:Int) p).2;have hy:=(WT i1 (k:Int)).2;have hxx:=Xo hy hv;refine⟨wrap64_in _,?_⟩;show 0≤Go.bits .xor .u64 _ (Io xb (N:Int) (Bf xb (N:Int) p).2).1∧_;constructor
        ·show 0≤Go.bits .xor .u64 _ (Io xb (N:Int) (Bf xb (N:Int) p).2).1;rw[hxx.1];omega
        ·show Go.bits .xor .u64 _ (Io xb (N:Int) (Bf xb (N:Int) p).2).1<_;rw[hxx.1];have:=hxx.2;omega
theorem Tq {l:List Int}{n:Nat}(h:xY l n):xY l (8*l.length):=
 ⟨h.bytes,aD _,by omega,fun i h1 h2=>absurd h2 (by omega)⟩
theorem Sn (l:List qC):∀ k,∃ Z,uN l (k+1)=uN l k++Z
 | 0=>⟨_,rfl⟩
 | k+1=>⟨_,rfl⟩
theorem Gq (l:List qC)(k:Nat):∀ d,∃ Z,uN l (k+d)=uN l k++Z
 | 0=>⟨[],by simp⟩
 | d+1=>by
   obtain⟨Z,hZ⟩:=Gq l k d;obtain⟨Y,hY⟩:=Sn l (k+d);exact⟨Z++Y,by rw[← mh,hY,hZ,bH]⟩
theorem Ux {l:List Int}{n:Nat}(h:xY l n):∃ Z,Bs l (8*l.length)=Bs l n++Z:=by
 unfold Bs;exact⟨_,JI l 0 (8*l.length) n h.le⟩
theorem WH {v:Int}(h : -9223372036854775808≤v∧v≤9223372036854775807):(Lit.int .i64 v).wf=true:=by
 simp[Lit.wf,IntKind.min,IntKind.max,IntKind.signed,IntKind.bits];omega
theorem Uo {l:List Int}{N:Nat}{B Z:List Bool}{v:Int}(hX:xY l N)(hv:(Lit.int .i64 v).wf=true)(h:Bs l N=B++intBits v++Z):Rf l (N:Int) ((B.length:Int),false)=(v,((B.length+(intBits v).length:Nat):Int),false):=by
 unfold Rf;rw[Ov hX hv h];rfl
theorem Q0 (x y st:Int)(hx : -9223372036854775808≤x∧x≤9223372036854775807)(hs : -9223372036854775808≤st∧st≤9223372036854775807):wrap64 (st+wrap64 (wrap64 (x-y)-st))=wrap64 (x-y)∧wrap64 (y+wrap64 (x-y))=x:=by
 constructor
 ·generalize hd:wrap64 (x-y)=d;have : -9223372036854775808≤d∧d≤9223372036854775807:=hd ▸ wrap64_in _;unfold wrap64;omega
 ·unfold wrap64;omega
theorem Uf (l:List qC):∀ k,-9223372036854775808≤xE l k∧xE l k≤9223372036854775807
 | 0=>by simp[xE]
 | 1=>by simp[xE]
 | k+2=>wrap64_in _
theorem NH (x:Int)(hx : -9223372036854775808≤x∧x≤9223372036854775807):wrap64 (((IntKind.u64.wrap x).toNat:Nat):Int)=x:=by
 rw[wrap_u64];unfold wrap64;omega
theorem Uu {x y:Int}(hx:0≤x∧x<18446744073709551616)(hy:0≤y∧y<18446744073709551616):Go.bits .xor .u64 y ((x.toNat ^^^ y.toNat:Nat):Int)=x:=by
 obtain⟨a,ha⟩:=dA hx.1;obtain⟨b,hb⟩:=dA hy.1;subst ha hb;rw[bf,bf,u64_xor_nat b (a ^^^ b) (by omega) (jC (n:=64) (by omega) (by omega)),Nat.xor_comm a b,← Nat.xor_assoc,Nat.xor_self,Nat.zero_xor]
theorem EJ (l:List qC)(k:Nat)(h:k<l.length):l.take (k+1)=l.take k++[pV l (k:Int)]:=by
 have e:pV l (k:Int)=l[k]:=by simp[pV,bn,aQ h]
 rw[cZ h,e]
theorem QG (l:List qC)(k m:Nat)(h:k<m):pV (l.take m) (k:Int)=pV l (k:Int):=by
 simp only[pV,bf,bn,dH,ak h]
theorem Ja {xb:List Int}{NN:Nat}{l:List qC}{Z:List Bool}(hok:∀ x∈l,Dn x)(hl:l.length≤20000)(hX:xY xb NN)(hB:Bs xb NN=uN l l.length++Z):∀ k,k≤l.length→sQ xb (NN:Int) k=(((uN l k).length:Int),false,l.take k,xE l k)
 | 0,_=>by simp[sQ,uN,xE]
 | 1,h=>by
   obtain⟨Y,hY⟩:=Gq l 1 (l.length-1);rw[show 1+(l.length-1)=l.length by omega] at hY;have hm:=hok _ (zW l 0 (by omega));have hu:=wI (pV l 0).f0;obtain⟨u,eu⟩:=dA hu.1;obtain⟨v,ev⟩:=dA hm.2.1;have ev':(pV l 0).f1=(v:Int):=ev;have hv:v<18446744073709551616:=by have:=hm.2.2;rw[ev] at this;omega
   have huu:u<18446744073709551616:=by rw[eu] at hu;omega
   have e1:uN l 1=low u 64++low v 64:=by
    show low (IntKind.u64.wrap (pV l 0).f0).toNat 64++low (pV l 0).f1.toNat 64=_;rw[eu,ev'];rfl
   rw[hY,e1] at hB;have a1:=yw (c:=64) (B:=[]) (L:=low u 64) (Z:=low v 64++(Y++Z)) hX (tK _ _) (by decide) (by simp) (by rw[hB];simp only[dL,bH]);have a2:=yw (c:=64) (B:=low u 64) (L:=low v 64) (Z:=Y++Z) hX (tK _ _) (by decide) (by simp) (by rw[hB];simp only[bH]);rw[AB,jN huu] at a1;rw[AB,jN hv,tK] at a2;have eA:Iu xb (NN:Int) 0=((u:Int),64,false):=a1;have eB:Iw xb (NN:Int) 0=((v:Int),128,false):=by
    unfold Iw;rw[eA];exact a2
   have ef:wrap64 (u:Int)=(pV l 0).f0:=by
    have:=NH (pV l 0).f0 hm.1;rw[eu] at this;exact this
   have et:=EJ l 0 (by omega);rw[sQ,eB,eA,e1,et];rw[aK (by simp)];have es:(⟨wrap64 (u:Int),(v:Int)⟩:qC)=pV l ((0:Nat):Int):=by
    rw[ef,← ev'];rfl
   simp only[es];simp[xE]
 | k+2,h=>by
   have ih:=Ja hok hl hX hB (k+1) (by omega);obtain⟨Y,hY⟩:=Gq l (k+2) (l.length-(k+2));rw[show k+2+(l.length-(k+2))=l.length by omega] at hY;have hlen:=yg l hok (k+1) (by omega);have hx:=hok _ (zW l (k+1) (by omega));have hy:=hok _ (zW l k (by omega));have e2:uN l (k+2)=uN l (k+1)++(intBits (wrap64 (wrap64 ((pV l ((k+1:Nat):Int)).f0-(pV l ((k:Nat):Int)).f0)-xE l (k+1)))++uw ((pV l ((k+1:Nat):Int)).f1.toNat ^^^ (pV l ((k:Nat):Int)).f1.toNat)):=rfl;have hst:=Uf l (k+1);have hsp:xE l (k+2)=wrap64 ((pV l ((k+1:Nat):Int)).f0-(pV l ((k:Nat):Int)).f0):=rfl;have et:=EJ l (k+1) (by omega);have er:=QG l k (k+1) (by omega);obtain⟨x,ex⟩:∃ x,pV l ((k+1:Nat):Int)=x:=⟨_,rfl⟩;obtain⟨y,ey⟩:∃ y,pV l ((k:Nat):Int)=y:=⟨_,rfl⟩;rw[ex,ey] at e2 hsp;rw[ex] at hx et;rw[ey] at hy er;obtain⟨st,est⟩:∃ st,xE l (k+1)=st:=⟨_,rfl⟩;rw[est] at e2 hst ih;obtain⟨v,ev⟩:∃ v,wrap64 (wrap64 (x.f0-y.f0)-st)=v:=⟨_,rfl⟩;have hv:(Lit.int .i64 v).wf=true:=ev ▸ WH (wrap64_in _);have hxx:=KJ hx.2 hy.2;have htb:=Q0 x.f0 y.f0 st hx.1 hst;have hxb:=Uu hx.2 hy.2;rw[ev] at e2 htb;obtain⟨X,eX⟩:∃ X,x.f1.toNat ^^^ y.f1.toNat=X:=⟨_,rfl⟩;rw[eX] at e2 hxx hxb;rw[hY,e2] at hB;have a1:=Uo (B:=uN l (k+1)) (Z:=uw X++(Y++Z)) hX hv (by rw[hB];simp only[bH]);have hil:=zT v;have a2:=Uq (x:=X) (B:=uN l (k+1)++intBits v) (Z:=Y++Z) hX hxx (by simp;omega) (by rw[hB];simp only[bH]);rw[bg] at a2;have eN:Bf xb (NN:Int) ((uN l (k+1)).length:Int)=(v,(((uN l (k+1)).length+(intBits v).length:Nat):Int),false):=a1;have eV:Iy xb (NN:Int) ((uN l (k+1)).length:Int)=((X:Int),(((uN l (k+1)).length+(intBits v).length+(uw X).length:Nat):Int),false):=by
    unfold Iy;rw[eN];exact a2
   rw[sQ,ih];simp only;rw[aK (by simp),eV,eN,er,htb.1,htb.2,hxb,hsp,et,e2];simp only[bg];rw[aK (by simp)];simp only[dB,true_and,lS];omega
theorem UN (n:Nat)(h:n≤65535):yA 0 (sS n 2)=n:=by
 rw[OG];omega
theorem OT (l:List qC)(hok:∀ x∈l,Dn x)(hl:l.length≤20000)(hc:uZ l=true):zG l=(uJ l,0)∧xA (uJ l)=(l,0)∧(uJ l).length≤2+20*l.length+1:=by
 have e0:zG l=(uJ l,0):=by rw[zG,ak hc]
 have hP:=yg l hok l.length (aD _);obtain⟨hX,hBs⟩:=Ms (uN l l.length) (by omega);obtain⟨Z,hZ⟩:=Ux hX;rw[hBs] at hZ;have hbl:(uJ l).length=2+(CY (uN l l.length)).length:=by rw[uJ,bg,qE]
 have hn:=hX.near;refine⟨e0,?_,by omega⟩;have hd:(uJ l).drop 2=CY (uN l l.length):=by rw[uJ,jr (qE _ _)]
 have ht:(uJ l).take 2=sS l.length 2:=by rw[uJ,gF (qE _ _)]
 have hs:=Ja hok hl (Tq hX) hZ l.length (aD _);rw[dW] at hs;have h8:8*((uJ l).length-2)=8*(CY (uN l l.length)).length:=by omega
 rw[xA,aK (by omega),hd,ht,h8,UN _ (by omega),hs,ak ⟨rfl,e0⟩]
def Xr (L:List Bool):Nat→List Int
 | 0=>[]
 | j+1=>BP (yN (Xr L j) j) (j / 8) ((if L.getD j false=true then 1 else 0)*2 ^ (8-j % 8-1))
theorem N9 (L:List Bool):∀ j,j≤L.length→xY (Xr L j) j∧Bs (Xr L j) j=L.take j
 | 0,_=>⟨Kr,rfl⟩
 | j+1,h=>by
   obtain⟨h1,h2⟩:=N9 L j (by omega);obtain⟨h3,h4⟩:=MC (T:=1) (X:=if L.getD j false=true then 1 else 0) h1 (by decide) (by omega) (by split<;>decide);refine⟨h3,?_⟩;rw[show Xr L (j+1)=BP (yN (Xr L j) j) (j / 8) ((if L.getD j false=true then 1 else 0)*2 ^ (8-j % 8-1)) from rfl,h4,h2,cZ (by omega)];congr 1;rw[bn,aQ (by omega),jQ];cases L[j]'(by omega)<;>rfl
theorem Vi (L:List Bool):Xr L L.length=CY L:=by
 obtain⟨h1,h2⟩:=N9 L L.length (aD _);rw[dW] at h2;exact (GY h1 h2).symm
theorem Pz (l:List Int)(N:Int)(s:Int × Bool):0≤(vW l N s 6).1∧(vW l N s 6).1<64:=by
 unfold vW zZ;split
 ·exact⟨iT _,by show (0:Int)<_;decide⟩
 ·split
  ·exact⟨iT _,by show (0:Int)<_;decide⟩
  ·have:=Kq (win l s.1.toNat 6);rw[win_length] at this;exact⟨gT _,by show ((num (win l s.1.toNat 6):Nat):Int)<_;omega⟩
theorem JG (g:Nat)(A:Option Addr)(c:Nat)(l:List Int)(N k:Int)(s r:Int × Int × Bool)(w0 w:World)(hr:Kd.C (Kd.int .u8) w0 A l.length l)(hc:l.length≤c)(hg:w0.heap.size≤g)
 (hl:JL l) (hn:l.length≤1000000) (hN : -9223372036854775808≤N∧N≤9223372036854775807) (hU:UP w g A l.length c N s.2.1 s.2.2) (hB:Below w0.heap.size w0 w) (he:vW l N s.2 k=r) :
 Calls Tryz.prog 150 #[.pointer (some ⟨g,0,none⟩),.int .i64 k] w fun e w'=>e = .returned (.int .u64 r.1)∧UP w' g A l.length c N r.2.1 r.2.2∧Below w0.heap.size w0 w'∧q8 w w' g none:=by
 subst he;exact M7.c g A c l N s.2.1 k s.2.2 w0 w hU hr hc hB hg hl hn hN
theorem KF.c (g:Nat)(A:Option Addr)(c:Nat)(l:List Int)(N p:Int)(bad:Bool)(w0 w:World)(hU:UP w g A l.length c N p bad)(hr:Kd.C (Kd.int .u8) w0 A l.length l)(hc:l.length≤c)(hB:Below w0.heap.size w0 w)(hg:w0.heap.size≤g)
 (hl:JL l) (hn:l.length≤1000000) (hN : -9223372036854775808≤N∧N≤9223372036854775807) :
 Calls Tryz.prog 152 #[.pointer (some ⟨g,0,none⟩)] w fun e w'=>e = .returned (.int .u64 (Io l N (p,bad)).1)∧UP w' g A l.length c N (Io l N (p,bad)).2.1 (Io l N (p,bad)).2.2∧Below w0.heap.size w0 w'∧q8 w w' g none:=by
 have CT:=Yu (fun k s r W hU hB he=>JG g A c l N k s r w0 W hr hc hg hl hn hN hU hB he);have HB:=Yu hB;have HU:=Yu hU;have HG:=Yu hg;have u3:w.cell? ⟨g,3,none⟩=some (.bool bad):=(pq hU 3).trans rfl;clear hU hr hc hB hg hl hn hN;cases bad with
 | true=>
   rw[Io,ak rfl]
   go_enter Tryz.func152,Tryz.ntmps152
   go_wp2;go_ret;exact⟨rfl,HU.o,HB.o,q8.refl _ _ _⟩
 | false=>
   obtain⟨a,ha⟩:∃ a,vW l N (p,false) 1=a:=⟨_,rfl⟩;obtain⟨b,hb⟩:∃ b,vW l N a.2 6=b:=⟨_,rfl⟩;obtain⟨d,hd⟩:∃ d,vW l N b.2 6=d:=⟨_,rfl⟩;obtain⟨w_,hw⟩:∃ w,wrap64 (wrap64 d.1+1)=w:=⟨_,rfl⟩;obtain⟨t,ht⟩:∃ t,vW l N d.2 w_=t:=⟨_,rfl⟩;have HE:oZ (Io l N (p,false)=if a.1=0 then (0,a.2) else if (d.2.2||decide (64<wrap64 (wrap64 b.1+w_)))=true then (0,d.2.1,true) else (shl .u64 t.1 (wrap64 (wrap64 (64-wrap64 b.1)-w_)),t.2)):=⟨by
    unfold Io;simp only[ha,hb,hd,hw,ht];rw[aK (by simp)]⟩
   have hb6:=hb ▸ Pz l N a.2;have hd6:=hd ▸ Pz l N b.2;have hwv:w_=d.1+1:=by rw[← hw,yM (x:=d.1) (by omega) (by omega),yM (by omega) (by omega)]
   have HSH:oZ (¬ 64<wrap64 (wrap64 b.1+w_)→0≤wrap64 (wrap64 (64-wrap64 b.1)-w_)):=⟨fun h=>by
    rw[yM (x:=b.1) (by omega) (by omega),yM (by omega) (by omega)] at h;rw[yM (x:=b.1) (by omega) (by omega),yM (x:=64-b.1) (by omega) (by omega),yM (by omega) (by omega)];omega⟩
   clear hb6 hd6 hwv;have HA:=Yu ha;have HBE:=Yu hb;have HD:=Yu hd;have HT:=Yu ht;clear ha hb hd ht
   by_cases c1:a.1=0
   ·have c1b:(a.1==0)=true:=beq_iff_eq.2 c1;have HC1:=Yu c1;clear c1
    go_enter Tryz.func152,Tryz.ntmps152
    go_wp2_with (go_at_call 150;(with_reducible refine (CT.o 1 (0,p,false) a _ HU.o HB.o HA.o).mono ?_);rintro e w1 ⟨rfl,hu,hb,hk⟩;have HU1:=Yu hu;have HB1:=Yu hb;have HK1:=Yu hk;clear hu hb hk)
    go_ret;rw[HE.o,ak HC1.o];exact⟨rfl,HU1.o,HB1.o,HK1.o⟩
   ·have c1b:(a.1==0)=false:=beq_eq_false_iff_ne.2 c1;have HC1:=Yu c1;clear c1;cases h2:d.2.2 with
    | true=>
      go_enter Tryz.func152,Tryz.ntmps152
      go_wp2_with (first
       | (go_at_call 150;(with_reducible refine (CT.o 1 (0,p,false) a _ HU.o HB.o HA.o).mono ?_);rintro e w1 ⟨rfl,hu,hb,hk⟩;have HU1:=Yu hu;have HB1:=Yu hb;have HK1:=Yu hk;clear hu hb hk)
       | (go_at_call 150;(with_reducible refine (CT.o 6 a b _ HU1.o HB1.o HBE.o).mono ?_);rintro e w2 ⟨rfl,hu,hb,hk⟩;have HU2:=Yu hu;have HB2:=Yu hb;have HK2:=Yu (HK1.o.trans hk (.inl rfl));clear hu hb hk)
       | (go_at_call 150;(with_reducible refine (CT.o 6 b d _ HU2.o HB2.o HD.o).mono ?_);rintro e w3 ⟨rfl,hu,hb,hk⟩;rw[h2] at hu;have HU3:=Yu hu;have HB3:=Yu hb;have HK3:=Yu (HK2.o.trans hk (.inl rfl));have c3:=(pq hu 3).trans rfl;have f3:=pE hu 3;clear hu hb hk))
      go_ret;rw[HE.o,aK HC1.o,ak (by rw[h2];rfl)];exact⟨rfl,qH HU3.o 3 _ rfl,HB3.o.setCell (p:=⟨g,3,none⟩) HG.o _,HK3.o.Ec 3 _⟩
    | false=>
      by_cases hq:64<wrap64 (wrap64 b.1+w_)
      ·have hqb:decide (64<wrap64 (wrap64 b.1+w_))=true:=aM hq
       go_enter Tryz.func152,Tryz.ntmps152
       go_wp2_with (first
        | (go_at_call 150;(with_reducible refine (CT.o 1 (0,p,false) a _ HU.o HB.o HA.o).mono ?_);rintro e w1 ⟨rfl,hu,hb,hk⟩;have HU1:=Yu hu;have HB1:=Yu hb;have HK1:=Yu hk;clear hu hb hk)
        | (go_at_call 150;(with_reducible refine (CT.o 6 a b _ HU1.o HB1.o HBE.o).mono ?_);rintro e w2 ⟨rfl,hu,hb,hk⟩;have HU2:=Yu hu;have HB2:=Yu hb;have HK2:=Yu (HK1.o.trans hk (.inl rfl));clear hu hb hk)
        | (go_at_call 150;(with_reducible refine (CT.o 6 b d _ HU2.o HB2.o HD.o).mono ?_);rintro e w3 ⟨rfl,hu,hb,hk⟩;rw[h2] at hu;have HU3:=Yu hu;have HB3:=Yu hb;have HK3:=Yu (HK2.o.trans hk (.inl rfl));have c3:=(pq hu 3).trans rfl;have f3:=pE hu 3;clear hu hb hk))
       go_ret;rw[HE.o,aK HC1.o,ak (by rw[h2,hqb];rfl)];exact⟨rfl,qH HU3.o 3 _ rfl,HB3.o.setCell (p:=⟨g,3,none⟩) HG.o _,HK3.o.Ec 3 _⟩
      ·have hqb:decide (64<wrap64 (wrap64 b.1+w_))=false:=aN hq;have hsh:=HSH.o hq;have CT4:=Yu (fun W (hu:UP W g A l.length c N d.2.1 false) hB=>CT.o w_ d t W (by rw[h2];exact hu) hB HT.o)
       go_enter Tryz.func152,Tryz.ntmps152
       go_wp2_with (first
        | (go_at_call 150;(with_reducible refine (CT.o 1 (0,p,false) a _ HU.o HB.o HA.o).mono ?_);rintro e w1 ⟨rfl,hu,hb,hk⟩;have HU1:=Yu hu;have HB1:=Yu hb;have HK1:=Yu hk;clear hu hb hk)
        | (go_at_call 150;(with_reducible refine (CT.o 6 a b _ HU1.o HB1.o HBE.o).mono ?_);rintro e w2 ⟨rfl,hu,hb,hk⟩;have HU2:=Yu hu;have HB2:=Yu hb;have HK2:=Yu (HK1.o.trans hk (.inl rfl));clear hu hb hk)
        | (go_at_call 150;(with_reducible refine (CT.o 6 b d _ HU2.o HB2.o HD.o).mono ?_);rintro e w3 ⟨rfl,hu,hb,hk⟩;rw[h2] at hu;have HU3:=Yu hu;have HB3:=Yu hb;have HK3:=Yu (HK2.o.trans hk (.inl rfl));have c3:=(pq hu 3).trans rfl;have f3:=pE hu 3;clear hu hb hk)
        | (go_at_call 150;(refine (CT4.o _ ?s1 ?s2).mono ?_);(case s1=>exact qH HU3.o 3 _ rfl);(case s2=>exact HB3.o.setCell (p:=⟨g,3,none⟩) HG.o _);rintro e w4 ⟨rfl,hu,hb,hk⟩;have HU4:=Yu hu;have HB4:=Yu hb;have HK4:=Yu ((HK3.o.Ec 3 _).trans hk (.inl rfl));clear hu hb hk))
       go_ret;rw[HE.o,aK HC1.o,aK (by rw[h2,hqb];simp)];exact⟨rfl,HU4.o,HB4.o,HK4.o⟩
end Go.Proofs.Y.PA
