/- Of the law rZIQDumpBack. -/
import Derived.Test.YtcgbgifbajdhpaaGreatDoorZI45
import Derived.Test.YtcgbgifbajdhpaaGreatDoorZI47
import Derived.Test.YtcgbgifbajdhpaaGreatDoorZI44
import Derived.Test.YtcgbgifbajdhpaaGreatDoorZI46
set_option linter.unusedVariables false
set_option linter.unusedSimpArgs false
set_option maxHeartbeats 8000000
set_option maxRecDepth 100000
namespace Go
abbrev oh:=@List.length_filterMap_le
end Go
namespace Go.Proofs.Y.PA
open Go.RowKit Go.Proofs.Y.G Go.Proofs.YW.o7 Go.Proofs.YW.pJ Go.Proofs.YW.pO
theorem Gy:∀ (k:Nat) (b:List Int),(yB k b).length≤b.length
 | 0,b=>by simp[yB]
 | k+1,b=>by
   rw[yB];split
   ·simp
   ·split
    ·have:=Gy k (b.drop 1);rw[bB] at this;omega
    ·rename_i f hf;have h1:=(wX hf).1;have:=Gy k (b.drop (uW f));rw[bB] at this;unfold uW at *;rw[bC];omega
theorem TA (b:List Int):(BR b).length≤b.length:=bM (oh ..) (Gy _ _)
theorem WM {W:World}{ok:Nat→Prop}{x:Pt}{A0 A1:Option Addr}{c0 c1:Nat}(h:Kd.FK kP W ok x [.int .i64 x.num,.slice A0 x.ser.f0.length c0,.slice A1 x.ser.f1.length c1]):Kd.FK yD W ok x.ser [.slice A0 x.ser.f0.length c0,.slice A1 x.ser.f1.length c1]:=fun W' hW=>by
 obtain⟨B0,d0,B1,d1,he,h1,h2,h3,h4⟩:=Km (h W' hW);injection he with _ he
 injection he with e1 he
 injection he with e2 _
 injection e1 with e1 _ e3
 injection e2 with e2 _ e4
 subst e1 e2 e3 e4;exact DV W' x.ser h1 h2 h3 h4
def KV (w:World)(fs:List Fr)(W:World):Prop:=∃ v,CU W w.heap.size v∧Kd.N kP 123 W w.heap.size (fun k=>w.heap.size<k) v (fs.filterMap tT)∧Below w.heap.size w W
theorem Qj (A:Option Addr)(c n:Nat)(b:List Int)(w:World)(hn:b.length=n)(hr:Kd.C (Kd.int .u8) w A n b)(hc:n≤c)(hok:okB b=true)(hlen:n≤3000000)(hT:zD w)(hZ:xZ w) :
 Calls Tryz.prog 44 #[.slice A n c,.func (.func 74) #[.pointer (some ⟨w.heap.size,0,none⟩)] #[]] (w.alloc (.cells #[.slice none 0 0] 120 (0,0))) fun e w'=>e = .returned (.tuple #[])∧KV w (um b) w':=by
 refine Vx.c w.heap.size A c n b _ (KV w) hn hc hok (by omega) (fun fs W ⟨v,_,_,hb⟩=>Kd.pI hr hb) (fun fs W ⟨v,_,_,hb⟩=>hT.below hb) (fun fs W W' ⟨v,h1,h2,h3⟩ hb=>⟨v,pG h1 hb,Kd.wm h2 hb,o9 h3 hb⟩)
  (fun fs f W A' c' ⟨v,h1,h2,h3⟩ hl hpl hpo hC hcc=>?_) ⟨.slice none 0 0,qG _ _,Kd.IU _ _ _ _ _,o8 (bq _ _) _⟩
 have hll:(fs.filterMap tT).length≤1000000000:=bM (oh ..) (by rw[bC] at hl;omega);refine (take.c w.heap.size f.pay.length f v (fs.filterMap tT) A' c' w.heap.size w W rfl hC hcc hpl hpo (hZ.below h3) h1 h2 hll h3 (aD _)).mono fun e w' ⟨he,v',g1,g2,g3⟩=>⟨he,v',g1,?_,g3⟩
 rw[List.filterMap_append,show [f].filterMap tT=(tT f).toList by cases h:tT f<;>simp[h]];exact g2
theorem found.c (A:Option Addr)(c n:Nat)(b:List Int)(w:World)(hn:b.length=n)(hr:Kd.C (Kd.int .u8) w A n b)(hc:n≤c)(hok:okB b=true)(hlen:n≤3000000)(hT:zD w)(hZ:xZ w)(ah4:KY (BR b).length) :
 Calls Tryz.prog 37 #[.slice A n c] w fun e w'=>∃ v:Value,e = .returned v∧Kd.N yD 51 w' w.heap.size (fun k=>w.heap.size<k) v (sF b)∧Below w.heap.size w w':=by
 have TH:=Yu (Qj A c n b w hn hr hc hok hlen hT hZ);have HFW:=Yu ah4;have HPL:oZ ((BR b).length≤3000000):=⟨bM (TA b) (by omega)⟩;obtain⟨S,hS⟩:∃ S,zY (BR b)=S:=⟨_,rfl⟩;have HFL:oZ (sF b=S.map (·.ser)):=⟨by rw[sF,hS]⟩;have HSS:=Yu hS;clear hr hc hok hT hZ hn ah4 hS
 go_enter Tryz.func37,Tryz.ntmps37
 go_wp2_with (first|(go_at_call 44;(with_reducible refine TH.o.mono ?_);rintro e w1 ⟨rfl,v1,hu,hn1,hb⟩;obtain⟨n1,A1,c1,rfl⟩:∃ n A c,v1 = .slice A n c:=(by obtain⟨A1,c1,h⟩:=Kd.Ch hn1;exact⟨_,A1,c1,h⟩);have HU1:=Yu hu;have HN1:oZ (Kd.N kP 123 w1 w.heap.size (fun k=>w.heap.size<k) (.slice A1 n1 c1) (BR b)):=⟨hn1⟩;have HB1:=Yu hb;have q0:=(pq hu 0).trans rfl;clear hu hn1 hb)|(go_at_call 75;(with_reducible refine (Vr.c HN1.o HFW.o).mono ?_);rintro e w2 ⟨rfl,hn2,hg⟩;have HN2:=Yu hn2;have HG2:=Yu hg;have HU2:=Yu (rQ HU1.o hg (fun e=>by have h1:w.heap.size<w.heap.size:=HN1.o.1 _ e.symm;omega));clear q0;have q0:=(pq HU2.o 0).trans rfl;clear hn2 hg))
 rw[HSS.o] at HN2;obtain⟨A2,c2,hv2⟩:=Kd.Ch HN2.o;cases hv2;have HW2:oZ (Below w.heap.size w w2):=⟨Below.grown HB1.o HG2.o HB1.o.size (fun k e=>lH (HN2.o.1 k e))⟩;have hpw:w.heap.size<w2.heap.size:=rE HU2.o;have HCF:=Yu (Kd.JK (Kd.Yo HN2.o));have HSL:oZ (S.length≤3000000):=⟨by
  have h1:=gG List.length HSS.o;have h2:=HPL.o;have h3:(zY (BR b)).length=(BR b).length:=by rw[Bc];exact Hy _ _
  omega⟩
 clear q0
 go_loopg [5,25] S.length (fun kx s5 s25 wr=>∃ (k:Nat),s25 = .int .i64 k∧k≤S.length∧S.length-k≤kx∧oZ (Kd.N yD 51 wr w2.heap.size (fun k=>w.heap.size<k) s5 ((S.take k).map (·.ser)))∧oZ (Below w2.heap.size w2 wr))
 case atStart=>exact⟨0,rfl,bV _,by omega,⟨by rw[lW];exact Kd.IU _ _ _ _ _⟩,⟨bq _ _⟩⟩
 case round=>
  obtain⟨k,rfl,hk,hkx,HN,HB⟩:=hrel
  by_cases hlt:k<S.length
  ·obtain⟨ad,cs,rfl,hcl,hFK,hcc,_⟩:=Kd.Rn (Kd.Cg HCF.o HB.o) zP (k:Int) (by omega) (by omega);rw[bf] at hFK hcc;obtain⟨A0,c0,A3,c3,rfl,_⟩:=Km (Kd.Dq hFK);have x0:wr.cell? (ad.add (k*3))=some (.int .i64 (S.getD k zP).num):=hcc 0 _ rfl;have x1:wr.cell? ⟨(ad.add (k*3)).block,(ad.add (k*3)).off+1,none⟩=some (.slice A0 (S.getD k zP).ser.f0.length c0):=by rw[← vF _ _ 1 (by omega)];exact hcc 1 _ rfl
   have x2:wr.cell? ⟨(ad.add (k*3)).block,(ad.add (k*3)).off+2,none⟩=some (.slice A3 (S.getD k zP).ser.f1.length c3):=by rw[← vF _ _ 2 (by omega)];exact hcc 2 _ rfl
   have HTF:oZ ((S.take (k+1)).map (·.ser)=(S.take k).map (·.ser)++[(S.getD k zP).ser]):=⟨by
    rw[List.take_add_one,gY];simp[bn,aQ hlt]⟩
   have HFK:=Yu (WM hFK);have hkz:(k:Int)<(S.length:Int):=by omega
   have HTL:oZ (((S.take k).map (·.ser)).length≤3000000):=⟨by rw[bJ,bG];have:=HSL.o;omega⟩;have HBS:=Yu (Kd.Nc HN.o);clear hcc hFK hcl;generalize S.getD k zP=s at *;have hs1:=HB.o.size;have akQ:=HSL.o
   go_wp2_with (first|((with_reducible refine qK (N:=33) rfl ?_);go_must (refine Kd.FJ yD (w0:=w2) w2.heap.size rfl (.tmp 29) (.tmp 32) 22 51 (.agg #[.slice none 0 0,.slice none 0 0]) 48 rfl Tryz.underlying22 zl rfl (by decide) (by decide) u5 _ s.ser _ (fun k=>w.heap.size<k) (fun k=>w.heap.size<k∧k<w2.heap.size) rfl (by rw[eG];rfl) (Kd.Rj HFK.o (o8 (bq _ _) _)) ?h4 ?h5 (Kd.wR HN.o _) (HB.o.alloc hs1 _) ?h7 ?h6 ?_);(case h4=>exact fun k hk=>⟨hk.1,fun e=>by have:=HBS.o k e.symm;omega⟩);(case h5=>exact fun k hk=>by rw[eG] at hk;omega);(case h6=>(have:=HTL.o;omega));(case h7=>(rw[eG];omega));intro v4 w4 hn4 hb4 hg4 aeR;have HN4:=Yu hn4;have HB4:=Yu hb4;clear hn4 hb4 hg4 aeR))
   go_roundg (S.length-(k+1))
   case measure=>omega
   case rel=>exact⟨k+1,by go_num,hlt,aD _,⟨by rw[HTF.o];exact HN4.o⟩,HB4⟩
  ·obtain rfl:k=S.length:=by omega
   rw[dW] at HN;have hkz:¬ ((S.length:Int)<(S.length:Int)):=by omega
   go_wp2_with fail
   go_ret;exact⟨_,rfl,by rw[HFL.o];exact Kd.UF HN.o (lH hpw),HW2.o.trans (HB.o.mono (lH hpw))⟩
def y9 (b:List Int):Prop:=KY (BR b).length∧(sF b).length≤100000∧tot (sF b)≤1000000∧(∀ x∈sF b,x.f0.length≤1000000)∧KL (joinL (sF b))∧(joinL (sF b)).length≤100000∧tot (joinL (sF b))≤1000000∧okB (vB (joinL (sF b))).1=true
theorem TK.c (A:Option Addr)(c n:Nat)(b:List Int)(w:World)(hn:b.length=n)(hr:Kd.C (Kd.int .u8) w A n b)(hc:n≤c)(hok:okB b=true)(hlen:n≤3000000)(hT:zD w)(hZ:xZ w)(hF:y9 b) :
 Calls Tryz.prog 14 #[.slice A n c] w fun e w'=>∃ (A':Option Addr) (c':Nat),e = .returned (.tuple #[.slice A' (xq b).1.length c',.int .i64 (xq b).2])∧(xq b).1.length≤c'∧Kd.C yD w' A' (xq b).1.length (xq b).1∧Below w.heap.size w w':=by
 have HN:=Yu hn;have HR:=Yu hr;have HOK:=Yu hok;have HT:=Yu hT;have HZ:=Yu hZ;have FO:=Yu (found.c A c n b w hn hr hc hok hlen hT hZ hF.1);obtain⟨F,hFe⟩:∃ F,sF b=F:=⟨_,rfl⟩;obtain⟨J,hJe⟩:∃ J,joinL F=J:=⟨_,rfl⟩;have hRF:xq b=if vB J=(b,0) then (J,0) else ([],5):=by rw[xq,hFe,hJe]
 unfold y9 at hF;rw[hFe,hJe] at hF;rw[hFe] at FO;obtain⟨eb,ee,hw⟩:∃ eb ee,vB J=(eb,ee):=⟨_,_,rfl⟩;rw[hw] at hRF hF;have HF:=Yu hF;have HJ:=Yu hJe;have HW:=Yu hw;have HRF:=Yu hRF;have hee:ee=0∨ee=1:=by
  unfold vB at hw;split at hw
  ·injection hw with _ h;exact .inl h.symm
  ·injection hw with _ h;exact .inr h.symm
 clear hr hok hT hZ hF hFe hJe hRF hw hn;have CF:(F.length:Nat)=F.length:=rfl;rcases hee with rfl | rfl
 ·have afC:okB eb=true:=HF.o.2.2.2.2.2.2.2
  by_cases he:eb=b
  ·have EQ:oZ (∀ A3 c3 W,Kd.C (Kd.int .u8) W A3 eb.length eb→eb.length≤c3→Below w.heap.size w W→Calls Tryz.prog 38 #[.slice A3 eb.length c3,.slice A n c] W fun e w'=>e = .returned (.bool true)∧Below W.heap.size W w'):=⟨fun A3 c3 W h1 h2 hb=>by
    have h3:=bytes_Equal.c A3 c3 eb A c b true W h1 h2 (by rw[HN.o];exact Kd.pI HR.o hb) (by rw[HN.o];exact hc) (by rw[bytes_Equal.f,ak ⟨afC,HOK.o⟩];simp[he]);rw[HN.o] at h3;exact h3.mono fun e w' ⟨h4,h5⟩=>⟨h4,h5.below⟩⟩
   have HE:oZ (xq b=(J,0)):=⟨by rw[HRF.o,ak (by rw[he])]⟩;rw[HE.o];clear HRF he afC
   go_enter Tryz.func14,Tryz.ntmps14
   go_wp2_with (first|(go_at_call 37;(with_reducible refine FO.o.mono ?_);rintro e w1 ⟨v1,rfl,hn1,hb⟩;obtain⟨A1,c1,rfl,hc1,hC1⟩:=Kd.Ah hn1;have HC1:=Yu hC1;have HB1:=Yu hb;clear hn1 hc1 hC1 hb)|(go_at_call 36;(with_reducible refine (join.c A1 c1 F.length F _ rfl HC1.o HF.o.2.1 HF.o.2.2.1 HF.o.2.2.2.1).mono ?_);rintro e w2 ⟨A2,c2,rfl,hc2,hC2,hb⟩;rw[HJ.o] at hc2 hC2 ⊢;have HC2:=Yu (And.intro hc2 hC2);have HB2:=Yu (o9 HB1.o hb);clear hc2 hC2 hb)|(go_at_call 9;(with_reducible refine (Ej.c A2 c2 J.length J eb 0 _ rfl HC2.o.2 HC2.o.1 HF.o.2.2.2.2.1 HF.o.2.2.2.2.2.1 HF.o.2.2.2.2.2.2.1 (HZ.o.below HB2.o) (HT.o.below HB2.o) HW.o).mono ?_);rintro e w3 ⟨v3,rfl,hr3,hb⟩;obtain⟨A3,c3,rfl⟩:=Kd.qo hr3;have HR3:=Yu (Kd.pR hr3);have HB3:=Yu (o9 HB2.o hb);have aeY:=Yu (Kd.pI HC2.o.2 hb);clear hr3 hb)|(go_at_call 38;(with_reducible refine (EQ.o A3 c3 _ HR3.o.2.2 HR3.o.2.1 HB3.o).mono ?_);rintro e w4 ⟨rfl,hb⟩;have HB4:=Yu (o9 HB3.o hb);have afD:=Yu (Kd.pI aeY.o hb);clear hb))
   refine bW (gB rfl _ _ _) rfl ?_;exact⟨A2,c2,rfl,HC2.o.1,afD.o,HB4.o⟩
  ·have EQ:oZ (∀ A3 c3 W,Kd.C (Kd.int .u8) W A3 eb.length eb→eb.length≤c3→Below w.heap.size w W→Calls Tryz.prog 38 #[.slice A3 eb.length c3,.slice A n c] W fun e w'=>e = .returned (.bool false)∧Below W.heap.size W w'):=⟨fun A3 c3 W h1 h2 hb=>by
    have h3:=bytes_Equal.c A3 c3 eb A c b false W h1 h2 (by rw[HN.o];exact Kd.pI HR.o hb) (by rw[HN.o];exact hc) (by rw[bytes_Equal.f,ak ⟨afC,HOK.o⟩];simp[he]);rw[HN.o] at h3;exact h3.mono fun e w' ⟨h4,h5⟩=>⟨h4,h5.below⟩⟩
   have HE:oZ (xq b=([],5)):=⟨by rw[HRF.o,aK (by intro h;injection h with h _;exact he h)]⟩;rw[HE.o];clear HRF he afC
   go_enter Tryz.func14,Tryz.ntmps14
   go_wp2_with (first|(go_at_call 37;(with_reducible refine FO.o.mono ?_);rintro e w1 ⟨v1,rfl,hn1,hb⟩;obtain⟨A1,c1,rfl,hc1,hC1⟩:=Kd.Ah hn1;have HC1:=Yu hC1;have HB1:=Yu hb;clear hn1 hc1 hC1 hb)|(go_at_call 36;(with_reducible refine (join.c A1 c1 F.length F _ rfl HC1.o HF.o.2.1 HF.o.2.2.1 HF.o.2.2.2.1).mono ?_);rintro e w2 ⟨A2,c2,rfl,hc2,hC2,hb⟩;rw[HJ.o] at hc2 hC2 ⊢;have HC2:=Yu (And.intro hc2 hC2);have HB2:=Yu (o9 HB1.o hb);clear hc2 hC2 hb)|(go_at_call 9;(with_reducible refine (Ej.c A2 c2 J.length J eb 0 _ rfl HC2.o.2 HC2.o.1 HF.o.2.2.2.2.1 HF.o.2.2.2.2.2.1 HF.o.2.2.2.2.2.2.1 (HZ.o.below HB2.o) (HT.o.below HB2.o) HW.o).mono ?_);rintro e w3 ⟨v3,rfl,hr3,hb⟩;obtain⟨A3,c3,rfl⟩:=Kd.qo hr3;have HR3:=Yu (Kd.pR hr3);have HB3:=Yu (o9 HB2.o hb);have aeY:=Yu (Kd.pI HC2.o.2 hb);clear hr3 hb)|(go_at_call 38;(with_reducible refine (EQ.o A3 c3 _ HR3.o.2.2 HR3.o.2.1 HB3.o).mono ?_);rintro e w4 ⟨rfl,hb⟩;have HB4:=Yu (o9 HB3.o hb);have afD:=Yu (Kd.pI aeY.o hb);clear hb))
   refine bW (gB rfl _ _ _) rfl ?_;exact⟨none,0,rfl,aD _,Kd.VG _ _,HB4.o⟩
 ·have HE:oZ (xq b=([],5)):=⟨by rw[HRF.o,aK (by intro h;injection h with _ h;exact absurd h (by decide))]⟩;rw[HE.o];clear HRF
  go_enter Tryz.func14,Tryz.ntmps14
  go_wp2_with (first|(go_at_call 37;(with_reducible refine FO.o.mono ?_);rintro e w1 ⟨v1,rfl,hn1,hb⟩;obtain⟨A1,c1,rfl,hc1,hC1⟩:=Kd.Ah hn1;have HC1:=Yu hC1;have HB1:=Yu hb;clear hn1 hc1 hC1 hb)|(go_at_call 36;(with_reducible refine (join.c A1 c1 F.length F _ rfl HC1.o HF.o.2.1 HF.o.2.2.1 HF.o.2.2.2.1).mono ?_);rintro e w2 ⟨A2,c2,rfl,hc2,hC2,hb⟩;rw[HJ.o] at hc2 hC2 ⊢;have HC2:=Yu (And.intro hc2 hC2);have HB2:=Yu (o9 HB1.o hb);clear hc2 hC2 hb)|(go_at_call 9;(with_reducible refine (Ej.c A2 c2 J.length J eb 1 _ rfl HC2.o.2 HC2.o.1 HF.o.2.2.2.2.1 HF.o.2.2.2.2.2.1 HF.o.2.2.2.2.2.2.1 (HZ.o.below HB2.o) (HT.o.below HB2.o) HW.o).mono ?_);rintro e w3 ⟨v3,rfl,hr3,hb⟩;have HB3:=Yu (o9 HB2.o hb);clear hr3 hb))
  refine bW (gB rfl _ _ _) rfl ?_;exact⟨none,0,rfl,aD _,Kd.VG _ _,HB3.o⟩
theorem O8 {α:Type}(d:Kd α){W:World}{g t:Nat}{fr:Nat × Nat}{cs:Array Value}{x:α}(hb:W.heap[g]? = some (.cells cs t fr))(hK:d.K W x cs.toList):d.C W (some ⟨g,0,none⟩) 1 [x]:=by
 refine⟨rfl,by decide,fun _=>⟨_,rfl,fun j p hj=>?_⟩⟩
 match j,hj with
 | 0,hj=>
   injection hj with hj
   subst hj;refine⟨cs.toList,d.K_len hK,hK,fun i u hu=>?_⟩;rw[iF,dX,add_plain];exact (je W g i cs t fr hb).trans (by simpa using hu)
 | n+1,hj=>simp at hj
def Dm:qJ:=⟨[⟨⟨#[97]⟩,⟨#[120]⟩⟩],[⟨1,2⟩]⟩
theorem VK:rF Dm.f0=true:=by decide
theorem VL:uZ Dm.f1=true:=by decide
theorem RO:∀ s∈Dm.f1,Dn s:=fun s hs=>by
 simp only[Dm,iU,iw,lN] at hs;subst hs;exact⟨⟨by decide,by decide⟩,by decide,by decide⟩
theorem JW:uH [Dm]=true:=Fa fun j hj=>by
 obtain rfl:j=0:=by simp at hj;omega
 exact GX (Am VK (by decide) VL)
theorem VN:KL [Dm]:=fun x hx=>by
 simp only[iU,iw,lN] at hx;subst hx;refine⟨fun y hy=>?_,by decide,by decide,RO⟩;simp only[Dm,iU,iw,lN] at hy;subst hy;exact⟨by decide,by decide⟩
theorem xU:qz [Dm]=[Dm]:=by
 simp[qz,vI,vZ,zq,Dm]
theorem K6:joinL [Dm]=[Dm]:=by
 first | rfl | simp[joinL]
theorem JV:∀ p∈qz [Dm],Im p:=by
 rw[xU];intro p hp;rw[List.mem_singleton.1 hp];exact⟨VK,VL,RO,by decide,by decide⟩
theorem F4:sF (q9 [Dm])=[Dm]∧(um (q9 [Dm])).length=3:=by
 have h:=Es JV (by rw[xU];decide);rw[xU] at h;exact h
theorem UM:xq (q9 [Dm])=([Dm],0):=Hl JW JV (by rw[xU];exact K6) (by rw[xU];decide)
theorem VO:okB (q9 [Dm])=true∧(q9 [Dm]).length≤2000:=by
 have h:=El JV;rw[xU] at h;exact⟨h.1,bM h.2 (by decide)⟩
theorem Nl:y9 (q9 [Dm]):=by
 have h1:(BR (q9 [Dm])).length=(sF (q9 [Dm])).length:=by rw[sF,bJ,Bc,Hy]
 rw[F4.1] at h1;unfold y9;rw[F4.1,K6,vB,ak JW];refine⟨QO (by rw[h1];decide),by decide,by decide,fun x hx=>by rw[List.mem_singleton.1 hx];decide,VN,by decide,by decide,VO.1⟩
theorem Si.c (w:World)(hT:xZ w)(hQ:zD w) :
 Calls Tryz.prog 12 #[] w fun e w'=>e = .returned (.bool true)∧Below w.heap.size w w':=by
 obtain⟨B,hB⟩:∃ B,q9 [Dm]=B:=⟨_,rfl⟩;have hWF:vB [Dm]=(B,0):=by rw[vB,ak JW,hB]
 have hrd:=UM;have hok:=VO;have hfo:=Nl;have hfr:=F4.2;have hlen:0<B.length:=by rw[← hB,q9,bg,wC];omega
 rw[hB] at hrd hok hfo hfr;have HRD:=Yu hrd;have HOK:=Yu hok;have HFO:=Yu hfo;have HFR:=Yu hfr;have HLN:=Yu hlen;have HT:=Yu hT;have HQ:=Yu hQ;clear hrd hok hfo hfr hlen hT hQ hB;obtain⟨W3,hW3⟩:∃ W3,(((w.alloc (.cells #[.string ⟨#[97]⟩,.string ⟨#[120]⟩] 68)).alloc (.cells #[.int .i64 1,.int .u64 2] 70)).alloc (.cells #[.slice (some ⟨w.heap.size,0,none⟩) 1 1,.slice (some ⟨w.heap.size+1,0,none⟩) 1 1] 51))=W3:=⟨_,rfl⟩;have HB3:oZ (Below w.heap.size w W3):=⟨by rw[← hW3];exact o8 (o8 (o8 (bq _ _) _) _) _⟩;have hb1:W3.heap[w.heap.size]? = some (.cells #[.string ⟨#[97]⟩,.string ⟨#[120]⟩] 68 (0,0)):=by
  rw[← hW3];exact pU (pU (qG w _) _) _
 have hb2:W3.heap[w.heap.size+1]? = some (.cells #[.int .i64 1,.int .u64 2] 70 (0,0)):=by
  rw[← hW3];have:=qG (w.alloc (.cells #[.string ⟨#[97]⟩,.string ⟨#[120]⟩] 68)) (.cells #[.int .i64 1,.int .u64 2] 70);rw[eG] at this;exact pU this _
 have hb3:W3.heap[w.heap.size+1+1]? = some (.cells #[.slice (some ⟨w.heap.size,0,none⟩) 1 1,.slice (some ⟨w.heap.size+1,0,none⟩) 1 1] 51 (0,0)):=by
  rw[← hW3];have:=qG ((w.alloc (.cells #[.string ⟨#[97]⟩,.string ⟨#[120]⟩] 68)).alloc (.cells #[.int .i64 1,.int .u64 2] 70)) (.cells #[.slice (some ⟨w.heap.size,0,none⟩) 1 1,.slice (some ⟨w.heap.size+1,0,none⟩) 1 1] 51);rwa [eG,eG] at this
 have hC:=O8 yD (x:=Dm) hb3 (DV W3 Dm (aD 1) (O8 wE (x:=⟨⟨#[97]⟩,⟨#[120]⟩⟩) hb1 (SX W3 _)) (aD 1) (O8 vk (x:=⟨1,2⟩) hb2 (S9 W3 _)));have WR:=Yu (Ej.c (some ⟨w.heap.size+1+1,0,none⟩) 1 1 [Dm] B 0 W3 rfl hC (aD 1) VN (by decide) (by decide) (HT.o.below HB3.o) (HQ.o.below HB3.o) hWF);clear hC hb1 hb2 hb3 hWF
 go_enter Tryz.func12,Tryz.ntmps12
 go_wp2_with (first|(go_at_call 9;(try rw[hW3]);(with_reducible refine WR.o.mono ?_);rintro e w4 ⟨v4,rfl,hr4,hb4⟩;clear hW3;obtain⟨a4,c4,rfl⟩:=Kd.uI hr4 HLN.o;have HR4:=Yu (Kd.pR hr4);have HB4:=Yu (o9 HB3.o hb4);clear hr4 hb4)|(go_at_call 14;(with_reducible refine (TK.c (some a4) c4 B.length B _ rfl HR4.o.2.2 HR4.o.2.1 HOK.o.1 (bM HOK.o.2 (by decide)) (HQ.o.below HB4.o) (HT.o.below HB4.o) HFO.o).mono ?_);rintro e w5 ⟨A5,c5,rfl,_,_,hb⟩;rw[HRD.o];have HB5:=Yu (o9 HB4.o hb);have HR5:=Yu (Kd.pI HR4.o.2.2 hb);clear hb)|(go_at_call 20;(with_reducible refine (frames.c (some a4) c4 B.length B _ rfl HR5.o HR4.o.2.1 HOK.o.1 (bM HOK.o.2 (by decide)) (HQ.o.below HB5.o)).mono ?_);rintro e w6 ⟨rfl,hb⟩;rw[HFR.o];have HB6:=Yu (o9 HB5.o hb);clear hb))
 go_ret;exact⟨rfl,HB6.o⟩
theorem M5 (J:List qJ)(k:Nat)(h:k<J.length)(f:qJ→Bool):(J.take (k+1)).filter f=(J.take k).filter f++(if f J[k]=true then [J[k]] else []):=by
 rw[cZ h,j3];congr 1;cases h2:f J[k]<;>simp[List.filter,h2]
theorem R6 {s:qJ}(h1:s.f1≠[])(h2:uZ s.f1=true):uH [s]=rF s.f0:=by
 have e:pK [s] ((0:Nat):Int)=s:=rfl;have h3:decide (s.f1.length=0)=false:=aN (fun h=>h1 (dG h));show ((List.range 1).all (IC [s]))=_;rw[show List.range 1=[0] from rfl,mo,List.all_nil,Bool.and_true,IC,e,Bd,h3,h2];simp
def Xw (F:List qJ):Prop:=KL F∧F.length≤8∧(∀ x∈F,x.f1.length≤480)∧uH F=true∧(∀ p∈qz F,Im p)∧joinL (qz F)=F
theorem fine.c (A:Option Addr)(c:Nat)(l:List qJ)(w:World)(hr:Kd.C yD w A l.length l)(hc:l.length≤c)(hw:okW l∧l.length*48≤140737488355328) :
 ∃ F,Xw F∧Calls Tryz.prog 13 #[.slice A l.length c] w fun e w'=>∃ (A':Option Addr) (c':Nat),e = .returned (.slice A' F.length c')∧F.length≤c'∧Kd.C yD w' A' F.length F∧Below w.heap.size w w':=by
 obtain⟨r,hf,hr8,hP⟩:=XH l (by omega) 6 50;have hr8:r.length≤8:=by omega
 have H60:∀ x∈r,x.f0.length≤10∧x.f1.length≤60:=fun x hx=>⟨(hP x hx).2.1,bM (hP x hx).2.2 (by decide)⟩
 have hZ:=U0 hw.1 50 (by decide) hP;have sp:=NG hr8 hZ (fun x hx=>(H60 x hx).1) (fun x hx=>(H60 x hx).2);refine⟨wZ r,sp,?_⟩;have HTT:tot r≤480:=bM (Ia (fun x hx=>(H60 x hx).2)) (dM 60 hr8);have HJL:oZ ((joinL r).length≤8∧∀ x∈joinL r,KL [x]∧uH [x]=rF x.f0):=⟨bM (DU r) hr8,fun x hx=>by
  obtain⟨⟨s,hs,e⟩,h2⟩:=Au hx;refine⟨fun y hy=>?_,R6 (Fj r x hx) (JY (O5 r x hx) (by omega))⟩;rw[gu] at hy;subst hy;refine⟨by rw[e];exact (hZ s hs).1,by rw[e];exact (hZ s hs).2.1,by omega,fun q hq=>?_⟩;obtain⟨y,hy,rfl⟩:=List.mem_map.1 hx;have hq:q∈tY [] y.f1:=hq;rcases zx y.f1 [] hq with h | h
  ·cases h
  ·obtain⟨s',hs',hq'⟩:=BI r y hy q h;exact (hZ s' hs').2.2.2 q hq'⟩
 have HFJ:oZ (wZ r=(joinL r).filter (fun x=>rF x.f0)):=⟨rfl⟩;have H8:=Yu hr8;have HTR:oZ (tot r≤1000000):=⟨by omega⟩;have H10:oZ (∀ x∈r,x.f0.length≤1000000):=⟨fun x hx=>by have:=(H60 x hx).1;omega⟩;have FEW:=Yu (ql.c (l.length+1) (fun k=>k<w.heap.size) A c l 6 50 r w (Kd.K5 hc (Kd.X7 Mg hr)) hf);clear hr hc hw hf hr8 hP H60 hZ sp HTT;generalize wZ r=F at *
 go_enter Tryz.func13,Tryz.ntmps13
 go_wp2_with (first|(go_at_call 8;(with_reducible refine FEW.o.mono ?_);rintro e w1 ⟨v1,rfl,hn,hb⟩;obtain⟨A1,c1,rfl,hc1,hC1⟩:=Kd.Ah hn;have HO1:=Yu hC1;have HL1:=Yu hc1;have HB1:=Yu hb;clear hn hc1 hC1 hb FEW)|(go_at_call 24;(with_reducible refine (XQ.c A1 c1 r.length r _ rfl HO1.o (bM H8.o (by decide)) HTR.o H10.o).mono ?_);rintro e w2 ⟨A2,c2,rfl,hc2,hr2,hb⟩;have HC2:=Yu hr2;have HB2:=Yu (o9 HB1.o hb);clear hr2 hc2 hb HO1 HL1))
 generalize joinL r=J at *;have HCF:=Yu (Kd.X7 Mg HC2.o);have HW2:=Yu HB2.o.size;clear HC2
 go_loopg [3,10] J.length (fun kx s3 s10 wr=>∃ (k:Nat),s10 = .int .i64 k∧k≤J.length∧J.length-k≤kx∧oZ (Kd.N yD 51 wr w2.heap.size (fun _=>True) s3 ((J.take k).filter (fun x=>rF x.f0)))∧oZ (Below w2.heap.size w2 wr))
 case atStart=>exact⟨0,rfl,bV _,by omega,⟨by rw[lW];exact Kd.IU _ _ _ _ _⟩,⟨bq _ _⟩⟩
 case round=>
  obtain⟨k,rfl,hk,hkx,HN,HB⟩:=hrel
  by_cases hlt:k<J.length
  ·obtain⟨ad,cs,rfl,hcl,hFK,hcc,_⟩:=Kd.Rn (Kd.Cg HCF.o HB.o) z51 (k:Int) (by omega) (by omega);rw[bf] at hFK hcc;obtain⟨A0,c0,A3,c3,rfl,l0,g0,l3,g3⟩:=Aw hFK;have x0:wr.cell? (ad.add (k*2))=some (.slice A0 (J.getD k z51).f0.length c0):=hcc 0 _ rfl;have x1:wr.cell? ⟨(ad.add (k*2)).block,(ad.add (k*2)).off+1,none⟩=some (.slice A3 (J.getD k z51).f1.length c3):=by rw[← vF _ _ 1 (by omega)];exact hcc 1 _ rfl
   have HM:=Yu (HJL.o.2 (J.getD k z51) (by rw[bn,aQ hlt];exact eF hlt));have HTF:oZ ((J.take (k+1)).filter (fun x=>rF x.f0)=(J.take k).filter (fun x=>rF x.f0)++(if rF (J.getD k z51).f0=true then [J.getD k z51] else [])):=⟨by
    rw[M5 J k hlt];simp[bn,aQ hlt]⟩
   have HFK:=Yu hFK;have HG0:=Yu (Kd.KU g0);have HG3:=Yu (Kd.KU g3);have ajS:=Yu l0;have ajT:=Yu l3;have hkz:(k:Int)<(J.length:Int):=by omega
   have HFL:oZ (((J.take k).filter (fun x=>rF x.f0)).length≤8):=⟨bM (oN ..) (by rw[bG];have:=HJL.o.1;omega)⟩;have HBS:=Yu (Kd.Nc HN.o);clear hcc hFK g0 l0 g3 l3 hcl;generalize J.getD k z51=s at *;obtain⟨n0,hn0⟩:∃ n0,s.f0.length=n0:=⟨_,rfl⟩;obtain⟨n1,hn1⟩:∃ n1,s.f1.length=n1:=⟨_,rfl⟩;have HR4:oZ (Calls Tryz.prog 35 #[.slice (some ⟨wr.heap.size+1,0,none⟩) 1 1] ((wr.alloc (.cells #[.slice A0 n0 c0,.slice A3 n1 c3] 51)).alloc (.cells #[.slice A0 n0 c0,.slice A3 n1 c3] 51)) fun e w'=>e = .returned (.bool (rF s.f0))∧Below ((wr.alloc (.cells #[.slice A0 n0 c0,.slice A3 n1 c3] 51)).alloc (.cells #[.slice A0 n0 c0,.slice A3 n1 c3] 51)).heap.size ((wr.alloc (.cells #[.slice A0 n0 c0,.slice A3 n1 c3] 51)).alloc (.cells #[.slice A0 n0 c0,.slice A3 n1 c3] 51)) w'):=⟨by
    have hb:=qG (wr.alloc (.cells #[.slice A0 n0 c0,.slice A3 n1 c3] 51)) (.cells #[.slice A0 n0 c0,.slice A3 n1 c3] 51);rw[eG] at hb;have hC:=O8 yD (x:=s) hb (by
     rw[← hn0,← hn1];exact DV _ s ajS.o (Kd.qN (Kd.qN HG0.o _) _) ajT.o (Kd.qN (Kd.qN HG3.o _) _))
    have:=XR.c (some ⟨wr.heap.size+1,0,none⟩) 1 1 [s] _ rfl hC (aD 1) HM.o.1 (by decide);rw[HM.o.2] at this;exact this⟩
   have HB0:=Yu (o8 (o8 (bq wr.heap.size wr) (.cells #[.slice A0 n0 c0,.slice A3 n1 c3] 51)) (.cells #[.slice A0 n0 c0,.slice A3 n1 c3] 51));have HX0:=Yu (pU (qG wr (.cells #[.slice A0 n0 c0,.slice A3 n1 c3] 51)) (.cells #[.slice A0 n0 c0,.slice A3 n1 c3] 51));rw[hn0] at x0;rw[hn1] at x1;have hj8:=HJL.o.1;have ajU:oZ (Kd.FK yD wr (fun k=>k<w2.heap.size) s [.slice A0 n0 c0,.slice A3 n1 c3]):=⟨by rw[← hn0,← hn1];exact HFK.o⟩;clear HFK hn0 hn1;cases hcan:rF s.f0 with
   | false=>
     rw[hcan] at HR4 HTF;rw[aK (by decide),fq] at HTF
     go_wp2_with (first|(go_at_call 35;(with_reducible refine HR4.o.mono ?_);rintro e w3 ⟨rfl,hb⟩;have ad8:=Yu (o9 HB0.o hb);have HB3:=Yu (o9 HB.o ad8.o);clear hb))
     go_roundg (J.length-(k+1))
     case measure=>omega
     case rel=>exact⟨k+1,by go_num,hlt,aD _,⟨by rw[HTF.o];exact Kd.wm HN.o ad8.o⟩,HB3⟩
   | true=>
     rw[hcan] at HR4 HTF;rw[ak rfl] at HTF
     go_wp2_with (first|(go_at_call 35;(with_reducible refine HR4.o.mono ?_);rintro e w3 ⟨rfl,hb⟩;have ad8:=Yu (o9 HB0.o hb);have HB3:=Yu (o9 HB.o ad8.o);have hbx:=pG HX0.o hb;have d0:=(pq hbx 0).trans rfl;have d1:=(pq hbx 1).trans rfl;have HN3:=Yu (Kd.wm HN.o ad8.o);have HF3:=Yu (Kd.Ag ajU.o (fun k hk hlt=>ad8.o.block k hlt));clear hb hbx)|((with_reducible refine qK (N:=20) rfl ?_);go_must (refine Kd.FJ yD (w0:=w2) w2.heap.size rfl (.tmp 17) (.tmp 19) 22 51 (.agg #[.slice none 0 0,.slice none 0 0]) 48 rfl Tryz.underlying22 zl rfl (by decide) (by decide) u3 _ s _ (fun _=>True) (fun k=>k<w2.heap.size) rfl rfl HF3.o ?h4 ?h5 HN3.o HB3.o HB3.o.size ?h6 ?_);(case h4=>exact fun k hk=>⟨dD,fun e=>by have:=HBS.o k e.symm;omega⟩);(case h5=>exact fun _ _=>dD);(case h6=>(have:=HFL.o;omega));intro v4 w4 hn4 hb4 hg4 aeR;have HN4:=Yu hn4;have HB4:=Yu hb4;clear hn4 hb4 hg4 aeR))
     go_roundg (J.length-(k+1))
     case measure=>omega
     case rel=>exact⟨k+1,by go_num,hlt,aD _,⟨by rw[HTF.o];exact HN4.o⟩,HB4⟩
  ·obtain rfl:k=J.length:=by omega
   rw[dW] at HN;have hFJ:=HFJ.o;rw[← hFJ] at HN;obtain⟨Af,cf,rfl,hcf,hCf⟩:=Kd.Ah HN.o;have HCf:=Yu (And.intro hcf hCf);have HB9:=Yu (o9 HB2.o HB.o);have hkz:¬ (J.length:Int)<(J.length:Int):=by omega
   clear hFJ hCf hcf HFJ HN HB hkx hk;go_wp2;go_ret;exact⟨Af,cf,rfl,HCf.o.1,HCf.o.2,HB9.o⟩
end Go.Proofs.Y.PA
