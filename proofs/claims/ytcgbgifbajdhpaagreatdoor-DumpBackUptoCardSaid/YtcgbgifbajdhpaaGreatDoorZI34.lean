/- Of the law rZIQDumpBack. -/
import Derived.Test.YtcgbgifbajdhpaaGreatDoorZI33
import Derived.Test.YtcgbgifbajdhpaaGreatDoorZI13
set_option linter.unusedVariables false
set_option linter.unusedSimpArgs false
set_option maxHeartbeats 8000000
set_option maxRecDepth 100000
namespace Go
abbrev eG:=@Go.World.size_alloc
abbrev j5:=@Go.Exit.noGoto_ret
end Go
namespace Go.Proofs.Y.PA
open Go.RowKit Go.Proofs.Y.G Go.Proofs.YW.o7 Go.Proofs.YW.pJ Go.Proofs.YW.pO
theorem su.c (A:Option Addr)(c:Nat)(l:List qC)(w:World)(hr:Kd.C vk w A l.length l)(hc:l.length≤c)(hw:∀ x∈l,Dn x)(hlen:l.length≤20000)(hT:xZ w) :
 Calls Tryz.prog 61 #[.slice A l.length c] w fun e w'=>∃ v:Value,e = .returned (.tuple #[v,.int .i64 (zG l).2])∧Kd.R (Kd.int .u8) 5 w' w.heap.size (fun _=>True) v (zG l).1∧Below w.heap.size w w':=by
 cases h:uZ l with
 | true=>
   refine (su.R5 A c l w hr hc hw hlen hT h).mono ?_;rintro e w' ⟨v,b,rfl,h1,h2,h3,h4⟩;have e1:zG l=(sS l.length 2++b,0):=by rw[zG,ak h,uJ,GY h1 h2]
   rw[e1];exact⟨v,rfl,h3,h4⟩
 | false=>
   refine (su.PV A c l w hr hc hlen h).mono ?_;rintro e w' ⟨rfl,h4⟩;have e1:zG l=([],1):=by rw[zG,aK (by rw[h];simp)]
   rw[e1];exact⟨_,rfl,Kd.ug _ _ _ _ _,h4⟩
theorem su.qP {n:Nat}(A:Option Addr)(c:Nat)(l:List qC)(w:World)(eb:List Int)(ee:Int)(hn:l.length=n)(hr:Kd.C vk w A l.length l)(hc:n≤c)(hw:∀ x∈l,Dn x)(hlen:n≤20000)(hT:xZ w)(he:zG l=(eb,ee)) :
 Calls Tryz.prog 61 #[.slice A n c] w fun e w'=>∃ v:Value,e = .returned (.tuple #[v,.int .i64 ee])∧Kd.R (Kd.int .u8) 5 w' w.heap.size (fun _=>True) v eb∧Below w.heap.size w w':=by
 subst hn;have:=su.c A c l w hr hc hw hlen hT;rw[he] at this;exact this
theorem Ct (l:List qC)(hn:l.length≤20000)(hw:∀ x∈l,Dn x):okB (zG l).1=true:=by
 unfold zG;split
 ·have h1:=yg l hw l.length (aD _);have h2:=(Ms (uN l l.length) (by omega)).1.bytes;refine rT.2 fun x hx=>?_
  rcases List.mem_append.1 hx with hx | hx
  ·exact rT.1 (Vb _ _) x hx
  ·exact h2 x hx
 ·rfl
theorem KR {n m:Nat}(A0:Option Addr)(c0:Nat)(l0:List Int)(A1:Option Addr)(c1:Nat)(l1:List Int)(r:Bool)(w:World)(hn:l0.length=n)(hm:l1.length=m)(hr0:Kd.C (Kd.int .u8) w A0 l0.length l0)(hc0:n≤c0)(hr1:Kd.C (Kd.int .u8) w A1 l1.length l1)(hc1:m≤c1)(h0:okB l0=true)(h1:okB l1=true)(h:decide (l0=l1)=r) :
 Calls Tryz.prog 38 #[.slice A0 n c0,.slice A1 m c1] w fun e w'=>e = .returned (.bool r)∧Below w.heap.size w w':=by
 subst hn hm;exact (G.bytes_Equal.c A0 c0 l0 A1 c1 l1 r w hr0 hc0 hr1 hc1 (by rw[G.bytes_Equal.f,ak ⟨h0,h1⟩,h])).mono fun e w' ⟨he,hd⟩=>⟨he,hd.below⟩
theorem Mj (g:Nat)(A:Option Addr)(c:Nat)(l:List Int)(N p:Int)(r:Int × Int × Bool)(w0 w:World)(hr:Kd.C (Kd.int .u8) w0 A l.length l)(hc:l.length≤c)(hg:w0.heap.size≤g)
 (hl:JL l) (hn:l.length≤1000000) (hN : -9223372036854775808≤N∧N≤9223372036854775807) (hU:UP w g A l.length c N p false) (hB:Below w0.heap.size w0 w) (he:Bf l N p=r) :
 Calls Tryz.prog 151 #[.pointer (some ⟨g,0,none⟩)] w fun e w'=>e = .returned (.int .i64 r.1)∧UP w' g A l.length c N r.2.1 r.2.2∧Below w0.heap.size w0 w'∧q8 w w' g none:=by
 subst he;exact IK.c g A c l N p false w0 w hU hr hc hB hg hl hn hN
theorem OA (g:Nat)(A:Option Addr)(c:Nat)(l:List Int)(N p:Int)(s r:Int × Int × Bool)(w0 w:World)(hr:Kd.C (Kd.int .u8) w0 A l.length l)(hc:l.length≤c)(hg:w0.heap.size≤g)
 (hl:JL l) (hn:l.length≤1000000) (hN : -9223372036854775808≤N∧N≤9223372036854775807) (hU:UP w g A l.length c N s.2.1 s.2.2) (hB:Below w0.heap.size w0 w) (hs:Bf l N p=s) (he:Iy l N p=r) :
 Calls Tryz.prog 152 #[.pointer (some ⟨g,0,none⟩)] w fun e w'=>e = .returned (.int .u64 r.1)∧UP w' g A l.length c N r.2.1 r.2.2∧Below w0.heap.size w0 w'∧q8 w w' g none:=by
 subst he;subst hs;exact KF.c g A c l N (Bf l N p).2.1 (Bf l N p).2.2 w0 w hU hr hc hB hg hl hn hN
theorem Ye {b:List Int}(h:okB b=true)(hl:2≤b.length):wz.f (b.take 2)=some (((yA 0 (b.take 2):Nat):Int),true)∧yA 0 (b.take 2)<65536:=by
 refine⟨?_,En h 2⟩;have h1:okB (b.take 2)=true:=rT.2 fun x hx=>rT.1 h x (dO hx)
 rw[wz.f,ak h1,ak (by rw[bG];omega)]
theorem Wd {n:Nat}(A0:Option Addr)(c0:Nat)(l0:List Int)(r1:Int)(r2:Bool)(w:World)(hn:l0.length=n)(hr0:Kd.C (Kd.int .u8) w A0 l0.length l0)(hc0:n≤c0)(h:wz.f l0=some (r1,r2)) :
 Calls Tryz.prog 63 #[.slice A0 n c0] w fun e w'=>e = .returned (.tuple #[.int .u64 r1,.bool r2])∧Below w.heap.size w w':=by
 subst hn;exact (wz.c A0 c0 l0 r1 r2 w hr0 hc0 h).mono fun e w' ⟨he,hd⟩=>⟨he,hd.below⟩
theorem DC {xb:List Int}{N:Int}{k:Nat}(h:(sQ xb N (k+1)).2.1=true):∀ d,sQ xb N (k+1+d)=sQ xb N (k+1)
 | 0=>rfl
 | d+1=>by
   have ih:=DC h d;have e:sQ xb N (k+d+2)=sQ xb N (k+d+1):=by
    rw[sQ,ak];rw[show k+d+1=k+1+d by omega,ih];exact h
   rw[show k+1+(d+1)=k+d+2 by omega,e,show k+d+1=k+1+d by omega,ih]
theorem zi.c (A:Option Addr)(c:Nat)(b:List Int)(w:World)(hr:Kd.C (Kd.int .u8) w A b.length b)(hc:b.length≤c)(hok:okB b=true)(hlen:b.length≤2500)(hT:xZ w) :
 Calls Tryz.prog 133 #[.slice A b.length c] w fun e w'=>∃ v:Value,e = .returned (.tuple #[v,.int .i64 (xA b).2])∧Kd.R vk 70 w' w.heap.size (fun _=>True) v (xA b).1∧Below w.heap.size w w':=by
 by_cases h2:b.length<2
 ·have e0:xA b=([],5):=by rw[xA,ak h2]
  rw[e0];have d0:decide ((b.length:Int)<2)=true:=aM (by omega);clear e0 h2 hr hc hT
  go_enter Tryz.func133,Tryz.ntmps133
  go_wp2
  go_step3
  go_wp2
  try rw[j5]
  refine bZ (gD rfl _ _ _) rfl ?_;exact⟨_,rfl,Kd.ug _ _ _ _ _,bq _ _⟩
 have d0:decide ((b.length:Int)<2)=false:=aN (by omega);obtain⟨xb,hxb⟩:∃ xb,b.drop 2=xb:=⟨_,rfl⟩;have hxl:xb.length=b.length-2:=by rw[← hxb,bB]
 obtain⟨hget,ajs⟩:=Ye hok (by omega);obtain⟨n,hn⟩:∃ n,yA 0 (b.take 2)=n:=⟨_,rfl⟩;rw[hn] at hget ajs;obtain⟨NN,hNN⟩:∃ N:Nat,8*(b.length-2)=N:=⟨_,rfl⟩;have HF:oZ (xA b=if (sQ xb (NN:Int) n).2.1=false∧zG (sQ xb (NN:Int) n).2.2.1=(b,0) then ((sQ xb (NN:Int) n).2.2.1,0) else ([],5)):=⟨by rw[xA,aK h2,hxb,hNN,hn]⟩;have ad5:JL xb:=fun x hx=>rT.1 hok x (dU (hxb ▸ hx))
 obtain⟨i05,acJ,_,hsz5,_⟩:=info_parts uS;have hto:=Gc (P:=Tryz.prog) 24 5 .i64 Tryz.underlying24 acJ A b.length c 2 (by omega) (by omega) hc;have aeM:=Sg (P:=Tryz.prog) 24 5 .i64 Tryz.underlying24 acJ 1 hsz5 A b.length c 2 (by omega) (by omega);have hdr:=Kd.Dp (m:=2) (c:=c) hr (by omega) hc;rw[hxb] at hdr;obtain⟨A',hA'⟩:∃ A',(if c=(2:Int).toNat then A else A.map (·.add ((2:Int).toNat*1)))=A':=⟨_,rfl⟩;rw[hA'] at aeM;have HX:oZ (Kd.C (Kd.int .u8) w A' xb.length xb):=⟨by rw[← hA'];exact hdr⟩;have HXC:oZ (xb.length≤c-2):=⟨by omega⟩;have HTK:=Yu (Kd.zI hr (show 2≤b.length by omega));have HTL:oZ ((b.take 2).length=2):=⟨by rw[bG];omega⟩;have ahW:=Yu hget;have HRB:=Yu hr;have HC:=Yu hc;have HOK:=Yu hok;have HOX:=Yu ad5;have HT:=Yu hT;have HXL:=Yu hxl;have HNN:=Yu hNN;rw[show (2:Int).toNat=2 from rfl,← hxl] at aeM;rw[show (2:Int).toNat=2 from rfl] at hto;have hNe:wrap64 (8*wrap64 ((b.length:Int)-2))=(NN:Int):=by rw[yM (x:=(b.length:Int)-2) (by omega) (by omega),yM (by omega) (by omega)];omega
 clear hr hc hok ad5 hT hA' hdr hget hxl hNN hn hxb
 go_enter Tryz.func133,Tryz.ntmps133
 go_wp2
 go_step3
 go_wp2_with (first
  | (go_at_call 63;(with_reducible refine (Wd A c (b.take 2) (n:Int) true _ HTL.o HTK.o (by have:=HC.o;omega) ahW.o).mono ?_);rintro e w1 ⟨rfl,hb⟩;have HB1:=Yu hb;clear hb)
  | ((with_reducible refine qK (N:=30) rfl ?_);refine ru ?hg (N:=30) ?hd (cs := #[.slice A' xb.length (c-2),.int .i64 (NN:Int),.int .i64 0,.bool false]) (t:=201) ?hr ?_;(case hd=>rfl);(case hg=>rfl);(case hr=>first|(go_simp;done)|(go_simp;rfl));intro g hg w2 YI hb;have HB2:=Yu (o9 HB1.o hb);have HBK:=Yu YI;have HG:oZ (w.heap.size≤g):=⟨by have:=HB1.o.size;omega⟩;clear hb YI hg))
 go_step3
 go_wp2
 -- LOOP
 have hN2:8*((b.length:Int)-2)=(NN:Int):=by have:=HNN.o;omega
 simp only[hN2];have HU0:oZ (UP (w1.alloc (.cells #[.slice A' xb.length (c-2),.int .i64 (NN:Int),.int .i64 0,.bool false] 201)) w1.heap.size A' xb.length (c-2) (NN:Int) 0 false):=⟨qG _ _⟩;have HB0:=Yu (o8 HB1.o (.cells #[.slice A' xb.length (c-2),.int .i64 (NN:Int),.int .i64 0,.bool false] 201));have HG:oZ (w.heap.size≤w1.heap.size):=⟨HB1.o.size⟩;generalize w1.alloc (.cells #[.slice A' xb.length (c-2),.int .i64 (NN:Int),.int .i64 0,.bool false] 201)=w2 at *;generalize w1.heap.size=g at *;clear hN2 hNe hto aeM HB1 HTK HTL ahW;have hNN : -9223372036854775808≤(NN:Int)∧(NN:Int)≤9223372036854775807:=by have:=HNN.o;omega
 have afs:xb.length≤1000000:=by have:=HXL.o;omega
 have CT:=Yu (fun k s r W hU hB he=>JG g A' (c-2) xb (NN:Int) k s r w W HX.o HXC.o HG.o HOX.o afs hNN hU hB he);have CN:=Yu (fun p r W hU hB he=>Mj g A' (c-2) xb (NN:Int) p r w W HX.o HXC.o HG.o HOX.o afs hNN hU hB he);have CV:=Yu (fun p s r W hU hB hs he=>OA g A' (c-2) xb (NN:Int) p s r w W HX.o HXC.o HG.o HOX.o afs hNN hU hB hs he);have INV:=Yu (Cq xb NN (by have:=HNN.o;omega));clear hNN afs
 go_loopw [7,8,33] (fun v7 v8 i wr=>∃ (k:Nat) (l:List qC) (p st:Int),k≤n∧i = .int .i64 k∧v8 = .int .i64 st∧oZ (sQ xb (NN:Int) k=(p,false,l,st))∧oZ (Kd.R vk 70 wr w.heap.size (fun q=>q≠g) v7 l)∧oZ (UP wr g A' xb.length (c-2) (NN:Int) p false)∧oZ (Below w.heap.size w wr)) (fun _ _ i _=>n-(intOf i).toNat)
 case atStart=>exact⟨0,[],0,0,bV _,rfl,rfl,⟨rfl⟩,⟨Kd.ug _ _ _ _ _⟩,HU0,HB0⟩
 case round=>
  clear HU0 HB0;obtain⟨k,l,p,st,hk,rfl,rfl,HS,HOt,HUr,HBr⟩:=hrel;obtain⟨A7,c7,e7⟩:=Kd.qo HOt.o;subst e7;have hinv:=INV.o k;rw[HS.o] at hinv;have ac6:oZ (∀ x∈l,Dn x):=⟨hinv.1⟩;have HLL:oZ (l.length=k):=⟨(hinv.2.2 rfl).1⟩;have HLEN:oZ (l.length≤20000):=⟨by have:=hinv.2.1;have:=HNN.o;simp only at *;omega⟩;clear hinv
  by_cases hlt:k<n
  ·have gne:oZ (wr.heap.size≠g):=⟨by have:=rE HUr.o;omega⟩;have HOA:=Yu (Kd.vO (Kd.sD (ok':=fun q=>q≠g∧q≠wr.heap.size) (Kd.vD HOt.o) (fun q hq=>⟨hq.1,by have:=hq.2;omega⟩)) (.cells #[.int .i64 0,.int .u64 0] 70));have HBA:=Yu (o8 HBr.o (.cells #[.int .i64 0,.int .u64 0] 70));have HUA:oZ (UP (wr.alloc (.cells #[.int .i64 0,.int .u64 0] 70)) g A' xb.length (c-2) (NN:Int) p false):=⟨pU HUr.o _⟩;have HXA:=Yu (qG wr (.cells #[.int .i64 0,.int .u64 0] 70));have HSA:oZ (wr.heap.size<(wr.alloc (.cells #[.int .i64 0,.int .u64 0] 70)).heap.size):=⟨by simp⟩;have HBS:oZ (w.heap.size≤wr.heap.size):=⟨HBr.o.size⟩;clear HOt;cases k with
   | zero=>
     have hs0:=HS.o;simp only[sQ,dB] at hs0;obtain⟨rfl,-,hl0,rfl⟩:=hs0;obtain⟨a,ha⟩:∃ a,vW xb (NN:Int) (0,false) 64=a:=⟨_,rfl⟩;obtain⟨d,hd⟩:∃ d,vW xb (NN:Int) a.2 64=d:=⟨_,rfl⟩;have HST:oZ (sQ xb (NN:Int) (0+1)=(d.2.1,d.2.2,if d.2.2=true then l else l++[⟨wrap64 a.1,d.1⟩],0)):=⟨by
      rw[← hl0];have e1:Iu xb (NN:Int) 0=a:=ha;have e2:Iw xb (NN:Int) 0=d:=by unfold Iw;rw[e1];exact hd
      simp only[sQ,e1,e2,dL]⟩
     have HA:=Yu ha;have HD2:=Yu hd;clear ha hd hl0;cases hbad:d.2.2 with
     | true=>
       have HD:oZ (sQ xb (NN:Int) n=(d.2.1,true,l,0)):=⟨by
        have h1:=HST.o;rw[hbad,ak rfl] at h1;have h2:=DC (xb:=xb) (N:=(NN:Int)) (k:=0) (by rw[h1]) (n-(0+1));rw[show 0+1+(n-(0+1))=n by omega,h1] at h2;exact h2⟩
       obtain⟨eb,ee,henc⟩:∃ eb ee,zG l=(eb,ee):=⟨_,_,rfl⟩;have acC:=Yu henc;have aft:oZ (okB eb=true):=⟨by have:=Ct l HLEN.o ac6.o;rw[henc] at this;exact this⟩;clear henc
       go_wp2_with (first
        | (go_at_call 150;(with_reducible refine (CT.o 64 (0,0,false) a _ HUA.o HBA.o HA.o).mono ?_);rintro e w3 ⟨rfl,hu,hb,hk⟩;have HU3:=Yu hu;have HB3:=Yu hb;have HX3:=Yu ((hk.2 wr.heap.size HSA.o gne.o (by simp)).trans HXA.o);have HS3:oZ (wr.heap.size<w3.heap.size):=⟨d9 HSA.o hk.1⟩;have HO3:=Yu (Kd.Dr HOA.o hk (fun _ q=>q.1));clear hu hb hk)
        | (go_at_call 150;(with_reducible refine (CT.o 64 a d _ HU3.o HB3.o HD2.o).mono ?_);rintro e w4 ⟨rfl,hu,hb,hk⟩;rw[hbad] at hu;have hx4:=(hk.2 wr.heap.size HS3.o gne.o (by simp)).trans HX3.o;have c40:=(pq hx4 0).trans rfl;have c41:=(pq hx4 1).trans rfl;have f40:=pE hx4 0;have f41:=pE hx4 1;have HXB:oZ (((w4.setCell ⟨wr.heap.size,0,none⟩ (.int .i64 (wrap64 a.1))).setCell ⟨wr.heap.size,1,none⟩ (.int .u64 d.1)).heap[wr.heap.size]? = some (.cells #[.int .i64 (wrap64 a.1),.int .u64 d.1] 70 (0,0))):=⟨qH (qH hx4 0 _ rfl) 1 _ rfl⟩;have HUt:oZ (UP ((w4.setCell ⟨wr.heap.size,0,none⟩ (.int .i64 (wrap64 a.1))).setCell ⟨wr.heap.size,1,none⟩ (.int .u64 d.1)) g A' xb.length (c-2) (NN:Int) d.2.1 true):=⟨uU (p:=⟨wr.heap.size,1,none⟩) (uU (p:=⟨wr.heap.size,0,none⟩) hu gne.o.symm _) gne.o.symm _⟩;have HOt:oZ (Kd.R vk 70 ((w4.setCell ⟨wr.heap.size,0,none⟩ (.int .i64 (wrap64 a.1))).setCell ⟨wr.heap.size,1,none⟩ (.int .u64 d.1)) w.heap.size (fun q=>q≠g) (.slice A7 l.length c7) l):=⟨Kd.sD (Kd.uG (p:=⟨wr.heap.size,1,none⟩) (Kd.uG (p:=⟨wr.heap.size,0,none⟩) (Kd.Dr HO3.o hk (fun _ q=>q.1)) (fun _ q=>q.2) _) (fun _ q=>q.2) _) (fun _ q=>q.1)⟩;have HBt:oZ (Below w.heap.size w ((w4.setCell ⟨wr.heap.size,0,none⟩ (.int .i64 (wrap64 a.1))).setCell ⟨wr.heap.size,1,none⟩ (.int .u64 d.1))):=⟨(hb.setCell (p:=⟨wr.heap.size,0,none⟩) HBS.o _).setCell (p:=⟨wr.heap.size,1,none⟩) HBS.o _⟩;have cx3:=(pq HUt.o 3).trans rfl;have cs0:=(pq HXB.o 0).trans rfl;have cs1:=(pq HXB.o 1).trans rfl;clear hu hb hk hx4)
        | (go_at_call 61;(with_reducible refine (su.qP A7 c7 l _ eb ee rfl (Kd.pR HOt.o).2.2 (Kd.pR HOt.o).2.1 ac6.o HLEN.o (HT.o.below HBt.o) acC.o).mono ?_);rintro e w6 ⟨v6,rfl,hr6,hb⟩;obtain⟨A6,c6,rfl⟩:=Kd.qo hr6;have HR6:=Yu (Kd.pR hr6);have HU6:=Yu (pG HUt.o hb);have HO6:=Yu (Kd.qO HOt.o hb);have HB6:=Yu (o9 HBt.o hb);have c63:=(pq HU6.o 3).trans rfl;clear hr6 hb))
       try rw[j5]
       refine bZ (gD rfl _ _ _) rfl ?_;rw[HF.o,HD.o,aK (by simp)];exact⟨_,rfl,Kd.ug _ _ _ _ _,HB6.o⟩
     | false=>
       go_wp2_with (first
        | (go_at_call 150;(with_reducible refine (CT.o 64 (0,0,false) a _ HUA.o HBA.o HA.o).mono ?_);rintro e w3 ⟨rfl,hu,hb,hk⟩;have HU3:=Yu hu;have HB3:=Yu hb;have HX3:=Yu ((hk.2 wr.heap.size HSA.o gne.o (by simp)).trans HXA.o);have HS3:oZ (wr.heap.size<w3.heap.size):=⟨d9 HSA.o hk.1⟩;have HO3:=Yu (Kd.Dr HOA.o hk (fun _ q=>q.1));clear hu hb hk)
        | (go_at_call 150;(with_reducible refine (CT.o 64 a d _ HU3.o HB3.o HD2.o).mono ?_);rintro e w4 ⟨rfl,hu,hb,hk⟩;rw[hbad] at hu;have hx4:=(hk.2 wr.heap.size HS3.o gne.o (by simp)).trans HX3.o;have c40:=(pq hx4 0).trans rfl;have c41:=(pq hx4 1).trans rfl;have f40:=pE hx4 0;have f41:=pE hx4 1;have HXB:oZ (((w4.setCell ⟨wr.heap.size,0,none⟩ (.int .i64 (wrap64 a.1))).setCell ⟨wr.heap.size,1,none⟩ (.int .u64 d.1)).heap[wr.heap.size]? = some (.cells #[.int .i64 (wrap64 a.1),.int .u64 d.1] 70 (0,0))):=⟨qH (qH hx4 0 _ rfl) 1 _ rfl⟩;have HUt:oZ (UP ((w4.setCell ⟨wr.heap.size,0,none⟩ (.int .i64 (wrap64 a.1))).setCell ⟨wr.heap.size,1,none⟩ (.int .u64 d.1)) g A' xb.length (c-2) (NN:Int) d.2.1 false):=⟨uU (p:=⟨wr.heap.size,1,none⟩) (uU (p:=⟨wr.heap.size,0,none⟩) hu gne.o.symm _) gne.o.symm _⟩;have HOt:oZ (Kd.R vk 70 ((w4.setCell ⟨wr.heap.size,0,none⟩ (.int .i64 (wrap64 a.1))).setCell ⟨wr.heap.size,1,none⟩ (.int .u64 d.1)) w.heap.size (fun q=>q≠g) (.slice A7 l.length c7) l):=⟨Kd.sD (Kd.uG (p:=⟨wr.heap.size,1,none⟩) (Kd.uG (p:=⟨wr.heap.size,0,none⟩) (Kd.Dr HO3.o hk (fun _ q=>q.1)) (fun _ q=>q.2) _) (fun _ q=>q.2) _) (fun _ q=>q.1)⟩;have HBt:oZ (Below w.heap.size w ((w4.setCell ⟨wr.heap.size,0,none⟩ (.int .i64 (wrap64 a.1))).setCell ⟨wr.heap.size,1,none⟩ (.int .u64 d.1))):=⟨(hb.setCell (p:=⟨wr.heap.size,0,none⟩) HBS.o _).setCell (p:=⟨wr.heap.size,1,none⟩) HBS.o _⟩;have cx3:=(pq HUt.o 3).trans rfl;have cs0:=(pq HXB.o 0).trans rfl;have cs1:=(pq HXB.o 1).trans rfl;clear hu hb hk hx4)
        | ((with_reducible refine uR (b := .append) (xs := #[.tmp 70,.tmp 72]) rfl ?_);at_builtin;refine Kd.zK vk (w0:=w) w.heap.size rfl (.tmp 70) (.tmp 72) 49 70 (.agg #[.int .i64 0,.int .u64 0]) 16 rfl Tryz.underlying49 yj rfl (by decide) (by omega) (.slice A7 l.length c7) l (⟨wrap64 a.1,d.1⟩:qC) [.int .i64 (wrap64 a.1),.int .u64 d.1] (fun q=>q≠g) (fun _=>False) rfl ?hx ?aP (fun _ hk=>hk.elim) ?aF HOt.o HBt.o HBt.o.size ?aL ?_;(case hx=>first | rfl | (go_simp;done)|(show Value.slice _ 1 1=Value.slice _ 1 1;simp;done));(case aP=>exact Fq _ _ _ (⟨wrap64 a.1,d.1⟩:qC));(case aF=>exact fun q hq e=>by have:=rE HUt.o;omega);(case aL=>have:=HLEN.o;omega);intro v9 w9 ho hb hg9 hat;have HO9:=Yu ho;have HB9:=Yu hb;have HU9:=Yu (rQ HUt.o hg9 (Kd.JN HOt.o HUt.o (by decide)));clear ho hb hg9 hat))
       go_roundw
       case rel=>exact⟨0+1,l++[(⟨wrap64 a.1,d.1⟩:qC)],d.2.1,0,by omega,by go_num,rfl,⟨by have h1:=HST.o;rw[hbad,aK (by simp)] at h1;exact h1⟩,HO9,HU9,HB9⟩
       case measure=>simp[intOf];omega
   | succ k=>
     rw[show ((k+1:Nat):Int)=(k:Int)+1 from by omega] at *;obtain⟨a,ha⟩:∃ a,Bf xb (NN:Int) p=a:=⟨_,rfl⟩;obtain⟨d,hd⟩:∃ d,Iy xb (NN:Int) p=d:=⟨_,rfl⟩;obtain⟨y,hy⟩:∃ y,pV l (k:Int)=y:=⟨_,rfl⟩;have HST:oZ (sQ xb (NN:Int) (k+1+1)=(d.2.1,d.2.2,if d.2.2=true then l else l++[⟨wrap64 (y.f0+wrap64 (st+a.1)),Go.bits .xor .u64 y.f1 d.1⟩],wrap64 (st+a.1))):=⟨by
      rw[sQ,HS.o];simp only;rw[aK (by simp),ha,hd,hy]⟩
     have hwk:wrap64 (k:Int)=(k:Int):=yM (by omega) (by omega);have ajq:IntKind.i64.wrap (k:Int)=(k:Int):=(rH _).trans hwk;have HA:=Yu ha;have HD2:=Yu hd;have HY:=Yu hy;clear ha hd hy
     go_wp2_with (go_at_call 151;(with_reducible refine (CN.o p a _ HUA.o HBA.o HA.o).mono ?_);rintro e w3 ⟨rfl,hu,hb,hk⟩;have HU3:=Yu hu;have HB3:=Yu hb;have HX3:=Yu ((hk.2 wr.heap.size HSA.o gne.o (by simp)).trans HXA.o);have HS3:oZ (wr.heap.size<w3.heap.size):=⟨d9 HSA.o hk.1⟩;have HO3:=Yu (Kd.Dr HOA.o hk (fun _ q=>q.1));clear hu hb hk)
     go_cut [] (fun wx=>oZ (wx.heap[wr.heap.size]? = some (.cells #[.int .i64 (wrap64 (y.f0+wrap64 (st+a.1))),.int .u64 (Go.bits .xor .u64 y.f1 d.1)] 70 (0,0)))∧oZ (UP wx g A' xb.length (c-2) (NN:Int) d.2.1 d.2.2)∧oZ (Kd.R vk 70 wx w.heap.size (fun q=>q≠g) (.slice A7 l.length c7) l)∧oZ (Below w.heap.size w wx))
     case first=>
      obtain⟨ad,hh,y0,y1⟩:=uD (Kd.pR HO3.o).2.2 (k:Int) (by omega) (by have:=HLL.o;omega);rw[bf,HY.o] at y0 y1;have hk1:(k:Int)+1=(l.length:Int):=by have:=HLL.o;omega
      subst hh;obtain⟨inn,hown⟩:=Kd.IV HO3.o;have hn1:ad.block≠g:=Ku hown (Kd.Ru HO3.o (fun q hq=>hq.1));have hn2:ad.block≠wr.heap.size:=Ku hown (Kd.Ru HO3.o (fun q hq=>hq.2));have HN1:oZ ((ad.add (k*2)).block≠g∧(ad.add (k*2)).block≠wr.heap.size):=⟨by rw[add_block];exact⟨hn1,hn2⟩⟩;clear hown hn1 hn2;have hb0:(0:Int)≤(k:Int):=by omega
      have hb1:(k:Int)<(l.length:Int):=by omega
      clear hk1
      go_region_held3 (fun W=>W.cell? (ad.add (k*2))=some (.int .i64 y.f0)∧W.cell? ⟨(ad.add (k*2)).block,(ad.add (k*2)).off+1,none⟩=some (.int .u64 y.f1)) (first | exact⟨y0,y1⟩ | exact⟨z0,z1⟩ | exact⟨(cell_far (p:=⟨wr.heap.size,1,none⟩) HN1.o.2 _).trans ((cell_far (p:=⟨wr.heap.size,0,none⟩) HN1.o.2 _).trans z0),(cell_far (p:=⟨wr.heap.size,1,none⟩) (a:=⟨(ad.add (k*2)).block,(ad.add (k*2)).off+1,none⟩) HN1.o.2 _).trans ((cell_far (p:=⟨wr.heap.size,0,none⟩) (a:=⟨(ad.add (k*2)).block,(ad.add (k*2)).off+1,none⟩) HN1.o.2 _).trans z1)⟩)
       (first|(go_at_call 152;(refine (CV.o p a d _ ?s1 ?s2 HA.o HD2.o).mono ?_);(case s1=>exact HU3.o);(case s2=>exact pF HB3.o);rintro e w4 ⟨rfl,hu,hb,hk⟩;have z0:=Jk hk y0 HN1.o.1;have z1:=Jk hk y1 HN1.o.1;have hx4:=(hk.2 wr.heap.size HS3.o gne.o (by simp)).trans HX3.o;have c40:=(pq hx4 0).trans rfl;have c41:=(pq hx4 1).trans rfl;have f40:=pE hx4 0;have f41:=pE hx4 1;have HX4:=Yu hx4;have HU4:=Yu hu;have HB4:=Yu hb;have HK4:=Yu hk;clear hx4 hu hb hk))
      all_goals
       go_wp2_with fail
       go_meet
       refine⟨⟨?_⟩,⟨?_⟩,⟨?_⟩,⟨?_⟩⟩
       ·simp only[rH];exact qH (qH HX4.o 0 _ rfl) 1 _ rfl
       ·exact uU (p:=⟨wr.heap.size,1,none⟩) (uU (p:=⟨wr.heap.size,0,none⟩) HU4.o gne.o.symm _) gne.o.symm _
       ·exact Kd.sD (Kd.uG (p:=⟨wr.heap.size,1,none⟩) (Kd.uG (p:=⟨wr.heap.size,0,none⟩) (Kd.Dr (Kd.FR HO3.o) HK4.o (fun _ q=>q.1)) (fun _ q=>q.2) _) (fun _ q=>q.2) _) (fun _ q=>q.1)
       ·exact (HB4.o.setCell (p:=⟨wr.heap.size,0,none⟩) HBS.o _).setCell (p:=⟨wr.heap.size,1,none⟩) HBS.o _
     case rest=>
      obtain⟨HXB,HUt,HOt,HBt⟩:=hcut;have cx3:=(pq HUt.o 3).trans rfl;have cs0:wc.cell? ⟨wr.heap.size,0,none⟩=some (.int .i64 (wrap64 (y.f0+wrap64 (st+a.1)))):=(pq HXB.o 0).trans rfl;have cs1:wc.cell? ⟨wr.heap.size,1,none⟩=some (.int .u64 (Go.bits .xor .u64 y.f1 d.1)):=(pq HXB.o 1).trans rfl;cases hbad:d.2.2 with
      | true=>
        rw[hbad] at cx3;have HD:oZ (sQ xb (NN:Int) n=(d.2.1,true,l,wrap64 (st+a.1))):=⟨by
         have h1:=HST.o;rw[hbad,ak rfl] at h1;have h2:=DC (xb:=xb) (N:=(NN:Int)) (k:=k+1) (by rw[h1]) (n-(k+1+1));rw[show k+1+1+(n-(k+1+1))=n by omega,h1] at h2;exact h2⟩
        obtain⟨eb,ee,henc⟩:∃ eb ee,zG l=(eb,ee):=⟨_,_,rfl⟩;have acC:=Yu henc;have aft:oZ (okB eb=true):=⟨by have:=Ct l HLEN.o ac6.o;rw[henc] at this;exact this⟩;clear henc
        go_wp2_with (first
         | (go_at_call 61;(with_reducible refine (su.qP A7 c7 l _ eb ee rfl (Kd.pR HOt.o).2.2 (Kd.pR HOt.o).2.1 ac6.o HLEN.o (HT.o.below HBt.o) acC.o).mono ?_);rintro e w6 ⟨v6,rfl,hr6,hb⟩;obtain⟨A6,c6,rfl⟩:=Kd.qo hr6;have HR6:=Yu (Kd.pR hr6);have HU6:=Yu (pG HUt.o hb);have HO6:=Yu (Kd.qO HOt.o hb);have HB6:=Yu (o9 HBt.o hb);have c63:=(pq HU6.o 3).trans rfl;clear hr6 hb))
        try rw[j5]
        refine bZ (gD rfl _ _ _) rfl ?_;rw[HF.o,HD.o,aK (by simp)];exact⟨_,rfl,Kd.ug _ _ _ _ _,HB6.o⟩
      | false=>
        rw[hbad] at cx3
        go_wp2_with (first
         | ((with_reducible refine uR (b := .append) (xs := #[.tmp 70,.tmp 72]) rfl ?_);at_builtin;refine Kd.zK vk (w0:=w) w.heap.size rfl (.tmp 70) (.tmp 72) 49 70 (.agg #[.int .i64 0,.int .u64 0]) 16 rfl Tryz.underlying49 yj rfl (by decide) (by omega) (.slice A7 l.length c7) l (⟨wrap64 (y.f0+wrap64 (st+a.1)),Go.bits .xor .u64 y.f1 d.1⟩:qC) [.int .i64 (wrap64 (y.f0+wrap64 (st+a.1))),.int .u64 (Go.bits .xor .u64 y.f1 d.1)] (fun q=>q≠g) (fun _=>False) rfl ?hx ?aP (fun _ hk=>hk.elim) ?aF HOt.o HBt.o HBt.o.size ?aL ?_;(case hx=>first | rfl | (go_simp;done)|(show Value.slice _ 1 1=Value.slice _ 1 1;simp;done));(case aP=>exact Fq _ _ _ (⟨wrap64 (y.f0+wrap64 (st+a.1)),Go.bits .xor .u64 y.f1 d.1⟩:qC));(case aF=>exact fun q hq e=>by have:=rE HUt.o;omega);(case aL=>have:=HLEN.o;omega);intro v9 w9 ho hb hg9 hat;have HO9:=Yu ho;have HB9:=Yu hb;have HU9:=Yu (rQ HUt.o hg9 (Kd.JN HOt.o HUt.o (by decide)));clear ho hb hg9 hat))
        go_roundw
        case rel=>exact⟨k+1+1,l++[(⟨wrap64 (y.f0+wrap64 (st+a.1)),Go.bits .xor .u64 y.f1 d.1⟩:qC)],d.2.1,wrap64 (st+a.1),by omega,by go_num,rfl,⟨by have h1:=HST.o;rw[hbad,aK (by simp)] at h1;exact h1⟩,HO9,⟨by rw[← hbad];exact HU9.o⟩,HB9⟩
        case measure=>simp[intOf];omega
  ·obtain rfl:k=n:=by omega
   have HD:=Yu HS.o;have HUt:=HUr;have HBt:=HBr;have cx3:=(pq HUt.o 3).trans rfl;obtain⟨eb,ee,henc⟩:∃ eb ee,zG l=(eb,ee):=⟨_,_,rfl⟩;have acC:=Yu henc;have aft:oZ (okB eb=true):=⟨by have:=Ct l HLEN.o ac6.o;rw[henc] at this;exact this⟩;clear henc
   by_cases hee:ee=0
   ·subst hee;have ajt:((0:Int) != 0)=false:=rfl;cases heq:decide (eb=b) with
    | false=>
      have HEQ:=Yu heq
      go_wp2_with (first
       | (go_at_call 61;(with_reducible refine (su.qP A7 c7 l _ eb 0 rfl (Kd.pR HOt.o).2.2 (Kd.pR HOt.o).2.1 ac6.o HLEN.o (HT.o.below HBt.o) acC.o).mono ?_);rintro e w6 ⟨v6,rfl,hr6,hb⟩;obtain⟨A6,c6,rfl⟩:=Kd.qo hr6;have HR6:=Yu (Kd.pR hr6);have HU6:=Yu (pG HUt.o hb);have HO6:=Yu (Kd.qO HOt.o hb);have HB6:=Yu (o9 HBt.o hb);have c63:=(pq HU6.o 3).trans rfl;clear hr6 hb)
       | (go_at_call 38;(with_reducible refine (KR A6 c6 eb A c b false _ rfl rfl HR6.o.2.2 HR6.o.2.1 (Kd.pI HRB.o HB6.o) HC.o aft.o HOK.o HEQ.o).mono ?_);rintro e w7 ⟨rfl,hb⟩;have HB7:=Yu (o9 HB6.o hb);clear hb))
      try rw[j5]
      refine bZ (gD rfl _ _ _) rfl ?_;rw[HF.o,HD.o,aK (by rw[acC.o];intro q;have:=dR HEQ.o;exact this (gG Prod.fst q.2))];exact⟨_,rfl,Kd.ug _ _ _ _ _,HB7.o⟩
    | true=>
      have HEQ:=Yu heq
      go_wp2_with (first
       | (go_at_call 61;(with_reducible refine (su.qP A7 c7 l _ eb 0 rfl (Kd.pR HOt.o).2.2 (Kd.pR HOt.o).2.1 ac6.o HLEN.o (HT.o.below HBt.o) acC.o).mono ?_);rintro e w6 ⟨v6,rfl,hr6,hb⟩;obtain⟨A6,c6,rfl⟩:=Kd.qo hr6;have HR6:=Yu (Kd.pR hr6);have HU6:=Yu (pG HUt.o hb);have HO6:=Yu (Kd.qO HOt.o hb);have HB6:=Yu (o9 HBt.o hb);have c63:=(pq HU6.o 3).trans rfl;clear hr6 hb)
       | (go_at_call 38;(with_reducible refine (KR A6 c6 eb A c b true _ rfl rfl HR6.o.2.2 HR6.o.2.1 (Kd.pI HRB.o HB6.o) HC.o aft.o HOK.o HEQ.o).mono ?_);rintro e w7 ⟨rfl,hb⟩;have HB7:=Yu (o9 HB6.o hb);have HO7:=Yu (Kd.qO HO6.o hb);clear hb))
      try rw[j5]
      refine bZ (gD rfl _ _ _) rfl ?_;rw[HF.o,HD.o,ak ⟨rfl,by rw[acC.o];exact gG (fun z=>(z,(0:Int))) (aR HEQ.o)⟩];exact⟨_,rfl,Kd.sD HO7.o (fun _ _=>dD),HB7.o⟩
   ·have ajt:(ee != 0)=true:=bne_iff_ne.2 hee;have HEE:=Yu hee;clear hee
    go_wp2_with (first
     | (go_at_call 61;(with_reducible refine (su.qP A7 c7 l _ eb ee rfl (Kd.pR HOt.o).2.2 (Kd.pR HOt.o).2.1 ac6.o HLEN.o (HT.o.below HBt.o) acC.o).mono ?_);rintro e w6 ⟨v6,rfl,hr6,hb⟩;obtain⟨A6,c6,rfl⟩:=Kd.qo hr6;have HR6:=Yu (Kd.pR hr6);have HU6:=Yu (pG HUt.o hb);have HO6:=Yu (Kd.qO HOt.o hb);have HB6:=Yu (o9 HBt.o hb);have c63:=(pq HU6.o 3).trans rfl;clear hr6 hb))
    try rw[j5]
    refine bZ (gD rfl _ _ _) rfl ?_;rw[HF.o,HD.o,aK (by rw[acC.o];intro q;exact HEE.o (gG Prod.snd q.2))];exact⟨_,rfl,Kd.ug _ _ _ _ _,HB6.o⟩
theorem zi.qP {n:Nat}(A:Option Addr)(c:Nat)(b:List Int)(w:World)(rl:List qC)(re:Int)(hn:b.length=n)(hr:Kd.C (Kd.int .u8) w A b.length b)(hc:n≤c)(hok:okB b=true)(hlen:n≤2500)(hT:xZ w)(he:xA b=(rl,re)) :
 Calls Tryz.prog 133 #[.slice A n c] w fun e w'=>∃ v:Value,e = .returned (.tuple #[v,.int .i64 re])∧Kd.R vk 70 w' w.heap.size (fun _=>True) v rl∧Below w.heap.size w w':=by
 subst hn;have:=zi.c A c b w hr hc hok hlen hT;rw[he] at this;exact this
theorem UZ (l:List qC)(hl:l.length≤20000)(hok:∀ x∈l,Dn x)(hc:uZ l=true):okB (uJ l)=true:=by
 have h:=Ct l hl hok;rw[(OT l hok hl hc).1] at h;exact h
theorem Sv (l:List qC)(hl:l.length≤1000000):∀ d i,i+d=l.length→∀ k,d<k→rA.l0 k l l (l.length:Int) (i:Int)=some true
 | 0,i,h,k+1,hk=>by
   unfold rA.l0;rw[aK (by omega)]
 | d+1,i,h,k+1,hk=>by
   unfold rA.l0;have e:wrap64 ((i:Int)+1)=((i+1:Nat):Int):=by rw[yM (by omega) (by omega)];omega
   rw[ak (by omega),ak (by omega),ak (by omega),ak (by omega),aK (by simp),e];exact Sv l hl d (i+1) (by omega) k (by omega)
theorem V7 (A0:Option Addr)(c0:Nat)(A1:Option Addr)(c1:Nat)(l:List qC)(w:World)(hr0:Kd.C vk w A0 l.length l)(hc0:l.length≤c0)(hr1:Kd.C vk w A1 l.length l)(hc1:l.length≤c1)(hl:l.length≤1000000) :
 Calls Tryz.prog 42 #[.slice A0 l.length c0,.slice A1 l.length c1] w fun e w'=>e = .returned (.bool true)∧Below w.heap.size w w' :=
 (rA.c (l.length+1) A0 c0 l A1 c1 l true w hr0 hc0 hr1 hc1 (by
  unfold rA.f;rw[ak rfl];exact Sv l hl l.length 0 (by omega) _ (by omega))).mono fun e w' ⟨he,hd⟩=>⟨he,hd.below⟩
theorem XT.c (A0 A1 B0 B1:Option Addr)(a0 a1 b0 b1:Nat)(x:qJ)(w:World)(hr0:Kd.C wE w A0 x.f0.length x.f0)(hr1:Kd.C vk w A1 x.f1.length x.f1)(hs0:Kd.C wE w B0 x.f0.length x.f0)(hs1:Kd.C vk w B1 x.f1.length x.f1)(h1:x.f1.length≤a1)(h2:x.f1.length≤b1)(hl:x.f0.length≤1000000)(hm:x.f1.length≤1000000) :
 Calls Tryz.prog 40 #[.agg #[.slice A0 x.f0.length a0,.slice A1 x.f1.length a1],.agg #[.slice B0 x.f0.length b0,.slice B1 x.f1.length b1]] w fun e w'=>e = .returned (.bool true)∧Below w.heap.size w w':=by
 obtain⟨o0,ho0⟩:∃ o0:Obj,Obj.cells #[.slice A0 x.f0.length a0,.slice A1 x.f1.length a1] 51=o0:=⟨_,rfl⟩;obtain⟨o1,ho1⟩:∃ o1:Obj,Obj.cells #[.slice B0 x.f0.length b0,.slice B1 x.f1.length b1] 51=o1:=⟨_,rfl⟩;have HB0:=Yu (o8 (o8 (bq w.heap.size w) o0) o1);have EQ:=Yu (WA.c A0 a0 B0 b0 x.f0.length x.f0 ((w.alloc o0).alloc o1) rfl (Kd.pI hr0 HB0.o) (Kd.pI hs0 HB0.o) hl);have ES:=Yu (fun W (hb:Below w.heap.size w W)=>V7 A1 a1 B1 b1 x.f1 W (Kd.pI hr1 hb) h1 (Kd.pI hs1 hb) h2 hm);have H0:oZ (((w.alloc o0).alloc o1).heap[w.heap.size]? = some o0):=⟨pU (qG w o0) o1⟩;have H1:oZ (((w.alloc o0).alloc o1).heap[w.heap.size+1]? = some o1):=⟨by have:=qG (w.alloc o0) o1;rwa [eG] at this⟩;subst ho0 ho1;clear hr0 hr1 hs0 hs1 h1 h2;generalize x.f0.length=n0 at *;generalize x.f1.length=n1 at *
 go_enter Tryz.func40,Tryz.ntmps40
 go_wp2_with (first|(go_at_call 41;(with_reducible refine EQ.o.mono ?_);rintro e w1 ⟨rfl,hb⟩;have HB1:=Yu (o9 HB0.o hb);have x1:=(pq (pG H0.o hb) 1).trans rfl;have y1:=(pq (pG H1.o hb) 1).trans rfl;clear hb)|(go_at_call 42;(with_reducible refine (ES.o _ HB1.o).mono ?_);rintro e w2 ⟨rfl,hb⟩;have HB2:=Yu (o9 HB1.o hb);clear hb))
 go_ret;exact⟨rfl,HB2.o⟩
def Tp (l:List qJ):Prop:=∀ x∈l,x.f0.length≤1000000∧x.f1.length≤1000000
theorem XF.c (A B:Option Addr)(c d n:Nat)(l:List qJ)(w:World)(hn:l.length=n)(hr:Kd.C yD w A n l)(hs:Kd.C yD w B n l)(hl:n≤1000000)(hok:Tp l) :
 Calls Tryz.prog 39 #[.slice A n c,.slice B n d,.func (.func 40) #[] #[]] w fun e w'=>e = .returned (.bool true)∧Below w.heap.size w w':=by
 subst hn;have HR:=Yu hr;have HS:=Yu hs;have HOK:=Yu hok;clear hr hs hok;have hnn:((l.length:Int) != (l.length:Int))=false:=by simp
 go_enter Tryz.func39,Tryz.ntmps39
 go_wp2
 go_loopg [17] l.length (fun kx s17 wr=>∃ (k:Nat),s17 = .int .i64 k∧k≤l.length∧l.length-k≤kx∧oZ (Below w.heap.size w wr))
 case atStart=>exact⟨0,rfl,bV _,aD _,⟨bq _ _⟩⟩
 case round=>
  obtain⟨k,rfl,hk,hkx,HB⟩:=hrel
  by_cases hlt:k<l.length
  ·obtain⟨ad,A0,c0,A1,c1,rfl,x0,x1,l0,g0,l1,g1⟩:=uY (Kd.pI HR.o HB.o) (k:Int) (by omega) (by omega);obtain⟨ae,B0,d0,B1,d1,rfl,y0,y1,m0,h0,m1,h1⟩:=uY (Kd.pI HS.o HB.o) (k:Int) (by omega) (by omega);rw[bf] at x0 x1 y0 y1;have hkz:(k:Int)<(l.length:Int):=by omega
   have hx:(pK l (k:Int)).f0.length≤1000000∧(pK l (k:Int)).f1.length≤1000000:=by
    have e:pK l (k:Int)=l[k]:=by simp[pK,bn,aQ hlt]
    rw[e];exact HOK.o _ (eF hlt)
   generalize pK l (k:Int)=x at *;have EE:=Yu (fun W (hb:Below wr.heap.size wr W)=>XT.c A0 A1 B0 B1 c0 c1 d0 d1 x W (Kd.pI g0 hb) (Kd.pI g1 hb) (Kd.pI h0 hb) (Kd.pI h1 hb) l1 m1 hx.1 hx.2);obtain⟨o0,ho0⟩:∃ o0:Obj,Obj.cells #[.slice A0 x.f0.length c0,.slice A1 x.f1.length c1] 51=o0:=⟨_,rfl⟩;obtain⟨o1,ho1⟩:∃ o1:Obj,Obj.cells #[.slice B0 x.f0.length d0,.slice B1 x.f1.length d1] 51=o1:=⟨_,rfl⟩;have HB0:=Yu (o8 (o8 (bq wr.heap.size wr) o0) o1);have z0:=qm (o8 (bq wr.heap.size wr) o0) y0;have z1:=qm (o8 (bq wr.heap.size wr) o0) y1;subst ho0 ho1;clear g0 g1 h0 h1 l0 l1 m0 m1 y0 y1 hx;generalize x.f0.length=n0 at *;generalize x.f1.length=n1 at *
   go_wp2_with (first|(go_at_call 40;(with_reducible refine (EE.o _ HB0.o).mono ?_);rintro e w2 ⟨rfl,hb⟩;have HB2:=Yu (o9 HB.o (o9 HB0.o hb));clear hb))
   go_roundg (l.length-(k+1))
   case measure=>omega
   case rel=>exact⟨k+1,by go_num,by omega,aD _,HB2⟩
  ·obtain rfl:k=l.length:=by omega
   have hkz:¬ (l.length:Int)<(l.length:Int):=by omega
   go_wp2;go_ret;exact⟨rfl,HB.o⟩
theorem Pj.c (A B:Option Addr)(c d n:Nat)(l:List qJ)(w:World)(hn:l.length=n)(hr:Kd.C yD w A n l)(hs:Kd.C yD w B n l)(hl:n≤1000000)(hok:Tp l) :
 Calls Tryz.prog 15 #[.slice A n c,.slice B n d] w fun e w'=>e = .returned (.bool true)∧Below w.heap.size w w':=by
 have EE:=Yu (XF.c A B c d n l w hn hr hs hl hok);clear hn hr hs hok
 go_enter Tryz.func15,Tryz.ntmps15
 go_wp2_with (first|(go_at_call 39;(with_reducible refine EE.o.mono ?_);rintro e w2 ⟨rfl,hb⟩;have HB2:=Yu hb;clear hb))
 go_ret;exact⟨rfl,HB2.o⟩
end Go.Proofs.Y.PA
