/- Of the law ZHQDumpReads. -/
import Derived.Test.YtcgbgifbajdhpaaGreatDoorZH33
import Derived.Test.YtcgbgifbajdhpaaGreatDoorZH30
set_option linter.unusedVariables false
set_option linter.unusedSimpArgs false
set_option maxHeartbeats 16000000
set_option maxRecDepth 1000000
namespace Go
abbrev nk:=@List.take_add
end Go
namespace Go.Proofs.Y.PA
open Go.RowKit Go.Proofs.Y.G Go.Proofs.YW.oO Go.Proofs.YW.pq Go.Proofs.YW.pz
theorem Vs (l:List Int):∀ V,wI V l=V*256 ^ l.length+wI 0 l:=by
 induction l with
 | nil=>intro V;simp[wI]
 | cons x l ih=>
   intro V;rw[Bn,Bn,ih,ih (0*256+x.toNat),bq,jk,gH,dK,gI,mZ,dX 256,jM]
theorem Kn (l:List Int)(h:okB l=true):∀ V,rD (wI V l) l.length=l:=by
 induction l with
 | nil=>intro V;rfl
 | cons x l ih=>
   intro V;have hx:=qV.1 h x cO;have hl:okB l=true:=tC h (fun y hy=>dh _ hy);have h1:=Aa l (qV.1 hl) 0 0 (by decide);rw[dK] at h1;rw[Bn,bq,rD,ih hl,Vs,dX,nW (Ul _),nM h1];congr 1;omega
theorem Vt {b:List Int}{kd nm s:Nat}(hok:okB b=true)(h13:13≤b.length)(h0:rd b 0=208)(h1:rd b 1=215)(h2:rd b 2=(kd:Int))(hk:1≤kd∧kd≤3)(hs:wI 0 ((b.drop 7).take 2)=s)(hs1:s≤1000)(hs2:13+s≤b.length)(hn:wI 0 ((b.drop 3).take 4)=nm) :
 vU b=if b.take (13+s)=xH kd nm ((b.drop 9).take s) then some ⟨kd,nm,(b.drop 9).take s⟩ else none:=by
 have hp:(b.take (9+s)).drop 9=(b.drop 9).take s:=by rw[om];congr 1;omega
 have hpl:((b.drop 9).take s).length=s:=by rw[aW,aX];omega
 have e4:rD nm 4=(b.drop 3).take 4:=by
  have h:=Kn ((b.drop 3).take 4) (tC hok (fun x hx=>bV (bT hx))) 0;rw[hn,show ((b.drop 3).take 4).length=4 by rw[aW,aX];omega] at h;exact h
 have e2:rD s 2=(b.drop 7).take 2:=by
  have h:=Kn ((b.drop 7).take 2) (tC hok (fun x hx=>bV (bT hx))) 0;rw[hs,show ((b.drop 7).take 2).length=2 by rw[aW,aX];omega] at h;exact h
 have e3:b.take 3=[208,215,(kd:Int)]:=by
  match b,h13 with
  | x::y::z::b,_=>
    simp[rd] at h0 h1 h2;simp[h0,h1,h2]
 have eH:DW kd nm ((b.drop 9).take s)=b.take (9+s):=by
  rw[DW,hpl,e4,e2,← e3];have a1:b.take (3+4)=b.take 3++(b.drop 3).take 4:=nk ..;have a2:b.take (7+2)=b.take 7++(b.drop 7).take 2:=nk ..;simp only[Nat.reduceAdd] at a1 a2;have a3:b.take (9+s)=b.take 9++(b.drop 9).take s:=nk ..;rw[a3,a2,a1]
 have eT:b.take (13+s)=b.take (9+s)++(b.drop (9+s)).take 4:=by
  rw[show 13+s=(9+s)+4 by omega];exact nk ..
 have eC:(b.drop (9+s)).take 4=rD (wI 0 ((b.drop (9+s)).take 4)) 4:=by
  have h:=Kn ((b.drop (9+s)).take 4) (tC hok (fun x hx=>bV (bT hx))) 0;rw[show ((b.drop (9+s)).take 4).length=4 by rw[aW,aX];omega] at h;exact h.symm
 have hc:=Gs (b:=b.take (9+s)) (tC hok (fun x hx=>bT hx));have hv:wI 0 ((b.drop (9+s)).take 4)<4294967296:=by
  have h:=Aa ((b.drop (9+s)).take 4) (fun x hx=>qV.1 hok x (bV (bT hx))) 0 0 (by decide);rw[show ((b.drop (9+s)).take 4).length=4 by rw[aW,aX];omega] at h;exact h
 rw[vU,av (by omega),av (by omega),hs,av (by omega),xH,eH,eT,hp,hn,h2,aG]
 by_cases hcc:Dn (b.take (9+s))=wI 0 ((b.drop (9+s)).take 4)
 ·rw[av (by simpa using hcc),au (by rw[eC,hcc])]
 ·rw[au hcc,av];intro h;rw[eC] at h;have h1:=List.append_cancel_left h;have h2:=eU (wI 0) h1;rw[xY hv,xY hc] at h2;exact hcc h2.symm
theorem WE.c (A:Option Addr)(c n:Nat)(b:List Int)(i:Nat)(w:World)(hn:b.length=n)(hr:Kd.C (Kd.int .u8) w A n b)(hc:n≤c)(hok:okB b=true)(hi:1≤i∧i≤4)(h4:i≤n)(A':Option Addr)(c' m:Nat)(hcut:∀ W:World,(Instr.slice 24 (.slice A n c) (some (.int .i64 i)) none none).run Tryz.prog W = .ok (.slice A' m c') W) :
 Calls Tryz.prog 65 #[.slice A n c,.int .i64 i] w fun e w'=>e = .returned (.tuple #[.int .i64 ((wI 0 (b.take i):Nat):Int),.slice A' m c',.bool true])∧Below w.heap.size w w':=by
 subst hn;have h4i:¬ ((b.length:Int)<(i:Int)):=by omega
 have h4l:(b.take i).length=i:=by rw[aW];omega
 have akl:wI 0 (b.take i)<4294967296:=by
  have h:=Aa (b.take i) (fun x hx=>qV.1 hok x (bT hx)) 0 0 (by decide);rw[dK,h4l] at h;exact dA h (by have:=dH (show 0<256 by decide) hi.2;simpa using this)
 have akB:=Vw A b.length c i (by omega) hc (i:Int) rfl;have GET:oM (Calls Tryz.prog 97 #[.slice A i c] w fun e w'=>e = .returned (.tuple #[.int .u64 ((wI 0 (b.take i):Nat):Int),.bool true])∧Below w.heap.size w w'):=⟨by
  have h1:=tT.c A c (b.take i) ((wI 0 (b.take i):Nat):Int) true w (Kd.wZ hr (by omega)) (by omega) (by rw[tT.f,vI.f,au (tC hok (fun x hx=>bT hx)),au (by omega)]);rw[h4l] at h1;exact h1.mono fun e w' ⟨he,hd⟩=>⟨he,hd.below⟩⟩
 have hwv:IntKind.i64.wrap ((wI 0 (b.take i):Nat):Int)=((wI 0 (b.take i):Nat):Int):=by rw[bD];omega
 generalize wI 0 (b.take i)=N at *;clear hr hok h4
 go_enter Tryz.func65,Tryz.ntmps65
 go_wp2_with (first|(go_at_call 97;(with_reducible refine GET.o.mono ?_);rintro e w1 ⟨rfl,hb⟩;have HB1:=Y7 hb;clear hb))
 go_region
 all_goals go_wp2
 all_goals (refine bf (fB rfl _ _ _) rfl ?_)
 all_goals exact⟨rfl,q9 HB1.o⟩
theorem yQ (tmps:Array Value)(W:World)(r:Nat)(x0 x1 x2:Value)(h:W.heap[r]? = some (.cells #[x0,x1,x2] 127 (0,0)))(h2:tmps.getD 2 undef = .pointer (some ⟨r,0,none⟩)) :
 (results Tryz.f80 tmps).run Tryz.prog W = .ok (.tuple #[.agg #[x0,x1,x2],tmps.getD 3 undef]) W:=by
 have c0:=(oQ h 0).trans rfl;have c1:=(oQ h 1).trans rfl;have c2:=(oQ h 2).trans rfl;simp at h2;simp[results,Tryz.f80,go_sem,h2,c0,c1,c2]
theorem first.bad (A:Option Addr)(c n:Nat)(b:List Int)(w:World)(hn:b.length=n)(hr:Kd.C (Kd.int .u8) w A n b)
 (hbad:n<13∨13≤n∧(rd b 0≠208∨rd b 0=208∧(rd b 1≠215∨rd b 1=215∧(rd b 2<1∨¬ rd b 2<1∧3<rd b 2)))) :
 Calls Tryz.prog 80 #[.slice A n c] w (uz w b):=by
 have HX:=Y7 (qx w (.cells #[.int .i64 0,.int .i64 0,.slice none 0 0] 127 (0,0)));have HBA:=Y7 (oN (aU w.heap.size w) (.cells #[.int .i64 0,.int .i64 0,.slice none 0 0] 127 (0,0)));have q0:=(oQ HX.o 0).trans rfl;have q1:=(oQ HX.o 1).trans rfl;have q2:=(oQ HX.o 2).trans rfl;have y0:=oW HX.o 0;have y1:=oW HX.o 1;have y2:=oW HX.o 2;rcases hbad with h13 | ⟨h13,hbad⟩
 ·have HE:oM (vU b=none):=⟨by rw[vU,au (by omega)]⟩;have ahy:((n:Int)<13):=by omega
  clear hr h13 hn
  go_enter Tryz.func80,Tryz.ntmps80
  go_wp2_with fail
  refine bf (yQ _ _ w.heap.size _ _ _ HX.o rfl) rfl ?_;exact uz.none_ HE.o HBA.o
 ·have HE:oM (vU b=none):=⟨by rw[vU,av (by omega),au (by omega)]⟩;have ahy:¬ ((n:Int)<13):=by omega
  have hn0:(0:Int)<(n:Int):=by omega
  have hn1:(1:Int)<(n:Int):=by omega
  have hn2:(2:Int)<(n:Int):=by omega
  obtain⟨ad,rfl,hc0⟩:=G9 hr 0 (by omega);obtain⟨_,e1,hc1⟩:=G9 hr 1 (by omega);obtain⟨_,e2,hc2⟩:=G9 hr 2 (by omega);cases e1;cases e2;have z0:=qH (.cells #[.int .i64 0,.int .i64 0,.slice none 0 0] 127 (0,0)) (show w.cell? ad=some (.int .u8 (rd b 0)) from hc0);have z1:=qH (.cells #[.int .i64 0,.int .i64 0,.slice none 0 0] 127 (0,0)) (show w.cell? ⟨ad.block,ad.off+1,none⟩=some (.int .u8 (rd b 1)) from hc1);have z2:=qH (.cells #[.int .i64 0,.int .i64 0,.slice none 0 0] 127 (0,0)) (show w.cell? ⟨ad.block,ad.off+2,none⟩=some (.int .u8 (rd b 2)) from hc2);clear hr hc0 hc1 hc2 h13 hn;generalize rd b 0=k0 at *;generalize rd b 1=k1 at *;generalize rd b 2=k2 at *;rcases hbad with h0 | ⟨h0,h1 | ⟨h1,h2 | ⟨h2,h3⟩⟩⟩
  ·have b0:(k0 != 208)=true:=by simpa using h0
   clear h0
   go_enter Tryz.func80,Tryz.ntmps80
   go_wp2_with fail
   refine bf (yQ _ _ w.heap.size _ _ _ HX.o rfl) rfl ?_;exact uz.none_ HE.o HBA.o
  ·subst h0;have b1:(k1 != 215)=true:=by simpa using h1
   clear h1
   go_enter Tryz.func80,Tryz.ntmps80
   go_wp2_with fail
   refine bf (yQ _ _ w.heap.size _ _ _ HX.o rfl) rfl ?_;exact uz.none_ HE.o HBA.o
  ·subst h0 h1
   go_enter Tryz.func80,Tryz.ntmps80
   go_wp2_with fail
   refine bf (yQ _ _ w.heap.size _ _ _ HX.o rfl) rfl ?_;exact uz.none_ HE.o HBA.o
  ·subst h0 h1
   go_enter Tryz.func80,Tryz.ntmps80
   go_wp2_with fail
   refine bf (yQ _ _ w.heap.size _ _ _ HX.o rfl) rfl ?_;exact uz.none_ HE.o HBA.o
theorem first.c (A:Option Addr)(c n:Nat)(b:List Int)(w:World)(hn:b.length=n)(hr:Kd.C (Kd.int .u8) w A n b)(hc:n≤c)(hok:okB b=true)(hlen:n≤100000000) :
 Calls Tryz.prog 80 #[.slice A n c] w (uz w b):=by
 by_cases hbad:n<13∨13≤n∧(rd b 0≠208∨rd b 0=208∧(rd b 1≠215∨rd b 1=215∧(rd b 2<1∨¬ rd b 2<1∧3<rd b 2)))
 ·exact first.bad A c n b w hn hr hbad
 have mixed:Tryz.prog.follows .mixedOrders=true:=by kernel_rfl
 have h13:13≤n:=by omega
 have h0:rd b 0=208:=by omega
 have h1:rd b 1=215:=by omega
 obtain⟨kd,hkd⟩:∃ kd:Nat,rd b 2=(kd:Int):=⟨(rd b 2).toNat,by omega⟩;have hk:1≤kd∧kd≤3:=by omega
 obtain⟨s,hs⟩:∃ s,wI 0 ((b.drop 7).take 2)=s:=⟨_,rfl⟩;obtain⟨nm,hnm⟩:∃ nm,wI 0 ((b.drop 3).take 4)=nm:=⟨_,rfl⟩;have hbl:∀ x∈b,0≤x∧x<256:=qV.1 hok;have anh:s<65536:=by
  have h:=Aa ((b.drop 7).take 2) (fun x hx=>hbl x (bV (bT hx))) 0 0 (by decide);rw[hs,show ((b.drop 7).take 2).length=2 by rw[aW,aX];omega] at h;exact h
 have aog:nm<4294967296:=by
  have h:=Aa ((b.drop 3).take 4) (fun x hx=>hbl x (bV (bT hx))) 0 0 (by decide);rw[hnm,show ((b.drop 3).take 4).length=4 by rw[aW,aX];omega] at h;exact h
 have HX:=Y7 (qx w (.cells #[.int .i64 0,.int .i64 0,.slice none 0 0] 127 (0,0)));have HBA:=Y7 (oN (aU w.heap.size w) (.cells #[.int .i64 0,.int .i64 0,.slice none 0 0] 127 (0,0)));obtain⟨ad,rfl,hc0⟩:=G9 hr 0 (by omega);obtain⟨_,e1,hc1⟩:=G9 hr 1 (by omega);obtain⟨_,e2,hc2⟩:=G9 hr 2 (by omega);cases e1;cases e2;have hc2':w.cell? ⟨ad.block,ad.off+2,none⟩=some (.int .u8 (kd:Int)):=hkd ▸ hc2;have z0:=qH (.cells #[.int .i64 0,.int .i64 0,.slice none 0 0] 127 (0,0)) (show w.cell? ad=some (.int .u8 208) from h0 ▸ hc0);have z1:=qH (.cells #[.int .i64 0,.int .i64 0,.slice none 0 0] 127 (0,0)) (show w.cell? ⟨ad.block,ad.off+1,none⟩=some (.int .u8 215) from h1 ▸ hc1);have z2:=qH (.cells #[.int .i64 0,.int .i64 0,.slice none 0 0] 127 (0,0)) hc2';have anE:=Y7 hc2';subst hn;obtain⟨A3,c3,r3,hr3,HC3,hc3,_,agS⟩:=D8 (some ad) c b 3 (by omega) hc;have agJ:=agS (3:Int) rfl;have hl3:r3.length=b.length-3:=by rw[hr3.o,aX]
 obtain⟨A7,c7,r7,hr7,HC7,hc7,_,agT⟩:=D8 A3 c3 r3 4 (by omega) hc3;have ah4:=agT (4:Int) rfl;have afx:r7=b.drop 7:=by rw[hr7.o,hr3.o,gZ]
 have hl7:r7.length=b.length-7:=by rw[afx,aX]
 obtain⟨A9,c9,r9,hr9,HC9,hc9,_,agU⟩:=D8 A7 c7 r7 2 (by omega) hc7;have ah5:=agU (2:Int) rfl;have ai1:r9=b.drop 9:=by rw[hr9.o,afx,gZ]
 have hl9:r9.length=b.length-9:=by rw[ai1,aX]
 have I4:oM (∀ W,Below w.heap.size w W→Calls Tryz.prog 65 #[.slice A3 r3.length c3,.int .i64 4] W fun e w'=>e = .returned (.tuple #[.int .i64 (nm:Int),.slice A7 r7.length c7,.bool true])∧Below W.heap.size W w'):=⟨fun W hb=>by
  have h:=WE.c A3 c3 r3.length r3 4 W rfl (HC3.o W (Kd.o9 hr hb)) hc3 (tC hok (fun x hx=>by rw[hr3.o] at hx;exact bV hx)) (by decide) (by omega) A7 c7 r7.length ah4;rw[hr3.o,hnm,← hr3.o] at h;exact h⟩
 have I2:oM (∀ W,Below w.heap.size w W→Calls Tryz.prog 65 #[.slice A7 r7.length c7,.int .i64 2] W fun e w'=>e = .returned (.tuple #[.int .i64 (s:Int),.slice A9 r9.length c9,.bool true])∧Below W.heap.size W w'):=⟨fun W hb=>by
  have h:=WE.c A7 c7 r7.length r7 2 W rfl (HC7.o W (HC3.o W (Kd.o9 hr hb))) hc7 (tC hok (fun x hx=>by rw[afx] at hx;exact bV hx)) (by decide) (by omega) A9 c9 r9.length ah5;rw[afx,hs,← afx] at h;exact h⟩
 have HR:=Y7 hr;have HR9:oM (∀ W,Below w.heap.size w W→Kd.C (Kd.int .u8) W A9 r9.length r9):=⟨fun W hb=>HC9.o W (HC7.o W (HC3.o W (Kd.o9 hr hb)))⟩;have HOK:=Y7 hok;have HLB:oM (13≤b.length):=⟨h13⟩;have HEQ:=Y7 (fun (akC:s≤1000) (hl:13+s≤b.length)=>Vt hok h13 h0 h1 hkd hk hs akC hl hnm);have HNO:oM (1000<s∨b.length<13+s→vU b=none):=⟨fun h=>by rw[vU,av (by omega),av (by omega),hs,au h]⟩;have ahy:¬ ((b.length:Int)<13):=by omega
 have hn0:(0:Int)<(b.length:Int):=by omega
 have hn1:(1:Int)<(b.length:Int):=by omega
 have hn2:(2:Int)<(b.length:Int):=by omega
 have hk1:¬ ((kd:Int)<1):=by omega
 have hk3:¬ ((kd:Int)>3):=by omega
 have hws:IntKind.i64.wrap ((s:Int)+4)=(s:Int)+4:=by rw[bD];omega
 have HP9:oM ((b.drop 9).take s=r9.take s):=⟨by rw[ai1]⟩;have HL9:oM (r9.length=b.length-9):=⟨hl9⟩;clear hbad h0 h1 hkd hs hnm hbl hc0 hc1 hc2 hc2' hr hok agS agT agU hr3 hr7 afx hr9 ai1 HC3 HC7 HC9 hl3 hl7 hl9 ah4 ah5;generalize hm9:r9.length=m9 at *;have HM9:=Y7 hm9;generalize r3.length=m3 at *;generalize r7.length=m7 at *
 by_cases hb1:1000<s
 ·have HE:=Y7 (HNO.o (.inl hb1));have anF:((s:Int)>1000):=by omega
  clear hb1
  go_enter Tryz.func80,Tryz.ntmps80
  go_wp2_with (first|(go_at_call 65;(with_reducible refine (I4.o _ HBA.o).mono ?_);rintro e w2 ⟨rfl,hb⟩;have HB2:=Y7 (oP HBA.o hb);have HX2:=Y7 (o7 HX.o hb);clear hb)|(go_at_call 65;(with_reducible refine (I2.o _ HB2.o).mono ?_);rintro e W1 ⟨rfl,hb⟩;have HB3:=Y7 (oP HB2.o hb);have HX3:=Y7 (o7 HX2.o hb);have q0:=(oQ HX3.o 0).trans rfl;have q1:=(oQ HX3.o 1).trans rfl;have q2:=(oQ HX3.o 2).trans rfl;have y0:=oW HX3.o 0;have y1:=oW HX3.o 1;have y2:=oW HX3.o 2;clear hb))
  refine bf (yQ _ _ w.heap.size _ _ _ (vM HX3.o _ _ _) rfl) rfl ?_;exact uz.none_ HE.o (uS HB3.o)
 have anF:¬ ((s:Int)>1000):=by omega
 by_cases hb2:b.length<13+s
 ·have HE:=Y7 (HNO.o (.inr hb2));have anG:((m9:Int)<(s:Int)+4):=by have:=HL9.o;omega
  clear hb1 hb2
  go_enter Tryz.func80,Tryz.ntmps80
  go_wp2_with (first|(go_at_call 65;(with_reducible refine (I4.o _ HBA.o).mono ?_);rintro e w2 ⟨rfl,hb⟩;have HB2:=Y7 (oP HBA.o hb);have HX2:=Y7 (o7 HX.o hb);clear hb)|(go_at_call 65;(with_reducible refine (I2.o _ HB2.o).mono ?_);rintro e W1 ⟨rfl,hb⟩;have HB3:=Y7 (oP HB2.o hb);have HX3:=Y7 (o7 HX2.o hb);have q0:=(oQ HX3.o 0).trans rfl;have q1:=(oQ HX3.o 1).trans rfl;have q2:=(oQ HX3.o 2).trans rfl;have y0:=oW HX3.o 0;have y1:=oW HX3.o 1;have y2:=oW HX3.o 2;clear hb))
  refine bf (yQ _ _ w.heap.size _ _ _ (vM HX3.o _ _ _) rfl) rfl ?_;exact uz.none_ HE.o (uS HB3.o)
 have anG:¬ ((m9:Int)<(s:Int)+4):=by have:=HL9.o;omega
 have ahF:=Y7 (HEQ.o (by omega) (by omega));rw[HP9.o] at ahF;have hs9:s≤m9:=by have:=HL9.o;omega
 have hcs:=Vw A9 m9 c9 s hs9 hc9 (s:Int) rfl;have hcx:=Vw (some ad) b.length c (13+s) (by omega) hc ((13+s:Nat):Int) rfl;obtain⟨p,hp⟩:∃ p,r9.take s=p:=⟨_,rfl⟩;have hpl:p.length=s:=by rw[← hp,aW,HM9.o];omega
 have HPL:=Y7 hpl;have HPO:oM (okB p=true):=⟨tC HOK.o (fun x hx=>by rw[← hp] at hx;have h:=bT hx;have h2:r9.take s=(b.drop 9).take s:=HP9.o.symm;rw[← h2] at HP9;exact bV (bT (h2 ▸ hx)))⟩;have HPW:oM (∀ W,Below w.heap.size w W→Kd.C (Kd.int .u8) W A9 s p):=⟨fun W hb=>by
  have h:=HR9.o W hb;rw[← HM9.o] at h;have h2:=Kd.wZ h (m:=s) (by rw[HM9.o];exact hs9);rw[hp,hpl] at h2;exact h2⟩
 rw[hp] at ahF;have hkw:IntKind.i64.wrap (kd:Int)=(kd:Int):=by rw[bD];omega
 clear hb1 hb2 HEQ HNO HP9 hp hpl HR9
 go_enter Tryz.func80,Tryz.ntmps80
 go_wp2_with (first|(go_at_call 65;(with_reducible refine (I4.o _ HBA.o).mono ?_);rintro e w2 ⟨rfl,hb⟩;have HB2:=Y7 (oP HBA.o hb);have HX2:=Y7 (o7 HX.o hb);clear hb)|(go_at_call 65;(with_reducible refine (I2.o _ HB2.o).mono ?_);rintro e W1 ⟨rfl,hb⟩;have HB3:=Y7 (oP HB2.o hb);have HX3:=Y7 (o7 HX2.o hb);have q0:=(oQ HX3.o 0).trans rfl;have q1:=(oQ HX3.o 1).trans rfl;have q2:=(oQ HX3.o 2).trans rfl;have y0:=oW HX3.o 0;have y1:=oW HX3.o 1;have y2:=oW HX3.o 2;clear hb))
 clear q0 q1 q2 y0 y1 y2;have HC2:=Y7 (pW HB3.o anE.o);have HPC:=Y7 (fun (W:World) (hb:Below W1.heap.size W1 W)=>HPW.o W (oP HB3.o hb));refine DR (n:=13) (ds:=[]) (S:=fun W'=>Below W1.heap.size W1 W') #[false,false,false,false,false,false,false,false,false,false,false,false,false] mixed rfl rfl (q9 (aU _ _)) (fun hS=>?_);refine rC (i:=0) (N:=some 62) (v:=?_) (a':=?_) #[true,false,false,false,false,false,false,false,false,false,false,false,false] rfl rfl (by kernel_rfl) (fun _ _ _ h=>h) (Or.inl ⟨by rfl,?_⟩) ?_ ?_
 rotate_left
 ·intro w';go_simp
  try (with_reducible rfl)
 rotate_left
 ·simp only[Act.put,ah,ak,aj];rfl
 refine rC (i:=1) (N:=some 63) (v:=?_) (a':=?_) #[true,true,false,false,false,false,false,false,false,false,false,false,false] rfl rfl (by kernel_rfl) (fun _ _ _ h=>h) (Or.inl ⟨by rfl,?_⟩) ?_ ?_
 rotate_left
 ·intro w';go_simp
  try (with_reducible rfl)
 rotate_left
 ·simp only[Act.put,ah,ak,aj];rfl
 refine EI (i:=2) (N:=some 64) (v:=?_) (a':=?_) #[true,true,true,false,false,false,false,false,false,false,false,false,false] rfl rfl (by kernel_rfl) (fun _ _ _ h=>h) (Or.inl ⟨by rfl,?_⟩) hS ?_ ?_
 rotate_left
 ·rintro w' hS2;have c1:=pW hS2 HC2.o;go_simp
  try (with_reducible rfl)
 rotate_left
 ·simp only[Act.put,ah,ak,aj];rfl
 refine rC (i:=3) (N:=some 65) (v:=?_) (a':=?_) #[true,true,true,true,false,false,false,false,false,false,false,false,false] rfl rfl (by kernel_rfl) (fun _ _ _ h=>h) (Or.inl ⟨by rfl,?_⟩) ?_ ?_
 rotate_left
 ·intro w';go_simp
  try (with_reducible rfl)
 rotate_left
 ·simp only[Act.put,ah,ak,aj];rfl
 refine rC (i:=4) (N:=some 66) (v:=?_) (a':=?_) #[true,true,true,true,true,false,false,false,false,false,false,false,false] rfl rfl (by kernel_rfl) (fun _ _ _ h=>h) (Or.inl ⟨by rfl,?_⟩) ?_ ?_
 rotate_left
 ·intro w';go_simp
  try (with_reducible rfl)
 rotate_left
 ·simp only[Act.put,ah,ak,aj];rfl
 refine rC (i:=6) (N:=some 68) (v:=?_) (a':=?_) #[true,true,true,true,true,false,true,false,false,false,false,false,false] rfl rfl (by kernel_rfl) (fun _ _ _ h=>h) (Or.inl ⟨by rfl,?_⟩) ?_ ?_
 rotate_left
 ·intro w';go_simp
  try (with_reducible rfl)
 rotate_left
 ·simp only[Act.put,ah,ak,aj];rfl
 refine rC (i:=7) (N:=some 69) (v:=?_) (a':=?_) #[true,true,true,true,true,false,true,true,false,false,false,false,false] rfl rfl (by kernel_rfl) (fun _ _ _ h=>h) (Or.inl ⟨by rfl,?_⟩) ?_ ?_
 rotate_left
 ·intro w';go_simp
  try (with_reducible rfl)
 rotate_left
 ·simp only[Act.put,ah,ak,aj];rfl
 refine rC (i:=8) (N:=some 70) (v:=?_) (a':=?_) #[true,true,true,true,true,false,true,true,true,false,false,false,false] rfl rfl (by kernel_rfl) (fun _ _ _ h=>h) (Or.inl ⟨by rfl,?_⟩) ?_ ?_
 rotate_left
 ·intro w';go_simp
  try (with_reducible rfl)
 rotate_left
 ·simp only[Act.put,ah,ak,aj];rfl
 have HB4:=Y7 hS;clear hS;generalize W1.drew=w4 at HB4 ⊢;refine TM (σ:=Value × Value × Nat) 1 #[true,true,true,true,true,true,true,true,true,true,true,true,false] (fun z=>[(67,z.1),(71,z.2.1),(72,.agg #[.int .i64 kd,.int .i64 nm,z.2.1]),(9,.pointer (some ⟨z.2.2,0,none⟩))]) (fun z W=>oM (Kd.R (Kd.int .u8) 5 W W1.heap.size (fun _=>True) z.2.1 p)∧oM (Below W1.heap.size W1 W)∧oM (W.heap[z.2.2]? = some (.cells #[.int .i64 0,.int .i64 0,.slice none 0 0] 127 (0,0)))∧oM (some z.2.2≠z.2.1.ownBlock)∧oM (W1.heap.size≤z.2.2)) ?_ (fun HC=>?_)
 rotate_left
 ·refine RV (i:=5) (j:=11) (Ni:=some 67) (Nj:=some 9) #[true,true,true,true,true,true,true,true,true,false,false,false,false] #[true,true,true,true,true,false,true,true,true,false,false,true,false] rfl rfl rfl rfl (by kernel_rfl) (by decide) (by decide) (fun K hK=>?_) (fun K hK=>?_)
  ·refine wF (v:=?_) (w1:=?_) (by rfl) rfl ?_ ?_
   rotate_left;rotate_left
   ·go_simp
    refine⟨?_,?_⟩<;>rfl
   have hE:=Y7 (wu (Kd.int .u8) 5 W1.heap.size w4 (fun _=>True) HB4.o.size bE);have HB5:=Y7 (oN HB4.o (.cells #[] 5 (0,0)));refine hK.o _ _ HB5.o (fun hS9=>?_);clear hK hS9;clear K;refine tu (a':=?_) ?_ ?_
   rotate_left
   ·show Act.put _ (some 67) _=_;simp only[Act.put,ah,ak,aj];rfl
   refine RV (i:=9) (j:=11) (Ni:=some 71) (Nj:=some 9) #[true,true,true,true,true,true,true,true,true,true,false,false,false] #[true,true,true,true,true,true,true,true,true,false,false,true,false] rfl rfl rfl rfl (by kernel_rfl) (by decide) (by decide) (fun K hK=>?_) (fun K hK=>?_)
   ·refine Kd.qI (Kd.int .u8) (w0:=W1) W1.heap.size (by rfl) (.tmp 67) (.tmp 70) 24 5 (.int .u8 0) 1 rfl Tryz.underlying24 rW rfl (by decide) (by omega) _ [] p A9 s c9 (fun _=>True) (fun _=>False) rfl rfl hE.o (HPC.o _ HB5.o) (fun x cs hx=>hx) (fun _ hk=>hk.elim) (fun _ _=>bE) HB5.o ?hb ?hl ?_
    case hb=>exact (HB5.o).size
    case hl=>(simp;omega)
    intro v5 w5 hR1 hB1 hg1 ZL;rw[cB] at hR1;obtain⟨Ap,cp,rfl⟩:=Kd.pO hR1;refine hK.o _ _ hB1 (fun hS9=>?_);clear hK hS9;clear K;refine tu (a':=?_) ?_ ?_
    rotate_left
    ·show Act.put _ (some 71) _=_;simp only[Act.put,ah,ak,aj];rfl
    refine rC (i:=10) (N:=some 72) (v:=?_) (a':=?_) #[true,true,true,true,true,true,true,true,true,true,true,false,false] rfl rfl (by kernel_rfl) (fun _ _ _ h=>h) (Or.inl ⟨by rfl,?_⟩) ?_ ?_
    rotate_left
    ·intro w';go_simp
     try (with_reducible rfl)
    rotate_left
    ·simp only[Act.put,ah,ak,aj];rfl
    refine zG (i:=11) (N:=some 9) #[true,true,true,true,true,true,true,true,true,true,true,true,false] rfl rfl (by kernel_rfl) (by decide) (fun K hK=>?_);refine wF (v:=?_) (w1:=?_) (by rfl) rfl ?_ ?_
    rotate_left;rotate_left
    ·go_simp
     refine⟨?_,?_⟩<;>rfl
    refine hK.o _ _ (oN hB1 _) (fun hS9=>?_);clear hK hS9;clear K;refine tu (a':=?_) ?_ ?_
    rotate_left
    ·show Act.put _ (some 9) _=_;simp only[Act.put,ah,ak,aj];rfl
    exact HC (_,Value.slice Ap p.length cp,w5.heap.size) _ ⟨⟨Kd.sJ hR1 _⟩,⟨oN hB1 _⟩,⟨qx _ _⟩,⟨show some w5.heap.size≠(Value.slice Ap p.length cp).ownBlock from fun e=>kL _ (Kd.Qv hR1 _ e.symm)⟩,⟨hB1.size⟩⟩
   ·refine wF (v:=?_) (w1:=?_) (by rfl) rfl ?_ ?_
    rotate_left;rotate_left
    ·go_simp
     refine⟨?_,?_⟩<;>rfl
    have HB6:=Y7 (oN HB5.o (.cells #[.int .i64 0,.int .i64 0,.slice none 0 0] 127 (0,0)));refine hK.o _ _ HB6.o (fun hS9=>?_);clear hK hS9;clear K;refine tu (a':=?_) ?_ ?_
    rotate_left
    ·show Act.put _ (some 9) _=_;simp only[Act.put,ah,ak,aj];rfl
    refine zG (i:=9) (N:=some 71) #[true,true,true,true,true,true,true,true,true,true,false,true,false] rfl rfl (by kernel_rfl) (by decide) (fun K hK=>?_);refine Kd.qI (Kd.int .u8) (w0:=W1) W1.heap.size (by rfl) (.tmp 67) (.tmp 70) 24 5 (.int .u8 0) 1 rfl Tryz.underlying24 rW rfl (by decide) (by omega) _ [] p A9 s c9 (fun _=>True) (fun _=>False) rfl rfl (Kd.sJ hE.o _) (HPC.o _ HB6.o) (fun x cs hx=>hx) (fun _ hk=>hk.elim) (fun _ _=>bE) HB6.o ?hb ?hl ?_
    case hb=>exact (HB6.o).size
    case hl=>(simp;omega)
    intro v5 w5 hR1 hB1 hg1 ZL;rw[cB] at hR1;obtain⟨Ap,cp,rfl⟩:=Kd.pO hR1;refine hK.o _ _ hB1 (fun hS9=>?_);clear hK hS9;clear K;have hn:(w4.alloc (.cells #[] 5 (0,0))).heap.size=w4.heap.size+1:=bW ..;have hs4:=HB4.o.size;have HV5:w5.heap[w4.heap.size+1]? = some (.cells #[.int .i64 0,.int .i64 0,.slice none 0 0] 127 (0,0)):=hn ▸ qK (qx (w4.alloc (.cells #[] 5 (0,0))) (.cells #[.int .i64 0,.int .i64 0,.slice none 0 0] 127 (0,0))) hg1 (su (by omega));refine tu (a':=?_) ?_ ?_
    rotate_left
    ·show Act.put _ (some 71) _=_;simp only[Act.put,ah,ak,aj];rfl
    refine rC (i:=10) (N:=some 72) (v:=?_) (a':=?_) #[true,true,true,true,true,true,true,true,true,true,true,true,false] rfl rfl (by kernel_rfl) (fun _ _ _ h=>h) (Or.inl ⟨by rfl,?_⟩) ?_ ?_
    rotate_left
    ·intro w';go_simp
     try (with_reducible rfl)
    rotate_left
    ·simp only[Act.put,ah,ak,aj];rfl
    exact HC (_,Value.slice Ap p.length cp,w4.heap.size+1) _ ⟨⟨hR1⟩,⟨hB1⟩,⟨HV5⟩,⟨show some (w4.heap.size+1)≠(Value.slice Ap p.length cp).ownBlock from yt (by rw[bW,bW];omega) (su (by omega)) ZL⟩,⟨by show W1.heap.size≤w4.heap.size+1;omega⟩⟩
  ·refine wF (v:=?_) (w1:=?_) (by rfl) rfl ?_ ?_
   rotate_left;rotate_left
   ·go_simp
    refine⟨?_,?_⟩<;>rfl
   have HB5:=Y7 (oN HB4.o (.cells #[.int .i64 0,.int .i64 0,.slice none 0 0] 127 (0,0)));refine hK.o _ _ HB5.o (fun hS9=>?_);clear hK hS9;clear K;refine tu (a':=?_) ?_ ?_
   rotate_left
   ·show Act.put _ (some 9) _=_;simp only[Act.put,ah,ak,aj];rfl
   refine zG (i:=5) (N:=some 67) #[true,true,true,true,true,true,true,true,true,false,false,true,false] rfl rfl (by kernel_rfl) (by decide) (fun K hK=>?_);refine wF (v:=?_) (w1:=?_) (by rfl) rfl ?_ ?_
   rotate_left;rotate_left
   ·go_simp
    refine⟨?_,?_⟩<;>rfl
   have hE:oM (Kd.R (Kd.int .u8) 5 ((w4.alloc (.cells #[.int .i64 0,.int .i64 0,.slice none 0 0] 127 (0,0))).alloc (.cells #[] 5 (0,0))) W1.heap.size (fun _=>True) (.slice (some ⟨w4.heap.size+1,0,none⟩) 0 0) []):=⟨by
    have:=wu (Kd.int .u8) 5 W1.heap.size (w4.alloc (.cells #[.int .i64 0,.int .i64 0,.slice none 0 0] 127 (0,0))) (fun _=>True) HB5.o.size bE;rwa [bW] at this⟩
   have HB6:=Y7 (oN HB5.o (.cells #[] 5 (0,0)));refine hK.o _ _ HB6.o (fun hS9=>?_);clear hK hS9;clear K;refine tu (a':=?_) ?_ ?_
   rotate_left
   ·show Act.put _ (some 67) _=_;simp only[Act.put,ah,ak,aj];rfl
   refine zG (i:=9) (N:=some 71) #[true,true,true,true,true,true,true,true,true,true,false,true,false] rfl rfl (by kernel_rfl) (by decide) (fun K hK=>?_);refine Kd.qI (Kd.int .u8) (w0:=W1) W1.heap.size (by rfl) (.tmp 67) (.tmp 70) 24 5 (.int .u8 0) 1 rfl Tryz.underlying24 rW rfl (by decide) (by omega) _ [] p A9 s c9 (fun _=>True) (fun _=>False) rfl rfl hE.o (HPC.o _ HB6.o) (fun x cs hx=>hx) (fun _ hk=>hk.elim) (fun _ _=>bE) HB6.o ?hb ?hl ?_
   case hb=>exact (HB6.o).size
   case hl=>(simp;omega)
   intro v5 w5 hR1 hB1 hg1 ZL;rw[cB] at hR1;obtain⟨Ap,cp,rfl⟩:=Kd.pO hR1;refine hK.o _ _ hB1 (fun hS9=>?_);clear hK hS9;clear K;have hs4:=HB4.o.size;have HV5:w5.heap[w4.heap.size]? = some (.cells #[.int .i64 0,.int .i64 0,.slice none 0 0] 127 (0,0)):=qK (pK (qx w4 (.cells #[.int .i64 0,.int .i64 0,.slice none 0 0] 127 (0,0))) (.cells #[] 5 (0,0))) hg1 (su (by omega));refine tu (a':=?_) ?_ ?_
   rotate_left
   ·show Act.put _ (some 71) _=_;simp only[Act.put,ah,ak,aj];rfl
   refine rC (i:=10) (N:=some 72) (v:=?_) (a':=?_) #[true,true,true,true,true,true,true,true,true,true,true,true,false] rfl rfl (by kernel_rfl) (fun _ _ _ h=>h) (Or.inl ⟨by rfl,?_⟩) ?_ ?_
   rotate_left
   ·intro w';go_simp
    try (with_reducible rfl)
   rotate_left
   ·simp only[Act.put,ah,ak,aj];rfl
   exact HC (_,Value.slice Ap p.length cp,w4.heap.size) _ ⟨⟨hR1⟩,⟨hB1⟩,⟨HV5⟩,⟨show some w4.heap.size≠(Value.slice Ap p.length cp).ownBlock from yt (by rw[bW,bW];omega) (su (by omega)) ZL⟩,⟨hs4⟩⟩
 rintro⟨v67,v71,g⟩ w5 ⟨HR5,HB5,HX5,HN5,HG5⟩;dsimp only at HR5 HX5 HN5 HG5;refine tu (a':=?_) ?_ ?_
 rotate_left
 ·simp only[Fq,Act.put,ah,ak,aj];rfl
 have c0:=(oQ HX5.o 0).trans rfl;have c1:=(oQ HX5.o 1).trans rfl;have c2:=(oQ HX5.o 2).trans rfl;have f0:=oW HX5.o 0;have f1:=oW HX5.o 1;have f2:=oW HX5.o 2;obtain⟨Ap,cp,rfl⟩:=Kd.pO HR5.o;refine zG (i:=12) (N:=none) #[true,true,true,true,true,true,true,true,true,true,true,true,true] rfl rfl (by kernel_rfl) (by decide) (fun K hK=>?_);refine Eq.mpr (au ?hw) ?_
 case hw=>rfl
 go_simp
 have HB6:=Y7 (((HB5.o.setCell (p:=⟨g,0,none⟩) HG5.o (.int .i64 kd)).setCell (p:=⟨g,1,none⟩) HG5.o (.int .i64 nm)).setCell (p:=⟨g,2,none⟩) HG5.o (.slice Ap p.length cp));refine hK.o _ _ HB6.o (fun hS9=>?_);clear hK hS9 c0 c1 c2 f0 f1 f2;clear K;have HR6:oM (Kd.R (Kd.int .u8) 5 (((w5.setCell ⟨g,0,none⟩ (.int .i64 kd)).setCell ⟨g,1,none⟩ (.int .i64 nm)).setCell ⟨g,2,none⟩ (.slice Ap p.length cp)) W1.heap.size (fun _=>True) (.slice Ap p.length cp) p):=⟨by
  have hne:(Value.slice Ap p.length cp).ownBlock≠some g:=fun e=>HN5.o e.symm
  have h1:=Kd.BZ (d:=Kd.int .u8) rfl HR5.o;have h2:=Kd.sS (p:=⟨g,2,none⟩) (Kd.sS (p:=⟨g,1,none⟩) (Kd.sS (p:=⟨g,0,none⟩) h1 (fun k hk e=>hne (by rw[← hk,e])) (.int .i64 kd)) (fun k hk e=>hne (by rw[← hk,e])) (.int .i64 nm)) (fun k hk e=>hne (by rw[← hk,e])) (.slice Ap p.length cp);exact Kd.qR h2 (fun _ _=>bE)⟩
 have HX6:=Y7 (vM HX5.o (.int .i64 kd) (.int .i64 nm) (.slice Ap p.length cp));generalize (((w5.setCell ⟨g,0,none⟩ (.int .i64 kd)).setCell ⟨g,1,none⟩ (.int .i64 nm)).setCell ⟨g,2,none⟩ (.slice Ap p.length cp))=w6 at HB6 HR6 HX6 ⊢;refine Hr (by kernel_rfl) ?_;clear HB5 HR5 HX5 HN5;have anH:=Y7 (oP HB3.o HB6.o);have akD:=Y7 (o7 HX3.o HB6.o);have d0:=(oQ HX6.o 0).trans rfl;have d2:=(oQ HX6.o 2).trans rfl;have FRM:oM (Calls Tryz.prog 33 #[.int .i64 kd,.int .i64 nm,.slice Ap p.length cp] w6 fun e w'=>∃ v:Value,e = .returned v∧Kd.R (Kd.int .u8) 5 w' w6.heap.size (fun _=>True) v (xH kd nm p)∧Below w6.heap.size w6 w'):=⟨K8.c kd nm p.length p Ap cp w6 (by omega) (by omega) rfl (Kd.pE HR6.o).2.2 (Kd.pE HR6.o).2.1 (by have:=HPL.o;omega) HPO.o⟩;have HFL:oM ((xH kd nm p).length=13+s):=⟨by rw[wX,HPL.o]⟩;have HFO:oM (okB (xH kd nm p)=true):=⟨KH (by omega) HPO.o⟩
 go_wp2_with (first|(go_at_call 33;(with_reducible refine FRM.o.mono ?_);rintro e w7 ⟨v7,rfl,hr7,hb⟩;obtain⟨A8,c8,rfl⟩:=Kd.pO hr7;rw[HFL.o] at hr7 ⊢;have HR7:=Y7 hr7;have HB7:=Y7 hb;clear hr7 hb))
 have ai2:=Y7 (oP anH.o HB7.o);obtain⟨S1,hS1⟩:∃ S1,strOfNums (b.take (13+s))=S1:=⟨_,rfl⟩;obtain⟨S2,hS2⟩:∃ S2,strOfNums (xH kd nm p)=S2:=⟨_,rfl⟩;have hbl:13+s≤b.length:=by have h1:=HL9.o;have h2:=HLB.o;omega
 have HTL:oM ((b.take (13+s)).length=13+s):=⟨by rw[aW];omega⟩;have hs1:∀ q:BW w7,(convert 24 9 (.slice (some ad) (13+s) c)).run Tryz.prog q.W = .ok (.string S1) q.W:=fun q=>by
  have h1:=Kd.wZ (Kd.o9 HR.o (oP ai2.o q.hb)) (m:=13+s) (by omega);rw[HTL.o] at h1;have h2:=Kd.vJ (P:=Tryz.prog) (c:=c) Tryz.underlying24 Tryz.underlying5 Tryz.underlying9 h1;rwa [hS1] at h2
 have hs2:∀ q:BW w7,(convert 24 9 (.slice A8 (13+s) c8)).run Tryz.prog q.W = .ok (.string S2) q.W:=fun q=>by
  have h1:=Kd.o9 (Kd.pE HR7.o).2.2 q.hb;rw[HFL.o] at h1;have h2:=Kd.vJ (P:=Tryz.prog) (c:=c8) Tryz.underlying24 Tryz.underlying5 Tryz.underlying9 h1;rwa [hS2] at h2
 have hinj:=wU (tC HOK.o (fun x hx=>bT (i:=13+s) hx)) HFO.o;rw[hS1,hS2] at hinj;have HX7:=Y7 (o7 HX6.o HB7.o);have akE:=Y7 (o7 akD.o HB7.o);have anI:=Y7 (Kd.qo HR6.o HB7.o);clear d0 d2 FRM HR6 HB6 HX6 akD
 by_cases hEq:b.take (13+s)=xH kd nm p
 ·have hSS:S1=S2:=by rw[← hS1,← hS2,hEq]
  clear hinj hS1 hS2;subst hSS;refine qD mixed (by kernel_rfl) ?_
  repeat (any_goals (first | go_big_quiet_step (fail)|quiet_step (fail)))
  all_goals (refine dU ?_;intro _ hw';obtain⟨⟨w8,hb⟩,hw''⟩:=hw';subst hw'';have HB8:=Y7 (oP ai2.o hb);have HX8:=Y7 (o7 HX7.o hb);have aaX:=Y7 (o7 akE.o hb);have HR8:=Y7 (Kd.qo anI.o hb);clear hb)
  have d0:=(oQ HX8.o 0).trans rfl;have d1:=(oQ HX8.o 1).trans rfl;have d2:=(oQ HX8.o 2).trans rfl;have q0:=(oQ aaX.o 0).trans rfl;have q1:=(oQ aaX.o 1).trans rfl;have q2:=(oQ aaX.o 2).trans rfl;have y0:=oW aaX.o 0;have y1:=oW aaX.o 1;have y2:=oW aaX.o 2;go_wp2;refine bf (yQ _ _ w.heap.size _ _ _ (vM aaX.o _ _ _) rfl) rfl ?_;refine⟨kd,nm,.slice Ap p.length cp,p,13+s,rfl,?_,uS HB8.o,.inr ⟨by rw[ahF.o,au hEq],by rw[HPL.o]⟩⟩;have hlo:w.heap.size<W1.heap.size:=qQ HX3.o;have hbs:=Kd.Ke HR8.o;have h1:=Kd.BZ (d:=Kd.int .u8) rfl HR8.o;have hne:∀ k,some k=(Value.slice Ap p.length cp).ownBlock→k≠w.heap.size:=fun k hk e=>by have:=hbs k hk.symm;omega
  have h2:=Kd.sS (p:=⟨w.heap.size,2,none⟩) (Kd.sS (p:=⟨w.heap.size,1,none⟩) (Kd.sS (p:=⟨w.heap.size,0,none⟩) h1 hne (.int .i64 kd)) hne (.int .i64 nm)) hne (.slice Ap p.length cp);exact Kd.qR (Kd.qW h2 HB3.o.size) (fun _ _=>bE)
 ·rw[aD hEq] at hinj;clear hS1 hS2;refine qD mixed (by kernel_rfl) ?_
  repeat (any_goals (first | go_big_quiet_step (fail)|quiet_step (fail)))
  all_goals (refine dU ?_;intro _ hw';obtain⟨⟨w8,hb⟩,hw''⟩:=hw';subst hw'';have HB8:=Y7 (oP ai2.o hb);have aaX:=Y7 (o7 akE.o hb);clear hb)
  have q0:=(oQ aaX.o 0).trans rfl;have q1:=(oQ aaX.o 1).trans rfl;have q2:=(oQ aaX.o 2).trans rfl;have y0:=oW aaX.o 0;have y1:=oW aaX.o 1;have y2:=oW aaX.o 2;go_wp2;refine bf (yQ _ _ w.heap.size _ _ _ (vM aaX.o _ _ _) rfl) rfl ?_;exact uz.none_ (by rw[ahF.o,av hEq]) (uS HB8.o)
def zF:Fr:=⟨0,0,[]⟩
def kF:Kd Fr:=Kd.Yj (Kd.pair (Kd.int .i64) (Kd.pair (Kd.int .i64) (Kd.slice 5 (Kd.int .u8)))) (fun f:Fr=>((f.kind:Int),(f.num:Int),f.pay))
theorem Yl:kF.sz=3:=rfl
theorem KT {w:World}{f:Fr}{cs:List Value}(h:kF.K w f cs):∃ A c,cs=[.int .i64 f.kind,.int .i64 f.num,.slice A f.pay.length c]∧f.pay.length≤c∧Kd.C (Kd.int .u8) w A f.pay.length f.pay:=by
 obtain⟨_,_,rfl,rfl,⟨_,_,rfl,rfl,⟨A,c,rfl,l,g⟩⟩⟩:=h;exact⟨A,c,rfl,l,g⟩
theorem Yk (w:World)(f:Fr){A:Option Addr}{c:Nat}(l:f.pay.length≤c)(g:Kd.C (Kd.int .u8) w A f.pay.length f.pay):kF.K w f [.int .i64 f.kind,.int .i64 f.num,.slice A f.pay.length c]:=
 ⟨[.int .i64 f.kind],_,rfl,rfl,⟨[.int .i64 f.num],_,rfl,rfl,⟨A,c,rfl,l,g⟩⟩⟩
theorem Xx (W:World)(ok:Nat→Prop)(f:Fr){A:Option Addr}{c:Nat}(l:f.pay.length≤c)(g:Kd.F (Kd.int .u8) W ok A f.pay.length f.pay):Kd.FK kF W ok f [.int .i64 f.kind,.int .i64 f.num,.slice A f.pay.length c]:=fun W2 hW=>Yk W2 f l (g W2 hW)
theorem Dx:(Tryz.prog.info? 127).map (fun i=>(i.zero,i.size,i.bytes))=some (some (.agg #[.int .i64 0,.int .i64 0,.slice none 0 0]),3,40):=by kernel_rfl
theorem Qe.c (A:Option Addr)(c n:Nat)(b:List Int)(w:World)(hn:b.length=n)(hr:Kd.C (Kd.int .u8) w A n b)(hc:n≤c)(hok:okB b=true)(hlen:n≤100000000) :
 Calls Tryz.prog 46 #[.slice A n c] w fun e w'=>∃ v:Value,e = .returned v∧Kd.N kF 127 w' w.heap.size (fun _=>True) v (tZ b)∧Below w.heap.size w w':=by
 subst hn;have HR:=Y7 hr;have HOK:=Y7 hok;clear hr hok
 go_enter Tryz.func46,Tryz.ntmps46
 go_wp2
 go_loopg [3,4] b.length (fun kx s3 s4 wr=>∃ (k:Nat) (pre:List Fr),s4 = .int .i64 k∧k≤b.length∧b.length-k≤kx∧oM (tZ b=pre++tZ (b.drop k))∧pre.length≤k∧oM (Kd.N kF 127 wr w.heap.size (fun _=>True) s3 pre)∧oM (Below w.heap.size w wr))
 case atStart=>exact⟨0,[],rfl,bP _,by omega,⟨by simp⟩,ay _,⟨Kd.FJ _ _ _ _ _⟩,⟨aU _ _⟩⟩
 case round=>
  obtain⟨k,pre,rfl,hk,hkx,HP,hpl,HN,HB⟩:=hrel
  by_cases hlt:k<b.length
  ·have hkz:(k:Int)<(b.length:Int):=by omega
   obtain⟨A2,c2,r,hr2,HC2,hc2,_,hcut'⟩:=D8 A c b k (by omega) hc;have hcut:=hcut' (k:Int) rfl;have hrl:r.length=b.length-k:=by rw[hr2.o,aX]
   have FI:=first.c A2 c2 r.length r wr rfl (HC2.o wr (Kd.o9 HR.o HB.o)) hc2 (tC HOK.o (fun x hx=>by rw[hr2.o] at hx;exact bV hx)) (by omega)
   have HRE:=Y7 hr2.o;cases hbb:vU r with
   | none=>
     have FN:oM (Calls Tryz.prog 80 #[.slice A2 r.length c2] wr fun e w'=>∃ (k0 n0:Nat) (A1:Option Addr) (n1 c1:Nat),e = .returned (.tuple #[.agg #[.int .i64 k0,.int .i64 n0,.slice A1 n1 c1],.int .i64 0])∧Below wr.heap.size wr w'):=⟨FI.mono fun e w' ⟨k0,n0,v,p,m,he,hr,hb,hh⟩=>by
      obtain⟨A1,c1,rfl⟩:=Kd.pO hr;rcases hh with ⟨_,rfl⟩ | ⟨h,_⟩
      ·exact⟨k0,n0,A1,_,c1,he,hb⟩
      ·rw[hbb] at h;cases h⟩
     have HNX:oM (tZ b=pre++tZ (b.drop (k+1))):=⟨by
      rw[HP.o,← HRE.o,E9 (by omega) hbb,HRE.o,gZ]⟩
     clear FI hbb HC2 hcut' hr2 HRE hrl;generalize r.length=m2 at *
     go_wp2_with (first|(go_at_call 80;(with_reducible refine FN.o.mono ?_);rintro e w1 ⟨k0,n0,A1,n1,c1,rfl,hb⟩;have HB1:=Y7 (oN (oP HB.o hb) (.cells #[.int .i64 k0,.int .i64 n0,.slice A1 n1 c1] 127 (0,0)));have HN1:=Y7 (Kd.DX (Kd.wV HN.o hb) (.cells #[.int .i64 k0,.int .i64 n0,.slice A1 n1 c1] 127 (0,0)));clear hb))
     go_roundg (b.length-(k+1))
     case measure=>omega
     case rel=>exact⟨k+1,pre,by go_num,hlt,ay _,HNX,by omega,HN1,HB1⟩
   | some f=>
     have hfl:=xK hbb;have FS:oM (Calls Tryz.prog 80 #[.slice A2 r.length c2] wr fun e w'=>∃ (A1:Option Addr) (c1:Nat),e = .returned (.tuple #[.agg #[.int .i64 f.kind,.int .i64 f.num,.slice A1 f.pay.length c1],.int .i64 ((13+f.pay.length:Nat):Int)])∧Kd.R (Kd.int .u8) 5 w' wr.heap.size (fun _=>True) (.slice A1 f.pay.length c1) f.pay∧Below wr.heap.size wr w'):=⟨FI.mono fun e w' ⟨k0,n0,v,p,m,he,hr,hb,hh⟩=>by
      rcases hh with ⟨h,_⟩ | ⟨h,rfl⟩
      ·rw[hbb] at h;cases h
      ·rw[hbb] at h;injection h with h
       subst h;obtain⟨A1,c1,rfl⟩:=Kd.pO hr;exact⟨A1,c1,he,hr,hb⟩⟩
     have HNX:oM (tZ b=(pre++[f])++tZ (b.drop (k+(13+f.pay.length)))):=⟨by
      rw[HP.o,← HRE.o,Ch hbb,HRE.o,gZ,wQ];simp⟩
     have hm:13+f.pay.length≤b.length-k:=by have:=hfl.1;unfold wQ at this;omega
     clear FI hbb HC2 hcut' hr2 HRE hfl hrl;have hne:¬ ((13+f.pay.length:Nat):Int)=0:=by omega
     have hnb:(((13+f.pay.length:Nat):Int)==0)=false:=beq_eq_false_iff_ne.2 hne;generalize hfe:f.pay.length=fl at *;have HFE:=Y7 hfe;clear hfe;generalize r.length=m2 at *
     go_wp2_with (first|(go_at_call 80;(with_reducible refine FS.o.mono ?_);rintro e w1 ⟨A1,c1,rfl,hr1,hb⟩;have HR1:=Y7 hr1;have HB1:=Y7 (oN (oP HB.o hb) (.cells #[.int .i64 f.kind,.int .i64 f.num,.slice A1 fl c1] 127 (0,0)));have HN1:=Y7 (Kd.DX (Kd.wV HN.o hb) (.cells #[.int .i64 f.kind,.int .i64 f.num,.slice A1 fl c1] 127 (0,0)));have HZ1:oM (wr.heap.size≤w1.heap.size):=⟨hb.size⟩;clear hb hr1)|((with_reducible refine qm (N:=25) rfl ?_);go_must (refine Kd.Bg kF (w0:=w) w.heap.size rfl (.tmp 22) (.tmp 24) 82 127 (.agg #[.int .i64 0,.int .i64 0,.slice none 0 0]) 40 rfl Tryz.underlying82 Dx rfl (by decide) (by decide) u3 pre f _ (fun _=>True) (fun k=>wr.heap.size≤k∧k<w1.heap.size) rfl (by rw[bW];rfl) ?h3 ?h4 (fun _ _=>bE) HN1.o HB1.o HB1.o.size ?h6 ?_);(case h3=>exact (by have h1:=Kd.X9 (Kd.qR (Kd.uK HR1.o) (ok':=fun k=>wr.heap.size≤k∧k<w1.heap.size) (fun k hk=>⟨hk.2.1,hk.2.2.1⟩));rw[← HFE.o] at h1;have h2:=Xx _ _ f (by have:=(Kd.pE HR1.o).2.1;rw[← HFE.o] at this;exact this) h1;rw[HFE.o] at h2;exact Kd.y7 h2 (oN (aU _ _) _)));(case h4=>exact fun k hk=>⟨bE,fun e=>by have:=Kd.Vj HN.o k e.symm;omega⟩);(case h6=>omega);intro v4 w4 hn4 hb4 hg4 adX;have HN4:=Y7 hn4;have HB4:=Y7 hb4;clear hn4 hb4 hg4 adX))
     go_roundg (b.length-(k+(13+fl)))
     case measure=>omega
     case rel=>exact⟨k+(13+fl),pre++[f],by go_num,by omega,ay _,HNX,by rw[aT,bq,eF];omega,HN4,HB4⟩
  ·obtain rfl:k=b.length:=by omega
   have hkz:¬ (b.length:Int)<(b.length:Int):=by omega
   have HE:oM (tZ b=pre):=⟨by rw[HP.o,fE (ay _),Ei,dZ]⟩;go_wp2;go_ret;exact⟨_,rfl,by rw[HE.o];exact HN.o,HB.o⟩
theorem Us.c (A:Option Addr)(c n:Nat)(b:List Int)(w:World)(hn:b.length=n)(hr:Kd.C (Kd.int .u8) w A n b)(hc:n≤c)(hok:okB b=true)(hlen:n≤100000000) :
 Calls Tryz.prog 21 #[.slice A n c] w fun e w'=>e = .returned (.int .i64 ((tZ b).length:Nat))∧Below w.heap.size w w':=by
 have FR:=Y7 (Qe.c A c n b w hn hr hc hok hlen);clear hr hc hok hn
 go_enter Tryz.func21,Tryz.ntmps21
 go_wp2_with (first|(go_at_call 46;(with_reducible refine FR.o.mono ?_);rintro e w1 ⟨v1,rfl,hn1,hb⟩;obtain⟨A1,c1,rfl⟩:=Kd.zW hn1;have HB1:=Y7 hb;clear hn1 hb))
 go_ret;exact⟨rfl,HB1.o⟩
end Go.Proofs.Y.PA
