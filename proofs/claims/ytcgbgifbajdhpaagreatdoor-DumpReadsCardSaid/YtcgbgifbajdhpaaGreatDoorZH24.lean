/- Of the law ZHQDumpReads. -/
import Derived.Test.YtcgbgifbajdhpaaGreatDoorZH9
import Derived.Test.YtcgbgifbajdhpaaGreatDoorZH23
set_option linter.unusedVariables false
set_option linter.unusedSimpArgs false
set_option maxHeartbeats 8000000
set_option maxRecDepth 100000
namespace Go
abbrev gF:=@Go.Sort.alloc_eq_grow
abbrev jS:=@Go.Exit.noGoto_ret
abbrev lZ:=@Go.Sort.grow_grow
end Go
namespace Go.Proofs
open Go.Shelf Go.RowKit Go.Lib Go.Sort
def Tryz.UH:Go.Shelf.Ren:=⟨fun | 35=>107 | n=>n,fun | 22=>49 | 23=>70 | 3=>3 | 4=>4 | 0=>0 | n=>n,fun | n=>n⟩
theorem Tryz.XK:Go.Proofs.SlLaysE0.n35 Tryz.prog Tryz.UH:={
 mixed:=by kernel_rfl
 f35:=⟨Tryz.f107.name,by decide,Tryz.func107.trans (eU some (by kernel_rfl))⟩
 t0:=Tryz.underlying0
 a0:=Tryz.isAgg0
 z0:=Tryz.sizeOf0
 v0:=Tryz.zeroValue0
 t3:=Tryz.underlying3
 a3:=Tryz.isAgg3
 z3:=Tryz.sizeOf3
 v3:=Tryz.zeroValue3
 t4:=Tryz.underlying4
 a4:=Tryz.isAgg4
 z4:=Tryz.sizeOf4
 v4:=Tryz.zeroValue4
 t22:=Tryz.underlying49
 a22:=Tryz.isAgg49
 z22:=Tryz.sizeOf49
 v22:=Tryz.zeroValue49 }
end Go.Proofs
namespace Go.Proofs.Y.PA
open Go.Shelf Go.RowKit Go.Lib Go.Sort
def Ja (x y:Int):Int:=if x<y then -1 else if y<x then 1 else 0
def Mh (a b:qG):Int:=Ja a.f0 b.f0
def Gi (a:qG):Int:=a.f0
theorem Vv (x y:qG):Mh x y<0↔Gi x<Gi y:=by
 unfold Mh Ja Gi
 by_cases h:x.f0<y.f0
 ·simp[h]
 ·by_cases h2:y.f0<x.f0<;>simp[h,h2]
theorem Td.c (a b:qG)(W:World):Calls Tryz.prog 108 #[.agg (qy a).toArray,.agg (qy b).toArray] W fun e w'=>e = .returned (.int .i64 (Mh a b))∧∃ q os',w'=grow (W.drewN q) os':=by
 unfold qy;simp only[List.toArray]
 go_enter Tryz.func108,Tryz.ntmps108
 have h0:(a.f0 != a.f0)=false:=by simp
 have h1:(b.f0 != b.f0)=false:=by simp
 by_cases h2:a.f0<b.f0
 ·have d2:decide (a.f0<b.f0)=true:=aC h2;have HC:Aside (Mh a b = -1):=by show Mh a b = -1;unfold Mh Ja;rw[au h2]
  clear h2
  go_wp2_with (first | go_in)
  go_ret;exact⟨by rw[show Mh a b = -1 from HC];rfl,0,_,by rw[gF,gF,lZ];rfl⟩
 ·have d2:decide (a.f0<b.f0)=false:=aD h2
  by_cases h3:b.f0<a.f0
  ·have d3:decide (b.f0<a.f0)=true:=aC h3;have HC:Aside (Mh a b=1):=by show Mh a b=1;unfold Mh Ja;rw[av h2,au h3]
   clear h2 h3
   go_wp2_with (first | go_in)
   go_ret;exact⟨by rw[show Mh a b=1 from HC];rfl,0,_,by rw[gF,gF,lZ];rfl⟩
  ·have d3:decide (b.f0<a.f0)=false:=aD h3;have HC:Aside (Mh a b=0):=by show Mh a b=0;unfold Mh Ja;rw[av h2,av h3]
   clear h2 h3
   go_wp2_with (first | go_in)
   go_ret;exact⟨by rw[show Mh a b=0 from HC];rfl,0,_,by rw[gF,gF,lZ];rfl⟩
theorem Td.lays (blk off size:Nat)(w:World):CmpLays Tryz.prog 108 #[] qy 2 Mh blk off size w:=fun _ _ _ _ x y=>Td.c x y _
theorem Td.enters:∀ args w,(callFunc 108 args).run Tryz.prog w = .ok (.enter 108 args) w:=enters_of Tryz.func108 (by kernel_rfl) rfl
theorem YI.enters:∀ args w,(callFunc 111 args).run Tryz.prog w = .ok (.enter 111 args) w:=enters_of Tryz.func111 (by kernel_rfl) rfl
theorem YI.c (a b:qG)(W:World):Calls Tryz.prog 111 #[.agg #[.int .i64 a.f0,.int .u64 a.f1],.agg #[.int .i64 b.f0,.int .u64 b.f1]] W fun e w'=>e = .returned (.bool (a.f0==b.f0))∧∃ q os',w'=grow (W.drewN q) os':=by
 go_enter Tryz.func111,Tryz.ntmps111
 go_wp2;go_ret;exact⟨rfl,0,_,by rw[gF,gF,lZ];rfl⟩
theorem SWK.trans {w0 W W':World}{blk off:Nat}{d d':Array qG}(h:SWK qy 2 w0 blk off d W)(hb:blk<w0.heap.size)(k:SWK qy 2 W blk off d' W')(hs:d'.size=d.size):SWK qy 2 w0 blk off d' W':=by
 obtain⟨m,os,rfl⟩:=k;exact h.on hb m d' os hs
theorem SWK.row {w0 W:World}{blk off:Nat}{d0 d:Array qG}(h:SWK qy 2 w0 blk off d W)(R:RowK qy 2 w0 blk off d0)(hs:d.size=d0.size):RowK qy 2 W blk off d:=⟨R.hk,R.h1,h.holds R.hblk R.hH hs,h.lt R.hblk⟩
theorem XK.c (blk off cap:Nat)(d:Array qG)(w:World)(R:RowK qy 2 w blk off d)(hsz:d.size≤9223372036854775807) :
 Calls Tryz.prog 107 #[.slice (some ⟨blk,off,none⟩) d.size cap] w fun e w'=>e = .returned (.tuple #[])∧SWK qy 2 w blk off d.reverse w':=by
 refine kI (AnyQ.slices_Reverse Tryz.XK 2 TK Qj qy (fun _=>rfl) Ht blk off cap d w R.hH hsz) ?_;rintro e w' ⟨he,n,rfl⟩;exact⟨he,n,#[],by unfold sortWorldK;rw[grow_empty]⟩
end Go.Proofs.Y.PA
namespace Go.Proofs.Y.PA
open Go.RowKit Go.Proofs.Y.G Go.Proofs.YW.oO Go.Proofs.YW.pq Go.Proofs.YW.pz
theorem sN.c (A:Option Addr)(c:Nat)(l:List qG)(w:World)(hr:Kd.C vX w A l.length l)(hc:l.length≤c)(hw:∀ x∈l,Bd x)(hlen:l.length≤20000)(hT:yN w) :
 Calls Tryz.prog 61 #[.slice A l.length c] w fun e w'=>∃ v:Value,e = .returned (.tuple #[v,.int .i64 (xM l).2])∧Kd.R (Kd.int .u8) 5 w' w.heap.size (fun _=>True) v (xM l).1∧Below w.heap.size w w':=by
 cases h:vC l with
 | true=>
   refine (sN.S9 A c l w hr hc hw hlen hT h).mono ?_;rintro e w' ⟨v,b,rfl,h1,h2,h3,h4⟩;have e1:xM l=(rD l.length 2++b,0):=by rw[xM,au h,sU,Ik h1 h2]
   rw[e1];exact⟨v,rfl,h3,h4⟩
 | false=>
   refine (sN.QB A c l w hr hc hlen h).mono ?_;rintro e w' ⟨rfl,h4⟩;have e1:xM l=([],1):=by rw[xM,av (by rw[h];simp)]
   rw[e1];exact⟨_,rfl,Kd.tJ _ _ _ _ _,h4⟩
theorem sN.qM {n:Nat}(A:Option Addr)(c:Nat)(l:List qG)(w:World)(eb:List Int)(ee:Int)(hn:l.length=n)(hr:Kd.C vX w A l.length l)(hc:n≤c)(hw:∀ x∈l,Bd x)(hlen:n≤20000)(hT:yN w)(he:xM l=(eb,ee)) :
 Calls Tryz.prog 61 #[.slice A n c] w fun e w'=>∃ v:Value,e = .returned (.tuple #[v,.int .i64 ee])∧Kd.R (Kd.int .u8) 5 w' w.heap.size (fun _=>True) v eb∧Below w.heap.size w w':=by
 subst hn;have:=sN.c A c l w hr hc hw hlen hT;rw[he] at this;exact this
theorem Bp (l:List qG)(hn:l.length≤20000)(hw:∀ x∈l,Bd x):okB (xM l).1=true:=by
 unfold xM;split
 ·have h1:=wD l hw l.length (ay _);have h2:=(Il (tH l l.length) (by omega)).1.bytes;refine qV.2 fun x hx=>?_
  rcases List.mem_append.1 hx with hx | hx
  ·exact qV.1 (P7 _ _) x hx
  ·exact h2 x hx
 ·rfl
theorem LD {n m:Nat}(A0:Option Addr)(c0:Nat)(l0:List Int)(A1:Option Addr)(c1:Nat)(l1:List Int)(r:Bool)(w:World)(hn:l0.length=n)(hm:l1.length=m)(hr0:Kd.C (Kd.int .u8) w A0 l0.length l0)(hc0:n≤c0)(hr1:Kd.C (Kd.int .u8) w A1 l1.length l1)(hc1:m≤c1)(h0:okB l0=true)(h1:okB l1=true)(h:decide (l0=l1)=r) :
 Calls Tryz.prog 38 #[.slice A0 n c0,.slice A1 m c1] w fun e w'=>e = .returned (.bool r)∧Below w.heap.size w w':=by
 subst hn hm;exact (G.bytes_Equal.c A0 c0 l0 A1 c1 l1 r w hr0 hc0 hr1 hc1 (by rw[G.bytes_Equal.f,au ⟨h0,h1⟩,h])).mono fun e w' ⟨he,hd⟩=>⟨he,hd.below⟩
theorem MZ (g:Nat)(A:Option Addr)(c:Nat)(l:List Int)(N p:Int)(r:Int × Int × Bool)(w0 w:World)(hr:Kd.C (Kd.int .u8) w0 A l.length l)(hc:l.length≤c)(hg:w0.heap.size≤g)
 (hl:Bh l) (hn:l.length≤1000000) (hN : -9223372036854775808≤N∧N≤9223372036854775807) (hU:UP w g A l.length c N p false) (hB:Below w0.heap.size w0 w) (he:CK l N p=r) :
 Calls Tryz.prog 151 #[.pointer (some ⟨g,0,none⟩)] w fun e w'=>e = .returned (.int .i64 r.1)∧UP w' g A l.length c N r.2.1 r.2.2∧Below w0.heap.size w0 w'∧pG w w' g none:=by
 subst he;exact Ji.c g A c l N p false w0 w hU hr hc hB hg hl hn hN
theorem Pb (g:Nat)(A:Option Addr)(c:Nat)(l:List Int)(N p:Int)(s r:Int × Int × Bool)(w0 w:World)(hr:Kd.C (Kd.int .u8) w0 A l.length l)(hc:l.length≤c)(hg:w0.heap.size≤g)
 (hl:Bh l) (hn:l.length≤1000000) (hN : -9223372036854775808≤N∧N≤9223372036854775807) (hU:UP w g A l.length c N s.2.1 s.2.2) (hB:Below w0.heap.size w0 w) (hs:CK l N p=s) (he:Jc l N p=r) :
 Calls Tryz.prog 152 #[.pointer (some ⟨g,0,none⟩)] w fun e w'=>e = .returned (.int .u64 r.1)∧UP w' g A l.length c N r.2.1 r.2.2∧Below w0.heap.size w0 w'∧pG w w' g none:=by
 subst he;subst hs;exact Lj.c g A c l N (CK l N p).2.1 (CK l N p).2.2 w0 w hU hr hc hB hg hl hn hN
theorem Yh {b:List Int}(h:okB b=true)(hl:2≤b.length):vI.f (b.take 2)=some (((wI 0 (b.take 2):Nat):Int),true)∧wI 0 (b.take 2)<65536:=by
 refine⟨?_,zi h 2⟩;have h1:okB (b.take 2)=true:=qV.2 fun x hx=>qV.1 h x (bT hx)
 rw[vI.f,au h1,au (by rw[aW];omega)]
theorem WX {n:Nat}(A0:Option Addr)(c0:Nat)(l0:List Int)(r1:Int)(r2:Bool)(w:World)(hn:l0.length=n)(hr0:Kd.C (Kd.int .u8) w A0 l0.length l0)(hc0:n≤c0)(h:vI.f l0=some (r1,r2)) :
 Calls Tryz.prog 63 #[.slice A0 n c0] w fun e w'=>e = .returned (.tuple #[.int .u64 r1,.bool r2])∧Below w.heap.size w w':=by
 subst hn;exact (vI.c A0 c0 l0 r1 r2 w hr0 hc0 h).mono fun e w' ⟨he,hd⟩=>⟨he,hd.below⟩
theorem EU {xb:List Int}{N:Int}{k:Nat}(h:(ug xb N (k+1)).2.1=true):∀ d,ug xb N (k+1+d)=ug xb N (k+1)
 | 0=>rfl
 | d+1=>by
   have ih:=EU h d;have e:ug xb N (k+d+2)=ug xb N (k+d+1):=by
    rw[ug,au];rw[show k+d+1=k+1+d by omega,ih];exact h
   rw[show k+1+(d+1)=k+d+2 by omega,e,show k+d+1=k+1+d by omega,ih]
theorem Ae.c (A:Option Addr)(c:Nat)(b:List Int)(w:World)(hr:Kd.C (Kd.int .u8) w A b.length b)(hc:b.length≤c)(hok:okB b=true)(hlen:b.length≤2500)(hT:yN w) :
 Calls Tryz.prog 133 #[.slice A b.length c] w fun e w'=>∃ v:Value,e = .returned (.tuple #[v,.int .i64 (wH b).2])∧Kd.R vX 70 w' w.heap.size (fun _=>True) v (wH b).1∧Below w.heap.size w w':=by
 by_cases h2:b.length<2
 ·have e0:wH b=([],5):=by rw[wH,au h2]
  rw[e0];have d0:decide ((b.length:Int)<2)=true:=aC (by omega);clear e0 h2 hr hc hT
  go_enter Tryz.func133,Tryz.ntmps133
  go_wp2
  go_step3
  go_wp2
  try rw[jS]
  refine bg (dD rfl _ _ _) rfl ?_;exact⟨_,rfl,Kd.tJ _ _ _ _ _,aU _ _⟩
 have d0:decide ((b.length:Int)<2)=false:=aD (by omega);obtain⟨xb,hxb⟩:∃ xb,b.drop 2=xb:=⟨_,rfl⟩;have hxl:xb.length=b.length-2:=by rw[← hxb,aX]
 obtain⟨hget,agD⟩:=Yh hok (by omega);obtain⟨n,hn⟩:∃ n,wI 0 (b.take 2)=n:=⟨_,rfl⟩;rw[hn] at hget agD;obtain⟨NN,hNN⟩:∃ N:Nat,8*(b.length-2)=N:=⟨_,rfl⟩;have HF:oM (wH b=if (ug xb (NN:Int) n).2.1=false∧xM (ug xb (NN:Int) n).2.2.1=(b,0) then ((ug xb (NN:Int) n).2.2.1,0) else ([],5)):=⟨by rw[wH,av h2,hxb,hNN,hn]⟩;have adU:Bh xb:=fun x hx=>qV.1 hok x (bU (hxb ▸ hx))
 obtain⟨i05,abh,_,hsz5,_⟩:=nE rW;have hto:=Dp (P:=Tryz.prog) 24 5 .i64 Tryz.underlying24 abh A b.length c 2 (by omega) (by omega) hc;have adt:=Mr (P:=Tryz.prog) 24 5 .i64 Tryz.underlying24 abh 1 hsz5 A b.length c 2 (by omega) (by omega);have hdr:=Kd.Bf (m:=2) (c:=c) hr (by omega) hc;rw[hxb] at hdr;obtain⟨A',hA'⟩:∃ A',(if c=(2:Int).toNat then A else A.map (·.add ((2:Int).toNat*1)))=A':=⟨_,rfl⟩;rw[hA'] at adt;have HX:oM (Kd.C (Kd.int .u8) w A' xb.length xb):=⟨by rw[← hA'];exact hdr⟩;have HXC:oM (xb.length≤c-2):=⟨by omega⟩;have HTK:=Y7 (Kd.wZ hr (show 2≤b.length by omega));have HTL:oM ((b.take 2).length=2):=⟨by rw[aW];omega⟩;have agE:=Y7 hget;have HRB:=Y7 hr;have HC:=Y7 hc;have HOK:=Y7 hok;have HOX:=Y7 adU;have HT:=Y7 hT;have HXL:=Y7 hxl;have HNN:=Y7 hNN;rw[show (2:Int).toNat=2 from rfl,← hxl] at adt;rw[show (2:Int).toNat=2 from rfl] at hto;have hNe:wrap64 (8*wrap64 ((b.length:Int)-2))=(NN:Int):=by rw[wK (x:=(b.length:Int)-2) (by omega) (by omega),wK (by omega) (by omega)];omega
 clear hr hc hok adU hT hA' hdr hget hxl hNN hn hxb
 go_enter Tryz.func133,Tryz.ntmps133
 go_wp2
 go_step3
 go_wp2_with (first
  | (go_at_call 63;(with_reducible refine (WX A c (b.take 2) (n:Int) true _ HTL.o HTK.o (by have:=HC.o;omega) agE.o).mono ?_);rintro e w1 ⟨rfl,hb⟩;have HB1:=Y7 hb;clear hb)
  | ((with_reducible refine qm (N:=30) rfl ?_);refine rF ?hg (N:=30) ?hd (cs := #[.slice A' xb.length (c-2),.int .i64 (NN:Int),.int .i64 0,.bool false]) (t:=201) ?hr ?_;(case hd=>rfl);(case hg=>rfl);(case hr=>first|(go_simp;done)|(go_simp;rfl));intro g hg w2 Zo hb;have HB2:=Y7 (oP HB1.o hb);have HBK:=Y7 Zo;have HG:oM (w.heap.size≤g):=⟨by have:=HB1.o.size;omega⟩;clear hb Zo hg))
 go_step3
 go_wp2
 -- LOOP
 have hN2:8*((b.length:Int)-2)=(NN:Int):=by have:=HNN.o;omega
 simp only[hN2];have HU0:oM (UP (w1.alloc (.cells #[.slice A' xb.length (c-2),.int .i64 (NN:Int),.int .i64 0,.bool false] 201)) w1.heap.size A' xb.length (c-2) (NN:Int) 0 false):=⟨qx _ _⟩;have HB0:=Y7 (oN HB1.o (.cells #[.slice A' xb.length (c-2),.int .i64 (NN:Int),.int .i64 0,.bool false] 201));have HG:oM (w.heap.size≤w1.heap.size):=⟨HB1.o.size⟩;generalize w1.alloc (.cells #[.slice A' xb.length (c-2),.int .i64 (NN:Int),.int .i64 0,.bool false] 201)=w2 at *;generalize w1.heap.size=g at *;clear hN2 hNe hto adt HB1 HTK HTL agE;have hNN : -9223372036854775808≤(NN:Int)∧(NN:Int)≤9223372036854775807:=by have:=HNN.o;omega
 have ahv:xb.length≤1000000:=by have:=HXL.o;omega
 have CT:=Y7 (fun k s r W hU hB he=>J3 g A' (c-2) xb (NN:Int) k s r w W HX.o HXC.o HG.o HOX.o ahv hNN hU hB he);have CN:=Y7 (fun p r W hU hB he=>MZ g A' (c-2) xb (NN:Int) p r w W HX.o HXC.o HG.o HOX.o ahv hNN hU hB he);have CV:=Y7 (fun p s r W hU hB hs he=>Pb g A' (c-2) xb (NN:Int) p s r w W HX.o HXC.o HG.o HOX.o ahv hNN hU hB hs he);have INV:=Y7 (Hq xb NN (by have:=HNN.o;omega));clear hNN ahv
 go_loopw [7,8,33] (fun v7 v8 i wr=>∃ (k:Nat) (l:List qG) (p st:Int),k≤n∧i = .int .i64 k∧v8 = .int .i64 st∧oM (ug xb (NN:Int) k=(p,false,l,st))∧oM (Kd.R vX 70 wr w.heap.size (fun q=>q≠g) v7 l)∧oM (UP wr g A' xb.length (c-2) (NN:Int) p false)∧oM (Below w.heap.size w wr)) (fun _ _ i _=>n-(intOf i).toNat)
 case atStart=>exact⟨0,[],0,0,bP _,rfl,rfl,⟨rfl⟩,⟨Kd.tJ _ _ _ _ _⟩,HU0,HB0⟩
 case round=>
  clear HU0 HB0;obtain⟨k,l,p,st,hk,rfl,rfl,HS,HOt,HUr,HBr⟩:=hrel;obtain⟨A7,c7,e7⟩:=Kd.pO HOt.o;subst e7;have hinv:=INV.o k;rw[HS.o] at hinv;have adA:oM (∀ x∈l,Bd x):=⟨hinv.1⟩;have HLL:oM (l.length=k):=⟨(hinv.2.2 rfl).1⟩;have HLEN:oM (l.length≤20000):=⟨by have:=hinv.2.1;have:=HNN.o;simp only at *;omega⟩;clear hinv
  by_cases hlt:k<n
  ·have gne:oM (wr.heap.size≠g):=⟨by have:=qQ HUr.o;omega⟩;have HOA:=Y7 (Kd.sJ (Kd.qR (ok':=fun q=>q≠g∧q≠wr.heap.size) (Kd.uK HOt.o) (fun q hq=>⟨hq.1,by have:=hq.2;omega⟩)) (.cells #[.int .i64 0,.int .u64 0] 70));have HBA:=Y7 (oN HBr.o (.cells #[.int .i64 0,.int .u64 0] 70));have HUA:oM (UP (wr.alloc (.cells #[.int .i64 0,.int .u64 0] 70)) g A' xb.length (c-2) (NN:Int) p false):=⟨pK HUr.o _⟩;have HXA:=Y7 (qx wr (.cells #[.int .i64 0,.int .u64 0] 70));have HSA:oM (wr.heap.size<(wr.alloc (.cells #[.int .i64 0,.int .u64 0] 70)).heap.size):=⟨by simp⟩;have HBS:oM (w.heap.size≤wr.heap.size):=⟨HBr.o.size⟩;clear HOt;cases k with
   | zero=>
     have hs0:=HS.o;simp only[ug,bG] at hs0;obtain⟨rfl,-,hl0,rfl⟩:=hs0;obtain⟨a,ha⟩:∃ a,vW xb (NN:Int) (0,false) 64=a:=⟨_,rfl⟩;obtain⟨d,hd⟩:∃ d,vW xb (NN:Int) a.2 64=d:=⟨_,rfl⟩;have HST:oM (ug xb (NN:Int) (0+1)=(d.2.1,d.2.2,if d.2.2=true then l else l++[⟨wrap64 a.1,d.1⟩],0)):=⟨by
      rw[← hl0];have e1:Ms xb (NN:Int) 0=a:=ha;have e2:Jb xb (NN:Int) 0=d:=by unfold Jb;rw[e1];exact hd
      simp only[ug,e1,e2,cB]⟩
     have HA:=Y7 ha;have HD2:=Y7 hd;clear ha hd hl0;cases hbad:d.2.2 with
     | true=>
       have HD:oM (ug xb (NN:Int) n=(d.2.1,true,l,0)):=⟨by
        have h1:=HST.o;rw[hbad,au rfl] at h1;have h2:=EU (xb:=xb) (N:=(NN:Int)) (k:=0) (by rw[h1]) (n-(0+1));rw[show 0+1+(n-(0+1))=n by omega,h1] at h2;exact h2⟩
       obtain⟨eb,ee,henc⟩:∃ eb ee,xM l=(eb,ee):=⟨_,_,rfl⟩;have aaD:=Y7 henc;have aeS:oM (okB eb=true):=⟨by have:=Bp l HLEN.o adA.o;rw[henc] at this;exact this⟩;clear henc
       go_wp2_with (first
        | (go_at_call 150;(with_reducible refine (CT.o 64 (0,0,false) a _ HUA.o HBA.o HA.o).mono ?_);rintro e w3 ⟨rfl,hu,hb,hk⟩;have HU3:=Y7 hu;have HB3:=Y7 hb;have HX3:=Y7 ((hk.2 wr.heap.size HSA.o gne.o (by simp)).trans HXA.o);have HS3:oM (wr.heap.size<w3.heap.size):=⟨dA HSA.o hk.1⟩;have HO3:=Y7 (Kd.vL HOA.o hk (fun _ q=>q.1));clear hu hb hk)
        | (go_at_call 150;(with_reducible refine (CT.o 64 a d _ HU3.o HB3.o HD2.o).mono ?_);rintro e w4 ⟨rfl,hu,hb,hk⟩;rw[hbad] at hu;have hx4:=(hk.2 wr.heap.size HS3.o gne.o (by simp)).trans HX3.o;have c40:=(oQ hx4 0).trans rfl;have c41:=(oQ hx4 1).trans rfl;have f40:=oW hx4 0;have f41:=oW hx4 1;have HXB:oM (((w4.setCell ⟨wr.heap.size,0,none⟩ (.int .i64 (wrap64 a.1))).setCell ⟨wr.heap.size,1,none⟩ (.int .u64 d.1)).heap[wr.heap.size]? = some (.cells #[.int .i64 (wrap64 a.1),.int .u64 d.1] 70 (0,0))):=⟨qF (qF hx4 0 _ rfl) 1 _ rfl⟩;have HUt:oM (UP ((w4.setCell ⟨wr.heap.size,0,none⟩ (.int .i64 (wrap64 a.1))).setCell ⟨wr.heap.size,1,none⟩ (.int .u64 d.1)) g A' xb.length (c-2) (NN:Int) d.2.1 true):=⟨vH (p:=⟨wr.heap.size,1,none⟩) (vH (p:=⟨wr.heap.size,0,none⟩) hu gne.o.symm _) gne.o.symm _⟩;have HOt:oM (Kd.R vX 70 ((w4.setCell ⟨wr.heap.size,0,none⟩ (.int .i64 (wrap64 a.1))).setCell ⟨wr.heap.size,1,none⟩ (.int .u64 d.1)) w.heap.size (fun q=>q≠g) (.slice A7 l.length c7) l):=⟨Kd.qR (Kd.sS (p:=⟨wr.heap.size,1,none⟩) (Kd.sS (p:=⟨wr.heap.size,0,none⟩) (Kd.vL HO3.o hk (fun _ q=>q.1)) (fun _ q=>q.2) _) (fun _ q=>q.2) _) (fun _ q=>q.1)⟩;have HBt:oM (Below w.heap.size w ((w4.setCell ⟨wr.heap.size,0,none⟩ (.int .i64 (wrap64 a.1))).setCell ⟨wr.heap.size,1,none⟩ (.int .u64 d.1))):=⟨(hb.setCell (p:=⟨wr.heap.size,0,none⟩) HBS.o _).setCell (p:=⟨wr.heap.size,1,none⟩) HBS.o _⟩;have cx3:=(oQ HUt.o 3).trans rfl;have cs0:=(oQ HXB.o 0).trans rfl;have cs1:=(oQ HXB.o 1).trans rfl;clear hu hb hk hx4)
        | (go_at_call 61;(with_reducible refine (sN.qM A7 c7 l _ eb ee rfl (Kd.pE HOt.o).2.2 (Kd.pE HOt.o).2.1 adA.o HLEN.o (HT.o.below HBt.o) aaD.o).mono ?_);rintro e w6 ⟨v6,rfl,hr6,hb⟩;obtain⟨A6,c6,rfl⟩:=Kd.pO hr6;have HR6:=Y7 (Kd.pE hr6);have HU6:=Y7 (o7 HUt.o hb);have HO6:=Y7 (Kd.qo HOt.o hb);have HB6:=Y7 (oP HBt.o hb);have c63:=(oQ HU6.o 3).trans rfl;clear hr6 hb))
       try rw[jS]
       refine bg (dD rfl _ _ _) rfl ?_;rw[HF.o,HD.o,av (by simp)];exact⟨_,rfl,Kd.tJ _ _ _ _ _,HB6.o⟩
     | false=>
       go_wp2_with (first
        | (go_at_call 150;(with_reducible refine (CT.o 64 (0,0,false) a _ HUA.o HBA.o HA.o).mono ?_);rintro e w3 ⟨rfl,hu,hb,hk⟩;have HU3:=Y7 hu;have HB3:=Y7 hb;have HX3:=Y7 ((hk.2 wr.heap.size HSA.o gne.o (by simp)).trans HXA.o);have HS3:oM (wr.heap.size<w3.heap.size):=⟨dA HSA.o hk.1⟩;have HO3:=Y7 (Kd.vL HOA.o hk (fun _ q=>q.1));clear hu hb hk)
        | (go_at_call 150;(with_reducible refine (CT.o 64 a d _ HU3.o HB3.o HD2.o).mono ?_);rintro e w4 ⟨rfl,hu,hb,hk⟩;rw[hbad] at hu;have hx4:=(hk.2 wr.heap.size HS3.o gne.o (by simp)).trans HX3.o;have c40:=(oQ hx4 0).trans rfl;have c41:=(oQ hx4 1).trans rfl;have f40:=oW hx4 0;have f41:=oW hx4 1;have HXB:oM (((w4.setCell ⟨wr.heap.size,0,none⟩ (.int .i64 (wrap64 a.1))).setCell ⟨wr.heap.size,1,none⟩ (.int .u64 d.1)).heap[wr.heap.size]? = some (.cells #[.int .i64 (wrap64 a.1),.int .u64 d.1] 70 (0,0))):=⟨qF (qF hx4 0 _ rfl) 1 _ rfl⟩;have HUt:oM (UP ((w4.setCell ⟨wr.heap.size,0,none⟩ (.int .i64 (wrap64 a.1))).setCell ⟨wr.heap.size,1,none⟩ (.int .u64 d.1)) g A' xb.length (c-2) (NN:Int) d.2.1 false):=⟨vH (p:=⟨wr.heap.size,1,none⟩) (vH (p:=⟨wr.heap.size,0,none⟩) hu gne.o.symm _) gne.o.symm _⟩;have HOt:oM (Kd.R vX 70 ((w4.setCell ⟨wr.heap.size,0,none⟩ (.int .i64 (wrap64 a.1))).setCell ⟨wr.heap.size,1,none⟩ (.int .u64 d.1)) w.heap.size (fun q=>q≠g) (.slice A7 l.length c7) l):=⟨Kd.qR (Kd.sS (p:=⟨wr.heap.size,1,none⟩) (Kd.sS (p:=⟨wr.heap.size,0,none⟩) (Kd.vL HO3.o hk (fun _ q=>q.1)) (fun _ q=>q.2) _) (fun _ q=>q.2) _) (fun _ q=>q.1)⟩;have HBt:oM (Below w.heap.size w ((w4.setCell ⟨wr.heap.size,0,none⟩ (.int .i64 (wrap64 a.1))).setCell ⟨wr.heap.size,1,none⟩ (.int .u64 d.1))):=⟨(hb.setCell (p:=⟨wr.heap.size,0,none⟩) HBS.o _).setCell (p:=⟨wr.heap.size,1,none⟩) HBS.o _⟩;have cx3:=(oQ HUt.o 3).trans rfl;have cs0:=(oQ HXB.o 0).trans rfl;have cs1:=(oQ HXB.o 1).trans rfl;clear hu hb hk hx4)
        | ((with_reducible refine uh (b := .append) (xs := #[.tmp 70,.tmp 72]) rfl ?_);at_builtin;refine Kd.yw vX (w0:=w) w.heap.size rfl (.tmp 70) (.tmp 72) 49 70 (.agg #[.int .i64 0,.int .u64 0]) 16 rfl Tryz.underlying49 ze rfl (by decide) (by omega) (.slice A7 l.length c7) l (⟨wrap64 a.1,d.1⟩:qG) [.int .i64 (wrap64 a.1),.int .u64 d.1] (fun q=>q≠g) (fun _=>False) rfl ?hx ?aP (fun _ hk=>hk.elim) ?aF HOt.o HBt.o HBt.o.size ?aL ?_;(case hx=>first | rfl | (go_simp;done)|(show Value.slice _ 1 1=Value.slice _ 1 1;simp;done));(case aP=>exact En _ _ _ (⟨wrap64 a.1,d.1⟩:qG));(case aF=>exact fun q hq e=>by have:=qQ HUt.o;omega);(case aL=>have:=HLEN.o;omega);intro v9 w9 ho hb hg9 hat;have HO9:=Y7 ho;have HB9:=Y7 hb;have HU9:=Y7 (qK HUt.o hg9 (Kd.DZ HOt.o HUt.o (by decide)));clear ho hb hg9 hat))
       go_roundw
       case rel=>exact⟨0+1,l++[(⟨wrap64 a.1,d.1⟩:qG)],d.2.1,0,by omega,by go_num,rfl,⟨by have h1:=HST.o;rw[hbad,av (by simp)] at h1;exact h1⟩,HO9,HU9,HB9⟩
       case measure=>simp[intOf];omega
   | succ k=>
     rw[show ((k+1:Nat):Int)=(k:Int)+1 from by omega] at *;obtain⟨a,ha⟩:∃ a,CK xb (NN:Int) p=a:=⟨_,rfl⟩;obtain⟨d,hd⟩:∃ d,Jc xb (NN:Int) p=d:=⟨_,rfl⟩;obtain⟨y,hy⟩:∃ y,pI l (k:Int)=y:=⟨_,rfl⟩;have HST:oM (ug xb (NN:Int) (k+1+1)=(d.2.1,d.2.2,if d.2.2=true then l else l++[⟨wrap64 (y.f0+wrap64 (st+a.1)),Go.bits .xor .u64 y.f1 d.1⟩],wrap64 (st+a.1))):=⟨by
      rw[ug,HS.o];simp only;rw[av (by simp),ha,hd,hy]⟩
     have hwk:wrap64 (k:Int)=(k:Int):=wK (by omega) (by omega);have amD:IntKind.i64.wrap (k:Int)=(k:Int):=(q8 _).trans hwk;have HA:=Y7 ha;have HD2:=Y7 hd;have HY:=Y7 hy;clear ha hd hy
     go_wp2_with (go_at_call 151;(with_reducible refine (CN.o p a _ HUA.o HBA.o HA.o).mono ?_);rintro e w3 ⟨rfl,hu,hb,hk⟩;have HU3:=Y7 hu;have HB3:=Y7 hb;have HX3:=Y7 ((hk.2 wr.heap.size HSA.o gne.o (by simp)).trans HXA.o);have HS3:oM (wr.heap.size<w3.heap.size):=⟨dA HSA.o hk.1⟩;have HO3:=Y7 (Kd.vL HOA.o hk (fun _ q=>q.1));clear hu hb hk)
     go_cut [] (fun wx=>oM (wx.heap[wr.heap.size]? = some (.cells #[.int .i64 (wrap64 (y.f0+wrap64 (st+a.1))),.int .u64 (Go.bits .xor .u64 y.f1 d.1)] 70 (0,0)))∧oM (UP wx g A' xb.length (c-2) (NN:Int) d.2.1 d.2.2)∧oM (Kd.R vX 70 wx w.heap.size (fun q=>q≠g) (.slice A7 l.length c7) l)∧oM (Below w.heap.size w wx))
     case first=>
      obtain⟨ad,hh,y0,y1⟩:=tY (Kd.pE HO3.o).2.2 (k:Int) (by omega) (by have:=HLL.o;omega);rw[aG,HY.o] at y0 y1;have hk1:(k:Int)+1=(l.length:Int):=by have:=HLL.o;omega
      subst hh;obtain⟨inn,hown⟩:=Kd.FL HO3.o;have hn1:ad.block≠g:=Et hown (Kd.Ka HO3.o (fun q hq=>hq.1));have hn2:ad.block≠wr.heap.size:=Et hown (Kd.Ka HO3.o (fun q hq=>hq.2));have HN1:oM ((ad.add (k*2)).block≠g∧(ad.add (k*2)).block≠wr.heap.size):=⟨by rw[add_block];exact⟨hn1,hn2⟩⟩;clear hown hn1 hn2;have hb0:(0:Int)≤(k:Int):=by omega
      have hb1:(k:Int)<(l.length:Int):=by omega
      clear hk1
      go_region_held3 (fun W=>W.cell? (ad.add (k*2))=some (.int .i64 y.f0)∧W.cell? ⟨(ad.add (k*2)).block,(ad.add (k*2)).off+1,none⟩=some (.int .u64 y.f1)) (first | exact⟨y0,y1⟩ | exact⟨z0,z1⟩ | exact⟨(cell_far (p:=⟨wr.heap.size,1,none⟩) HN1.o.2 _).trans ((cell_far (p:=⟨wr.heap.size,0,none⟩) HN1.o.2 _).trans z0),(cell_far (p:=⟨wr.heap.size,1,none⟩) (a:=⟨(ad.add (k*2)).block,(ad.add (k*2)).off+1,none⟩) HN1.o.2 _).trans ((cell_far (p:=⟨wr.heap.size,0,none⟩) (a:=⟨(ad.add (k*2)).block,(ad.add (k*2)).off+1,none⟩) HN1.o.2 _).trans z1)⟩)
       (first|(go_at_call 152;(refine (CV.o p a d _ ?s1 ?s2 HA.o HD2.o).mono ?_);(case s1=>exact HU3.o);(case s2=>exact oV HB3.o);rintro e w4 ⟨rfl,hu,hb,hk⟩;have z0:=yc hk y0 HN1.o.1;have z1:=yc hk y1 HN1.o.1;have hx4:=(hk.2 wr.heap.size HS3.o gne.o (by simp)).trans HX3.o;have c40:=(oQ hx4 0).trans rfl;have c41:=(oQ hx4 1).trans rfl;have f40:=oW hx4 0;have f41:=oW hx4 1;have HX4:=Y7 hx4;have HU4:=Y7 hu;have HB4:=Y7 hb;have HK4:=Y7 hk;clear hx4 hu hb hk))
      all_goals
       go_wp2_with fail
       go_meet
       refine⟨⟨?_⟩,⟨?_⟩,⟨?_⟩,⟨?_⟩⟩
       ·simp only[q8];exact qF (qF HX4.o 0 _ rfl) 1 _ rfl
       ·exact vH (p:=⟨wr.heap.size,1,none⟩) (vH (p:=⟨wr.heap.size,0,none⟩) HU4.o gne.o.symm _) gne.o.symm _
       ·exact Kd.qR (Kd.sS (p:=⟨wr.heap.size,1,none⟩) (Kd.sS (p:=⟨wr.heap.size,0,none⟩) (Kd.vL (Kd.vK HO3.o) HK4.o (fun _ q=>q.1)) (fun _ q=>q.2) _) (fun _ q=>q.2) _) (fun _ q=>q.1)
       ·exact (HB4.o.setCell (p:=⟨wr.heap.size,0,none⟩) HBS.o _).setCell (p:=⟨wr.heap.size,1,none⟩) HBS.o _
     case rest=>
      obtain⟨HXB,HUt,HOt,HBt⟩:=hcut;have cx3:=(oQ HUt.o 3).trans rfl;have cs0:wc.cell? ⟨wr.heap.size,0,none⟩=some (.int .i64 (wrap64 (y.f0+wrap64 (st+a.1)))):=(oQ HXB.o 0).trans rfl;have cs1:wc.cell? ⟨wr.heap.size,1,none⟩=some (.int .u64 (Go.bits .xor .u64 y.f1 d.1)):=(oQ HXB.o 1).trans rfl;cases hbad:d.2.2 with
      | true=>
        rw[hbad] at cx3;have HD:oM (ug xb (NN:Int) n=(d.2.1,true,l,wrap64 (st+a.1))):=⟨by
         have h1:=HST.o;rw[hbad,au rfl] at h1;have h2:=EU (xb:=xb) (N:=(NN:Int)) (k:=k+1) (by rw[h1]) (n-(k+1+1));rw[show k+1+1+(n-(k+1+1))=n by omega,h1] at h2;exact h2⟩
        obtain⟨eb,ee,henc⟩:∃ eb ee,xM l=(eb,ee):=⟨_,_,rfl⟩;have aaD:=Y7 henc;have aeS:oM (okB eb=true):=⟨by have:=Bp l HLEN.o adA.o;rw[henc] at this;exact this⟩;clear henc
        go_wp2_with (first
         | (go_at_call 61;(with_reducible refine (sN.qM A7 c7 l _ eb ee rfl (Kd.pE HOt.o).2.2 (Kd.pE HOt.o).2.1 adA.o HLEN.o (HT.o.below HBt.o) aaD.o).mono ?_);rintro e w6 ⟨v6,rfl,hr6,hb⟩;obtain⟨A6,c6,rfl⟩:=Kd.pO hr6;have HR6:=Y7 (Kd.pE hr6);have HU6:=Y7 (o7 HUt.o hb);have HO6:=Y7 (Kd.qo HOt.o hb);have HB6:=Y7 (oP HBt.o hb);have c63:=(oQ HU6.o 3).trans rfl;clear hr6 hb))
        try rw[jS]
        refine bg (dD rfl _ _ _) rfl ?_;rw[HF.o,HD.o,av (by simp)];exact⟨_,rfl,Kd.tJ _ _ _ _ _,HB6.o⟩
      | false=>
        rw[hbad] at cx3
        go_wp2_with (first
         | ((with_reducible refine uh (b := .append) (xs := #[.tmp 70,.tmp 72]) rfl ?_);at_builtin;refine Kd.yw vX (w0:=w) w.heap.size rfl (.tmp 70) (.tmp 72) 49 70 (.agg #[.int .i64 0,.int .u64 0]) 16 rfl Tryz.underlying49 ze rfl (by decide) (by omega) (.slice A7 l.length c7) l (⟨wrap64 (y.f0+wrap64 (st+a.1)),Go.bits .xor .u64 y.f1 d.1⟩:qG) [.int .i64 (wrap64 (y.f0+wrap64 (st+a.1))),.int .u64 (Go.bits .xor .u64 y.f1 d.1)] (fun q=>q≠g) (fun _=>False) rfl ?hx ?aP (fun _ hk=>hk.elim) ?aF HOt.o HBt.o HBt.o.size ?aL ?_;(case hx=>first | rfl | (go_simp;done)|(show Value.slice _ 1 1=Value.slice _ 1 1;simp;done));(case aP=>exact En _ _ _ (⟨wrap64 (y.f0+wrap64 (st+a.1)),Go.bits .xor .u64 y.f1 d.1⟩:qG));(case aF=>exact fun q hq e=>by have:=qQ HUt.o;omega);(case aL=>have:=HLEN.o;omega);intro v9 w9 ho hb hg9 hat;have HO9:=Y7 ho;have HB9:=Y7 hb;have HU9:=Y7 (qK HUt.o hg9 (Kd.DZ HOt.o HUt.o (by decide)));clear ho hb hg9 hat))
        go_roundw
        case rel=>exact⟨k+1+1,l++[(⟨wrap64 (y.f0+wrap64 (st+a.1)),Go.bits .xor .u64 y.f1 d.1⟩:qG)],d.2.1,wrap64 (st+a.1),by omega,by go_num,rfl,⟨by have h1:=HST.o;rw[hbad,av (by simp)] at h1;exact h1⟩,HO9,⟨by rw[← hbad];exact HU9.o⟩,HB9⟩
        case measure=>simp[intOf];omega
  ·obtain rfl:k=n:=by omega
   have HD:=Y7 HS.o;have HUt:=HUr;have HBt:=HBr;have cx3:=(oQ HUt.o 3).trans rfl;obtain⟨eb,ee,henc⟩:∃ eb ee,xM l=(eb,ee):=⟨_,_,rfl⟩;have aaD:=Y7 henc;have aeS:oM (okB eb=true):=⟨by have:=Bp l HLEN.o adA.o;rw[henc] at this;exact this⟩;clear henc
   by_cases hee:ee=0
   ·subst hee;have aiO:((0:Int) != 0)=false:=rfl;cases heq:decide (eb=b) with
    | false=>
      have HEQ:=Y7 heq
      go_wp2_with (first
       | (go_at_call 61;(with_reducible refine (sN.qM A7 c7 l _ eb 0 rfl (Kd.pE HOt.o).2.2 (Kd.pE HOt.o).2.1 adA.o HLEN.o (HT.o.below HBt.o) aaD.o).mono ?_);rintro e w6 ⟨v6,rfl,hr6,hb⟩;obtain⟨A6,c6,rfl⟩:=Kd.pO hr6;have HR6:=Y7 (Kd.pE hr6);have HU6:=Y7 (o7 HUt.o hb);have HO6:=Y7 (Kd.qo HOt.o hb);have HB6:=Y7 (oP HBt.o hb);have c63:=(oQ HU6.o 3).trans rfl;clear hr6 hb)
       | (go_at_call 38;(with_reducible refine (LD A6 c6 eb A c b false _ rfl rfl HR6.o.2.2 HR6.o.2.1 (Kd.o9 HRB.o HB6.o) HC.o aeS.o HOK.o HEQ.o).mono ?_);rintro e w7 ⟨rfl,hb⟩;have HB7:=Y7 (oP HB6.o hb);clear hb))
      try rw[jS]
      refine bg (dD rfl _ _ _) rfl ?_;rw[HF.o,HD.o,av (by rw[aaD.o];intro q;have:=dF HEQ.o;exact this (eU Prod.fst q.2))];exact⟨_,rfl,Kd.tJ _ _ _ _ _,HB7.o⟩
    | true=>
      have HEQ:=Y7 heq
      go_wp2_with (first
       | (go_at_call 61;(with_reducible refine (sN.qM A7 c7 l _ eb 0 rfl (Kd.pE HOt.o).2.2 (Kd.pE HOt.o).2.1 adA.o HLEN.o (HT.o.below HBt.o) aaD.o).mono ?_);rintro e w6 ⟨v6,rfl,hr6,hb⟩;obtain⟨A6,c6,rfl⟩:=Kd.pO hr6;have HR6:=Y7 (Kd.pE hr6);have HU6:=Y7 (o7 HUt.o hb);have HO6:=Y7 (Kd.qo HOt.o hb);have HB6:=Y7 (oP HBt.o hb);have c63:=(oQ HU6.o 3).trans rfl;clear hr6 hb)
       | (go_at_call 38;(with_reducible refine (LD A6 c6 eb A c b true _ rfl rfl HR6.o.2.2 HR6.o.2.1 (Kd.o9 HRB.o HB6.o) HC.o aeS.o HOK.o HEQ.o).mono ?_);rintro e w7 ⟨rfl,hb⟩;have HB7:=Y7 (oP HB6.o hb);have HO7:=Y7 (Kd.qo HO6.o hb);clear hb))
      try rw[jS]
      refine bg (dD rfl _ _ _) rfl ?_;rw[HF.o,HD.o,au ⟨rfl,by rw[aaD.o];exact eU (fun z=>(z,(0:Int))) (aN HEQ.o)⟩];exact⟨_,rfl,Kd.qR HO7.o (fun _ _=>bE),HB7.o⟩
   ·have aiO:(ee != 0)=true:=bne_iff_ne.2 hee;have HEE:=Y7 hee;clear hee
    go_wp2_with (first
     | (go_at_call 61;(with_reducible refine (sN.qM A7 c7 l _ eb ee rfl (Kd.pE HOt.o).2.2 (Kd.pE HOt.o).2.1 adA.o HLEN.o (HT.o.below HBt.o) aaD.o).mono ?_);rintro e w6 ⟨v6,rfl,hr6,hb⟩;obtain⟨A6,c6,rfl⟩:=Kd.pO hr6;have HR6:=Y7 (Kd.pE hr6);have HU6:=Y7 (o7 HUt.o hb);have HO6:=Y7 (Kd.qo HOt.o hb);have HB6:=Y7 (oP HBt.o hb);have c63:=(oQ HU6.o 3).trans rfl;clear hr6 hb))
    try rw[jS]
    refine bg (dD rfl _ _ _) rfl ?_;rw[HF.o,HD.o,av (by rw[aaD.o];intro q;exact HEE.o (eU Prod.snd q.2))];exact⟨_,rfl,Kd.tJ _ _ _ _ _,HB6.o⟩
theorem Ae.qM {n:Nat}(A:Option Addr)(c:Nat)(b:List Int)(w:World)(rl:List qG)(re:Int)(hn:b.length=n)(hr:Kd.C (Kd.int .u8) w A b.length b)(hc:n≤c)(hok:okB b=true)(hlen:n≤2500)(hT:yN w)(he:wH b=(rl,re)) :
 Calls Tryz.prog 133 #[.slice A n c] w fun e w'=>∃ v:Value,e = .returned (.tuple #[v,.int .i64 re])∧Kd.R vX 70 w' w.heap.size (fun _=>True) v rl∧Below w.heap.size w w':=by
 subst hn;have:=Ae.c A c b w hr hc hok hlen hT;rw[he] at this;exact this
theorem Vz (l:List qG)(hl:l.length≤20000)(hok:∀ x∈l,Bd x)(hc:vC l=true):okB (sU l)=true:=by
 have h:=Bp l hl hok;rw[(KD l hok hl hc).1] at h;exact h
theorem Tt (l:List qG)(hl:l.length≤1000000):∀ d i,i+d=l.length→∀ k,d<k→rQ.l0 k l l (l.length:Int) (i:Int)=some true
 | 0,i,h,k+1,hk=>by
   unfold rQ.l0;rw[av (by omega)]
 | d+1,i,h,k+1,hk=>by
   unfold rQ.l0;have e:wrap64 ((i:Int)+1)=((i+1:Nat):Int):=by rw[wK (by omega) (by omega)];omega
   rw[au (by omega),au (by omega),au (by omega),au (by omega),av (by simp),e];exact Tt l hl d (i+1) (by omega) k (by omega)
theorem Tq (l:List Int)(hl:l.length≤1000000):∀ d i,i+d=l.length→∀ k,d<k→qC.l0 k l l (l.length:Int) (i:Int)=some true
 | 0,i,h,k+1,hk=>by
   unfold qC.l0;rw[av (by omega)]
 | d+1,i,h,k+1,hk=>by
   unfold qC.l0;have e:wrap64 ((i:Int)+1)=((i+1:Nat):Int):=by rw[wK (by omega) (by omega)];omega
   rw[au (by omega),au (by omega),au (by omega),au (by omega),au rfl,e];exact Tq l hl d (i+1) (by omega) k (by omega)
theorem WM (A0:Option Addr)(c0:Nat)(A1:Option Addr)(c1:Nat)(l:List qG)(w:World)(hr0:Kd.C vX w A0 l.length l)(hc0:l.length≤c0)(hr1:Kd.C vX w A1 l.length l)(hc1:l.length≤c1)(hl:l.length≤1000000) :
 Calls Tryz.prog 42 #[.slice A0 l.length c0,.slice A1 l.length c1] w fun e w'=>e = .returned (.bool true)∧Below w.heap.size w w' :=
 (rQ.c (l.length+1) A0 c0 l A1 c1 l true w hr0 hc0 hr1 hc1 (by
  unfold rQ.f;rw[au rfl];exact Tt l hl l.length 0 (by omega) _ (by omega))).mono fun e w' ⟨he,hd⟩=>⟨he,hd.below⟩
theorem WK (A0:Option Addr)(c0:Nat)(A1:Option Addr)(c1:Nat)(l:List Int)(w:World)(hr0:Kd.C (Kd.int .u8) w A0 l.length l)(hc0:l.length≤c0)(hr1:Kd.C (Kd.int .u8) w A1 l.length l)(hc1:l.length≤c1)(hl:l.length≤1000000) :
 Calls Tryz.prog 11 #[.slice A0 l.length c0,.slice A1 l.length c1] w fun e w'=>e = .returned (.bool true)∧Below w.heap.size w w' :=
 (qC.c (l.length+1) A0 c0 l A1 c1 l true w hr0 hc0 hr1 hc1 (by
  unfold qC.f;rw[au rfl];exact Tq l hl l.length 0 (by omega) _ (by omega))).mono fun e w' ⟨he,hd⟩=>⟨he,hd.below⟩
def Good (b:List Int)(l0:List qG):Prop:=(∀ x∈l0,Bd x)∧vC l0=true∧l0.length≤20000∧sU l0=b
def RI (b xb:List Int)(l:List qG)(k p:Nat):Prop:=l.length=k∧(∀ x∈l,Bd x)∧k≤p∧p≤8*xb.length∧∀ l0,Good b l0→k≤l0.length→l=l0.take k∧p=(tH l0 k).length
def Kj (b xb:List Int)(l:List qG)(k:Nat)(s:qG)(p':Nat)(bad':Bool):Prop:=p'≤8*xb.length∧(bad'=false→RI b xb (l++[s]) (k+1) p')∧∀ l0,Good b l0→k<l0.length→bad'=false
theorem Ci {b xb:List Int}{l0:List qG}(h:Good b l0)(hxb:b.drop 2=xb):yV xb (8*xb.length)∧(∃ Z,Bs xb (8*xb.length)=tH l0 l0.length++Z)∧wI 0 (b.take 2)=l0.length∧2≤b.length:=by
 obtain⟨h1,h2,h3,h4⟩:=h;have hP:=wD l0 h1 l0.length (ay _);obtain⟨hX,hBs⟩:=Il (tH l0 l0.length) (by omega);obtain⟨Z,hZ⟩:=Pj hX;rw[hBs] at hZ;have hd:xb=BF (tH l0 l0.length):=by rw[← hxb,← h4,sU,fV (pY _ _)]
 have ht:b.take 2=rD l0.length 2:=by rw[← h4,sU,eP (pY _ _)]
 have hb:b.length=2+(BF (tH l0 l0.length)).length:=by rw[← h4,sU,aT,pY]
 rw[hd];exact⟨M9 hX,⟨Z,hZ⟩,by rw[ht];exact Px _ (by omega),by omega⟩
theorem Ow {l:List Int}{N:Nat}{B Z:List Bool}{v:Int}(hv:(Lit.int .i64 v).wf=true)(h:Bs l N=B++intBits v++Z):wJ l N 4 B.length=(v,((B.length+(intBits v).length:Nat):Int),0):=by
 have hN:B.length+(intBits v).length≤N:=by have:=eU List.length h;simp at this;omega
 have h1:=Pk h (m:=B.length+(intBits v).length) (by simp);exact Dw hN 4 B.length (JD v hv h1)
theorem YR {b xb:List Int}{p:Nat}(hx:Bh xb)(hl:xb.length≤100000)(hxb:b.drop 2=xb)(h:RI b xb [] 0 p){a d:Nat × Nat × Bool}(ha:rT xb p false 64=a)(hd:rT xb a.2.1 a.2.2 64=d)(hp0:p=0):Kj b xb [] 0 ⟨wrap64 (a.1:Int),(d.1:Int)⟩ d.2.1 d.2.2:=by
 subst hp0;have g1:=uT xb 0 false 64 (by omega);rw[ha] at g1;have g2:=uT xb a.2.1 a.2.2 64 g1.2.1;rw[hd] at g2;have key:∀ l0,Good b l0→0<l0.length→d.2.2=false∧wrap64 (a.1:Int)=(pI l0 0).f0∧(d.1:Int)=(pI l0 0).f1∧d.2.1=(tH l0 1).length:=by
  intro l0 hg hl0;obtain⟨hX,⟨Z,hZ⟩,_,_⟩:=Ci hg hxb;obtain⟨Y,hY⟩:=Br l0 1 (l0.length-1);rw[show 1+(l0.length-1)=l0.length by omega] at hY;have hm:=hg.1 _ (xR l0 0 hl0);have hu:=uy (pI l0 0).f0;obtain⟨u,eu⟩:=bO hu.1;obtain⟨v,ev⟩:=bO hm.2.1;have ev':(pI l0 0).f1=(v:Int):=ev;have hv:v<18446744073709551616:=by have:=hm.2.2;rw[ev] at this;omega
  have huu:u<18446744073709551616:=by rw[eu] at hu;omega
  have e1:tH l0 1=low u 64++low v 64:=by
   show low (IntKind.u64.wrap (pI l0 0).f0).toNat 64++low (pI l0 0).f1.toNat 64=_;rw[eu,ev'];rfl
  rw[hY,e1] at hZ;have a1:=xS (c:=64) (B:=[]) (L:=low u 64) (Z:=low v 64++(Y++Z)) hX (rH _ _) (by decide) (by simp) (by rw[hZ];simp only[cB,bC]);have a2:=xS (c:=64) (B:=low u 64) (L:=low v 64) (Z:=Y++Z) hX (rH _ _) (by decide) (by simp) (by rw[hZ];simp only[bC]);rw[zq,iy huu] at a1;rw[zq,iy hv,rH] at a2;obtain⟨q1,f1⟩:=DV (xb:=xb) (p:=0) (c:=64) false (by have:=eU (fun z=>z.2.2) a1;exact this) hl;rw[show ((0:Nat):Int)=((([]:List Bool).length:Nat):Int) from rfl,a1] at q1;rw[ha] at q1 f1;simp only[bG,kZ] at q1;have hp1:a.2.1=64:=by have:=q1.2;simp at this;omega
  obtain⟨q2,f2⟩:=DV (xb:=xb) (p:=64) (c:=64) a.2.2 (by have:=eU (fun z=>z.2.2) a2;exact this) hl;have hd':=hd;rw[hp1] at hd';rw[a2,hd'] at q2;rw[hd'] at f2;simp only[bG,kZ] at q2;have ef:wrap64 (u:Int)=(pI l0 0).f0:=by
   have:=Hy (pI l0 0).f0 hm.1;rw[eu] at this;exact this
  refine⟨f2.trans f1,?_,?_,?_⟩
  ·rw[← q1.1];exact ef
  ·rw[← q2.1];exact ev'.symm
  ·rw[e1,aT,rH,rH];omega
 refine⟨g2.2.1,fun e=>⟨rfl,fun x hx=>?_,?_,g2.2.1,fun l0 hg hl0=>?_⟩,fun l0 hg hl0=>(key l0 hg hl0).1⟩
 ·simp only[cB,fu] at hx;subst hx;refine⟨wrap64_in _,eZ _,?_⟩;show (d.1:Int)<_;have:=g2.2.2.2;omega
 ·have:=g2.2.2.1 e;omega
 ·have hk:=key l0 hg (by omega);refine⟨?_,hk.2.2.2⟩;rw[zx l0 0 (by omega),hk.2.1,hk.2.2.1];rfl
theorem wrap_add (a b:Int):wrap64 (wrap64 a+b)=wrap64 (a+b):=by unfold wrap64;omega
theorem J7 (a b:Int):wrap64 (a+wrap64 b)=wrap64 (a+b):=by unfold wrap64;omega
theorem O1 (l0:List qG)(k m:Nat)(h:k≤m):uP (l0.take m) k=uP l0 k:=by
 match k,h with
 | 0,_=>rfl
 | 1,_=>rfl
 | k+2,h=>rw[uP,uP,Cu _ _ _ (by omega),Cu _ _ _ (by omega)]
theorem V3 {b xb:List Int}{l:List qG}{k p:Nat}(hx:Bh xb)(hl:xb.length≤100000)(hxb:b.drop 2=xb)(h:RI b xb l (k+1) p){y:qG}(hy:pI l (k:Int)=y){a d:Int × Nat × Bool}(ha:wT xb 4 p false=a)(hd:rX xb a.2.1 a.2.2=d):Kj b xb l (k+1) ⟨wrap64 (y.f0+wrap64 (uP l (k+1)+a.1)),Go.bits .xor .u64 y.f1 d.1⟩ d.2.1 d.2.2:=by
 obtain⟨r1,r2,r3,r4,r5⟩:=h;have g1:=BL xb 4 p false r4;rw[ha] at g1;have g2:=Uw xb a.2.1 a.2.2 g1.2.1;rw[hd] at g2;have hdr:=Ux xb a.2.1 a.2.2;rw[hd] at hdr;have aiP:Bd y:=hy ▸ Ue r2 (k:Int);have key:∀ l0,Good b l0→k+1<l0.length→d.2.2=false∧wrap64 (y.f0+wrap64 (uP l (k+1)+a.1))=(pI l0 ((k+1:Nat):Int)).f0∧Go.bits .xor .u64 y.f1 d.1=(pI l0 ((k+1:Nat):Int)).f1∧d.2.1=(tH l0 (k+2)).length∧l=l0.take (k+1):=by
  intro l0 hg hl0;obtain⟨hX,⟨Z,hZ⟩,_,_⟩:=Ci hg hxb;obtain⟨el,ep⟩:=r5 l0 hg (by omega);obtain⟨Y,hY⟩:=Br l0 (k+2) (l0.length-(k+2));rw[show k+2+(l0.length-(k+2))=l0.length by omega] at hY;have hlen:=wD l0 hg.1 (k+1) (by omega);have h20:=hg.2.2.1;have hx1:=hg.1 _ (xR l0 (k+1) (by omega));have e2:tH l0 (k+2)=tH l0 (k+1)++(intBits (wrap64 (wrap64 ((pI l0 ((k+1:Nat):Int)).f0-(pI l0 ((k:Nat):Int)).f0)-uP l0 (k+1)))++sK ((pI l0 ((k+1:Nat):Int)).f1.toNat ^^^ (pI l0 ((k:Nat):Int)).f1.toNat)):=rfl;have hst:=NM l0 (k+1);have es:uP l (k+1)=uP l0 (k+1):=by rw[el];exact O1 l0 (k+1) (k+1) (ay _)
  have ey:pI l0 ((k:Nat):Int)=y:=by rw[← hy,el];exact (Cu l0 k (k+1) (by omega)).symm
  rw[ey] at e2;obtain⟨x,ex⟩:∃ x,pI l0 ((k+1:Nat):Int)=x:=⟨_,rfl⟩;rw[ex] at e2 hx1 ⊢;obtain⟨st,est⟩:∃ st,uP l0 (k+1)=st:=⟨_,rfl⟩;rw[est] at e2 hst es;obtain⟨v,ev⟩:∃ v,wrap64 (wrap64 (x.f0-y.f0)-st)=v:=⟨_,rfl⟩;have hv:(Lit.int .i64 v).wf=true:=ev ▸ TG (wrap64_in _);have hxx:=I6 hx1.2 aiP.2;have htb:=J4 x.f0 y.f0 st hx1.1 hst;have akj:=NV hx1.2 aiP.2;rw[ev] at e2 htb;obtain⟨q,eq⟩:∃ q,x.f1.toNat ^^^ y.f1.toNat=q:=⟨_,rfl⟩;rw[eq] at e2 hxx akj;rw[hY,e2] at hZ;have a1:=Ow (B:=tH l0 (k+1)) (Z:=sK q++(Y++Z)) hv (by rw[hZ];simp only[bC]);have hil:=yC v;have a2:=NS (x:=q) (B:=tH l0 (k+1)++intBits v) (Z:=Y++Z) hX hxx (by simp;omega) (by rw[hZ];simp only[bC]);rw[← ep] at a1;obtain⟨b1,b2,b3⟩:=Ut xb false 4 p r4 a1;rw[ha] at b1 b2 b3;have hpa:a.2.1=(tH l0 (k+1)++intBits v).length:=by rw[aT];omega
  rw[← hpa] at a2;obtain⟨c1,c2,c3⟩:=Yu a.2.2 a2 hl;rw[hd] at c1 c2 c3;refine⟨c3.trans b3,?_,?_,?_,el⟩
  ·rw[es,b1,htb.1,htb.2]
  ·rw[c1];exact akj
  ·rw[e2];simp only[aT] at hpa ⊢;omega
 refine⟨g2.2.1,fun e=>⟨by simp[r1],fun s hs=>?_,?_,g2.2.1,fun l0 hg hl0=>?_⟩,fun l0 hg hl0=>(key l0 hg hl0).1⟩
 ·rcases List.mem_append.1 hs with hs | hs
  ·exact r2 s hs
  ·rw[fu] at hs;subst hs;have hxx:=Ph aiP.2 hdr;refine⟨wrap64_in _,?_,?_⟩
   ·show 0≤Go.bits .xor .u64 _ _;rw[hxx.1];omega
   ·show Go.bits .xor .u64 _ _<_;rw[hxx.1];have:=hxx.2;omega
 ·have e2:=g2.2.2 e;have e1:=g1.2.2 e2.1;rw[av (by decide)] at e1;omega
 ·have hk:=key l0 hg (by omega);refine⟨?_,hk.2.2.2.1⟩;rw[zx l0 (k+1) (by omega),← hk.2.2.2.2,hk.2.1,hk.2.2.1]
theorem QL {b:List Int}{l:List qG}{e:Int}(h1:e=0∧xM l=(b,0)∧(∀ x∈l,Bd x)∧l.length≤20000∨e=5∧l=[])(h2:∀ l0,Good b l0→e=0∧l=l0)(hd:∀ x∈(wH b).1,Bd x)(hdl:(wH b).1.length≤20000):wH b=(l,e):=by
 rcases h1 with ⟨rfl,h3,h4,h5⟩ | ⟨rfl,rfl⟩
 ·have hc:vC l=true:=by
   rcases hq:vC l with _ | _
   ·rw[xM,av (by rw[hq];simp)] at h3;simp at h3
   ·rfl
  have hde:=KD l h4 h5 hc;have hb:sU l=b:=by rw[hde.1] at h3;exact (jT h3).1
  rw[← hb];exact hde.2.1
 ·unfold wH at hd hdl ⊢;split
  ·rfl
  ·rename_i hlt;rw[av hlt] at hd hdl;split
   ·rename_i hq;rw[au hq] at hd hdl;have hc:vC (ug (b.drop 2) ((8*(b.length-2):Nat):Int) (wI 0 (b.take 2))).2.2.1=true:=by
     rcases hz:vC (ug (b.drop 2) ((8*(b.length-2):Nat):Int) (wI 0 (b.take 2))).2.2.1 with _ | _
     ·have:=hq.2;rw[xM,av (by rw[hz];simp)] at this;simp at this
     ·rfl
    have hg:Good b (ug (b.drop 2) ((8*(b.length-2):Nat):Int) (wI 0 (b.take 2))).2.2.1:=⟨hd,hc,hdl,by have:=hq.2;rw[xM,au hc] at this;exact (jT this).1⟩;exact absurd (h2 _ hg).1 (by decide)
   ·rfl
end Go.Proofs.Y.PA
