/- Of the law rZIQDumpBack. -/
import Derived.Test.YtcgbgifbajdhpaaGreatDoorZI30
import Derived.Test.YtcgbgifbajdhpaaGreatDoorZI10
import Derived.Test.YtcgbgifbajdhpaaGreatDoorZI23
import Derived.Test.YtcgbgifbajdhpaaGreatDoorZI24
import Derived.Deep.Fields
set_option linter.unusedVariables false
set_option linter.unusedSimpArgs false
set_option maxHeartbeats 4000000
set_option maxRecDepth 100000
namespace Go
abbrev gD:=@Go.results_tmp2
abbrev iV:=@List.mem_cons
abbrev jI:=@List.set_eq_take_append_cons_drop
abbrev kJ:=@Go.Value.slice.injEq
abbrev kS:=@Bool.false_and
abbrev kX:=@List.getElem?_of_mem
abbrev lQ:=@or_false
abbrev lS:=@and_true
abbrev lZ:=@List.pairwise_singleton
abbrev mF:=@List.getElem_set
abbrev nN:=@List.map_take
abbrev nO:=@List.map_drop
abbrev nU:=@List.pairwise_iff_getElem
abbrev oQ:=@Go.Addr.mk.injEq
end Go
namespace Go.Proofs.Y.PA
open Go.RowKit Go.Proofs.Y.G Go.Proofs.YW.o7 Go.Proofs.YW.pJ Go.Proofs.YW.pO
def Dn (x:qC):Prop:=(-9223372036854775808≤x.f0∧x.f0≤9223372036854775807)∧0≤x.f1∧x.f1<18446744073709551616
def UW (y x:qC)(step:Int):List Bool:=intBits (wrap64 (wrap64 (x.f0-y.f0)-step))++uw (x.f1.toNat ^^^ y.f1.toNat)
def xE (l:List qC):Nat→Int
 | 0=>0
 | 1=>0
 | k+2=>wrap64 ((pV l ((k+1:Nat):Int)).f0-(pV l ((k:Nat):Int)).f0)
def uN (l:List qC):Nat→List Bool
 | 0=>[]
 | 1=>low (IntKind.u64.wrap (pV l 0).f0).toNat 64++low (pV l 0).f1.toNat 64
 | k+2=>uN l (k+1)++UW (pV l ((k:Nat):Int)) (pV l ((k+1:Nat):Int)) (xE l (k+1))
theorem zT (v:Int):(intBits v).length≤80:=by
 have h1:=width_le (rV v);have h2:=xK v;unfold intBits;split<;>simp<;>omega
theorem M8 (x:Nat)(hx:x<18446744073709551616):(uw x).length≤80:=by
 unfold uw;split
 ·simp
 ·have:Us x≤64:=by
   have:=iQ x 64 (by decide) hx;unfold Us;omega
  simp;omega
theorem KJ {a b:Int}(ha:0≤a∧a<18446744073709551616)(hb:0≤b∧b<18446744073709551616):a.toNat ^^^ b.toNat<18446744073709551616:=
 jC (n:=64) (by omega) (by omega)
theorem yg (l:List qC)(hl:∀ x∈l,Dn x):∀ k,k≤l.length→(uN l k).length≤160*k
 | 0,_=>by simp[uN]
 | 1,_=>by simp[uN]
 | k+2,h=>by
   have ih:=yg l hl (k+1) (by omega);have h1:=zT (wrap64 (wrap64 ((pV l ((k+1:Nat):Int)).f0-(pV l ((k:Nat):Int)).f0)-xE l (k+1)));have hm:∀ j,j<l.length→Dn (pV l ((j:Nat):Int)):=fun j hj=>by
    have e:pV l ((j:Nat):Int)=l[j]:=by simp[pV,bn,aQ hj]
    rw[e];exact hl _ (eF hj)
   have h2:=M8 _ (KJ (hm (k+1) (by omega)).2 (hm k (by omega)).2);simp only[uN,UW,bg];omega
def uZ (l:List qC):Bool:=((List.range (l.length-1)).all fun i=>decide ((pV l ((i:Nat):Int)).f0<(pV l ((i+1:Nat):Int)).f0))&&decide (l.length≤65535)
theorem Li (l:List qC)(hl:l.length≤1000000):∀ d i,i+1+d=l.length→∀ k,d<k→rG.l0 k l ((i+1:Nat):Int)=some (((List.range d).all fun q=>decide ((pV l ((i+q:Nat):Int)).f0<(pV l ((i+q+1:Nat):Int)).f0))&&decide (l.length≤65535))
 | 0,i,h,k+1,hk=>by
   unfold rG.l0;rw[aK (by omega)];simp;omega
 | d+1,i,h,k+1,hk=>by
   unfold rG.l0;have e1:wrap64 (((i+1:Nat):Int)-1)=((i:Nat):Int):=by rw[yM (by omega) (by omega)];omega
   have e2:wrap64 (((i+1:Nat):Int)+1)=((i+1+1:Nat):Int):=by rw[yM (by omega) (by omega)];omega
   rw[ak (by omega),ak (by omega),e1,ak (by omega),ak (by omega),e2,l9,mo,oW]
   by_cases hh:(pV l ((i+1:Nat):Int)).f0≤(pV l ((i:Nat):Int)).f0
   ·rw[ak hh];have h2:¬ (pV l ((i:Nat):Int)).f0<(pV l ((i+1:Nat):Int)).f0:=by omega
    have e3:decide ((pV l ((i+0:Nat):Int)).f0<(pV l ((i+0+1:Nat):Int)).f0)=false:=aN h2;rw[e3,kS,kS]
   ·rw[aK hh,Li l hl d (i+1) (by omega) k (by omega)];have h2:(pV l ((i:Nat):Int)).f0<(pV l ((i+1:Nat):Int)).f0:=by omega
    have e3:decide ((pV l ((i+0:Nat):Int)).f0<(pV l ((i+0+1:Nat):Int)).f0)=true:=aM h2;rw[e3,jl];congr 3
    funext q
    simp only[Function.comp,show i+1+q=i+(q+1) by omega,ny]
theorem R7 (l:List qC)(hl:l.length≤1000000)(k:Nat)(hk:l.length<k):rG.f k l=some (uZ l):=by
 unfold rG.f uZ
 by_cases h:0<l.length
 ·have:=Li l hl (l.length-1) 0 (by omega) k (by omega);simp only[dX] at this;exact this
 ·obtain⟨k,rfl⟩:∃ k',k=k'+1:=⟨k-1,by omega⟩;unfold rG.l0;rw[aK (by omega),show l.length-1=0 by omega];simp;omega
theorem zf {w W W':World}{g:Nat}(h:Below w.heap.size w W)(hk:q8 W W' g none)(hg:w.heap.size≤g)(ho:W'.os=W.os)(ht:W'.tape=W.tape)(hu:W'.output=W.output):Below w.heap.size w W' :=
 ⟨ho.trans h.os,ht.trans h.tape,hu.trans h.output,bM h.size hk.1,fun q hq=>(hk.2 q (d9 hq h.size) (by omega) (by simp)).trans (h.block q hq)⟩
theorem su.PV (A:Option Addr)(c:Nat)(l:List qC)(w:World)(hr:Kd.C vk w A l.length l)(hc:l.length≤c)(hlen:l.length≤20000)(h:uZ l=false) :
 Calls Tryz.prog 61 #[.slice A l.length c] w fun e w'=>e = .returned (.tuple #[.slice none 0 0,.int .i64 1])∧Below w.heap.size w w':=by
 have HR:=Yu hr;have HC:=Yu hc;have HF:oZ (rG.f 100000 l=some false):=⟨by rw[R7 l (by omega) _ (by omega),h]⟩;clear hr hc hlen h
 go_enter Tryz.func61,Tryz.ntmps61
 go_wp2_with (go_at_call 88;(with_reducible refine (rG.c 100000 _ _ l false _ HR.o HC.o HF.o).mono ?_);rintro e w1 ⟨rfl,hd⟩;have HB:=Yu hd.below;clear hd)
 refine bZ (gD rfl _ _ _) rfl ?_;exact⟨rfl,HB.o⟩
theorem Kr:xY [] 0 where
 bytes:=fun x hx=>absurd hx (by simp)
 le:=by simp
 near:=by simp
 tail:=fun i _ h=>by simp at h
theorem WY {W:World}{g:Nat}(h:W.heap[g]? = some (.cells #[.slice none 0 0,.int .i64 0] 151 (0,0))):PK W g []:=
 ⟨none,0,[],h,Kd.ug _ _ _ _ _,Kr,rfl⟩
theorem tX {w:World}{a:Addr}{v:Value}(o:Obj)(h:w.cell? a=some v):(w.alloc o).cell? a=some v:=qm (o8 (bq _ _) o) h
theorem PK.lt {W:World}{g:Nat}{L:List Bool}(h:PK W g L):g<W.heap.size:=by
 obtain⟨A,c,l,h1,_⟩:=h;exact rE h1
theorem zW (l:List qC)(k:Nat)(h:k<l.length):pV l (k:Int)∈l:=by
 have e:pV l (k:Int)=l[k]:=by simp[pV,bn,aQ h]
 rw[e];exact eF h
theorem VY {q:Int}(h0:0≤q)(h1:q<18446744073709551616)(n:Nat)(hn:n≤8:=by decide):vQ.f (IntKind.u64.wrap q) n=some (sS q.toNat n):=by
 have e:IntKind.u64.wrap q=q:=by rw[wrap_u64];omega
 rw[e,vQ.f,ak ⟨h0,h1⟩];congr 2;unfold wid;omega
theorem wI (x:Int):0≤IntKind.u64.wrap x∧IntKind.u64.wrap x<18446744073709551616:=by
 rw[wrap_u64];omega
theorem su.R5 (A:Option Addr)(c:Nat)(l:List qC)(w:World)(hr:Kd.C vk w A l.length l)(hc:l.length≤c)(hw:∀ x∈l,Dn x)(hlen:l.length≤20000)(hT:xZ w)(h:uZ l=true) :
 Calls Tryz.prog 61 #[.slice A l.length c] w fun e w'=>∃ (v:Value) (b:List Int),e = .returned (.tuple #[v,.int .i64 0])∧xY b (uN l l.length).length∧Bs b (uN l l.length).length=uN l l.length∧Kd.R (Kd.int .u8) 5 w' w.heap.size (fun _=>True) v (sS l.length 2++b)∧Below w.heap.size w w':=by
 have HR:=Yu hr;have HC:=Yu hc;have HT:=Yu hT;have HW:=Yu hw;have HLN:=Yu hlen;have HF:oZ (rG.f 100000 l=some true):=⟨by rw[R7 l (by omega) _ (by omega),h]⟩;clear hr hc hT hw h hlen
 go_enter Tryz.func61,Tryz.ntmps61
 go_wp2_with (first
  | (go_at_call 88;(with_reducible refine (rG.c 100000 _ _ l true _ HR.o HC.o HF.o).mono ?_);rintro e w1 ⟨rfl,hd⟩;have HB1:=Yu hd.below;clear hd)
  | ((with_reducible refine qK (N:=4) rfl ?_);refine ru ?hg (N:=4) ?hd (cs := #[.slice none 0 0,.int .i64 0]) (t:=151) ?hr ?_;(case hd=>rfl);(case hg=>rfl);(case hr=>first|(go_simp;done)|(go_simp;rfl));intro g hg w2 YI hb;have HB2:=Yu (o9 HB1.o hb);have HBK:=Yu YI;have HG:oZ (w.heap.size≤g):=⟨by have:=HB1.o.size;omega⟩;clear hb YI hg))
 have HPK:oZ (PK w2 g (uN l 0)):=⟨WY HBK.o⟩
 go_loopw [5,14] (fun v i wr=>∃ k:Nat,k≤l.length∧i = .int .i64 k∧v = .int .i64 (xE l k)∧oZ (PK wr g (uN l k))∧oZ (Below w.heap.size w wr)) (fun _ i _=>l.length-(intOf i).toNat)
 case atStart=>exact⟨0,bV _,rfl,rfl,HPK,HB2⟩
 case round=>
  clear HPK HBK HB2;obtain⟨k,hk,rfl,rfl,HP,HB⟩:=hrel;have hl2:l.length≤20000:=HLN.o
  by_cases hlt:k<l.length
  ·have hC:=Kd.pI HR.o HB.o;obtain⟨ad,rfl,h0,h1⟩:=uD hC (k:Int) (by omega) (by omega);rw[bf] at h0 h1;have hx:=HW.o _ (zW l k hlt);have HRD:=Yu hC;have hgw:=(HP.o).lt;clear hC;cases k with
   | zero=>
     obtain⟨v0,hv0⟩:=dA (wI (pV l 0).f0).1;obtain⟨v1,hv1⟩:=dA hx.2.1;have CA:=Yu (fun W (h:PK W g (uN l 0))=>xk.qP g [] (IntKind.u64.wrap (pV l 0).f0) 64 v0 64 W h hv0 rfl (by have:=(wI (pV l 0).f0).2;omega) (by decide) (by simp));have CB:=Yu (fun W (h:PK W g ([]++low v0 64))=>xk.qP g ([]++low v0 64) (pV l 0).f1 64 v1 64 W h hv1 rfl (by have:=hx.2.2;omega) (by decide) (by simp));have EV:oZ ((IntKind.u64.wrap (pV l 0).f0).toNat=v0∧(pV l 0).f1.toNat=v1):=⟨by rw[hv0];rfl,by have h_:(pV l 0).f1=(v1:Int):=hv1;rw[h_];rfl⟩;clear hv0 hv1 hx;have h0':wr.cell? ad=some (.int .i64 (pV l 0).f0):=by simpa [Addr.add] using h0
     have h1':wr.cell? ⟨ad.block,ad.off+1,none⟩=some (.int .u64 (pV l 0).f1):=by simpa [Addr.add] using h1
     clear h0 h1
     go_wp2_with (first
      | (go_at_call 91;(with_reducible refine (CA.o _ ?s1).mono ?_);(case s1=>exact HP.o.keep (by repeat (first | exact bq _ _ | apply o8 | apply pF)));rintro e w3 ⟨rfl,hp,hk,ho,ht,hu⟩;have HP3:=Yu hp;have BX:=(hk.2 wr.heap.size (by simp) (by omega) (by simp)).trans (qG wr _);have f1:=(pq BX 1).trans rfl;have HB3:=Yu (zf (o8 HB.o _) hk (by have:=HG.o;exact this) ho ht hu);clear hp hk ho ht hu BX)
      | (go_at_call 91;(with_reducible refine (CB.o _ HP3.o).mono ?_);rintro e w4 ⟨rfl,hp,hk,ho,ht,hu⟩;have HP4:=Yu hp;have HB4:=Yu (zf HB3.o hk (by have:=HG.o;exact this) ho ht hu);clear hp hk ho ht hu)
      )
     go_roundw
     case rel=>
      refine⟨1,by omega,by go_num,rfl,⟨?_⟩,HB4⟩;have:=HP4.o;rw[dL,← EV.o.1,← EV.o.2] at this;exact this
     case measure=>simp[intOf];omega
   | succ k=>
     obtain⟨ad',hh,y0,y1⟩:=uD HRD.o (k:Int) (by omega) (by omega);obtain rfl:=bE hh;rw[bf] at y0 y1;have hy:=HW.o _ (zW l k (by omega));have HST:oZ (uN l (k+2)=uN l (k+1)++UW (pV l (k:Int)) (pV l ((k+1:Nat):Int)) (xE l (k+1))∧xE l (k+2)=wrap64 ((pV l ((k+1:Nat):Int)).f0-(pV l (k:Int)).f0)∧(uN l (k+1)).length≤160*(k+1)):=⟨⟨rfl,rfl,yg l HW.o _ (by omega)⟩⟩;clear hh;generalize hye:pV l (k:Int)=y at *;have HYE:=Yu hye;clear hye;generalize pV l ((k+1:Nat):Int)=x at *;generalize xE l (k+1)=st at *;have hwk:wrap64 (k:Int)=(k:Int):=yM (by omega) (by omega);rw[show ((k+1:Nat):Int)=(k:Int)+1 from by omega] at *;go_wp2;have y0':=tX (.cells #[.int .i64 x.f0,.int .u64 x.f1] 70) y0;have y1':=tX (.cells #[.int .i64 x.f0,.int .u64 x.f1] 70) y1;have HPA:=Yu (HP.o.keep (o8 (bq _ _) (.cells #[.int .i64 x.f0,.int .u64 x.f1] 70)));have HBA:=Yu (o8 HB.o (.cells #[.int .i64 x.f0,.int .u64 x.f1] 70));have HXB:=Yu (qG wr (.cells #[.int .i64 x.f0,.int .u64 x.f1] 70))
     go_cut [5] (fun v wx=>v = .int .i64 (wrap64 (x.f0-y.f0))∧oZ (Below (wr.heap.size+1) (wr.alloc (.cells #[.int .i64 x.f0,.int .u64 x.f1] 70)) wx))
     case first=>
      go_region
      all_goals (go_wp2_with fail;go_meet;exact⟨rfl,⟨by repeat (first | exact bq _ _ | apply o8 | apply pF)⟩⟩)
     case rest=>
      obtain⟨rfl,HBc⟩:=hcut;have hbc:Below (wr.alloc (.cells #[.int .i64 x.f0,.int .u64 x.f1] 70)).heap.size (wr.alloc (.cells #[.int .i64 x.f0,.int .u64 x.f1] 70)) wc:=by simpa using HBc.o
      have HPc:=Yu (HPA.o.keep hbc);have BXc:=Yu (pG HXB.o hbc);have HBw:=Yu (o9 HBA.o hbc);clear hbc;have HGX:oZ (wr.heap.size<wc.heap.size∧wr.heap.size≠g):=⟨by have:=rE BXc.o;exact this,by omega⟩;have hln:=HST.o.2.2;have ajp:=HLN.o;have CN:=Yu (fun W (h:PK W g (uN l (k+1)))=>Mt.c g (uN l (k+1)) (wrap64 (wrap64 (x.f0-y.f0)-st)) W h (by omega));obtain⟨xv,hxv⟩:∃ n:Nat,x.f1.toNat ^^^ y.f1.toNat=n:=⟨_,rfl⟩;have hxl:xv<18446744073709551616:=hxv ▸ KJ hx.2 hy.2;have hxe:Go.bits .xor .u64 x.f1 y.f1=(xv:Int):=by
       rw[← hxv];obtain⟨a,ha⟩:=dA hx.2.1;obtain⟨b,hb⟩:=dA hy.2.1;rw[ha,hb,u64_xor_nat a b (by have:=hx.2.2;omega) (by have:=hy.2.2;omega)];simp
      have hib:=zT (wrap64 (wrap64 (x.f0-y.f0)-st));have CV:=Yu (fun W (h:PK W g (uN l (k+1)++intBits (wrap64 (wrap64 (x.f0-y.f0)-st)))) (ht:xZ W)=>N7.c g _ xv W h hxl (by rw[bg];omega) ht);have HXV:=Yu hxv;clear y0 y1 y0' y1' h0 h1 HPA HBA HXB hib hxv HP hln ajp
      go_wp2_with (go_at_call 92;(with_reducible refine (CN.o _ HPc.o).mono ?_);rintro e w5 ⟨rfl,hp,hk,ho,ht,hu⟩;have HP5:=Yu hp;have BX5:=Yu ((hk.2 wr.heap.size HGX.o.1 HGX.o.2 (by simp)).trans BXc.o);have HB5:=Yu (zf HBw.o hk (by have:=HG.o;exact this) ho ht hu);clear hp hk ho ht hu)
      have xb1:w5.cell? ⟨wr.heap.size,1,none⟩=some (.int .u64 x.f1):=(pq BX5.o 1).trans rfl;have hkl:(k:Int)<(l.length:Int):=by omega
      have ajq:IntKind.i64.wrap (k:Int)=(k:Int):=(rH _).trans hwk;obtain⟨ad',hh,y0,y1⟩:=uD (Kd.pI HR.o HB5.o) (k:Int) (by omega) (by omega);obtain rfl:=bE hh;rw[bf] at y0 y1;rw[HYE.o] at y1;clear hh y0 hx hy;have y1':w5.drew.cell? ⟨(ad.add (k*2)).block,(ad.add (k*2)).off+1,none⟩=some (Value.int IntKind.u64 y.f1):=y1
      go_region_with (go_at_call 93;(refine (CV.o _ ?s1 ?s2).mono ?_);(case s1=>exact HP5.o.keep (by repeat (first | exact bq _ _ | apply o8 | apply pF)));(case s2=>exact HT.o.below (by repeat (first | exact HB5.o | apply o8 | apply pF)));rintro e w6 ⟨rfl,hp,hk,ho,ht,hu⟩;have HP6:=Yu hp;have HB6:=Yu (zf (pF HB5.o) hk (by have:=HG.o;exact this) ho ht hu);clear hp hk ho ht hu)
      all_goals
       go_wp2_with fail
       go_wp2_with fail
       go_wp2_with fail
       go_wp2_with fail
       go_wp2_with fail
       go_roundw
       case rel=>
        refine⟨k+2,by omega,by go_num,by rw[HST.o.2.1],⟨?_⟩,HB6⟩;have:=HP6.o;rw[HST.o.1,UW,HXV.o,← bH];exact this
       case measure=>simp[intOf];omega
  ·obtain rfl:k=l.length:=by omega
   go_wp2;obtain⟨Ax,cx,lx,hblk,hRx,ad5,ahT⟩:=HP.o;have h0:wr.cell? ⟨g,0,none⟩=some (.slice Ax lx.length cx):=(pq hblk 0).trans rfl;have BG:=Yu hblk;have HNX:oZ (lx.length≤400001):=⟨by have:=yg l HW.o l.length (aD _);have:=ad5.near;omega⟩;have HOX:=Yu ad5;have HBX:=Yu ahT;have HRX:=Yu (Kd.pR hRx).2.2;have HPT:oZ (vQ.f (IntKind.u64.wrap (l.length:Int)) 2=some (sS l.length 2)):=⟨VY (by omega) (by omega) 2⟩;have ahU:(sS l.length 2).length=2:=qE _ _;have HL2:=Yu ahU;have HBD:=Yu (pF HB.o);clear hblk hRx ad5 ahT ahU hlt hk;refine Ee (n:=10) (ds:=[]) (S:=fun W=>W.cell? ⟨g,0,none⟩=some (.slice Ax lx.length cx)) #[false,false,false,false,false,false,false,false,false,false] rfl rfl rfl h0 (fun hS=>?_);refine rJ (i:=0) (N:=some 53) (v:=?_) (a':=?_) #[true,false,false,false,false,false,false,false,false,false] rfl rfl (by kernel_rfl) (fun _ _ _ h=>h) (Or.inl ⟨by rfl,?_⟩) ?_ ?_
   rotate_left
   ·intro w';go_simp
    with_reducible rfl
   rotate_left
   ·simp only[Act.put,ah,aI,ay,rH,tu];rfl
   refine rJ (i:=1) (N:=some 54) (v:=?_) (a':=?_) #[true,true,false,false,false,false,false,false,false,false] rfl rfl (by kernel_rfl) (fun _ _ _ h=>h) (Or.inl ⟨by rfl,?_⟩) ?_ ?_
   rotate_left
   ·intro w';go_simp
    with_reducible rfl
   rotate_left
   ·simp only[Act.put,ah,aI,ay,rH,tu];rfl
   refine rJ (i:=2) (N:=some 55) (v:=?_) (a':=?_) #[true,true,true,false,false,false,false,false,false,false] rfl rfl (by kernel_rfl) (fun _ _ _ h=>h) (Or.inl ⟨by rfl,?_⟩) ?_ ?_
   rotate_left
   ·intro w';go_simp
    with_reducible rfl
   rotate_left
   ·simp only[Act.put,ah,aI,ay,rH,tu];rfl
   refine rJ (i:=4) (N:=some 57) (v:=?_) (a':=?_) #[true,true,true,false,true,false,false,false,false,false] rfl rfl (by kernel_rfl) (fun _ _ _ h=>h) (Or.inl ⟨by rfl,?_⟩) ?_ ?_
   rotate_left
   ·intro w';go_simp
    with_reducible rfl
   rotate_left
   ·simp only[Act.put,ah,aI,ay,rH,tu];rfl
   refine rJ (i:=5) (N:=some 58) (v:=?_) (a':=?_) #[true,true,true,false,true,true,false,false,false,false] rfl rfl (by kernel_rfl) (fun _ _ _ h=>h) (Or.inl ⟨by rfl,?_⟩) ?_ ?_
   rotate_left
   ·intro w';go_simp
    with_reducible rfl
   rotate_left
   ·simp only[Act.put,ah,aI,ay,rH,tu];rfl
   refine Bw (i:=6) (N:=some 59) (v:=?_) (a':=?_) #[true,true,true,false,true,true,true,false,false,false] rfl rfl (by kernel_rfl) (fun _ _ _ h=>h) (Or.inl ⟨by rfl,?_⟩) hS ?_ ?_
   rotate_left
   ·rintro w' s0;go_simp
    with_reducible rfl
   rotate_left
   ·simp only[Act.put,ah,aI,ay,rH,tu];rfl
   refine ER (i:=3) (N:=some 56) #[true,true,true,true,true,true,true,false,false,false] rfl rfl (by kernel_rfl) (by decide) (fun K hK=>?_);refine SG Tryz.func31 (by kernel_rfl) rfl #[.int .u64 (IntKind.u64.wrap (l.length:Int)),.int .i64 2] (by rfl) rfl rfl ?h1 ?_
   case h1=>first | rfl | (simp only[dI,dJ,eD];rfl)
   refine (vQ.c _ 2 (sS l.length 2) _ HPT.o).mono ?_;rintro e w3 ⟨v3,rfl,hr3,hb3⟩;have HB3:=Yu (o9 HBD.o hb3);have HR3:=Yu (Kd.sj hr3 (pX HBD.o));have hS3:w3.cell? ⟨g,0,none⟩=some (.slice Ax lx.length cx):=qm hb3 hS;have BG3:=Yu (pG (qg BG.o) hb3);have HX3:=Yu (Kd.pI (Kd.rD HRX.o) hb3);obtain⟨A3,c3,rfl⟩:=Kd.qo hr3;clear hb3 hr3 HRX;refine⟨_,rfl,?_⟩;refine hK.o _ _ hS3 (fun hS=>?_);clear hK K;refine vv (a':=?_) ?_ ?_
   rotate_left
   ·show Act.put _ (some 56) _=_;simp only[Act.put,ah,aI,ay,rH,tu];rfl
   refine ER (i:=7) (N:=some 60) #[true,true,true,true,true,true,true,true,false,false] rfl rfl (by kernel_rfl) (by decide) (fun K hK=>?_);refine Kd.qV (Kd.int .u8) (Rr:=(Kd.int .u8).K w3) (w0:=w) w.heap.size (by rfl) (.tmp 56) (.tmp 59) 24 5 (.int .u8 0) 1 rfl Tryz.underlying24 uS rfl (by decide) (by omega) (.slice A3 (sS l.length 2).length c3) (sS l.length 2) lx Ax lx.length cx (fun _=>True) (fun _=>False) rfl rfl HR3.o HX3.o (fun _ _ h=>h) (fun _ hk=>hk.elim) (fun _ _=>dD) HB3.o (pX HB3.o) (by have:=HNX.o;have:=HL2.o;omega) ?_;intro v4 w4 ho hb hg hat;have HO4:=Yu ho;have HB4:=Yu hb;clear ho hb hat;have hS4:w4.cell? ⟨g,0,none⟩=some (.slice Ax lx.length cx):=(pq (rQ BG3.o hg (Kd.JN HR3.o BG3.o (by decide))) 0).trans rfl;clear hg;refine hK.o _ _ hS4 (fun hS=>?_);clear hK K;refine vv (a':=?_) ?_ ?_
   rotate_left
   ·show Act.put _ (some 60) _=_;simp only[Act.put,ah,aI,ay,rH,tu];rfl
   refine rJ (i:=8) (N:=some 2) (v:=?_) (a':=?_) #[true,true,true,true,true,true,true,true,true,false] rfl rfl (by kernel_rfl) (fun _ _ _ h=>h) (Or.inl ⟨by rfl,?_⟩) ?_ ?_
   rotate_left
   ·intro w';go_simp
    with_reducible rfl
   rotate_left
   ·simp only[Act.put,ah,aI,ay,rH,tu];rfl
   refine rJ (i:=9) (N:=some 3) (v:=?_) (a':=?_) #[true,true,true,true,true,true,true,true,true,true] rfl rfl (by kernel_rfl) (fun _ _ _ h=>h) (Or.inl ⟨by rfl,?_⟩) ?_ ?_
   rotate_left
   ·intro w';go_simp
    with_reducible rfl
   rotate_left
   ·simp only[Act.put,ah,aI,ay,rH,tu];rfl
   refine Jb (by kernel_rfl) ?_;go_wp2;refine bZ (gD rfl _ _ _) rfl ?_;exact⟨v4,lx,rfl,HOX.o,HBX.o,HO4.o,HB4.o⟩
theorem SV {w w':World}{base:Nat}{ok:Nat→Prop}{x:rW}{cs:List Value}(h:wE.K w x cs):wE.M w' base ok x cs:=by
 rw[Me h];exact Fp _ _ _ x
theorem V6.c (A0:Option Addr)(c0:Nat)(l0:List rW)(n:Nat)(w:World)(hn:l0.length=n)(hr0:Kd.C wE w A0 l0.length l0)(hc0:l0.length≤c0)(hlen:l0.length≤1000000) :
 Calls Tryz.prog 54 #[.slice A0 n c0] w fun e w'=>∃ v0_:Value,e = .returned (v0_)∧Kd.R wE 68 w' w.heap.size (fun _=>True) v0_ l0∧Below w.heap.size w w':=by
 subst hn;have HR:=Yu hr0;have HL:=Yu hlen;have hnil:=fun W n c=>mJ (P:=Tryz.prog) W 46 68 A0 n c 0 0 Tryz.underlying46
 clear hr0 hc0 hlen;cases A0 with
 | none=>
   have h0:l0=[]:=by
    rcases fP l0.length with h0 | h0
    ·exact dG h0
    ·obtain⟨ad,e,_⟩:=HR.o.2.2 h0;cases e
   subst h0
   go_enter Tryz.func54,Tryz.ntmps54
   go_wp2;go_ret;exact⟨_,rfl,Kd.ug _ _ _ _ _,bq _ _⟩
 | some ad=>
   go_enter Tryz.func54,Tryz.ntmps54
   have hE:=Yu (xH wE 68 w.heap.size w (fun _=>True) (aD _) dD)
   go_wp2_with ((with_reducible refine qK (N:=7) rfl ?_);refine Kd.uy wE (w0:=w) w.heap.size rfl (.tmp 5) (.tmp 6) 46 68 (.agg #[.string ⟨#[]⟩,.string ⟨#[]⟩]) 32 rfl Tryz.underlying46 NP rfl (by decide) (by omega) _ [] l0 (some ad) l0.length c0 (fun _=>True) (fun _=>False) rfl rfl hE.o (Kd.pI HR.o (o8 (bq _ _) _)) (fun x cs hx=>SV hx) (fun _ hk=>hk.elim) (fun _ _=>dD) (o8 (bq _ _) _) ?hb ?hl ?_;(case hb=>simp);(case hl=>(have:=HL.o;simp;omega));intro v1 w1 hR1 hB1 hg_ ho_;rw[dL] at hR1;have HR1:=Yu hR1;have HB1:=Yu hB1;clear hR1 hB1 hg_ ho_)
   go_ret;exact⟨_,rfl,HR1.o,HB1.o⟩
theorem XC.c (A B A':Option Addr)(c e0 n m n' c':Nat)(a b:List rW)(w:World)(hn:a.length=n)(hm:b.length=m)(hr:Kd.C wE w A n a)(hs:Kd.C wE w B m b)(hl:n≤1000000) :
 Calls Tryz.prog 70 #[.agg #[.slice A n c,.slice A' n' c'],.slice B m e0] w fun e w'=>e = .returned (.int .i64 (cmpL a b))∧Below w.heap.size w w':=by
 have HC:=Yu (fun (W:World) (hb:Below w.heap.size w W)=>cmpL.c A B c e0 n m a b W hn hm (Kd.pI hr hb) (Kd.pI hs hb) hl);clear hn hm hr hs
 go_enter Tryz.func70,Tryz.ntmps70
 have HB:=Yu (o8 (bq w.heap.size w) (.cells #[.slice A n c,.slice A' n' c'] 51 (0,0)))
 go_wp2_with (first|(go_at_call 71;(with_reducible refine (HC.o _ HB.o).mono ?_);rintro e w1 ⟨rfl,hb⟩;have HB1:=Yu (o9 HB.o hb);clear hb))
 go_ret;exact⟨rfl,HB1.o⟩
def vE (l:List qJ):Prop:=l.Pairwise (fun x y=>cmpL x.f0 y.f0<0)
def posB (l:List qJ)(t:List rW):Nat:=(l.takeWhile (fun x=>decide (cmpL x.f0 t<0))).length
theorem AQ (l:List qJ)(t:List rW):posB l t≤l.length:=(List.takeWhile_sublist _).length_le
theorem Fv:∀ (l:List qJ) (t:List rW) (i:Nat),i<posB l t→cmpL (pK l (i:Int)).f0 t<0
 | [],t,i,h=>by simp[posB] at h
 | x::l,t,i,h=>by
   unfold posB at h;rw[List.takeWhile_cons] at h;split at h
   ·rename_i hx;cases i with
    | zero=>exact aR hx
    | succ i=>exact Fv l t i (by rw[bC] at h;unfold posB;omega)
   ·simp at h
theorem Fu:∀ (l:List qJ) (t:List rW),posB l t<l.length→¬ cmpL (pK l (posB l t:Int)).f0 t<0
 | [],t,h=>by simp[posB] at h
 | x::l,t,h=>by
   unfold posB at h ⊢;rw[List.takeWhile_cons] at h ⊢
   by_cases hx:cmpL x.f0 t<0
   ·rw[ak (aM hx)] at h ⊢;have:=Fu l t (by rw[bC,bC] at h;unfold posB;omega);unfold posB at this;rw[bC];exact this
   ·rw[aK (by simp[hx])];exact hx
theorem FU {l:List qJ}(h:vE l){i j:Nat}(hij:i<j)(hj:j<l.length):cmpL (pK l (i:Int)).f0 (pK l (j:Int)).f0<0:=by
 have:=List.pairwise_iff_getElem.1 h i j (by omega) hj hij
 simpa [pK,bn,aQ (show i<l.length by omega),aQ hj] using this
theorem Vj {l:List qJ}{t:List rW}{i:Nat}(hi:i≤l.length)(h1:∀ k,k<i→cmpL (pK l (k:Int)).f0 t<0)(h2:∀ k,i≤k→k<l.length→¬ cmpL (pK l (k:Int)).f0 t<0):posB l t=i:=by
 rcases kI (posB l t) i with h | h | h
 ·exact absurd (h1 _ h) (Fu l t (by omega))
 ·exact h
 ·have:=AQ l t;exact absurd (Fv l t i h) (h2 i (aD _) (by omega))
theorem IX {l:List qJ}(h:vE l)(t:List rW){i j:Nat}(hij:i≤j)(hj:j<l.length)(hc:cmpL (pK l (j:Int)).f0 t<0):cmpL (pK l (i:Int)).f0 t<0:=by
 rcases Nat.lt_or_eq_of_le hij with h1 | rfl
 ·exact BF _ _ _ (FU h h1 hj) hc
 ·exact hc
theorem binSearch.c (A B:Option Addr)(c e0 n m:Nat)(l:List qJ)(b:List rW)(w:World)(hn:l.length=n)(hm:b.length=m)(hr:Kd.C yD w A n l)(hs:Kd.C wE w B m b)(hS:vE l)(hll:∀ x∈l,x.f0.length≤1000000)(hbig:n≤1000000) :
 Calls Tryz.prog 69 #[.slice A n c,.slice B m e0,.func (.func 70) #[] #[]] w fun e w'=>e = .returned (.tuple #[.int .i64 (posB l b),.bool (decide (posB l b<n)&&decide (cmpL (pK l (posB l b:Int)).f0 b=0))])∧Below w.heap.size w w':=by
 subst hn hm;have HR:=Yu hr;have HS:=Yu hs;have HSR:=Yu hS;have HLL:oZ (∀ i,i<l.length→(pK l (i:Int)).f0.length≤1000000):=⟨fun i hi=>by
  refine hll _ ?_;simp[pK,bn,aQ hi]⟩
 clear hr hs hS hll
 go_enter Tryz.func69,Tryz.ntmps69
 go_wp2
 go_loopg [9,10] l.length (fun kx s9 s10 wr=>∃ i j:Nat,s9 = .int .i64 i∧s10 = .int .i64 j∧i≤j∧j≤l.length∧j-i≤kx∧oZ (Below w.heap.size w wr)∧oZ ((∀ k,k<i→cmpL (pK l (k:Int)).f0 b<0)∧∀ k,j≤k→k<l.length→¬ cmpL (pK l (k:Int)).f0 b<0))
 case atStart=>exact⟨0,l.length,rfl,rfl,bV _,aD _,by omega,⟨bq _ _⟩,⟨fun k h=>by omega,fun k h1 h2=>by omega⟩⟩
 case round=>
  obtain⟨i,j,rfl,rfl,hij,hjl,hkx,HB,HI⟩:=hrel
  by_cases hlt:i<j
  ·obtain⟨h,hh⟩:∃ h,h=(i+j) / 2:=⟨_,rfl⟩;have C:((i:Int)+(j:Int)) / 2=(h:Int):=by omega
   have h1:i≤h:=by omega
   have h2:h<j:=by omega
   clear hh;obtain⟨ad,A0,c0,A1,c1,rfl,x0,x1,l0,g0,l1,g1⟩:=uY (Kd.pI HR.o HB.o) (h:Int) (by omega) (by omega);rw[bf] at x0 x1;have HC:=Yu (XC.c A0 B A1 c0 e0 _ _ (pK l (h:Int)).f1.length c1 (pK l (h:Int)).f0 b wr rfl rfl g0 (Kd.pI HS.o HB.o) (HLL.o h (by omega)));have hhl:(h:Int)<(l.length:Int):=by omega
   clear l0 g0 l1 g1;cases hv:decide (cmpL (pK l (h:Int)).f0 b<0) with
   | true=>
     have HX:=Yu (aR hv);generalize (pK l (h:Int)).f0.length=q0 at x0 HC;generalize (pK l (h:Int)).f1.length=q1 at x1 HC
     go_wp2_with (first|(go_at_call 70;(with_reducible refine HC.o.mono ?_);rintro e w1 ⟨rfl,hb⟩;have HB1:=Yu (o9 HB.o hb);clear hb))
     go_roundg (j-(h+1))
     case measure=>omega
     case rel=>exact⟨h+1,j,by go_num,rfl,by omega,hjl,aD _,HB1,⟨fun k hk=>IX HSR.o b (show k≤h by omega) (by omega) HX.o,HI.o.2⟩⟩
   | false=>
     have HX:=Yu (dR hv);generalize (pK l (h:Int)).f0.length=q0 at x0 HC;generalize (pK l (h:Int)).f1.length=q1 at x1 HC
     go_wp2_with (first|(go_at_call 70;(with_reducible refine HC.o.mono ?_);rintro e w1 ⟨rfl,hb⟩;have HB1:=Yu (o9 HB.o hb);clear hb))
     go_roundg (h-i)
     case measure=>omega
     case rel=>exact⟨i,h,rfl,rfl,h1,by omega,aD _,HB1,⟨HI.o.1,by
      intro k hk1 hk2;rcases Int.lt_or_le (cmpL (pK l (k:Int)).f0 b) 0 with hk3 | hk3
      ·have h9:=IX HSR.o b hk1 hk2 hk3;have h8:=HX.o;omega
      ·omega⟩⟩
  ·obtain rfl:i=j:=by omega
   have HP:oZ (posB l b=i):=⟨Vj hjl HI.o.1 HI.o.2⟩;have hltz:¬ (i:Int)<(i:Int):=by omega
   by_cases hil:i<l.length
   ·have ahV:(i:Int)<(l.length:Int):=by omega
    obtain⟨ad,A0,c0,A1,c1,rfl,x0,x1,l0,g0,l1,g1⟩:=uY (Kd.pI HR.o HB.o) (i:Int) (by omega) (by omega);rw[bf] at x0 x1;have HC:=Yu (XC.c A0 B A1 c0 e0 _ _ (pK l (i:Int)).f1.length c1 (pK l (i:Int)).f0 b wr rfl rfl g0 (Kd.pI HS.o HB.o) (HLL.o i (by omega)));clear l0 g0 l1 g1;generalize (pK l (i:Int)).f1.length=q1 at x1 HC;generalize hz:cmpL (pK l (i:Int)).f0 b=z at HC;have HZ:=Yu hz;clear hz;generalize (pK l (i:Int)).f0.length=q0 at x0 HC
    go_wp2_with (first|(go_at_call 70;(with_reducible refine HC.o.mono ?_);rintro e w1 ⟨rfl,hb⟩;have HB1:=Yu (o9 HB.o hb);clear hb))
    refine bZ (gD rfl _ _ _) rfl ?_;exact⟨by rw[HP.o,HZ.o,aM hil,jl];rfl,HB1.o⟩
   ·have ahV:¬ (i:Int)<(l.length:Int):=by omega
    go_wp2;refine bZ (gD rfl _ _ _) rfl ?_;exact⟨by rw[HP.o,aN hil,kS];rfl,HB.o⟩
structure Rec where
 x:qJ
 lv:Value
 sv:Value
def vH (r:Rec):List Value:=[r.lv,r.sv]
abbrev RL (w:World)(base:Nat)(v:Value)(l:List rW):Prop:=wE.R 68 w base (fun _=>True) v l
abbrev RS (w:World)(base:Nat)(v:Value)(l:List qC):Prop:=vk.R 70 w base (fun _=>True) v l
def Lay (w:World)(base:Nat)(v:Value)(rs:List Rec):Prop:=
 RR w base v (rs.map vH)∧(∀ r∈rs,RL w base r.lv r.x.f0∧RS w base r.sv r.x.f1)∧rs.Pairwise (fun a b=>a.sv.ownBlock=none∨a.sv.ownBlock≠b.sv.ownBlock)
theorem wF {α:Type}{d:Kd α}{e:Nat}(hE:d.E=[]){w w':World}{base:Nat}{u:Value}{l:List α}(h:d.R e w base (fun _=>True) u l){row:Option Nat}(hg:w.grownBy w' row)(hne:u.ownBlock=none∨u.ownBlock≠row):d.R e w' base (fun _=>True) u l:=
 Kd.sD (Kd.JM (Kd.E9 hE h) hg (fun k hk he=>by
  rcases hne with hn | hn
  ·rw[hn] at hk;cases hk
  ·exact hn (by rw[← hk,he]))) (fun _ _=>dD)
theorem wG {α β:Type}{d:Kd α}{d':Kd β}{e e':Nat}(he:e≠e'){w:World}{base base':Nat}{ok ok':Nat→Prop}{u v:Value}{l:List α}{l':List β}(h:d.R e w base ok u l)(h':d'.R e' w base' ok' v l'):u.ownBlock=none∨u.ownBlock≠v.ownBlock:=by
 cases hu:u.ownBlock with
 | none=>exact .inl rfl
 | some k=>
   refine .inr fun hv=>?_
   obtain⟨c1,h1⟩:=Kd.JO h k hu;obtain⟨c2,h2⟩:=Kd.JO h' k hv.symm;rw[h1] at h2;injection h2 with h2
   injection h2 with _ h2
   exact he h2
section
variable {w w' w1:World} {base g cap:Nat} {v:Value} {rs:List Rec}
theorem Lay.below (h:Lay w base v rs)(hb:Below w.heap.size w w'):Lay w' base v rs:=
 ⟨Kd.qO h.1 hb,fun r hr=>⟨Kd.qO (h.2.1 r hr).1 hb,Kd.qO (h.2.1 r hr).2 hb⟩,h.2.2⟩
theorem Lay.nil (w:World)(base:Nat):Lay w base (.slice none 0 0) []:=⟨Kd.ug _ _ _ _ _,(fun r hr=>by cases hr),List.Pairwise.nil⟩
theorem Lay.reads (h:Lay w base v rs):∃ A c,v = .slice A rs.length c∧rs.length≤c∧yD.C w A rs.length (rs.map (·.x)):=by
 obtain⟨A,c,hv,hc,hC⟩:=Kd.za h.1;rw[bJ] at hv hc hC;refine⟨A,c,hv,hc,by rw[bJ],hC.2.1,fun hn=>?_⟩;obtain⟨ad,hA,hj⟩:=hC.2.2 hn;refine⟨ad,hA,fun j p hp=>?_⟩;rw[fC] at hp;obtain⟨r,hr,rfl⟩:=Option.map_eq_some_iff.1 hp;obtain⟨cs,h1,h2,h3⟩:=hj j (vH r) (by rw[fC,hr];rfl);obtain⟨k1,k2⟩:=h.2.1 r (dP hr);obtain⟨A0,c0,e0,l0,g0⟩:=Kd.za k1;obtain⟨A1,c1,e1,l1,g1⟩:=Kd.za k2;refine⟨cs,h1,?_,h3⟩;rw[h2.1];unfold vH;rw[e0,e1];exact DV w r.x l0 g0 l1 g1
theorem Lay.moved (h:Lay w base v rs)(hg:w.grownBy w' v.ownBlock):∀ r∈rs,RL w' base r.lv r.x.f0∧RS w' base r.sv r.x.f1:=fun r hr=>
 ⟨wF rfl (h.2.1 r hr).1 hg (wG (by decide) (h.2.1 r hr).1 h.1),wF rfl (h.2.1 r hr).2 hg (wG (by decide) (h.2.1 r hr).2 h.1)⟩
theorem Lay.insert (h:Lay w base v rs)(hg:w.grownBy w' v.ownBlock){v':Value}(i:Nat)(r:Rec)(hR:RR w' base v' ((rs.map vH).take i++[vH r]++(rs.map vH).drop i))(h1:RL w' base r.lv r.x.f0)(h2:RS w' base r.sv r.x.f1)(hn:r.sv.ownBlock=none):Lay w' base v' (rs.take i++[r]++rs.drop i):=by
 refine⟨by rw[gY,gY,nN,nO];exact hR,fun x hx=>?_,?_⟩
 ·rcases List.mem_append.1 hx with hx | hx
  ·rcases List.mem_append.1 hx with hx | hx
   ·exact h.moved hg x (dO hx)
   ·rw[gu] at hx;subst hx;exact⟨h1,h2⟩
  ·exact h.moved hg x (dU hx)
 ·have hp:=h.2.2;rw[← fA i rs] at hp;obtain⟨p1,p2,p3⟩:=List.pairwise_append.1 hp;refine List.pairwise_append.2 ⟨List.pairwise_append.2 ⟨p1,lZ _ _,fun a ha b hb=>?_⟩,p2,fun a ha b hb=>?_⟩
  ·rw[gu] at hb;subst hb;rw[hn];cases ho:a.sv.ownBlock with
   | none=>exact .inl rfl
   | some k=>exact .inr (by simp)
  ·rcases List.mem_append.1 ha with ha | ha
   ·exact p3 a ha b hb
   ·rw[gu] at ha;subst ha;exact .inl hn
theorem Xc {rows:List (List Value)}{n:Nat}(h:RR w base (.slice (some ⟨g,0,none⟩) n cap) rows)(i:Nat)(hi:i<rows.length)(a u u':Value)(hr:rows[i]? = some [a,u])(h1:u'.oneCell'=true) :
 RR (w.setCell ⟨g,i*2+1,none⟩ u') base (.slice (some ⟨g,0,none⟩) n cap) (rows.set i [a,u']):=by
 obtain⟨ho,ht⟩:=Oh h;obtain⟨hl,ho⟩:=ho;have ht2:Two (rows.set i [a,u']):=fun r hr2=>by
  rcases lu hr2 with hr2 | rfl
  ·exact ht r hr2
  ·refine⟨rfl,fun x hx=>?_⟩;simp only[iV,iw,lQ] at hx;rcases hx with rfl | rfl
   ·exact (ht _ (dP hr)).2 _ (bK ..)
   ·exact h1
 have hfl:(rows.set i [a,u']).flatten=rows.flatten.set (i*2+1) u':=by
  have e1:=(Ac rows i ht).1;have e2:=(Ac rows (i+1) ht).2;have hrow:rows=rows.take i++[a,u]::rows.drop (i+1):=by
   rw[← List.getElem_of_getElem? hr |>.2,List.getElem_cons_drop,fA]
  have hlt:(rows.take i).flatten.length=i*2:=by
   rw[← e1,bG,hl];omega
  rw[jI,ak hi,jv,fV]
  conv=>rhs;rw[hrow,jv,fV]
  rw[jE _ _ (by omega),hlt,show i*2+1-i*2=1 from by omega];rfl
 rcases ho with ⟨hno,_⟩ | ⟨g',cap',cur,he,hb,hh,h2,h3,h4,h5⟩
 ·cases hno
 ·have he':g=g'∧rows.length=n∧cap=cap':=by
   have:=he;simp only[kJ,cO,oQ,lS] at this;exact⟨this.1,this.2.1.symm,this.2.2⟩
  obtain⟨rfl,hnn,rfl⟩:=he';refine NW (n:=rows.length) ?_ (eZ) ht2;rw[hfl,hnn];refine⟨by rw[eZ,hl,hnn],.inr ⟨g,cap,cur.setIfInBounds (i*2+1) u',rfl,hb,Cn hh _ _,by omega,h3,by rw[jq];exact h4,?_⟩⟩;rw[jh,nM,← hnn,h5]
theorem Lay.samples {n:Nat}(h:Lay w base (.slice (some ⟨g,0,none⟩) n cap) rs)(i:Nat)(r:Rec)(hr:rs[i]? = some r)(hg:w.grownBy w1 r.sv.ownBlock){v1:Value}{ss:List qC}(h1:RS w1 base v1 ss)(hat:v1.ownBlock=r.sv.ownBlock∨∃ b,v1.ownBlock=some b∧w.heap.size≤b) :
 Lay (w1.setCell ⟨g,i*2+1,none⟩ v1) base (.slice (some ⟨g,0,none⟩) n cap) (rs.set i ⟨⟨r.x.f0,ss⟩,r.lv,v1⟩):=by
 obtain⟨hil,hri⟩:=List.getElem?_eq_some_iff.1 hr;have hR1:RR w1 base (.slice (some ⟨g,0,none⟩) n cap) (rs.map vH):=wF rfl h.1 hg (wG (by decide) h.1 (h.2.1 r (dP hr)).2);have hm:∀ x∈rs,RL w1 base x.lv x.x.f0:=fun x hx=>wF rfl (h.2.1 x hx).1 hg (wG (by decide) (h.2.1 x hx).1 (h.2.1 r (dP hr)).2)
 have hap:∀ j x,rs[j]? = some x→j≠i→x.sv.ownBlock=none∨x.sv.ownBlock≠r.sv.ownBlock:=fun j x hx hj=>by
  obtain⟨hjl,hjx⟩:=List.getElem?_eq_some_iff.1 hx;rcases eH j i with hlt | hge
  ·have:=List.pairwise_iff_getElem.1 h.2.2 j i hjl hil hlt;rw[hjx,hri] at this;exact this
  ·have:=List.pairwise_iff_getElem.1 h.2.2 i j hil hjl (by omega);rw[hjx,hri] at this;rcases this with h2 | h2
   ·cases ho:x.sv.ownBlock with
    | none=>exact .inl rfl
    | some k=>exact .inr (by rw[h2];simp)
   ·exact .inr (jJ h2)
 have hm2:∀ j x,rs[j]? = some x→j≠i→RS w1 base x.sv x.x.f1:=fun j x hx hj=>wF rfl (h.2.1 x (dP hx)).2 hg (hap j x hx hj)
 have hset:∀ {α:Type} {d:Kd α} {e:Nat} {u:Value} {l:List α},d.E=[]→e≠51→d.R e w1 base (fun _=>True) u l→d.R e (w1.setCell ⟨g,i*2+1,none⟩ v1) base (fun _=>True) u l:=fun hE he hx=>
  Kd.sD (Kd.BA (Kd.E9 hE hx) (fun k hk hlt=>by
   have hne:=wG he hx hR1;exact fZ w1 ⟨g,i*2+1,none⟩ v1 k (fun ek=>by
    rcases hne with h2 | h2
    ·rw[h2] at hk;cases hk
    ·exact h2 (by rw[← hk,ek];rfl)))) (fun _ _=>dD)
 refine⟨?_,fun x hx=>?_,?_⟩
 ·have:=Xc hR1 i (by rw[bJ];exact hil) r.lv r.sv v1 (by rw[fC,hr];rfl) (by obtain⟨A,c,rfl⟩:=Kd.qo h1;rfl);rw[kL];exact this
 ·obtain⟨j,hj⟩:=kX hx;rw[List.getElem?_set] at hj
  by_cases hji:i=j
  ·rw[ak hji,ak hil] at hj;injection hj with hj
   subst hj;exact⟨hset rfl (by decide) (hm r (dP hr)),hset rfl (by decide) h1⟩
  ·rw[aK hji] at hj;exact⟨hset rfl (by decide) (hm x (dP hj)),hset rfl (by decide) (hm2 j x hj (fun e=>hji e.symm))⟩
 ·have hnew:∀ j x,rs[j]? = some x→j≠i→x.sv.ownBlock=none∨x.sv.ownBlock≠v1.ownBlock:=fun j x hx hj=>by
   rcases hat with h2 | ⟨b,h2,hb⟩
   ·rw[h2];exact hap j x hx hj
   ·cases ho:x.sv.ownBlock with
    | none=>exact .inl rfl
    | some k=>
      refine .inr (fun e=>?_);rw[h2] at e;injection e with e
      have:=Kd.Rv (h.2.1 x (dP hx)).2 k ho;omega
  rw[nU];intro a b ha hb hab;rw[eZ] at ha hb;rw[mF,mF]
  by_cases ea:i=a
  ·subst ea;rw[ak rfl,aK (by omega)];rcases hnew b _ (aQ hb) (by omega) with h2 | h2
   ·show v1.ownBlock=none∨_;cases ho:v1.ownBlock with
    | none=>exact .inl rfl
    | some k=>exact .inr (by rw[h2];simp)
   ·exact .inr (jJ h2)
  ·rw[aK ea]
   by_cases eb:i=b
   ·subst eb;rw[ak rfl];exact hnew a _ (aQ ha) (by omega)
   ·rw[aK eb];exact List.pairwise_iff_getElem.1 h.2.2 a b ha hb hab
theorem Lay.RP (h:Lay w base v rs):∀ k,v.ownBlock=some k→base≤k:=Kd.Ng h.1
theorem Fx {rows:List (List Value)}{n:Nat}(h:RR w base (.slice (some ⟨g,0,none⟩) n cap) rows)(i:Nat)(a u:Value)(hr:rows[i]? = some [a,u]) :
 w.cell? ⟨g,i*2,none⟩=some a∧w.cell? ⟨g,i*2+1,none⟩=some u∧w.frozen? ⟨g,i*2,none⟩=false∧w.frozen? ⟨g,i*2+1,none⟩=false:=by
 have hil:i<rows.length:=(List.getElem?_eq_some_iff.1 hr).1;obtain⟨hn,_,hC⟩:=Kd.pR h;obtain⟨ad,hA,hj⟩:=hC.2.2 (by omega);injection hA with hA
 subst hA;obtain⟨cs,h1,h2,h3⟩:=hj i _ hr;have h2':cs=[a,u]:=h2.1;subst h2';obtain⟨g',cap',he,_,_,_,cur,hh,_⟩:=KA h (by omega);have hg:g=g':=by
  simp only[kJ,cO,oQ,lS] at he;exact he.1
 subst hg;have k0:=h3 0 a rfl;have k1:=h3 1 u rfl;rw[add_plain] at k0 k1;exact⟨k0,k1,pE hh _,pE hh _⟩
theorem GN {n:Nat}(h:Lay w base (.slice (some ⟨g,0,none⟩) n cap) rs)(i:Nat)(r:Rec)(hr:rs[i]? = some r) :
 w.cell? ⟨g,i*2,none⟩=some r.lv∧w.cell? ⟨g,i*2+1,none⟩=some r.sv∧w.frozen? ⟨g,i*2,none⟩=false∧w.frozen? ⟨g,i*2+1,none⟩=false:=
 Fx h.1 i r.lv r.sv (by rw[fC,hr];rfl)
theorem GR (h:Lay w base v rs)(h0:0<rs.length):∃ g cap,v = .slice (some ⟨g,0,none⟩) rs.length cap∧base≤g:=by
 obtain⟨g,cap,he,_,_,hb,_⟩:=KA h.1 (by rw[bJ];exact h0);rw[bJ] at he;exact⟨g,cap,he,hb⟩
end
theorem Xu.c (A0:Option Addr)(c0:Nat)(l0:List rW)(n:Nat)(w:World)(hn:l0.length=n)(hr0:Kd.C wE w A0 l0.length l0)(hlen:l0.length≤1000000) :
 Calls Tryz.prog 51 #[.slice A0 n c0] w fun e w'=>∃ v0_:Value,e = .returned (v0_)∧RL w' w.heap.size v0_ l0∧Below w.heap.size w w':=by
 subst hn;have HR:=Yu hr0;have HL:=Yu hlen;have hE:=Yu (xH wE 68 w.heap.size w (fun _=>True) (aD _) dD);have HBA:=Yu (o8 (bq w.heap.size w) (.cells #[] 68 (0,0)));have HRA:=Yu (Kd.pI HR.o HBA.o);clear hr0
 go_enter Tryz.func51,Tryz.ntmps51
 go_wp2_with ((with_reducible refine qK (N:=5) rfl ?_);refine Kd.uy wE (w0:=w) w.heap.size rfl (.tmp 3) (.tmp 4) 46 68 (.agg #[.string ⟨#[]⟩,.string ⟨#[]⟩]) 32 rfl Tryz.underlying46 NP rfl (by decide) (by omega) _ [] l0 A0 l0.length c0 (fun _=>True) (fun _=>False) rfl rfl hE.o HRA.o (fun x cs hx=>SV hx) (fun _ hk=>hk.elim) (fun _ _=>dD) HBA.o ?hb ?hl ?_;(case hb=>exact HBA.o.size);(case hl=>(simp;have:=HL.o;omega));intro v1 w2 hR1 hB1 hg_ ho_;rw[dL] at hR1;have HR1:=Yu hR1;have HB1:=Yu hB1;clear hR1 hB1 hg_ ho_)
 go_ret;exact⟨_,rfl,HR1.o,HB1.o⟩
end Go.Proofs.Y.PA
namespace Go.Proofs.Y.G
open Go.ChangeShapes Go.WideShapes Go.Deep Go.RowKit Go.Proofs.Y.PA Go.Proofs.YW.o7
section
variable {H:Type} {enc:TypeId × Value→H} {P:Program} {w:World} {base:Nat} {spare:Nat→Bool} {held:Bool}
theorem uX {t e:TypeId}{fs:Array Field}{fuel:Nat}{cs:List Value}{x:DataW H × List MemPlace}(ht:P.underlying t=some (.slice e))(he:P.underlying e=some (.struct fs))
 (hone:oneCellFields P fs=true) (hC:P.cellsOf e=fs.size) (h:DataW.trod enc P w base spare held fuel t cs=some x) :
 (cs=[.slice none 0 0]∧x=(.nil,[])) ∨
 ∃ (a:Addr) (len cap m:Nat) (D:Nat→DataW H) (Pl:Nat→List MemPlace),cs=[.slice (some a) len cap]∧base≤a.block∧len≤cap∧cap≤maxLen∧m=(if spare a.block then cap else len) ∧
   x=(.slice ((List.range len).map D) ((List.range (m-len)).map fun j=>D (len+j)),MemPlace.row a (m*fs.size)++(List.range m).flatMap Pl) ∧
   ∀ i,i<m→∃ (ys:List (DataW H × List MemPlace)) (n:Nat),D i = .agg (ys.map (·.1))∧Pl i=ys.flatMap (·.2)∧ys.length=fs.size ∧
     ∀ (j:Nat) (f:Field),fs[j]? = some f→∃ (v:Value) (y:DataW H × List MemPlace),w.cell? (a.add (i*fs.size+j))=some v∧ys[j]? = some y∧DataW.trod enc P w base spare held n f.type [v]=some y:=by
 rcases open_slice ht h with h0 | ⟨a,len,cap,m,n,D,Pl,hcs,hb,hl,hm,hmm,hx,hi⟩
 ·exact .inl h0
 ·refine .inr ⟨a,len,cap,m,D,Pl,hcs,hb,hl,hm,hmm,by rw[hC] at hx;exact hx,fun i him=>?_⟩;obtain⟨cs',hc,ht'⟩:=hi i him;rw[hC] at hc;obtain⟨ys,n',hn',hy,hlen,hyl,hf⟩:=DataW.trod_struct he ht';obtain⟨_,hcl,hat⟩:=World.cells?_some hc;simp only[dB] at hy;refine⟨ys,n',hy.1,hy.2,hyl,fun j f hj=>?_⟩;obtain⟨ho,hk⟩:=hone_of hone j f hj;have hjl:j<fs.size:=(Array.getElem?_eq_some_iff.1 hj).1;have hcell:=hat j hjl;have hv:cs'[j]? = some (cs'[j]'(by omega)):=aQ (by omega);have h1:=hf j f hj;rw[ho,hk] at h1;have hone':(cs'.drop j).take 1=[cs'[j]'(by omega)]:=by
   rw[fH (by omega)];rfl
  rw[hone'] at h1;have hys:ys[j]? = some (ys[j]'(by omega)):=aQ (by omega);refine⟨_,_,?_,hys,h1.trans hys⟩;rw[← Go.Deep.add_add,hcell,hv]
end
section
variable {H:Type} {enc:TypeId × Value→H} {w:World}
theorem yG {α:Type}(Q:Nat→α→Prop):∀ n,(∀ i,i<n→∃ x,Q i x)→∃ l:List α,l.length=n∧∀ i x,l[i]? = some x→Q i x
 | 0,_=>⟨[],rfl,fun i x h=>by simp at h⟩
 | n+1,h=>by
   obtain⟨l,hl,hq⟩:=yG Q n (fun i hi=>h i (by omega));obtain⟨x,hx⟩:=h n (by omega);refine⟨l++[x],by simp[hl],fun i y hy=>?_⟩;rcases kI i n with hi | hi | hi
   ·rw[fU (by omega)] at hy;exact hq i y hy
   ·subst hi;rw[fQ (by omega),hl] at hy;simp at hy;exact hy ▸ hx
   ·rw[dK (by simp;omega)] at hy;cases hy
theorem Mr {v:Value}{d:DataW H}{p:List MemPlace}(hv:∃ a len cap,v = .slice a len cap)(h:DataW.Trod enc Tryz.prog w 0 (fun _=>true) true 49 v d p) :
 ∃ (A:Option Addr) (c:Nat) (l:List qC),v = .slice A l.length c∧vk.C w A l.length l∧l.length≤c∧∀ x∈l,Dn x:=by
 obtain⟨a,len,cap,rfl⟩:=hv;obtain⟨fuel,hf⟩:=h;rcases uX Tryz.underlying49 Tryz.underlying70 (by kernel_rfl) (by kernel_rfl) hf with ⟨hcs,_⟩ | ⟨x,l,c,m,D,Pl,hcs,_,hl,hm,hmm,_,hi⟩
 ·simp[Value.cells] at hcs;obtain⟨rfl,rfl,rfl⟩:=hcs;exact⟨none,0,[],rfl,⟨rfl,by simp,fun h=>by simp at h⟩,aD _,fun x hx=>by cases hx⟩
 ·simp[Value.cells] at hcs;obtain⟨rfl,rfl,rfl⟩:=hcs;simp only[nE] at hmm;subst hmm;obtain⟨xs,hxl,hxs⟩:=yG (fun i (s:qC)=>Dn s∧∃ cs,cs.length=2∧vk.K w s cs∧∀ j u,cs[j]? = some u→w.cell? (x.add (i*2+j))=some u) len (fun i hil=>by
   obtain⟨ys,n,_,_,_,ac5⟩:=hi i (by omega);obtain⟨v0,y0,c0,_,t0⟩:=ac5 0 _ rfl;obtain⟨v1,y1,c1,_,t1⟩:=ac5 1 _ rfl;obtain⟨a0,hc0,_,w0⟩:=DataW.trod_int Tryz.underlying3 t0;obtain rfl:v0 = .int .i64 a0:=by simpa using hc0
   obtain⟨a1,hc1,_,w1⟩:=DataW.trod_int Tryz.underlying65 t1;obtain rfl:v1 = .int .u64 a1:=by simpa using hc1
   refine⟨⟨a0,a1⟩,⟨SK w0,Xj w1⟩,_,rfl,S9 w ⟨a0,a1⟩,fun j u hj=>?_⟩
   match j,hj with
   | 0,hj=>injection hj with hj;subst hj;exact c0
   | 1,hj=>injection hj with hj;subst hj;exact c1
   | n+2,hj=>simp at hj)
  have hmx:maxLen≤9223372036854775807:=by decide
  refine⟨some x,m,xs,by rw[hxl],⟨rfl,by rw[hxl];omega,fun _=>⟨x,rfl,fun j p hj=>?_⟩⟩,by omega,fun s hs=>?_⟩
  ·obtain⟨_,cs,h1,h2,h3⟩:=hxs j p hj;exact⟨cs,h1,h2,h3⟩
  ·obtain⟨j,hj⟩:=kX hs;exact (hxs j s hj).1
end
end Go.Proofs.Y.G
namespace Go.Proofs.Y.PA
open Go.RowKit Go.Proofs.Y.G Go.Proofs.YW.o7 Go.Proofs.YW.pJ Go.Proofs.YW.pO
theorem WA.c (A0:Option Addr)(c0:Nat)(A1:Option Addr)(c1 n:Nat)(l:List rW)(w:World)(hn:l.length=n)(hr0:Kd.C wE w A0 n l)(hr1:Kd.C wE w A1 n l)(hl:n≤1000000) :
 Calls Tryz.prog 41 #[.slice A0 n c0,.slice A1 n c1] w fun e w'=>e = .returned (.bool true)∧Below w.heap.size w w':=by
 subst hn;have HR0:=Yu hr0;have HR1:=Yu hr1;clear hr0 hr1;have hnn:((l.length:Int) != (l.length:Int))=false:=by simp
 go_enter Tryz.func41,Tryz.ntmps41
 go_wp2
 go_loopw [13] (fun i wr=>∃ k:Nat,k≤l.length∧i = .int .i64 k∧oZ (Below w.heap.size w wr)) (fun i _=>l.length-(intOf i).toNat)
 case atStart=>exact⟨0,bV _,rfl,⟨bq _ _⟩⟩
 case round=>
  obtain⟨k,hk,rfl,HB⟩:=hrel
  by_cases hlt:k<l.length
  ·obtain⟨ad,rfl,e0,e1⟩:=wu (Kd.pI HR0.o HB.o) (k:Int) (by omega) (by omega);obtain⟨ae,rfl,g0,g1⟩:=wu (Kd.pI HR1.o HB.o) (k:Int) (by omega) (by omega);rw[bf] at e0 e1 g0 g1;generalize qM l (k:Int)=x at e0 e1 g0 g1;go_wp2
   go_region
   go_wp2
   go_roundw
   case rel=>exact⟨k+1,by omega,by go_num,⟨rM HB.o⟩⟩
   case measure=>simp[intOf];omega
  ·obtain rfl:k=l.length:=by omega
   go_wp2;go_ret;exact⟨rfl,HB.o⟩
theorem Ri.c (A0:Option Addr)(c0:Nat)(l0:List Int)(n:Nat)(w:World)(hn:l0.length=n)(hr0:Kd.C (Kd.int .u8) w A0 l0.length l0)(hc0:l0.length≤c0)(hlen:l0.length≤1000000) :
 Calls Tryz.prog 16 #[.slice A0 n c0] w fun e w'=>∃ v0_:Value,e = .returned (v0_)∧Kd.R (Kd.int .u8) 5 w' w.heap.size (fun _=>True) v0_ l0∧Below w.heap.size w w':=by
 subst hn;have HR:=Yu hr0;have HL:=Yu hlen;have hnil:=fun W n c=>mJ (P:=Tryz.prog) W 24 5 A0 n c 0 0 Tryz.underlying24
 clear hr0 hc0 hlen;cases A0 with
 | none=>
   have h0:l0=[]:=by
    rcases fP l0.length with h0 | h0
    ·exact dG h0
    ·obtain⟨ad,e,_⟩:=HR.o.2.2 h0;cases e
   subst h0
   go_enter Tryz.func16,Tryz.ntmps16
   go_wp2;go_ret;exact⟨_,rfl,Kd.ug _ _ _ _ _,bq _ _⟩
 | some ad=>
   go_enter Tryz.func16,Tryz.ntmps16
   have hE:=Yu (xH (Kd.int .u8) 5 w.heap.size w (fun _=>True) (aD _) dD)
   go_wp2_with ((with_reducible refine qK (N:=7) rfl ?_);refine Kd.xG (Value.int .u8) 0 (h1:=fun _=>rfl) w.heap.size rfl (.tmp 5) (.tmp 6) 24 5 (.int .u8 0) 1 rfl Tryz.underlying24 uS rfl (by decide) _ [] l0 (some ad) l0.length c0 (fun _=>True) rfl rfl (fun _ _=>dD) hE.o (Kd.pI HR.o (o8 (bq _ _) _)) (o8 (bq _ _) _) ?hb ?hl ?_;(case hb=>simp);(case hl=>(have:=HL.o;simp;omega));intro v1 w1 hR1 hB1 hg_ ho_;rw[dL] at hR1;have HR1:=Yu hR1;have HB1:=Yu hB1;clear hR1 hB1 hg_ ho_)
   go_ret;exact⟨_,rfl,HR1.o,HB1.o⟩
end Go.Proofs.Y.PA
