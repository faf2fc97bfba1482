/- Of the law rZIQDumpBack. -/
import Derived.Test.YtcgbgifbajdhpaaGreatDoorZI2
import Derived.Test.YtcgbgifbajdhpaaGreatDoorZI1
set_option linter.unusedVariables false
set_option linter.unusedSimpArgs false
set_option maxHeartbeats 200000
set_option maxRecDepth 512
namespace Go
abbrev gJ:=@decide_eq_true_eq
abbrev ig:=@List.filter_cons
abbrev iq:=@List.all_eq_true
abbrev jL:=@List.mem_range
abbrev jQ:=@Option.getD_some
abbrev kU:=@Array.getD_eq_getD_getElem?
abbrev lq:=@Option.map_some
abbrev mo:=@List.all_cons
abbrev nD:=@Nat.testBit_or
abbrev nW:=@List.any_eq_true
abbrev oV:=@Bool.or_true
end Go
namespace Go.Proofs.YW.pJ
open Go.Proofs.YW.o7 (oZ)
def AA (md:Region.Mode)(o:Oper):List Nat:=(o.after.toList.filter (fun e=>Region.binds md e)).map (fun e=>e.on)
def J5 (md:Region.Mode)(ops:Array Oper)(i:Nat)(oi:Oper):List Nat:=(List.range ops.size).filter fun j => !(j==i)&&match ops[j]? with
 | some oj => !(oj.after.any (fun e=>Region.binds md e&&e.on==i)||oi.apart ops oj)
 | none=>false
def yR (md:Region.Mode)(ops:Array Oper):Bool × List (List Nat × List Nat):=(Region.noSelect ops,(List.range ops.size).map fun i=>match ops[i]? with
 | some o=>(AA md o,J5 md ops i o)
 | none=>([],[]))
def yK (T:List (List Nat × List Nat))(l:List Bool)(i:Nat):Bool := !l.getD i true&&match T[i]? with
 | some r=>r.1.all (fun j=>l.getD j false)
 | none=>false
def Ho (T:List (List Nat × List Nat))(l:List Bool):List Nat:=(List.range T.length).filter (yK T l)
def LX (T:List (List Nat × List Nat))(l:List Bool)(i:Nat):Bool:=match T[i]? with
 | some r=>r.2.all (fun j=>l.getD j true)
 | none=>false
def Fb (T:List (List Nat × List Nat))(l:List Bool):Bool:=(List.range T.length).all fun j => !l.getD j false||match T[j]? with
 | some r=>r.1.all (fun k=>l.getD k false)
 | none=>true
def D7 (T:List (List Nat × List Nat))(i:Nat):Nat→Nat→Bool
 | 0,_=>false
 | fuel+1,d=>match T[d]? with
   | some r=>r.1.any fun j=>j==i||D7 T i fuel j
   | none=>false
def lastT (T:List (List Nat × List Nat))(l:List Bool)(ds:List Nat)(i:Nat):Bool:=ds.all fun d=>l.getD d true||D7 T i T.length d
section
variable {md:Region.Mode} {ops:Array Oper} {T:Bool × List (List Nat × List Nat)} {l l' li lj lk:Array Bool} {ds:List Nat} {i j k:Nat}
theorem gd (l:Array Bool)(j:Nat)(b:Bool):l.getD j b=l.toList.getD j b:=by simp[kU,bn]
theorem Jo (o:Oper)(p:Nat→Bool):o.after.all (fun e => !Region.binds md e||p e.on)=(AA md o).all p:=by
 unfold AA;rw[← Array.all_toList]
 induction o.after.toList with
 | nil=>rfl
 | cons e r ih=>
   rw[mo,ih,ig];cases h:Region.binds md e<;>simp
theorem Qt (o:Oper)(p:Nat→Bool):o.after.any (fun e=>Region.binds md e&&p e.on)=(AA md o).any p:=by
 unfold AA;rw[← Array.any_toList]
 induction o.after.toList with
 | nil=>rfl
 | cons e r ih=>
   rw[List.any_cons,ih,ig];cases h:Region.binds md e<;>simp
theorem yL:(yR md ops).2.length=ops.size:=by simp[yR]
theorem AX {o:Oper}(h:ops[i]? = some o):(yR md ops).2[i]? = some (AA md o,J5 md ops i o):=by
 have hi:=(Array.getElem?_eq_some_iff.1 h).1;unfold yR;rw[fC,List.getElem?_range hi,lq,h]
theorem AV (h:ops[i]? = none):(yR md ops).2[i]? = none:=by
 have hi:ops.size≤i:=Array.getElem?_eq_none_iff.1 h;exact dK (by rw[yL];exact hi)
theorem Oc:yK (yR md ops).2 l.toList i=(!l.getD i true&&((ops[i]?).map (·.after.all fun e => !Region.binds md e||l.getD e.on false)).getD false):=by
 unfold yK;rw[gd];cases h:ops[i]? with
 | none=>rw[AV h];rfl
 | some o=>
   rw[AX h];simp only[lq,jQ];rw[← Jo];simp only[gd]
theorem ready_eq:Region.ready md ops l=Ho (yR md ops).2 l.toList:=by
 unfold Region.ready Ho;rw[yL];refine List.filter_congr (fun i _=>?_);rw[Oc]
theorem free_eq:Region.free md ops l i=LX (yR md ops).2 l.toList i:=by
 unfold Region.free LX;cases h:ops[i]? with
 | none=>rw[AV h]
 | some oi=>
   rw[AX h];simp only[J5];rw[List.all_filter];congr 1
   funext j
   rw[gd];cases hj:ops[j]? with
   | none=>cases (j==i)<;>cases (l.toList.getD j true)<;>simp
   | some oj=>
     cases (j==i)<;>cases (l.toList.getD j true)<;>cases (oj.after.any (fun e=>Region.binds md e&&e.on==i)||oi.apart ops oj)<;>simp_all
theorem P9:Region.Co md ops l=Fb (yR md ops).2 l.toList:=by
 unfold Region.Co Fb;rw[yL];congr 1
 funext j
 rw[gd];cases h:ops[j]? with
 | none=>rw[AV h]
 | some o=>
   rw[AX h];simp only;rw[← Jo];simp only[gd]
theorem MH:∀ (fuel d:Nat),Region.xC md ops i fuel d=D7 (yR md ops).2 i fuel d
 | 0,_=>rfl
 | fuel+1,d=>by
   unfold Region.xC D7;cases h:ops[d]? with
   | none=>rw[AV h]
   | some o=>
     rw[AX h];simp only;rw[← Qt];congr 1
     funext e
     rw[MH fuel]
theorem U7:Region.lastB md ops l ds i=lastT (yR md ops).2 l.toList ds i:=by
 unfold Region.lastB lastT;rw[yL];congr 1
 funext d
 rw[gd,MH]
theorem EH (h:yK T.2 l.toList i=true)(hT:yR md ops=T):(Region.ready md ops l).contains i=true:=by
 subst hT;rw[ready_eq];unfold Ho;rw[List.contains_iff_mem,List.mem_filter,jL];refine⟨?_,h⟩;unfold yK at h;rw[dx] at h;cases hq:(yR md ops).2[i]? with
 | none=>rw[hq] at h;simp at h
 | some r=>exact (List.getElem?_eq_some_iff.1 hq).1
theorem Om (h:(l.toList.set i true==l'.toList)=true):(l.setIfInBounds i true==l')=true:=by
 rw[jH] at h ⊢;apply Array.ext';rw[jh];exact h
def Xz (T:Bool × List (List Nat × List Nat))(l l':List Bool)(i:Nat):Bool:=T.1&&LX T.2 l i&&yK T.2 l i&&(l.set i true==l')
theorem yO (hT:yR md ops=T)(h:Xz T l.toList l'.toList i=true):UL md ops l l' i=true:=by
 simp only[Xz,dx] at h;obtain⟨⟨⟨h1,h2⟩,h3⟩,h4⟩:=h;have h5:=EH h3 hT;have h6:=Om h4;subst hT;simp only[UL,dx];exact⟨⟨⟨h1,by rw[free_eq];exact h2⟩,h5⟩,h6⟩
def Ui (T:Bool × List (List Nat × List Nat))(ds:List Nat)(l l':List Bool)(i:Nat):Bool:=T.1&&LX T.2 l i&&yK T.2 l i&&Fb T.2 l&&lastT T.2 l ds i&&(l.set i true==l')
theorem Vw (hT:yR md ops=T)(h:Ui T ds l.toList l'.toList i=true):takeB md ops ds l l' i=true:=by
 simp only[Ui,dx] at h;obtain⟨⟨⟨⟨⟨h1,h2⟩,h3⟩,h4⟩,h5⟩,h6⟩:=h;have h7:=EH h3 hT;have h8:=Om h6;subst hT;simp only[takeB,dx];exact⟨⟨⟨⟨⟨h1,by rw[free_eq];exact h2⟩,h7⟩,by rw[P9];exact h4⟩,by rw[U7];exact h5⟩,h8⟩
theorem Tt (hT:yR md ops=T)(h:(Ho T.2 l.toList==[i]&&l.toList.set i true==l'.toList)=true):D8 md ops l l' i=true:=by
 simp only[dx] at h;obtain⟨h1,h2⟩:=h;subst hT;simp only[D8,dx];exact⟨by rw[ready_eq];exact h1,Om h2⟩
theorem UY (hT:yR md ops=T)(h:(Ho T.2 l.toList==[])=true):(Region.ready md ops l==[])=true:=by
 subst hT;rw[ready_eq];exact h
def Xl (B:List Nat)(d:Nat):List Nat→Nat
 | []=>0
 | n::r=>(2 ^ n ||| (if n<d then B.getD n 0 else 0)) ||| Xl B d r
def Dh (T:List (List Nat × List Nat))(B:List Nat):Bool:=(List.range T.length).all fun d=>match T[d]? with
 | some r=>(B.getD d 0 ||| Xl B d r.1)==Xl B d r.1
 | none=>false
theorem PD {B:List Nat}{d i:Nat}:∀ {ns:List Nat},(Xl B d ns).testBit i=true→∃ n∈ns,n=i∨(n<d∧(B.getD n 0).testBit i=true)
 | [],h=>by simp[Xl] at h
 | n::r,h=>by
   unfold Xl at h;rw[nD,nD,iZ,iZ] at h;rcases h with (h | h)|h
   ·rw[Nat.testBit_two_pow] at h;exact⟨n,bK,.inl (by simpa using h)⟩
   ·by_cases hn:n<d
    ·rw[ak hn] at h;exact⟨n,bK,.inr ⟨hn,h⟩⟩
    ·rw[aK hn] at h;simp at h
   ·obtain⟨m,hm,h2⟩:=PD h;exact⟨m,dh _ hm,h2⟩
theorem Jw {T:List (List Nat × List Nat)}{B:List Nat}(hB:Dh T B=true):∀ (fuel d:Nat),d<fuel→d<T.length→(B.getD d 0).testBit i=true→D7 T i fuel d=true
 | 0,d,h,_,_=>by omega
 | fuel+1,d,h,hd,hb=>by
   have h1:=List.all_eq_true.1 hB d (List.mem_range.2 hd);cases hr:T[d]? with
   | none=>rw[hr] at h1;simp at h1
   | some r=>
     rw[hr] at h1;simp only[jH] at h1;have h2:(Xl B d r.1).testBit i=true:=by rw[← h1,nD,hb,Bool.true_or]
     obtain⟨n,hn,h3⟩:=PD h2;unfold D7;rw[hr];simp only;rw[nW];refine⟨n,hn,?_⟩;rcases h3 with rfl | ⟨h4,h5⟩
     ·simp
     ·rw[Jw hB fuel n (by omega) (by omega) h5,oV]
def VT (T:List (List Nat × List Nat))(B:List Nat)(l:List Bool)(ds:List Nat)(i:Nat):Bool:=ds.all fun d=>l.getD d true||(decide (d<T.length)&&(B.getD d 0).testBit i)
def V4 (T:Bool × List (List Nat × List Nat))(B:List Nat)(ds:List Nat)(l l':List Bool)(i:Nat):Bool:=T.1&&LX T.2 l i&&yK T.2 l i&&Fb T.2 l&&VT T.2 B l ds i&&(l.set i true==l')
theorem H7 {B:List Nat}(hT:yR md ops=T)(hB:Dh T.2 B=true)(h:V4 T B ds l.toList l'.toList i=true):takeB md ops ds l l' i=true:=by
 refine Vw hT ?_;simp only[V4,Ui,dx] at h ⊢;obtain⟨⟨⟨⟨⟨h1,h2⟩,h3⟩,h4⟩,h5⟩,h6⟩:=h;refine⟨⟨⟨⟨⟨h1,h2⟩,h3⟩,h4⟩,?_⟩,h6⟩;unfold VT at h5;unfold lastT;rw[iq] at h5 ⊢;intro d hd;have h7:=h5 d hd;rw[iZ,dx,gJ] at h7;rcases h7 with h7 | ⟨h8,h9⟩
 ·rw[h7,Bool.true_or]
 ·rw[Jw hB _ d h8 h8 h9,oV]
theorem Rb {P:Program}{Q:Exit→Act→World→Prop}{S:World→Prop}{n:Nat}{a:Act}{w:World}{B:List Nat}(hT:yR md ops=T)(hB:Dh T.2 B=true)(h:oZ (yR md ops=T)→oZ (Dh T.2 B=true)→qD P md ops Q S ds n l a w):qD P md ops Q S ds n l a w:=h ⟨hT⟩ ⟨hB⟩
end
def Bt:Code→Nat→Option (Array Oper)
 | .region id ops _,k=>if id==k then some ops else none
 | .seq a b,k=>match Bt a k with
   | some o=>some o
   | none=>Bt b k
 | .cond _ a b,k=>match Bt a k with
   | some o=>some o
   | none=>Bt b k
 | .block _ c,k=>Bt c k
 | .loop c,k=>Bt c k
 | .scope c,k=>Bt c k
 | .rangeFunc _ _ a b,k=>match Bt a k with
   | some o=>some o
   | none=>Bt b k
 | _,_=>none
def opsOf (f:Func)(k:Nat):Array Oper:=((f.body.bind fun c=>Bt c k)).getD #[]
end Go.Proofs.YW.pJ
namespace Go.Proofs.YW.o7
open Go.RowKit
namespace Kd
def tag {α:Type}(f:Nat→Nat)(d:Kd α):Kd (α × Nat) where
 sz:=d.sz
 E:=d.E
 K:=fun w x cs=>d.K w x.1 cs
 M:=fun w base ok x cs=>d.M w base (fun k=>ok k∧f k=x.2) x.1 cs
 K_len:=fun h=>d.K_len h
 K_one:=fun h=>d.K_one h
 K_below:=fun hb h=>d.K_below hb h
 K_of_M:=fun h=>d.K_of_M h
 M_mono:=fun hok h=>d.M_mono (fun k hk=>⟨hok k hk.1,hk.2⟩) h
 M_bound:=fun h=>d.M_mono (fun _ hk=>⟨⟨hk.1.1,hk.2⟩,hk.1.2⟩) (d.M_bound h)
 M_move:=fun hm h=>d.M_move (fun k hk=>hm k hk.1) h
 M_lower:=fun hb h=>d.M_lower hb h
def bare {α:Type}(d:Kd α):Kd α where
 sz:=d.sz
 E:=d.E
 K:=d.K
 M:=fun w base _ x cs=>d.M w base (fun _=>False) x cs
 K_len:=fun h=>d.K_len h
 K_one:=fun h=>d.K_one h
 K_below:=fun hb h=>d.K_below hb h
 K_of_M:=fun h=>d.K_of_M h
 M_mono:=fun _ h=>h
 M_bound:=fun h=>h
 M_move:=fun _ h=>d.M_move (fun _ hk=>hk.elim) h
 M_lower:=fun hb h=>d.M_lower hb h
def raw (sz:Nat):Kd (List Value) where
 sz:=sz
 E:=[]
 K:=fun _ x cs=>cs=x∧cs.length=sz∧∀ u∈cs,u.oneCell'=true
 M:=fun _ _ _ x cs=>cs=x∧cs.length=sz∧∀ u∈cs,u.oneCell'=true
 K_len:=fun h=>h.2.1
 K_one:=fun h=>h.2.2
 K_below:=fun _ h=>h
 K_of_M:=fun h=>h
 M_mono:=fun _ h=>h
 M_bound:=fun h=>h
 M_move:=fun _ h=>h
 M_lower:=fun _ h=>h
def S {α:Type}(d:Kd α)(e:Nat)(w:World)(base:Nat)(ok:Nat→Prop)(v:Value)(xs:List α):Prop:=∃ f,(tag f d).R e w base ok v xs.zipIdx
section
variable {α β:Type} {d:Kd α} {d':Kd β} {e e':Nat} {w w1 W:World} {base b:Nat} {ok ok' okv oku:Nat→Prop} {u v:Value} {xs:List α} {ys:List β}
theorem E9 (hE:d.E=[])(h:d.R e w base ok v xs):d.R e w base (fun k=>some k=v.ownBlock) v xs:=by
 obtain⟨h0,inner,ho,hr⟩:=h;refine⟨fun k hk=>hk.symm,inner,ho,hr.y5 (fun p c hp=>d.M_mono (fun k hk=>?_) (d.M_bound hp))⟩;obtain⟨_,_,_,q,hq,_⟩:=hk;rw[hE] at hq;cases hq
end
def gap {α:Type}(f:Nat→Nat)(d:Kd α)(i:Nat)(c:List Value):Kd (α × Nat) where
 sz:=d.sz
 E:=d.E
 K:=fun w x cs=>(x.2=i→cs=c∧cs.length=d.sz∧∀ u∈cs,u.oneCell'=true)∧(x.2≠i→d.K w x.1 cs)
 M:=fun w base ok x cs=>(x.2=i→cs=c∧cs.length=d.sz∧∀ u∈cs,u.oneCell'=true)∧(x.2≠i→d.M w base (fun k=>ok k∧f k=x.2) x.1 cs)
 K_len:=fun {w x cs} h=>by
  by_cases hx:x.2=i
  ·exact (h.1 hx).2.1
  ·exact d.K_len (h.2 hx)
 K_one:=fun {w x cs} h=>by
  by_cases hx:x.2=i
  ·exact (h.1 hx).2.2
  ·exact d.K_one (h.2 hx)
 K_below:=fun hb h=>⟨h.1,fun hx=>d.K_below hb (h.2 hx)⟩
 K_of_M:=fun h=>⟨h.1,fun hx=>d.K_of_M (h.2 hx)⟩
 M_mono:=fun hok h=>⟨h.1,fun hx=>d.M_mono (fun k hk=>⟨hok k hk.1,hk.2⟩) (h.2 hx)⟩
 M_bound:=fun h=>⟨h.1,fun hx=>d.M_mono (fun _ hk=>⟨⟨hk.1.1,hk.2⟩,hk.1.2⟩) (d.M_bound (h.2 hx))⟩
 M_move:=fun hm h=>⟨h.1,fun hx=>d.M_move (fun k hk=>hm k hk.1) (h.2 hx)⟩
 M_lower:=fun hb h=>⟨h.1,fun hx=>d.M_lower hb (h.2 hx)⟩
def H {α:Type}(d:Kd α)(e:Nat)(w:World)(base:Nat)(ok:Nat→Prop)(v:Value)(xs:List α)(i:Int)(oki:Nat→Prop)(c:List Value):Prop:=
 (∀ k,oki k→ok k)∧∃ f,(gap f d i.toNat c).R e w base (fun k=>ok k∧¬ oki k) v xs.zipIdx
end Kd
end Go.Proofs.YW.o7
