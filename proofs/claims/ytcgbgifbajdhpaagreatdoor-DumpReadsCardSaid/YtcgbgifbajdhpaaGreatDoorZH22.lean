/- Of the law ZHQDumpReads. -/
import Derived.Test.YtcgbgifbajdhpaaGreatDoorZH15
import Derived.Test.YtcgbgifbajdhpaaGreatDoorZH21
import Derived.Test.YtcgbgifbajdhpaaGreatDoorZH14
set_option linter.unusedVariables false
set_option linter.unusedSimpArgs false
set_option maxHeartbeats 4000000
set_option maxRecDepth 100000
namespace Go
abbrev iT:=@List.mem_cons
abbrev j5:=@Go.Value.slice.injEq
abbrev lF:=@List.pairwise_singleton
abbrev lJ:=@List.set_eq_take_append_cons_drop
abbrev lT:=@or_false
abbrev lU:=@List.getElem_set
abbrev ng:=@List.map_take
abbrev ni:=@List.map_drop
abbrev nG:=@List.pairwise_iff_getElem
abbrev oH:=@Go.Addr.mk.injEq
end Go
namespace Go.Proofs.Y.PA
open Go.RowKit Go.Proofs.Y.G Go.Proofs.YW.oO Go.Proofs.YW.pq Go.Proofs.YW.pz
theorem TQ {w w':World}{base:Nat}{ok:Nat→Prop}{x:tQ}{cs:List Value}(h:xU.K w x cs):xU.M w' base ok x cs:=by
 rw[MV h];exact Em _ _ _ x
theorem WJ.c (A0:Option Addr)(c0:Nat)(l0:List tQ)(n:Nat)(w:World)(hn:l0.length=n)(hr0:Kd.C xU w A0 l0.length l0)(hc0:l0.length≤c0)(hlen:l0.length≤1000000) :
 Calls Tryz.prog 54 #[.slice A0 n c0] w fun e w'=>∃ v0_:Value,e = .returned (v0_)∧Kd.R xU 68 w' w.heap.size (fun _=>True) v0_ l0∧Below w.heap.size w w':=by
 subst hn;have HR:=Y7 hr0;have HL:=Y7 hlen;have hnil:=fun W n c=>lY (P:=Tryz.prog) W 46 68 A0 n c 0 0 Tryz.underlying46
 clear hr0 hc0 hlen;cases A0 with
 | none=>
   have h0:l0=[]:=by
    rcases dW l0.length with h0 | h0
    ·exact dx h0
    ·obtain⟨ad,e,_⟩:=HR.o.2.2 h0;cases e
   subst h0
   go_enter Tryz.func54,Tryz.ntmps54
   go_wp2;go_ret;exact⟨_,rfl,Kd.tJ _ _ _ _ _,aU _ _⟩
 | some ad=>
   go_enter Tryz.func54,Tryz.ntmps54
   have hE:=Y7 (wu xU 68 w.heap.size w (fun _=>True) (ay _) bE)
   go_wp2_with ((with_reducible refine qm (N:=7) rfl ?_);refine Kd.sD xU (w0:=w) w.heap.size rfl (.tmp 5) (.tmp 6) 46 68 (.agg #[.string ⟨#[]⟩,.string ⟨#[]⟩]) 32 rfl Tryz.underlying46 KN rfl (by decide) (by omega) _ [] l0 (some ad) l0.length c0 (fun _=>True) (fun _=>False) rfl rfl hE.o (Kd.o9 HR.o (oN (aU _ _) _)) (fun x cs hx=>TQ hx) (fun _ hk=>hk.elim) (fun _ _=>bE) (oN (aU _ _) _) ?hb ?hl ?_;(case hb=>simp);(case hl=>(have:=HL.o;simp;omega));intro v1 w1 hR1 hB1 hg_ ho_;rw[cB] at hR1;have HR1:=Y7 hR1;have HB1:=Y7 hB1;clear hR1 hB1 hg_ ho_)
   go_ret;exact⟨_,rfl,HR1.o,HB1.o⟩
theorem Yb.c (A B A':Option Addr)(c e0 n m n' c':Nat)(a b:List tQ)(w:World)(hn:a.length=n)(hm:b.length=m)(hr:Kd.C xU w A n a)(hs:Kd.C xU w B m b)(hl:n≤1000000) :
 Calls Tryz.prog 70 #[.agg #[.slice A n c,.slice A' n' c'],.slice B m e0] w fun e w'=>e = .returned (.int .i64 (cmpL a b))∧Below w.heap.size w w':=by
 have HC:=Y7 (fun (W:World) (hb:Below w.heap.size w W)=>cmpL.c A B c e0 n m a b W hn hm (Kd.o9 hr hb) (Kd.o9 hs hb) hl);clear hn hm hr hs
 go_enter Tryz.func70,Tryz.ntmps70
 have HB:=Y7 (oN (aU w.heap.size w) (.cells #[.slice A n c,.slice A' n' c'] 51 (0,0)))
 go_wp2_with (first|(go_at_call 71;(with_reducible refine (HC.o _ HB.o).mono ?_);rintro e w1 ⟨rfl,hb⟩;have HB1:=Y7 (oP HB.o hb);clear hb))
 go_ret;exact⟨rfl,HB1.o⟩
def CG (l:List ru):Prop:=l.Pairwise (fun x y=>cmpL x.f0 y.f0<0)
def posB (l:List ru)(t:List tQ):Nat:=(l.takeWhile (fun x=>decide (cmpL x.f0 t<0))).length
theorem Cr (l:List ru)(t:List tQ):posB l t≤l.length:=(List.takeWhile_sublist _).length_le
theorem Gz:∀ (l:List ru) (t:List tQ) (i:Nat),i<posB l t→cmpL (qc l (i:Int)).f0 t<0
 | [],t,i,h=>by simp[posB] at h
 | x::l,t,i,h=>by
   unfold posB at h;rw[List.takeWhile_cons] at h;split at h
   ·rename_i hx;cases i with
    | zero=>exact aN hx
    | succ i=>exact Gz l t i (by rw[bq] at h;unfold posB;omega)
   ·simp at h
theorem Gy:∀ (l:List ru) (t:List tQ),posB l t<l.length→¬ cmpL (qc l (posB l t:Int)).f0 t<0
 | [],t,h=>by simp[posB] at h
 | x::l,t,h=>by
   unfold posB at h ⊢;rw[List.takeWhile_cons] at h ⊢
   by_cases hx:cmpL x.f0 t<0
   ·rw[au (aC hx)] at h ⊢;have:=Gy l t (by rw[bq,bq] at h;unfold posB;omega);unfold posB at this;rw[bq];exact this
   ·rw[av (by simp[hx])];exact hx
theorem LP {l:List ru}(h:CG l){i j:Nat}(hij:i<j)(hj:j<l.length):cmpL (qc l (i:Int)).f0 (qc l (j:Int)).f0<0:=by
 have:=List.pairwise_iff_getElem.1 h i j (by omega) hj hij
 simpa [qc,aV,aR (show i<l.length by omega),aR hj] using this
theorem VU {l:List ru}{t:List tQ}{i:Nat}(hi:i≤l.length)(h1:∀ k,k<i→cmpL (qc l (k:Int)).f0 t<0)(h2:∀ k,i≤k→k<l.length→¬ cmpL (qc l (k:Int)).f0 t<0):posB l t=i:=by
 rcases Nat.lt_trichotomy (posB l t) i with h | h | h
 ·exact absurd (h1 _ h) (Gy l t (by omega))
 ·exact h
 ·have:=Cr l t;exact absurd (Gz l t i h) (h2 i (ay _) (by omega))
theorem Jo {l:List ru}(h:CG l)(t:List tQ){i j:Nat}(hij:i≤j)(hj:j<l.length)(hc:cmpL (qc l (j:Int)).f0 t<0):cmpL (qc l (i:Int)).f0 t<0:=by
 rcases Nat.lt_or_eq_of_le hij with h1 | rfl
 ·exact Dm _ _ _ (LP h h1 hj) hc
 ·exact hc
theorem binSearch.c (A B:Option Addr)(c e0 n m:Nat)(l:List ru)(b:List tQ)(w:World)(hn:l.length=n)(hm:b.length=m)(hr:Kd.C Bc w A n l)(hs:Kd.C xU w B m b)(hS:CG l)(hll:∀ x∈l,x.f0.length≤1000000)(hbig:n≤1000000) :
 Calls Tryz.prog 69 #[.slice A n c,.slice B m e0,.func (.func 70) #[] #[]] w fun e w'=>e = .returned (.tuple #[.int .i64 (posB l b),.bool (decide (posB l b<n)&&decide (cmpL (qc l (posB l b:Int)).f0 b=0))])∧Below w.heap.size w w':=by
 subst hn hm;have HR:=Y7 hr;have HS:=Y7 hs;have HSR:=Y7 hS;have HLL:oM (∀ i,i<l.length→(qc l (i:Int)).f0.length≤1000000):=⟨fun i hi=>by
  refine hll _ ?_;simp[qc,aV,aR hi]⟩
 clear hr hs hS hll
 go_enter Tryz.func69,Tryz.ntmps69
 go_wp2
 go_loopg [9,10] l.length (fun kx s9 s10 wr=>∃ i j:Nat,s9 = .int .i64 i∧s10 = .int .i64 j∧i≤j∧j≤l.length∧j-i≤kx∧oM (Below w.heap.size w wr)∧oM ((∀ k,k<i→cmpL (qc l (k:Int)).f0 b<0)∧∀ k,j≤k→k<l.length→¬ cmpL (qc l (k:Int)).f0 b<0))
 case atStart=>exact⟨0,l.length,rfl,rfl,bP _,ay _,by omega,⟨aU _ _⟩,⟨fun k h=>by omega,fun k h1 h2=>by omega⟩⟩
 case round=>
  obtain⟨i,j,rfl,rfl,hij,hjl,hkx,HB,HI⟩:=hrel
  by_cases hlt:i<j
  ·obtain⟨h,hh⟩:∃ h,h=(i+j) / 2:=⟨_,rfl⟩;have C:((i:Int)+(j:Int)) / 2=(h:Int):=by omega
   have h1:i≤h:=by omega
   have h2:h<j:=by omega
   clear hh;obtain⟨ad,A0,c0,A1,c1,rfl,x0,x1,l0,g0,l1,g1⟩:=wL (Kd.o9 HR.o HB.o) (h:Int) (by omega) (by omega);rw[aG] at x0 x1;have HC:=Y7 (Yb.c A0 B A1 c0 e0 _ _ (qc l (h:Int)).f1.length c1 (qc l (h:Int)).f0 b wr rfl rfl g0 (Kd.o9 HS.o HB.o) (HLL.o h (by omega)));have hhl:(h:Int)<(l.length:Int):=by omega
   clear l0 g0 l1 g1;cases hv:decide (cmpL (qc l (h:Int)).f0 b<0) with
   | true=>
     have HX:=Y7 (aN hv);generalize (qc l (h:Int)).f0.length=q0 at x0 HC;generalize (qc l (h:Int)).f1.length=q1 at x1 HC
     go_wp2_with (first|(go_at_call 70;(with_reducible refine HC.o.mono ?_);rintro e w1 ⟨rfl,hb⟩;have HB1:=Y7 (oP HB.o hb);clear hb))
     go_roundg (j-(h+1))
     case measure=>omega
     case rel=>exact⟨h+1,j,by go_num,rfl,by omega,hjl,ay _,HB1,⟨fun k hk=>Jo HSR.o b (show k≤h by omega) (by omega) HX.o,HI.o.2⟩⟩
   | false=>
     have HX:=Y7 (dG hv);generalize (qc l (h:Int)).f0.length=q0 at x0 HC;generalize (qc l (h:Int)).f1.length=q1 at x1 HC
     go_wp2_with (first|(go_at_call 70;(with_reducible refine HC.o.mono ?_);rintro e w1 ⟨rfl,hb⟩;have HB1:=Y7 (oP HB.o hb);clear hb))
     go_roundg (h-i)
     case measure=>omega
     case rel=>exact⟨i,h,rfl,rfl,h1,by omega,ay _,HB1,⟨HI.o.1,by
      intro k hk1 hk2;rcases Int.lt_or_le (cmpL (qc l (k:Int)).f0 b) 0 with hk3 | hk3
      ·have h9:=Jo HSR.o b hk1 hk2 hk3;have h8:=HX.o;omega
      ·omega⟩⟩
  ·obtain rfl:i=j:=by omega
   have HP:oM (posB l b=i):=⟨VU hjl HI.o.1 HI.o.2⟩;have hltz:¬ (i:Int)<(i:Int):=by omega
   by_cases hil:i<l.length
   ·have akh:(i:Int)<(l.length:Int):=by omega
    obtain⟨ad,A0,c0,A1,c1,rfl,x0,x1,l0,g0,l1,g1⟩:=wL (Kd.o9 HR.o HB.o) (i:Int) (by omega) (by omega);rw[aG] at x0 x1;have HC:=Y7 (Yb.c A0 B A1 c0 e0 _ _ (qc l (i:Int)).f1.length c1 (qc l (i:Int)).f0 b wr rfl rfl g0 (Kd.o9 HS.o HB.o) (HLL.o i (by omega)));clear l0 g0 l1 g1;generalize (qc l (i:Int)).f1.length=q1 at x1 HC;generalize hz:cmpL (qc l (i:Int)).f0 b=z at HC;have HZ:=Y7 hz;clear hz;generalize (qc l (i:Int)).f0.length=q0 at x0 HC
    go_wp2_with (first|(go_at_call 70;(with_reducible refine HC.o.mono ?_);rintro e w1 ⟨rfl,hb⟩;have HB1:=Y7 (oP HB.o hb);clear hb))
    refine bg (dD rfl _ _ _) rfl ?_;exact⟨by rw[HP.o,HZ.o,aC hil,jc];rfl,HB1.o⟩
   ·have akh:¬ (i:Int)<(l.length:Int):=by omega
    go_wp2;refine bg (dD rfl _ _ _) rfl ?_;exact⟨by rw[HP.o,aD hil,kE];rfl,HB.o⟩
structure Rec where
 x:ru
 lv:Value
 sv:Value
def wM (r:Rec):List Value:=[r.lv,r.sv]
abbrev RL (w:World)(base:Nat)(v:Value)(l:List tQ):Prop:=xU.R 68 w base (fun _=>True) v l
abbrev RS (w:World)(base:Nat)(v:Value)(l:List qG):Prop:=vX.R 70 w base (fun _=>True) v l
def Lay (w:World)(base:Nat)(v:Value)(rs:List Rec):Prop:=
 RR w base v (rs.map wM)∧(∀ r∈rs,RL w base r.lv r.x.f0∧RS w base r.sv r.x.f1)∧rs.Pairwise (fun a b=>a.sv.ownBlock=none∨a.sv.ownBlock≠b.sv.ownBlock)
theorem xO {α:Type}{d:Kd α}{e:Nat}(hE:d.E=[]){w w':World}{base:Nat}{u:Value}{l:List α}(h:d.R e w base (fun _=>True) u l){row:Option Nat}(hg:w.grownBy w' row)(hne:u.ownBlock=none∨u.ownBlock≠row):d.R e w' base (fun _=>True) u l:=
 Kd.qR (Kd.Gr (Kd.BZ hE h) hg (fun k hk he=>by
  rcases hne with hn | hn
  ·rw[hn] at hk;cases hk
  ·exact hn (by rw[← hk,he]))) (fun _ _=>bE)
theorem xP {α β:Type}{d:Kd α}{d':Kd β}{e e':Nat}(he:e≠e'){w:World}{base base':Nat}{ok ok':Nat→Prop}{u v:Value}{l:List α}{l':List β}(h:d.R e w base ok u l)(h':d'.R e' w base' ok' v l'):u.ownBlock=none∨u.ownBlock≠v.ownBlock:=by
 cases hu:u.ownBlock with
 | none=>exact .inl rfl
 | some k=>
   refine .inr fun hv=>?_
   obtain⟨c1,h1⟩:=Kd.Ca h k hu;obtain⟨c2,h2⟩:=Kd.Ca h' k hv.symm;rw[h1] at h2;injection h2 with h2
   injection h2 with _ h2
   exact he h2
section
variable {w w' w1:World} {base g cap:Nat} {v:Value} {rs:List Rec}
theorem Lay.below (h:Lay w base v rs)(hb:Below w.heap.size w w'):Lay w' base v rs:=
 ⟨Kd.qo h.1 hb,fun r hr=>⟨Kd.qo (h.2.1 r hr).1 hb,Kd.qo (h.2.1 r hr).2 hb⟩,h.2.2⟩
theorem Lay.nil (w:World)(base:Nat):Lay w base (.slice none 0 0) []:=⟨Kd.tJ _ _ _ _ _,(fun r hr=>by cases hr),List.Pairwise.nil⟩
theorem Lay.reads (h:Lay w base v rs):∃ A c,v = .slice A rs.length c∧rs.length≤c∧Bc.C w A rs.length (rs.map (·.x)):=by
 obtain⟨A,c,hv,hc,hC⟩:=Kd.zX h.1;rw[bN] at hv hc hC;refine⟨A,c,hv,hc,by rw[bN],hC.2.1,fun hn=>?_⟩;obtain⟨ad,hA,hj⟩:=hC.2.2 hn;refine⟨ad,hA,fun j p hp=>?_⟩;rw[fK] at hp;obtain⟨r,hr,rfl⟩:=Option.map_eq_some_iff.1 hp;obtain⟨cs,h1,h2,h3⟩:=hj j (wM r) (by rw[fK,hr];rfl);obtain⟨k1,k2⟩:=h.2.1 r (dI hr);obtain⟨A0,c0,e0,l0,g0⟩:=Kd.zX k1;obtain⟨A1,c1,e1,l1,g1⟩:=Kd.zX k2;refine⟨cs,h1,?_,h3⟩;rw[h2.1];unfold wM;rw[e0,e1];exact KS w r.x l0 g0 l1 g1
theorem Lay.moved (h:Lay w base v rs)(hg:w.grownBy w' v.ownBlock):∀ r∈rs,RL w' base r.lv r.x.f0∧RS w' base r.sv r.x.f1:=fun r hr=>
 ⟨xO rfl (h.2.1 r hr).1 hg (xP (by decide) (h.2.1 r hr).1 h.1),xO rfl (h.2.1 r hr).2 hg (xP (by decide) (h.2.1 r hr).2 h.1)⟩
theorem Lay.insert (h:Lay w base v rs)(hg:w.grownBy w' v.ownBlock){v':Value}(i:Nat)(r:Rec)(hR:RR w' base v' ((rs.map wM).take i++[wM r]++(rs.map wM).drop i))(h1:RL w' base r.lv r.x.f0)(h2:RS w' base r.sv r.x.f1)(hn:r.sv.ownBlock=none):Lay w' base v' (rs.take i++[r]++rs.drop i):=by
 refine⟨by rw[fI,fI,ng,ni];exact hR,fun x hx=>?_,?_⟩
 ·rcases List.mem_append.1 hx with hx | hx
  ·rcases List.mem_append.1 hx with hx | hx
   ·exact h.moved hg x (bT hx)
   ·rw[fu] at hx;subst hx;exact⟨h1,h2⟩
  ·exact h.moved hg x (bV hx)
 ·have hp:=h.2.2;rw[← fH i rs] at hp;obtain⟨p1,p2,p3⟩:=List.pairwise_append.1 hp;refine List.pairwise_append.2 ⟨List.pairwise_append.2 ⟨p1,lF _ _,fun a ha b hb=>?_⟩,p2,fun a ha b hb=>?_⟩
  ·rw[fu] at hb;subst hb;rw[hn];cases ho:a.sv.ownBlock with
   | none=>exact .inl rfl
   | some k=>exact .inr (by simp)
  ·rcases List.mem_append.1 ha with ha | ha
   ·exact p3 a ha b hb
   ·rw[fu] at ha;subst ha;exact .inl hn
theorem XM {rows:List (List Value)}{n:Nat}(h:RR w base (.slice (some ⟨g,0,none⟩) n cap) rows)(i:Nat)(hi:i<rows.length)(a u u':Value)(hr:rows[i]? = some [a,u])(h1:u'.oneCell'=true) :
 RR (w.setCell ⟨g,i*2+1,none⟩ u') base (.slice (some ⟨g,0,none⟩) n cap) (rows.set i [a,u']):=by
 obtain⟨ho,ht⟩:=OT h;obtain⟨hl,ho⟩:=ho;have ht2:Two (rows.set i [a,u']):=fun r hr2=>by
  rcases kR hr2 with hr2 | rfl
  ·exact ht r hr2
  ·refine⟨rfl,fun x hx=>?_⟩;simp only[iT,gY,lT] at hx;rcases hx with rfl | rfl
   ·exact (ht _ (dI hr)).2 _ (cO ..)
   ·exact h1
 have hfl:(rows.set i [a,u']).flatten=rows.flatten.set (i*2+1) u':=by
  have e1:=(BP rows i ht).1;have e2:=(BP rows (i+1) ht).2;have hrow:rows=rows.take i++[a,u]::rows.drop (i+1):=by
   rw[← List.getElem_of_getElem? hr |>.2,List.getElem_cons_drop,fH]
  have hlt:(rows.take i).flatten.length=i*2:=by
   rw[← e1,aW,hl];omega
  rw[lJ,au hi,jf,fC]
  conv=>rhs;rw[hrow,jf,fC]
  rw[iV _ _ (by omega),hlt,show i*2+1-i*2=1 from by omega];rfl
 rcases ho with ⟨hno,_⟩ | ⟨g',cap',cur,he,hb,hh,h2,h3,h4,h5⟩
 ·cases hno
 ·have he':g=g'∧rows.length=n∧cap=cap':=by
   have:=he;simp only[j5,bF,oH,and_true] at this;exact⟨this.1,this.2.1.symm,this.2.2⟩
  obtain⟨rfl,hnn,rfl⟩:=he';refine OD (n:=rows.length) ?_ (dY) ht2;rw[hfl,hnn];refine⟨by rw[dY,hl,hnn],.inr ⟨g,cap,cur.setIfInBounds (i*2+1) u',rfl,hb,Ac hh _ _,by omega,h3,by rw[iY];exact h4,?_⟩⟩;rw[jr,mY,← hnn,h5]
theorem Lay.samples {n:Nat}(h:Lay w base (.slice (some ⟨g,0,none⟩) n cap) rs)(i:Nat)(r:Rec)(hr:rs[i]? = some r)(hg:w.grownBy w1 r.sv.ownBlock){v1:Value}{ss:List qG}(h1:RS w1 base v1 ss)(hat:v1.ownBlock=r.sv.ownBlock∨∃ b,v1.ownBlock=some b∧w.heap.size≤b) :
 Lay (w1.setCell ⟨g,i*2+1,none⟩ v1) base (.slice (some ⟨g,0,none⟩) n cap) (rs.set i ⟨⟨r.x.f0,ss⟩,r.lv,v1⟩):=by
 obtain⟨hil,hri⟩:=List.getElem?_eq_some_iff.1 hr;have hR1:RR w1 base (.slice (some ⟨g,0,none⟩) n cap) (rs.map wM):=xO rfl h.1 hg (xP (by decide) h.1 (h.2.1 r (dI hr)).2);have hm:∀ x∈rs,RL w1 base x.lv x.x.f0:=fun x hx=>xO rfl (h.2.1 x hx).1 hg (xP (by decide) (h.2.1 x hx).1 (h.2.1 r (dI hr)).2)
 have hap:∀ j x,rs[j]? = some x→j≠i→x.sv.ownBlock=none∨x.sv.ownBlock≠r.sv.ownBlock:=fun j x hx hj=>by
  obtain⟨hjl,hjx⟩:=List.getElem?_eq_some_iff.1 hx;rcases dN j i with hlt | hge
  ·have:=List.pairwise_iff_getElem.1 h.2.2 j i hjl hil hlt;rw[hjx,hri] at this;exact this
  ·have:=List.pairwise_iff_getElem.1 h.2.2 i j hil hjl (by omega);rw[hjx,hri] at this;rcases this with h2 | h2
   ·cases ho:x.sv.ownBlock with
    | none=>exact .inl rfl
    | some k=>exact .inr (by rw[h2];simp)
   ·exact .inr (jy h2)
 have hm2:∀ j x,rs[j]? = some x→j≠i→RS w1 base x.sv x.x.f1:=fun j x hx hj=>xO rfl (h.2.1 x (dI hx)).2 hg (hap j x hx hj)
 have hset:∀ {α:Type} {d:Kd α} {e:Nat} {u:Value} {l:List α},d.E=[]→e≠51→d.R e w1 base (fun _=>True) u l→d.R e (w1.setCell ⟨g,i*2+1,none⟩ v1) base (fun _=>True) u l:=fun hE he hx=>
  Kd.qR (Kd.Dg (Kd.BZ hE hx) (fun k hk hlt=>by
   have hne:=xP he hx hR1;exact fQ w1 ⟨g,i*2+1,none⟩ v1 k (fun ek=>by
    rcases hne with h2 | h2
    ·rw[h2] at hk;cases hk
    ·exact h2 (by rw[← hk,ek];rfl)))) (fun _ _=>bE)
 refine⟨?_,fun x hx=>?_,?_⟩
 ·have:=XM hR1 i (by rw[bN];exact hil) r.lv r.sv v1 (by rw[fK,hr];rfl) (by obtain⟨A,c,rfl⟩:=Kd.pO h1;rfl);rw[ko];exact this
 ·obtain⟨j,hj⟩:=List.getElem?_of_mem hx;rw[List.getElem?_set] at hj
  by_cases hji:i=j
  ·rw[au hji,au hil] at hj;injection hj with hj
   subst hj;exact⟨hset rfl (by decide) (hm r (dI hr)),hset rfl (by decide) h1⟩
  ·rw[av hji] at hj;exact⟨hset rfl (by decide) (hm x (dI hj)),hset rfl (by decide) (hm2 j x hj (fun e=>hji e.symm))⟩
 ·have hnew:∀ j x,rs[j]? = some x→j≠i→x.sv.ownBlock=none∨x.sv.ownBlock≠v1.ownBlock:=fun j x hx hj=>by
   rcases hat with h2 | ⟨b,h2,hb⟩
   ·rw[h2];exact hap j x hx hj
   ·cases ho:x.sv.ownBlock with
    | none=>exact .inl rfl
    | some k=>
      refine .inr (fun e=>?_);rw[h2] at e;injection e with e
      have:=Kd.Qv (h.2.1 x (dI hx)).2 k ho;omega
  rw[nG];intro a b ha hb hab;rw[dY] at ha hb;rw[lU,lU]
  by_cases ea:i=a
  ·subst ea;rw[au rfl,av (by omega)];rcases hnew b _ (aR hb) (by omega) with h2 | h2
   ·show v1.ownBlock=none∨_;cases ho:v1.ownBlock with
    | none=>exact .inl rfl
    | some k=>exact .inr (by rw[h2];simp)
   ·exact .inr (jy h2)
  ·rw[av ea]
   by_cases eb:i=b
   ·subst eb;rw[au rfl];exact hnew a _ (aR ha) (by omega)
   ·rw[av eb];exact List.pairwise_iff_getElem.1 h.2.2 a b ha hb hab
theorem Lay.SK (h:Lay w base v rs):∀ k,v.ownBlock=some k→base≤k:=Kd.Ke h.1
theorem GH {rows:List (List Value)}{n:Nat}(h:RR w base (.slice (some ⟨g,0,none⟩) n cap) rows)(i:Nat)(a u:Value)(hr:rows[i]? = some [a,u]) :
 w.cell? ⟨g,i*2,none⟩=some a∧w.cell? ⟨g,i*2+1,none⟩=some u∧w.frozen? ⟨g,i*2,none⟩=false∧w.frozen? ⟨g,i*2+1,none⟩=false:=by
 have hil:i<rows.length:=(List.getElem?_eq_some_iff.1 hr).1;obtain⟨hn,_,hC⟩:=Kd.pE h;obtain⟨ad,hA,hj⟩:=hC.2.2 (by omega);injection hA with hA
 subst hA;obtain⟨cs,h1,h2,h3⟩:=hj i _ hr;have h2':cs=[a,u]:=h2.1;subst h2';obtain⟨g',cap',he,_,_,_,cur,hh,_⟩:=Lg h (by omega);have hg:g=g':=by
  simp only[j5,bF,oH,and_true] at he;exact he.1
 subst hg;have k0:=h3 0 a rfl;have k1:=h3 1 u rfl;rw[add_plain] at k0 k1;exact⟨k0,k1,oW hh _,oW hh _⟩
theorem Ig {n:Nat}(h:Lay w base (.slice (some ⟨g,0,none⟩) n cap) rs)(i:Nat)(r:Rec)(hr:rs[i]? = some r) :
 w.cell? ⟨g,i*2,none⟩=some r.lv∧w.cell? ⟨g,i*2+1,none⟩=some r.sv∧w.frozen? ⟨g,i*2,none⟩=false∧w.frozen? ⟨g,i*2+1,none⟩=false:=
 GH h.1 i r.lv r.sv (by rw[fK,hr];rfl)
theorem Ih (h:Lay w base v rs)(h0:0<rs.length):∃ g cap,v = .slice (some ⟨g,0,none⟩) rs.length cap∧base≤g:=by
 obtain⟨g,cap,he,_,_,hb,_⟩:=Lg h.1 (by rw[bN];exact h0);rw[bN] at he;exact⟨g,cap,he,hb⟩
end
theorem R7.c (A0:Option Addr)(c0:Nat)(l0:List Int)(n:Nat)(w:World)(hn:l0.length=n)(hr0:Kd.C (Kd.int .u8) w A0 l0.length l0)(hc0:l0.length≤c0)(hlen:l0.length≤1000000) :
 Calls Tryz.prog 16 #[.slice A0 n c0] w fun e w'=>∃ v0_:Value,e = .returned (v0_)∧Kd.R (Kd.int .u8) 5 w' w.heap.size (fun _=>True) v0_ l0∧Below w.heap.size w w':=by
 subst hn;have HR:=Y7 hr0;have HL:=Y7 hlen;have hnil:=fun W n c=>lY (P:=Tryz.prog) W 24 5 A0 n c 0 0 Tryz.underlying24
 clear hr0 hc0 hlen;cases A0 with
 | none=>
   have h0:l0=[]:=by
    rcases dW l0.length with h0 | h0
    ·exact dx h0
    ·obtain⟨ad,e,_⟩:=HR.o.2.2 h0;cases e
   subst h0
   go_enter Tryz.func16,Tryz.ntmps16
   go_wp2;go_ret;exact⟨_,rfl,Kd.tJ _ _ _ _ _,aU _ _⟩
 | some ad=>
   go_enter Tryz.func16,Tryz.ntmps16
   have hE:=Y7 (wu (Kd.int .u8) 5 w.heap.size w (fun _=>True) (ay _) bE)
   go_wp2_with ((with_reducible refine qm (N:=7) rfl ?_);refine Kd.uX (Value.int .u8) 0 (h1:=fun _=>rfl) w.heap.size rfl (.tmp 5) (.tmp 6) 24 5 (.int .u8 0) 1 rfl Tryz.underlying24 rW rfl (by decide) _ [] l0 (some ad) l0.length c0 (fun _=>True) rfl rfl (fun _ _=>bE) hE.o (Kd.o9 HR.o (oN (aU _ _) _)) (oN (aU _ _) _) ?hb ?hl ?_;(case hb=>simp);(case hl=>(have:=HL.o;simp;omega));intro v1 w1 hR1 hB1 hg_ ho_;rw[cB] at hR1;have HR1:=Y7 hR1;have HB1:=Y7 hB1;clear hR1 hB1 hg_ ho_)
   go_ret;exact⟨_,rfl,HR1.o,HB1.o⟩
theorem X5.c (A0:Option Addr)(c0:Nat)(l0:List tQ)(n:Nat)(w:World)(hn:l0.length=n)(hr0:Kd.C xU w A0 l0.length l0)(hlen:l0.length≤1000000) :
 Calls Tryz.prog 51 #[.slice A0 n c0] w fun e w'=>∃ v0_:Value,e = .returned (v0_)∧RL w' w.heap.size v0_ l0∧Below w.heap.size w w':=by
 subst hn;have HR:=Y7 hr0;have HL:=Y7 hlen;have hE:=Y7 (wu xU 68 w.heap.size w (fun _=>True) (ay _) bE);have HBA:=Y7 (oN (aU w.heap.size w) (.cells #[] 68 (0,0)));have HRA:=Y7 (Kd.o9 HR.o HBA.o);clear hr0
 go_enter Tryz.func51,Tryz.ntmps51
 go_wp2_with ((with_reducible refine qm (N:=5) rfl ?_);refine Kd.sD xU (w0:=w) w.heap.size rfl (.tmp 3) (.tmp 4) 46 68 (.agg #[.string ⟨#[]⟩,.string ⟨#[]⟩]) 32 rfl Tryz.underlying46 KN rfl (by decide) (by omega) _ [] l0 A0 l0.length c0 (fun _=>True) (fun _=>False) rfl rfl hE.o HRA.o (fun x cs hx=>TQ hx) (fun _ hk=>hk.elim) (fun _ _=>bE) HBA.o ?hb ?hl ?_;(case hb=>exact HBA.o.size);(case hl=>(simp;have:=HL.o;omega));intro v1 w2 hR1 hB1 hg_ ho_;rw[cB] at hR1;have HR1:=Y7 hR1;have HB1:=Y7 hB1;clear hR1 hB1 hg_ ho_)
 go_ret;exact⟨_,rfl,HR1.o,HB1.o⟩
end Go.Proofs.Y.PA
