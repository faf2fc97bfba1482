/- Lemmas and contracts that the law DumpRows leans on (packed by a program of this session out of its texts and the print's words). -/
import Derived.Test.YtcgbgifbajdhpaaGreatDoorZE3
import Derived.Test.YtcgbgifbajdhpaaGreatDoorZE4
import Derived.WalkSpells
import Derived.Sort.LotA
import Derived.Sort.WalkA
import Derived.Deep.DeepMust
import Derived.Shelf.SlSortCmp.KitK
import Derived.Sort.WalkB2
import Derived.Sort.WalkB12
import Derived.Deep.LoopGhost
import Derived.Deep.DeepCutAuto
import Derived.Shelf.SlSortCmp.InsertionK
import Derived.Shelf.Lay
import Derived.Ground.SlsfProg
import Derived.Shelf.SlicesQ.Reverse
import Derived.Shelf.SlGeneric
import Derived.Ground.SlgnProg
set_option linter.unusedVariables false
set_option linter.unusedSimpArgs false
set_option maxHeartbeats 16000000
set_option maxRecDepth 1000000
namespace Go.Proofs.YtcgbgifbajdhpaaGreatDoor.PA
open Go.RowKit Go.Proofs.YtcgbgifbajdhpaaGreatDoor.G Go.Proofs.YtcgbgifbajdhpaaGreatDoorW.au Go.Proofs.YtcgbgifbajdhpaaGreatDoorW.aI Go.Proofs.YtcgbgifbajdhpaaGreatDoorW.aJ
theorem J2 {w w':World} {base:Nat} {ok:Nat→Prop} {x:eP} {cs:List Value} (h:iM.K w x cs):iM.M w' base ok x cs:=by
 rw[wM h]
 exact uT _ _ _ x
theorem IK.calls (A0:Option Addr) (c0:Nat) (l0:List eP) (n:Nat) (w:World) (hn:l0.length=n) (hr0:Kd.C iM w A0 l0.length l0) (hc0:l0.length≤c0) (hlen:l0.length≤1000000) :
 Calls Tryz.prog 54 #[.slice A0 n c0] w fun e w'=>∃ v0_:Value,e = .returned (v0_)∧Kd.R iM 68 w' w.heap.size (fun _=>True) v0_ l0∧Below w.heap.size w w':=by
 subst hn
 have HR:=ah.mk hr0
 have HL:=ah.mk hlen
 have hnil:=fun W n c=>Lib.run_eql_slice_nil (P:=Tryz.prog) W 46 68 A0 n c 0 0 Tryz.underlying46
 clear hr0 hc0 hlen
 cases A0 with
 | none=>
   have h0:l0=[]:=by
    rcases Nat.eq_zero_or_pos l0.length with h0 | h0
    ·exact List.eq_nil_of_length_eq_zero h0
    ·obtain⟨ad,e,_⟩:=HR.o.2.2 h0
     cases e
   subst h0
   go_enter Tryz.func54,Tryz.ntmps54
   go_wp2
   go_ret
   exact⟨_,rfl,Kd.fP _ _ _ _ _,Below.refl _ _⟩
 | some ad=>
   go_enter Tryz.func54,Tryz.ntmps54
   have hE:=ah.mk (og iM 68 w.heap.size w (fun _=>True) (Nat.le_refl _) trivial)
   go_wp2_with ((with_reducible refine bM (N:=7) rfl ?_);refine Kd.iG iM (w0:=w) w.heap.size rfl (.tmp 5) (.tmp 6) 46 68 (.agg #[.string ⟨#[]⟩,.string ⟨#[]⟩]) 32 rfl Tryz.underlying46 Eo rfl (by decide) (by omega) _ [] l0 (some ad) l0.length c0 (fun _=>True) (fun _=>False) rfl rfl hE.o (Kd.aH HR.o (aj (Below.refl _ _) _)) (fun x cs hx=>J2 hx) (fun _ hk=>hk.elim) (fun _ _=>trivial) (aj (Below.refl _ _) _) ?hb ?hl ?_;(case hb=>simp);(case hl=>(have:=HL.o;simp;omega));intro v1 w1 hR1 hB1 hg_ ho_;rw[List.nil_append] at hR1;have HR1:=ah.mk hR1;have HB1:=ah.mk hB1;clear hR1 hB1 hg_ ho_)
   go_ret
   exact⟨_,rfl,HR1.o,HB1.o⟩
theorem Pf.calls (A B A':Option Addr) (c e0 n m n' c':Nat) (a b:List eP) (w:World) (hn:a.length=n) (hm:b.length=m) (hr:Kd.C iM w A n a) (hs:Kd.C iM w B m b) (hl:n≤1000000) :
 Calls Tryz.prog 70 #[.agg #[.slice A n c,.slice A' n' c'],.slice B m e0] w fun e w'=>e = .returned (.int .i64 (cmpL a b))∧Below w.heap.size w w':=by
 have HC:=ah.mk (fun (W:World) (hb:Below w.heap.size w W)=>cmpL.calls A B c e0 n m a b W hn hm (Kd.aH hr hb) (Kd.aH hs hb) hl)
 clear hn hm hr hs
 go_enter Tryz.func70,Tryz.ntmps70
 have HB:=ah.mk (aj (Below.refl w.heap.size w) (.cells #[.slice A n c,.slice A' n' c'] 51 (0,0)))
 go_wp2_with (first|(go_at_call 71;(with_reducible refine (HC.o _ HB.o).mono ?_);rintro e w1 ⟨rfl,hb⟩;have HB1:=ah.mk (ak HB.o hb);clear hb))
 go_ret
 exact⟨rfl,HB1.o⟩
def oU (l:List cB):Prop:=l.Pairwise (fun x y=>cmpL x.f0 y.f0<0)
def posB (l:List cB) (t:List eP):Nat:=(l.takeWhile (fun x=>decide (cmpL x.f0 t<0))).length
theorem qR (l:List cB) (t:List eP):posB l t≤l.length:=(List.takeWhile_sublist _).length_le
theorem Ao:∀ (l:List cB) (t:List eP) (i:Nat),i<posB l t→cmpL (aK l (i:Int)).f0 t<0
 | [],t,i,h=>by simp[posB] at h
 | x::l,t,i,h=>by
   unfold posB at h
   rw[List.takeWhile_cons] at h
   split at h
   ·rename_i hx
    cases i with
    | zero=>exact of_decide_eq_true hx
    | succ i=>exact Ao l t i (by rw[List.length_cons] at h;unfold posB;omega)
   ·simp at h
theorem Am:∀ (l:List cB) (t:List eP),posB l t<l.length→¬ cmpL (aK l (posB l t:Int)).f0 t<0
 | [],t,h=>by simp[posB] at h
 | x::l,t,h=>by
   unfold posB at h ⊢
   rw[List.takeWhile_cons] at h ⊢
   by_cases hx:cmpL x.f0 t<0
   ·rw[if_pos (decide_eq_true hx)] at h ⊢
    have:=Am l t (by rw[List.length_cons,List.length_cons] at h;unfold posB;omega)
    unfold posB at this
    rw[List.length_cons]
    exact this
   ·rw[if_neg (by simp[hx])]
    exact hx
theorem Bh {l:List cB} (h:oU l) {i j:Nat} (hij:i<j) (hj:j<l.length):cmpL (aK l (i:Int)).f0 (aK l (j:Int)).f0<0:=by
 have:=List.pairwise_iff_getElem.1 h i j (by omega) hj hij
 simpa [aK,List.getD_eq_getElem?_getD,List.getElem?_eq_getElem (show i<l.length by omega),List.getElem?_eq_getElem hj] using this
theorem MF {l:List cB} {t:List eP} {i:Nat} (hi:i≤l.length) (h1:∀ k,k<i→cmpL (aK l (k:Int)).f0 t<0) (h2:∀ k,i≤k→k<l.length→¬ cmpL (aK l (k:Int)).f0 t<0):posB l t=i:=by
 rcases Nat.lt_trichotomy (posB l t) i with h | h | h
 ·exact absurd (h1 _ h) (Am l t (by omega))
 ·exact h
 ·have:=qR l t
  exact absurd (Ao l t i h) (h2 i (Nat.le_refl _) (by omega))
theorem yB {l:List cB} (h:oU l) (t:List eP) {i j:Nat} (hij:i≤j) (hj:j<l.length) (hc:cmpL (aK l (j:Int)).f0 t<0):cmpL (aK l (i:Int)).f0 t<0:=by
 rcases Nat.lt_or_eq_of_le hij with h1 | rfl
 ·exact pW _ _ _ (Bh h h1 hj) hc
 ·exact hc
theorem binSearch.calls (A B:Option Addr) (c e0 n m:Nat) (l:List cB) (b:List eP) (w:World) (hn:l.length=n) (hm:b.length=m) (hr:Kd.C mK w A n l) (hs:Kd.C iM w B m b) (hS:oU l) (hll:∀ x∈l,x.f0.length≤1000000) (hbig:n≤1000000) :
 Calls Tryz.prog 69 #[.slice A n c,.slice B m e0,.func (.func 70) #[] #[]] w fun e w'=>e = .returned (.tuple #[.int .i64 (posB l b),.bool (decide (posB l b<n)&&decide (cmpL (aK l (posB l b:Int)).f0 b=0))])∧Below w.heap.size w w':=by
 subst hn hm
 have HR:=ah.mk hr
 have HS:=ah.mk hs
 have HSR:=ah.mk hS
 have HLL:ah (∀ i,i<l.length→(aK l (i:Int)).f0.length≤1000000):=⟨fun i hi=>by
  refine hll _ ?_
  simp[aK,List.getD_eq_getElem?_getD,List.getElem?_eq_getElem hi]⟩
 clear hr hs hS hll
 go_enter Tryz.func69,Tryz.ntmps69
 go_wp2
 go_loopg [9,10] l.length (fun kx s9 s10 wr=>∃ i j:Nat,s9 = .int .i64 i∧s10 = .int .i64 j∧i≤j∧j≤l.length∧j-i≤kx∧ah (Below w.heap.size w wr)∧ah ((∀ k,k<i→cmpL (aK l (k:Int)).f0 b<0)∧∀ k,j≤k→k<l.length→¬ cmpL (aK l (k:Int)).f0 b<0))
 case atStart=>exact⟨0,l.length,rfl,rfl,Nat.zero_le _,Nat.le_refl _,by omega,⟨Below.refl _ _⟩,⟨fun k h=>by omega,fun k h1 h2=>by omega⟩⟩
 case round=>
  obtain⟨i,j,rfl,rfl,hij,hjl,hkx,HB,HI⟩:=hrel
  by_cases hlt:i<j
  ·obtain⟨h,hh⟩:∃ h,h=(i+j) / 2:=⟨_,rfl⟩
   have C:((i:Int)+(j:Int)) / 2=(h:Int):=by omega
   have h1:i≤h:=by omega
   have h2:h<j:=by omega
   clear hh
   obtain⟨ad,A0,c0,A1,c1,rfl,x0,x1,l0,g0,l1,g1⟩:=iR (Kd.aH HR.o HB.o) (h:Int) (by omega) (by omega)
   rw[Int.toNat_natCast] at x0 x1
   have HC:=ah.mk (Pf.calls A0 B A1 c0 e0 _ _ (aK l (h:Int)).f1.length c1 (aK l (h:Int)).f0 b wr rfl rfl g0 (Kd.aH HS.o HB.o) (HLL.o h (by omega)))
   have hhl:(h:Int)<(l.length:Int):=by omega
   clear l0 g0 l1 g1
   cases hv:decide (cmpL (aK l (h:Int)).f0 b<0) with
   | true=>
     have HX:=ah.mk (of_decide_eq_true hv)
     generalize (aK l (h:Int)).f0.length=q0 at x0 HC
     generalize (aK l (h:Int)).f1.length=q1 at x1 HC
     go_wp2_with (first|(go_at_call 70;(with_reducible refine HC.o.mono ?_);rintro e w1 ⟨rfl,hb⟩;have HB1:=ah.mk (ak HB.o hb);clear hb))
     go_roundg (j-(h+1))
     case measure=>omega
     case rel=>exact⟨h+1,j,by go_num,rfl,by omega,hjl,Nat.le_refl _,HB1,⟨fun k hk=>yB HSR.o b (show k≤h by omega) (by omega) HX.o,HI.o.2⟩⟩
   | false=>
     have HX:=ah.mk (of_decide_eq_false hv)
     generalize (aK l (h:Int)).f0.length=q0 at x0 HC
     generalize (aK l (h:Int)).f1.length=q1 at x1 HC
     go_wp2_with (first|(go_at_call 70;(with_reducible refine HC.o.mono ?_);rintro e w1 ⟨rfl,hb⟩;have HB1:=ah.mk (ak HB.o hb);clear hb))
     go_roundg (h-i)
     case measure=>omega
     case rel=>exact⟨i,h,rfl,rfl,h1,by omega,Nat.le_refl _,HB1,⟨HI.o.1,by
      intro k hk1 hk2
      rcases Int.lt_or_le (cmpL (aK l (k:Int)).f0 b) 0 with hk3 | hk3
      ·have h9:=yB HSR.o b hk1 hk2 hk3
       have h8:=HX.o
       omega
      ·omega⟩⟩
  ·obtain rfl:i=j:=by omega
   have HP:ah (posB l b=i):=⟨MF hjl HI.o.1 HI.o.2⟩
   have hltz:¬ (i:Int)<(i:Int):=by omega
   by_cases hil:i<l.length
   ·have hilz:(i:Int)<(l.length:Int):=by omega
    obtain⟨ad,A0,c0,A1,c1,rfl,x0,x1,l0,g0,l1,g1⟩:=iR (Kd.aH HR.o HB.o) (i:Int) (by omega) (by omega)
    rw[Int.toNat_natCast] at x0 x1
    have HC:=ah.mk (Pf.calls A0 B A1 c0 e0 _ _ (aK l (i:Int)).f1.length c1 (aK l (i:Int)).f0 b wr rfl rfl g0 (Kd.aH HS.o HB.o) (HLL.o i (by omega)))
    clear l0 g0 l1 g1
    generalize (aK l (i:Int)).f1.length=q1 at x1 HC
    generalize hz:cmpL (aK l (i:Int)).f0 b=z at HC
    have HZ:=ah.mk hz
    clear hz
    generalize (aK l (i:Int)).f0.length=q0 at x0 HC
    go_wp2_with (first|(go_at_call 70;(with_reducible refine HC.o.mono ?_);rintro e w1 ⟨rfl,hb⟩;have HB1:=ah.mk (ak HB.o hb);clear hb))
    refine bodyPost_ret (results_tmp2 rfl _ _ _) rfl ?_
    exact⟨by rw[HP.o,HZ.o,decide_eq_true hil,Bool.true_and];rfl,HB1.o⟩
   ·have hilz:¬ (i:Int)<(l.length:Int):=by omega
    go_wp2
    refine bodyPost_ret (results_tmp2 rfl _ _ _) rfl ?_
    exact⟨by rw[HP.o,decide_eq_false hil,Bool.false_and];rfl,HB.o⟩
structure Rec where
 x:cB
 lv:Value
 sv:Value
def lS (r:Rec):List Value:=[r.lv,r.sv]
abbrev RL (w:World) (base:Nat) (v:Value) (l:List eP):Prop:=iM.R 68 w base (fun _=>True) v l
abbrev RS (w:World) (base:Nat) (v:Value) (l:List bN):Prop:=jg.R 70 w base (fun _=>True) v l
def Lay (w:World) (base:Nat) (v:Value) (rs:List Rec):Prop:=
 RR w base v (rs.map lS)∧(∀ r∈rs,RL w base r.lv r.x.f0∧RS w base r.sv r.x.f1)∧rs.Pairwise (fun a b=>a.sv.ownBlock=none∨a.sv.ownBlock≠b.sv.ownBlock)
theorem lF {α:Type} {d:Kd α} {e:Nat} (hE:d.E=[]) {w w':World} {base:Nat} {u:Value} {l:List α} (h:d.R e w base (fun _=>True) u l) {row:Option Nat} (hg:w.grownBy w' row) (hne:u.ownBlock=none∨u.ownBlock≠row):d.R e w' base (fun _=>True) u l:=
 Kd.dL (Kd.uL (Kd.uM hE h) hg (fun k hk he=>by
  rcases hne with hn | hn
  ·rw[hn] at hk;cases hk
  ·exact hn (by rw[← hk,he]))) (fun _ _=>trivial)
theorem lG {α β:Type} {d:Kd α} {d':Kd β} {e e':Nat} (he:e≠e') {w:World} {base base':Nat} {ok ok':Nat→Prop} {u v:Value} {l:List α} {l':List β} (h:d.R e w base ok u l) (h':d'.R e' w base' ok' v l'):u.ownBlock=none∨u.ownBlock≠v.ownBlock:=by
 cases hu:u.ownBlock with
 | none=>exact .inl rfl
 | some k=>
   refine .inr fun hv=>?_
   obtain⟨c1,h1⟩:=Kd.uN h k hu
   obtain⟨c2,h2⟩:=Kd.uN h' k hv.symm
   rw[h1] at h2
   injection h2 with h2
   injection h2 with _ h2
   exact he h2
section
variable {w w' w1:World} {base g cap:Nat} {v:Value} {rs:List Rec}
theorem Lay.below (h:Lay w base v rs) (hb:Below w.heap.size w w'):Lay w' base v rs:=
 ⟨Kd.bR h.1 hb,fun r hr=>⟨Kd.bR (h.2.1 r hr).1 hb,Kd.bR (h.2.1 r hr).2 hb⟩,h.2.2⟩
theorem Lay.nil (w:World) (base:Nat):Lay w base (.slice none 0 0) []:=⟨Kd.fP _ _ _ _ _,(fun r hr=>by cases hr),List.Pairwise.nil⟩
theorem Lay.reads (h:Lay w base v rs):∃ A c,v = .slice A rs.length c∧rs.length≤c∧mK.C w A rs.length (rs.map (·.x)):=by
 obtain⟨A,c,hv,hc,hC⟩:=Kd.oh h.1
 rw[List.length_map] at hv hc hC
 refine⟨A,c,hv,hc,by rw[List.length_map],hC.2.1,fun hn=>?_⟩
 obtain⟨ad,hA,hj⟩:=hC.2.2 hn
 refine⟨ad,hA,fun j p hp=>?_⟩
 rw[List.getElem?_map] at hp
 obtain⟨r,hr,rfl⟩:=Option.map_eq_some_iff.1 hp
 obtain⟨cs,h1,h2,h3⟩:=hj j (lS r) (by rw[List.getElem?_map,hr];rfl)
 obtain⟨k1,k2⟩:=h.2.1 r (List.mem_of_getElem? hr)
 obtain⟨A0,c0,e0,l0,g0⟩:=Kd.oh k1
 obtain⟨A1,c1,e1,l1,g1⟩:=Kd.oh k2
 refine⟨cs,h1,?_,h3⟩
 rw[h2.1]
 unfold lS
 rw[e0,e1]
 exact wL w r.x l0 g0 l1 g1
theorem Lay.moved (h:Lay w base v rs) (hg:w.grownBy w' v.ownBlock):∀ r∈rs,RL w' base r.lv r.x.f0∧RS w' base r.sv r.x.f1:=fun r hr=>
 ⟨lF rfl (h.2.1 r hr).1 hg (lG (by decide) (h.2.1 r hr).1 h.1),lF rfl (h.2.1 r hr).2 hg (lG (by decide) (h.2.1 r hr).2 h.1)⟩
theorem Lay.insert (h:Lay w base v rs) (hg:w.grownBy w' v.ownBlock) {v':Value} (i:Nat) (r:Rec) (hR:RR w' base v' ((rs.map lS).take i++[lS r]++(rs.map lS).drop i)) (h1:RL w' base r.lv r.x.f0) (h2:RS w' base r.sv r.x.f1) (hn:r.sv.ownBlock=none):Lay w' base v' (rs.take i++[r]++rs.drop i):=by
 refine⟨by rw[List.map_append,List.map_append,List.map_take,List.map_drop];exact hR,fun x hx=>?_,?_⟩
 ·rcases List.mem_append.1 hx with hx | hx
  ·rcases List.mem_append.1 hx with hx | hx
   ·exact h.moved hg x (List.mem_of_mem_take hx)
   ·rw[List.mem_singleton] at hx
    subst hx
    exact⟨h1,h2⟩
  ·exact h.moved hg x (List.mem_of_mem_drop hx)
 ·have hp:=h.2.2
  rw[← List.take_append_drop i rs] at hp
  obtain⟨p1,p2,p3⟩:=List.pairwise_append.1 hp
  refine List.pairwise_append.2 ⟨List.pairwise_append.2 ⟨p1,List.pairwise_singleton _ _,fun a ha b hb=>?_⟩,p2,fun a ha b hb=>?_⟩
  ·rw[List.mem_singleton] at hb
   subst hb
   rw[hn]
   cases ho:a.sv.ownBlock with
   | none=>exact .inl rfl
   | some k=>exact .inr (by simp)
  ·rcases List.mem_append.1 ha with ha | ha
   ·exact p3 a ha b hb
   ·rw[List.mem_singleton] at ha
    subst ha
    exact .inl hn
theorem Oy {rows:List (List Value)} {n:Nat} (h:RR w base (.slice (some ⟨g,0,none⟩) n cap) rows) (i:Nat) (hi:i<rows.length) (a u u':Value) (hr:rows[i]? = some [a,u]) (h1:u'.oneCell'=true) :
 RR (w.setCell ⟨g,i*2+1,none⟩ u') base (.slice (some ⟨g,0,none⟩) n cap) (rows.set i [a,u']):=by
 obtain⟨ho,ht⟩:=EM h
 obtain⟨hl,ho⟩:=ho
 have ht2:Two (rows.set i [a,u']):=fun r hr2=>by
  rcases List.mem_or_eq_of_mem_set hr2 with hr2 | rfl
  ·exact ht r hr2
  ·refine⟨rfl,fun x hx=>?_⟩
   simp only[List.mem_cons,List.not_mem_nil,or_false] at hx
   rcases hx with rfl | rfl
   ·exact (ht _ (List.mem_of_getElem? hr)).2 _ (List.mem_cons_self ..)
   ·exact h1
 have hfl:(rows.set i [a,u']).flatten=rows.flatten.set (i*2+1) u':=by
  have e1:=(nW rows i ht).1
  have e2:=(nW rows (i+1) ht).2
  have hrow:rows=rows.take i++[a,u]::rows.drop (i+1):=by
   rw[← List.getElem_of_getElem? hr |>.2,List.getElem_cons_drop,List.take_append_drop]
  have hlt:(rows.take i).flatten.length=i*2:=by
   rw[← e1,List.length_take,hl];omega
  rw[List.set_eq_take_append_cons_drop,if_pos hi,List.flatten_append,List.flatten_cons]
  conv=>rhs;rw[hrow,List.flatten_append,List.flatten_cons]
  rw[List.set_append_right _ _ (by omega),hlt,show i*2+1-i*2=1 from by omega]
  rfl
 rcases ho with ⟨hno,_⟩ | ⟨g',cap',cur,he,hb,hh,h2,h3,h4,h5⟩
 ·cases hno
 ·have he':g=g'∧rows.length=n∧cap=cap':=by
   have:=he
   simp only[Value.slice.injEq,Option.some.injEq,Addr.mk.injEq,and_true] at this
   exact⟨this.1,this.2.1.symm,this.2.2⟩
  obtain⟨rfl,hnn,rfl⟩:=he'
  refine EB (n:=rows.length) ?_ (List.length_set) ht2
  rw[hfl,hnn]
  refine⟨by rw[List.length_set,hl,hnn],.inr ⟨g,cap,cur.setIfInBounds (i*2+1) u',rfl,hb,zD hh _ _,by omega,h3,by rw[Array.size_setIfInBounds];exact h4,?_⟩⟩
  rw[Array.toList_setIfInBounds,List.take_set,← hnn,h5]
theorem Lay.samples {n:Nat} (h:Lay w base (.slice (some ⟨g,0,none⟩) n cap) rs) (i:Nat) (r:Rec) (hr:rs[i]? = some r) (hg:w.grownBy w1 r.sv.ownBlock) {v1:Value} {ss:List bN} (h1:RS w1 base v1 ss) (hat:v1.ownBlock=r.sv.ownBlock∨∃ b,v1.ownBlock=some b∧w.heap.size≤b) :
 Lay (w1.setCell ⟨g,i*2+1,none⟩ v1) base (.slice (some ⟨g,0,none⟩) n cap) (rs.set i ⟨⟨r.x.f0,ss⟩,r.lv,v1⟩):=by
 obtain⟨hil,hri⟩:=List.getElem?_eq_some_iff.1 hr
 have hR1:RR w1 base (.slice (some ⟨g,0,none⟩) n cap) (rs.map lS):=lF rfl h.1 hg (lG (by decide) h.1 (h.2.1 r (List.mem_of_getElem? hr)).2)
 have hm:∀ x∈rs,RL w1 base x.lv x.x.f0:=fun x hx=>lF rfl (h.2.1 x hx).1 hg (lG (by decide) (h.2.1 x hx).1 (h.2.1 r (List.mem_of_getElem? hr)).2)
 have hap:∀ j x,rs[j]? = some x→j≠i→x.sv.ownBlock=none∨x.sv.ownBlock≠r.sv.ownBlock:=fun j x hx hj=>by
  obtain⟨hjl,hjx⟩:=List.getElem?_eq_some_iff.1 hx
  rcases Nat.lt_or_ge j i with hlt | hge
  ·have:=List.pairwise_iff_getElem.1 h.2.2 j i hjl hil hlt
   rw[hjx,hri] at this
   exact this
  ·have:=List.pairwise_iff_getElem.1 h.2.2 i j hil hjl (by omega)
   rw[hjx,hri] at this
   rcases this with h2 | h2
   ·cases ho:x.sv.ownBlock with
    | none=>exact .inl rfl
    | some k=>exact .inr (by rw[h2];simp)
   ·exact .inr (Ne.symm h2)
 have hm2:∀ j x,rs[j]? = some x→j≠i→RS w1 base x.sv x.x.f1:=fun j x hx hj=>lF rfl (h.2.1 x (List.mem_of_getElem? hx)).2 hg (hap j x hx hj)
 have hset:∀ {α:Type} {d:Kd α} {e:Nat} {u:Value} {l:List α},d.E=[]→e≠51→d.R e w1 base (fun _=>True) u l→d.R e (w1.setCell ⟨g,i*2+1,none⟩ v1) base (fun _=>True) u l:=fun hE he hx=>
  Kd.dL (Kd.pR (Kd.uM hE hx) (fun k hk hlt=>by
   have hne:=lG he hx hR1
   exact Below.heap_setCell w1 ⟨g,i*2+1,none⟩ v1 k (fun ek=>by
    rcases hne with h2 | h2
    ·rw[h2] at hk;cases hk
    ·exact h2 (by rw[← hk,ek];rfl)))) (fun _ _=>trivial)
 refine⟨?_,fun x hx=>?_,?_⟩
 ·have:=Oy hR1 i (by rw[List.length_map];exact hil) r.lv r.sv v1 (by rw[List.getElem?_map,hr];rfl) (by obtain⟨A,c,rfl⟩:=Kd.bD h1;rfl)
  rw[List.map_set]
  exact this
 ·obtain⟨j,hj⟩:=List.getElem?_of_mem hx
  rw[List.getElem?_set] at hj
  by_cases hji:i=j
  ·rw[if_pos hji,if_pos hil] at hj
   injection hj with hj
   subst hj
   exact⟨hset rfl (by decide) (hm r (List.mem_of_getElem? hr)),hset rfl (by decide) h1⟩
  ·rw[if_neg hji] at hj
   exact⟨hset rfl (by decide) (hm x (List.mem_of_getElem? hj)),hset rfl (by decide) (hm2 j x hj (fun e=>hji e.symm))⟩
 ·have hnew:∀ j x,rs[j]? = some x→j≠i→x.sv.ownBlock=none∨x.sv.ownBlock≠v1.ownBlock:=fun j x hx hj=>by
   rcases hat with h2 | ⟨b,h2,hb⟩
   ·rw[h2];exact hap j x hx hj
   ·cases ho:x.sv.ownBlock with
    | none=>exact .inl rfl
    | some k=>
      refine .inr (fun e=>?_)
      rw[h2] at e
      injection e with e
      have:=Kd.Lx (h.2.1 x (List.mem_of_getElem? hx)).2 k ho
      omega
  rw[List.pairwise_iff_getElem]
  intro a b ha hb hab
  rw[List.length_set] at ha hb
  rw[List.getElem_set,List.getElem_set]
  by_cases ea:i=a
  ·subst ea
   rw[if_pos rfl,if_neg (by omega)]
   rcases hnew b _ (List.getElem?_eq_getElem hb) (by omega) with h2 | h2
   ·show v1.ownBlock=none∨_
    cases ho:v1.ownBlock with
    | none=>exact .inl rfl
    | some k=>exact .inr (by rw[h2];simp)
   ·exact .inr (Ne.symm h2)
  ·rw[if_neg ea]
   by_cases eb:i=b
   ·subst eb
    rw[if_pos rfl]
    exact hnew a _ (List.getElem?_eq_getElem ha) (by omega)
   ·rw[if_neg eb]
    exact List.pairwise_iff_getElem.1 h.2.2 a b ha hb hab
theorem Lay.Jo (h:Lay w base v rs):∀ k,v.ownBlock=some k→base≤k:=Kd.DT h.1
theorem Aw {rows:List (List Value)} {n:Nat} (h:RR w base (.slice (some ⟨g,0,none⟩) n cap) rows) (i:Nat) (a u:Value) (hr:rows[i]? = some [a,u]) :
 w.cell? ⟨g,i*2,none⟩=some a∧w.cell? ⟨g,i*2+1,none⟩=some u∧w.frozen? ⟨g,i*2,none⟩=false∧w.frozen? ⟨g,i*2+1,none⟩=false:=by
 have hil:i<rows.length:=(List.getElem?_eq_some_iff.1 hr).1
 obtain⟨hn,_,hC⟩:=Kd.aX h
 obtain⟨ad,hA,hj⟩:=hC.2.2 (by omega)
 injection hA with hA
 subst hA
 obtain⟨cs,h1,h2,h3⟩:=hj i _ hr
 have h2':cs=[a,u]:=h2.1
 subst h2'
 obtain⟨g',cap',he,_,_,_,cur,hh,_⟩:=Ay h (by omega)
 have hg:g=g':=by
  simp only[Value.slice.injEq,Option.some.injEq,Addr.mk.injEq,and_true] at he
  exact he.1
 subst hg
 have k0:=h3 0 a rfl
 have k1:=h3 1 u rfl
 rw[add_plain] at k0 k1
 exact⟨k0,k1,aC hh _,aC hh _⟩
theorem CJ {n:Nat} (h:Lay w base (.slice (some ⟨g,0,none⟩) n cap) rs) (i:Nat) (r:Rec) (hr:rs[i]? = some r) :
 w.cell? ⟨g,i*2,none⟩=some r.lv∧w.cell? ⟨g,i*2+1,none⟩=some r.sv∧w.frozen? ⟨g,i*2,none⟩=false∧w.frozen? ⟨g,i*2+1,none⟩=false:=
 Aw h.1 i r.lv r.sv (by rw[List.getElem?_map,hr];rfl)
theorem CK (h:Lay w base v rs) (h0:0<rs.length):∃ g cap,v = .slice (some ⟨g,0,none⟩) rs.length cap∧base≤g:=by
 obtain⟨g,cap,he,_,_,hb,_⟩:=Ay h.1 (by rw[List.length_map];exact h0)
 rw[List.length_map] at he
 exact⟨g,cap,he,hb⟩
end
end Go.Proofs.YtcgbgifbajdhpaaGreatDoor.PA
namespace Go.Proofs.YtcgbgifbajdhpaaGreatDoor.PA
open Go.Sort
section
variable {α:Type} [Inhabited α]
def DI (d:Array α) (a b:Nat):Nat→Array α
 | 0=>d
 | m+1=>swp (DI d a b m) (a+m) (b+m)
theorem kS (d:Array α) (a b:Nat):∀ m,(DI d a b m).size=d.size
 | 0=>rfl
 | m+1=>by rw[DI,size_swp,kS d a b m]
def AX (a b n t:Nat):Nat:=if a≤t∧t<a+n then t+(b-a) else if b≤t∧t<b+n then t-(b-a) else t
theorem oQ (d:Array α) (a b:Nat):∀ m,a+m≤b→b+m≤d.size→∀ t,(DI d a b m)[t]! = d[AX a b m t]!
 | 0,_,_,t=>by
   rw[DI,show AX a b 0 t=t from by unfold AX;rw[if_neg (by omega),if_neg (by omega)]]
 | m+1,h1,h2,t=>by
   rw[DI,swp_get _ (by rw[kS];omega) (by rw[kS];omega),oQ d a b m (by omega) (by omega),oQ d a b m (by omega) (by omega),oQ d a b m (by omega) (by omega)]
   by_cases e1:t=b+m
   ·rw[if_pos e1,show AX a b m (a+m)=AX a b (m+1) t from by unfold AX;(repeat' split)<;>omega]
   ·rw[if_neg e1]
    by_cases e2:t=a+m
    ·rw[if_pos e2,show AX a b m (b+m)=AX a b (m+1) t from by unfold AX;(repeat' split)<;>omega]
    ·rw[if_neg e2,show AX a b m t=AX a b (m+1) t from by unfold AX;(repeat' split)<;>omega]
def fF (a m b t:Nat):Nat:=if t<a then t else if t<a+(b-m) then m+(t-a) else if t<b then t-(b-m) else t
theorem KH (i j m t:Nat) (h:j<i) (hi:i≤m):AX (m-i) m j (fF (m-(i-j)) m (m+j) t)=fF (m-i) m (m+j) t:=by
 unfold fF AX
 (repeat' split)<;>omega
theorem Ic (i j m t:Nat) (h:i<j) (hi:i≤m):AX (m-i) (m+j-i) i (fF (m-i) m (m+(j-i)) t)=fF (m-i) m (m+j) t:=by
 unfold fF AX
 (repeat' split)<;>omega
theorem KI (i m t:Nat) (hi:i≤m):AX (m-i) m i t=fF (m-i) m (m+i) t:=by
 unfold fF AX
 (repeat' split)<;>omega
theorem xk (a m b t:Nat) (h:a≤m) (h2:m≤b) (h3:a=m∨m=b):fF a m b t=t:=by
 unfold fF
 (repeat' split)<;>omega
def fB (d:Array α) (a b:Nat):List α:=(List.range' a (b-a)).map (d[·]!)
theorem mZ (d:Array α) (a b:Nat):(fB d a b).length=b-a:=by simp[fB]
theorem oN (d:Array α):fB d 0 d.size=d.toList:=by
 apply List.ext_getElem
 ·simp[fB]
 ·intro i h1 h2
  simp[fB] at h1 ⊢
  rw[getElem!_pos d i (by simpa using h2)]
theorem kC (d:Array α) {a b c:Nat} (h1:a≤b) (h2:b≤c):fB d a c=fB d a b++fB d b c:=by
 unfold fB
 rw[← List.map_append]
 congr 1
 have:=List.range'_append_1 (s:=a) (m:=b-a) (n:=c-b)
 rw[show a+(b-a)=b from by omega] at this
 rw[this,show b-a+(c-b)=c-a from by omega]
theorem oO {d d':Array α} {a b:Nat} (h:∀ t,a≤t→t<b→d'[t]! = d[t]!):fB d' a b=fB d a b:=by
 unfold fB
 apply List.map_congr_left
 intro t ht
 rw[List.mem_range'_1] at ht
 exact h t ht.1 (by omega)
theorem y8 {d d':Array α} {a b n:Nat} (h:∀ t,t<n→d'[a+t]! = d[b+t]!):fB d' a (a+n)=fB d b (b+n):=by
 apply List.ext_getElem
 ·simp[fB]
 ·intro i h1 h2
  simp[fB] at h1 ⊢
  exact h i h1
theorem oF {d:Array α} {a b:Nat} {x:α}:x∈fB d a b↔∃ t,a≤t∧t<b∧d[t]! = x:=by
 unfold fB
 rw[List.mem_map]
 constructor
 ·rintro⟨t,h1,h2⟩
  rw[List.mem_range'_1] at h1
  exact⟨t,h1.1,by omega,h2⟩
 ·rintro⟨t,h1,h2,h3⟩
  exact⟨t,by rw[List.mem_range'_1];omega,h3⟩
variable (key:α→Int)
def MG (d:Array α) (a b:Nat) (d':Array α):Prop:=d'.size=d.size∧(∀ t,t<a∨b≤t→d'[t]! = d[t]!)∧∀ v:Int,(fB d' a b).filter (fun x=>decide (key x=v))=(fB d a b).filter (fun x=>decide (key x=v))
def jA (d:Array α) (a b:Nat):Prop:=∀ i j,a≤i→i<j→j<b→key d[i]! ≤ key d[j]!
variable {key}
theorem MG.refl (d:Array α) (a b:Nat):MG key d a b d:=⟨rfl,fun _ _=>rfl,fun _=>rfl⟩
theorem MG.trans {d d' d'':Array α} {a b:Nat} (h:MG key d a b d') (k:MG key d' a b d''):MG key d a b d'' :=
 ⟨k.1.trans h.1,fun t ht=>(k.2.1 t ht).trans (h.2.1 t ht),fun v=>(k.2.2 v).trans (h.2.2 v)⟩
theorem MG.wide {d d':Array α} {a b a' b':Nat} (h:MG key d a b d') (h1:a'≤a) (h2:b≤b') (hab:a≤b):MG key d a' b' d':=by
 refine⟨h.1,fun t ht=>h.2.1 t (by omega),fun v=>?_⟩
 rw[kC d' h1 (by omega:a≤b'),kC d' hab h2,kC d h1 (by omega:a≤b'),kC d hab h2]
 simp only[List.filter_append]
 rw[h.2.2 v,oO (d':=d') (d:=d) (fun t h3 h4=>h.2.1 t (.inl h4)),oO (d':=d') (d:=d) (fun t h3 h4=>h.2.1 t (.inr h3))]
theorem MG.from_ {d d':Array α} {a b:Nat} (h:MG key d a b d') (t:Nat) (h1:a≤t) (h2:t<b):∃ s,a≤s∧s<b∧d[s]! = d'[t]! := by
 have hm:d'[t]! ∈ (fB d' a b).filter (fun x=>decide (key x=key d'[t]!)):=List.mem_filter.2 ⟨oF.2 ⟨t,h1,h2,rfl⟩,by simp⟩
 rw[h.2.2] at hm
 exact oF.1 (List.mem_filter.1 hm).1
theorem MG.Qx {d d':Array α} {a m b:Nat} (hs:d'.size=d.size) (h1:a≤m) (h2:m≤b) (hr:∀ t,d'[t]! = d[fF a m b t]!) (hk:∀ i j,a≤i→i<m→m≤j→j<b→key d[j]! < key d[i]!):MG key d a b d':=by
 refine⟨hs,fun t ht=>by rw[hr,show fF a m b t=t from by unfold fF;(repeat' split)<;>omega],fun v=>?_⟩
 have e1:fB d' a (a+(b-m))=fB d m (m+(b-m)):=y8 (fun t ht=>by rw[hr,show fF a m b (a+t)=m+t from by unfold fF;(repeat' split)<;>omega])
 have e2:fB d' (a+(b-m)) (a+(b-m)+(m-a))=fB d a (a+(m-a)):=y8 (fun t ht=>by rw[hr,show fF a m b (a+(b-m)+t)=a+t from by unfold fF;(repeat' split)<;>omega])
 rw[show m+(b-m)=b from by omega] at e1
 rw[show a+(b-m)+(m-a)=b from by omega,show a+(m-a)=m from by omega] at e2
 rw[kC d' (by omega:a≤a+(b-m)) (by omega:a+(b-m)≤b),e1,e2,kC d h1 h2,List.filter_append,List.filter_append]
 by_cases hA:∃ x∈fB d a m,key x=v
 ·obtain⟨x,hx,hv⟩:=hA
  obtain⟨i,i1,i2,rfl⟩:=oF.1 hx
  have:(fB d m b).filter (fun x=>decide (key x=v))=[]:=by
   rw[List.filter_eq_nil_iff]
   intro y hy
   obtain⟨j,j1,j2,rfl⟩:=oF.1 hy
   have:=hk i j i1 i2 j1 j2
   simp
   omega
  rw[this]
  simp
 ·have:(fB d a m).filter (fun x=>decide (key x=v))=[]:=by
   rw[List.filter_eq_nil_iff]
   intro y hy
   simp
   exact fun e=>hA ⟨y,hy,e⟩
  rw[this]
  simp
theorem MG.nb {d:Array α} {i:Nat} (hi:i+1<d.size) (hk:key d[i+1]! < key d[i]!):MG key d i (i+2) (swp d i (i+1)):=by
 refine MG.Qx (m:=i+1) (size_swp _ _ _) (by omega) (by omega) (fun t=>?_) (fun p q h1 h2 h3 h4=>?_)
 ·rw[swp_get d (by omega) hi]
  by_cases e1:t=i+1
  ·rw[if_pos e1,show fF i (i+1) (i+2) t=i from by unfold fF;(repeat' split)<;>omega]
  ·rw[if_neg e1]
   by_cases e2:t=i
   ·rw[if_pos e2,show fF i (i+1) (i+2) t=i+1 from by unfold fF;(repeat' split)<;>omega]
   ·rw[if_neg e2,show fF i (i+1) (i+2) t=t from by unfold fF;(repeat' split)<;>omega]
 ·obtain rfl:p=i:=by omega
  obtain rfl:q=p+1:=by omega
  exact hk
theorem Im (d:Array α) {i j:Nat} (hi:i<d.size) (hj:j<d.size):swp d i j=swp d j i:=by
 apply Array.ext
 ·simp[size_swp]
 ·intro t h1 h2
  have:=swp_get d hi hj t
  have h:=swp_get d hj hi t
  rw[getElem!_pos _ t h1] at this
  rw[getElem!_pos _ t h2] at h
  rw[this,h]
  by_cases e1:t=j<;>by_cases e2:t=i<;>simp_all
variable {lt:α→α→Bool}
theorem tN (hlt:∀ x y,lt x y=true→key x<key y) (a:Nat):∀ j (d:Array α),a≤j→j<d.size→MG key d a (j+1) (insInner lt a j d)
 | 0,d,_,_=>by rw[insInner];exact MG.refl _ _ _
 | j+1,d,h,hj=>by
   rw[insInner]
   split
   ·rename_i hc
    simp only[Bool.and_eq_true,decide_eq_true_eq] at hc
    have h1:MG key d j (j+2) (swp d (j+1) j):=by
     rw[Im d hj (by omega)]
     exact MG.nb hj (hlt _ _ hc.2)
    have h2:=tN hlt a j (swp d (j+1) j) (by omega) (by rw[size_swp];omega)
    exact (h1.wide (by omega) (by omega) (by omega)).trans (h2.wide (Nat.le_refl _) (by omega) (by omega))
   ·exact MG.refl _ _ _
theorem pE (a:Nat):∀ j (d:Array α),(insInner lt a j d).size=d.size
 | 0,d=>by rw[insInner]
 | j+1,d=>by
   rw[insInner]
   split
   ·rw[pE a j,size_swp]
   ·rfl
theorem tO (hlt:∀ x y,lt x y=true→key x<key y) (a b:Nat):∀ n i (d:Array α),b-i=n→a≤i→i≤b→b≤d.size→MG key d a b (insOuter lt a b i d)
 | 0,i,d,hn,h1,h2,h3=>by
   rw[insOuter,if_neg (by omega)]
   exact MG.refl _ _ _
 | n+1,i,d,hn,h1,h2,h3=>by
   rw[insOuter,if_pos (by omega)]
   have k1:=tN hlt a i d h1 (by omega)
   have k2:=tO hlt a b n (i+1) (insInner lt a i d) (by omega) (by omega) (by omega) (by rw[pE];omega)
   exact (k1.wide (Nat.le_refl _) (by omega) (by omega)).trans k2
theorem Aa (hlt:∀ x y,lt x y=true→key x<key y) (d:Array α) (a b:Nat) (hab:a≤b) (hb:b≤d.size):MG key d a b (insertionSort lt d a b):=by
 unfold insertionSort
 by_cases h:a+1≤b
 ·exact tO hlt a b _ (a+1) d rfl (by omega) h hb
 ·rw[insOuter,if_neg (by omega)]
  exact MG.refl _ _ _
theorem FP (hlt:∀ x y,lt x y=true↔key x<key y) (d:Array α) (a b:Nat) (hab:a≤b) (hb:b≤d.size):jA key (insertionSort lt d a b) a b:=by
 have hf:∀ x y,lt x y=false↔key y≤key x:=fun x y=>by
  rw[← Bool.not_eq_true,hlt];omega
 have hS:SWO lt:=⟨fun x=>by rw[hf];omega,fun x y z h1 h2=>by rw[hlt] at *;omega,fun x y z h1 h2=>by rw[hf] at *;omega⟩
 have:=(insertionSort_holds hS d a b hab hb).2
 intro i j h1 h2 h3
 exact (hf _ _).1 (this i j h1 h2 h3)
theorem mQ {d d1 d2 d3:Array α} {a s m e b q:Nat} (hb:b≤d.size) (h1:a≤s) (h2:s≤m) (h3:m≤e) (h4:e≤b) (hq:q=s+(e-m)) (hA:jA key d a m) (hB:jA key d m b) (hs1:d1.size=d.size) (hr:∀ t,d1[t]! = d[fF s m e t]!)
 (hL:a<s→e<b→key d[s-1]! ≤ key d[e]!) (hR:s<m→m<e→key d[e-1]! < key d[s]!) (k2:MG key d1 a q d2) (s2:jA key d2 a q) (k3:MG key d2 q b d3) (s3:jA key d3 q b):MG key d a b d3∧jA key d3 a b:=by
 have hAA:∀ i j,a≤i→i≤j→j<m→key d[i]! ≤ key d[j]! := fun i j x y z=>by
  rcases Nat.lt_or_eq_of_le y with y | rfl
  ·exact hA i j x y z
  ·exact Int.le_refl _
 have hBB:∀ i j,m≤i→i≤j→j<b→key d[i]! ≤ key d[j]! := fun i j x y z=>by
  rcases Nat.lt_or_eq_of_le y with y | rfl
  ·exact hB i j x y z
  ·exact Int.le_refl _
 have k1:MG key d s e d1:=MG.Qx hs1 h2 h3 hr (fun i j x1 x2 x3 x4=>by
  have:=hR (by omega) (by omega)
  have y1:=hAA s i h1 x1 x2
  have y2:=hBB j (e-1) x3 (by omega) (by omega)
  omega)
 refine⟨(k1.wide h1 h4 (by omega)).trans ((k2.wide (Nat.le_refl _) (by omega) (by omega)).trans (k3.wide (by omega) (Nat.le_refl _) (by omega))),fun i j x1 x2 x3=>?_⟩
 have cross:∀ p r,a≤p→p<q→q≤r→r<b→key d1[p]! ≤ key d1[r]! := fun p r y1 y2 y3 y4=>by
  rw[hr p,hr r]
  by_cases c1:p<s
  ·rw[show fF s m e p=p from by unfold fF;rw[if_pos c1]]
   by_cases c2:r<e
   ·rw[show fF s m e r=r-(e-m) from by unfold fF;rw[if_neg (by omega),if_neg (by omega),if_pos c2]]
    exact hAA _ _ y1 (by omega) (by omega)
   ·rw[show fF s m e r=r from by unfold fF;rw[if_neg (by omega),if_neg (by omega),if_neg c2]]
    have z1:=hL (by omega) (by omega)
    have z2:=hAA p (s-1) y1 (by omega) (by omega)
    have z3:=hBB e r (by omega) (by omega) y4
    omega
  ·rw[show fF s m e p=m+(p-s) from by unfold fF;rw[if_neg c1,if_pos (by omega)]]
   by_cases c2:r<e
   ·rw[show fF s m e r=r-(e-m) from by unfold fF;rw[if_neg (by omega),if_neg (by omega),if_pos c2]]
    have z1:=hR (by omega) (by omega)
    have z2:=hBB (m+(p-s)) (e-1) (by omega) (by omega) (by omega)
    have z3:=hAA s (r-(e-m)) h1 (by omega) (by omega)
    omega
   ·rw[show fF s m e r=r from by unfold fF;rw[if_neg (by omega),if_neg (by omega),if_neg c2]]
    exact hBB _ _ (by omega) (by omega) y4
 by_cases c1:j<q
 ·rw[k3.2.1 i (.inl (by omega)),k3.2.1 j (.inl c1)]
  exact s2 i j x1 x2 c1
 ·by_cases c2:q≤i
  ·exact s3 i j c2 x2 x3
  ·rw[k3.2.1 i (.inl (by omega))]
   obtain⟨p,p1,p2,p3⟩:=k2.from_ i x1 (by omega)
   obtain⟨r,r1,r2,r3⟩:=k3.from_ j (by omega) x3
   rw[k2.2.1 r (.inr r1)] at r3
   rw[← p3,← r3]
   exact cross p r p1 p2 r1 r2
theorem Kk {d d1:Array α} {a i b:Nat} (hb:b≤d.size) (h1:a+1≤i) (h2:i≤b) (hB:jA key d (a+1) b) (hs1:d1.size=d.size) (hr:∀ t,d1[t]! = d[fF a (a+1) i t]!) (hL:a+1<i→key d[i-1]! < key d[a]!) (hR:i<b→key d[a]! ≤ key d[i]!):MG key d a b d1∧jA key d1 a b:=by
 have k:=mQ (key:=key) (d:=d) (d1:=d1) (d2:=d1) (d3:=d1) (a:=a) (s:=a) (m:=a+1) (e:=i) (b:=b) (q:=a+(i-(a+1))) hb (Nat.le_refl _) (by omega) h1 h2 rfl (fun i j _ _ _=>by omega) hB hs1 hr (fun h=>by omega) (fun _ h=>hL h) (MG.refl _ _ _) (fun x y x1 x2 x3=>?_) (MG.refl _ _ _) (fun x y x1 x2 x3=>?_)
 ·exact k
 ·rw[hr,hr,show fF a (a+1) i x=a+1+(x-a) from by unfold fF;rw[if_neg (by omega),if_pos (by omega)],show fF a (a+1) i y=a+1+(y-a) from by unfold fF;rw[if_neg (by omega),if_pos (by omega)]]
  exact hB _ _ (by omega) (by omega) (by omega)
 ·rw[hr,hr,show fF a (a+1) i y=y from by unfold fF;rw[if_neg (by omega),if_neg (by omega),if_neg (by omega)]]
  by_cases c:x<i
  ·rw[show fF a (a+1) i x=a from by unfold fF;(repeat' split)<;>omega]
   rcases Nat.eq_or_lt_of_le (show i≤y from by omega) with rfl | c2
   ·exact hR (by omega)
   ·have:=hR (by omega)
    have:=hB i y (by omega) c2 x3
    omega
  ·rw[show fF a (a+1) i x=x from by unfold fF;rw[if_neg (by omega),if_neg (by omega),if_neg (by omega)]]
   exact hB _ _ (by omega) x2 x3
theorem Hr {d d1:Array α} {a i m:Nat} (hb:m+1≤d.size) (h1:a≤i) (h2:i≤m) (hA:jA key d a m) (hs1:d1.size=d.size) (hr:∀ t,d1[t]! = d[fF i m (m+1) t]!) (hL:a<i→key d[i-1]! ≤ key d[m]!) (hR:i<m→key d[m]! < key d[i]!):MG key d a (m+1) d1∧jA key d1 a (m+1):=by
 have k:=mQ (key:=key) (d:=d) (d1:=d1) (d2:=d1) (d3:=d1) (a:=a) (s:=i) (m:=m) (e:=m+1) (b:=m+1) (q:=i+1) hb h1 h2 (by omega) (Nat.le_refl _) (by omega) hA (fun i j _ _ _=>by omega) hs1 hr (fun _ h=>by omega) (fun h _=>hR h) (MG.refl _ _ _) (fun x y x1 x2 x3=>?_) (MG.refl _ _ _) (fun x y x1 x2 x3=>?_)
 ·exact k
 ·rw[hr,hr,show fF i m (m+1) x=x from by unfold fF;rw[if_pos (by omega)]]
  by_cases c:y<i
  ·rw[show fF i m (m+1) y=y from by unfold fF;rw[if_pos c]]
   exact hA _ _ x1 x2 (by omega)
  ·rw[show fF i m (m+1) y=m from by unfold fF;rw[if_neg c,if_pos (by omega)];omega]
   rcases Nat.eq_or_lt_of_le (show x+1≤i from by omega) with c2 | c2
   ·have:=hL (by omega)
    rw[show i-1=x from by omega] at this
    exact this
   ·have:=hL (by omega)
    have:=hA x (i-1) x1 (by omega) (by omega)
    omega
 ·rw[hr,hr,show fF i m (m+1) x=x-1 from by unfold fF;rw[if_neg (by omega),if_neg (by omega),if_pos (by omega)];omega,show fF i m (m+1) y=y-1 from by unfold fF;rw[if_neg (by omega),if_neg (by omega),if_pos (by omega)];omega]
  exact hA _ _ (by omega) (by omega) (by omega)
end
end Go.Proofs.YtcgbgifbajdhpaaGreatDoor.PA
namespace Go.Proofs.YtcgbgifbajdhpaaGreatDoor.PA
open Go.Shelf Go.RowKit Go.Lib Go.Sort
instance:Inhabited bN:=⟨z70⟩
def bE (x:bN):List Value:=[.int .i64 x.f0,.int .u64 x.f1]
theorem JI (x:bN):(bE x).length=2:=rfl
theorem vR (x:bN):∀ v∈bE x,v.oneCell'=true:=by
 intro v hv
 simp only[bE,List.mem_cons,List.not_mem_nil,or_false] at hv
 rcases hv with rfl | rfl<;>rfl
section
variable {w0 W:World} {blk off:Nat} {d0 dk:Array bN}
theorem d9 (h:SWK bE 2 w0 blk off dk W) (R:RowK bE 2 w0 blk off d0) (hs:dk.size=d0.size) (i:Nat) (hi:i<dk.size) :
 W.cell? ⟨blk,off+i*2,none⟩=some (.int .i64 dk[i]!.f0)∧W.cell? ⟨blk,off+i*2+1,none⟩=some (.int .u64 dk[i]!.f1)∧W.frozen? ⟨blk,off+i*2,none⟩=false∧W.frozen? ⟨blk,off+i*2+1,none⟩=false:=by
 have H:=h.holds R.hblk R.hH hs
 have h0:=HoldsK.cell H (c:=0) hi (by omega)
 have h1:=HoldsK.cell H (c:=1) hi (by omega)
 exact⟨h0.1,h1.1,h0.2,h1.2⟩
def Cj (W:World) (blk off i j:Nat) (x y:bN):World:=((((W.setCell ⟨blk,off+i*2,none⟩ (.int .i64 x.f0)).setCell ⟨blk,off+i*2+1,none⟩ (.int .u64 x.f1)).setCell ⟨blk,off+j*2,none⟩ (.int .i64 y.f0)).setCell ⟨blk,off+j*2+1,none⟩ (.int .u64 y.f1)).drew
theorem zW (W:World) (blk off i j:Nat) (x y:bN):((((W.setCell ⟨blk,off+i*2,none⟩ (.int .i64 x.f0)).setCell ⟨blk,off+i*2+1,none⟩ (.int .u64 x.f1)).setCell ⟨blk,off+j*2,none⟩ (.int .i64 y.f0)).setCell ⟨blk,off+j*2+1,none⟩ (.int .u64 y.f1)).drew=Cj W blk off i j x y:=rfl
theorem xC (h:SWK bE 2 w0 blk off dk W) (R:RowK bE 2 w0 blk off d0) (i j:Nat) (hi:i<dk.size) (hj:j<dk.size):SWK bE 2 w0 blk off (swp dk i j) (Cj W blk off i j dk[j]! dk[i]!):=h.swapped R i j hi hj
theorem jE (h:SWK bE 2 w0 blk off dk W) (R:RowK bE 2 w0 blk off d0) (hs:dk.size=d0.size) (i j:Nat) (hij:i≠j) (hj:j<dk.size) (u v:Value) :
 ((W.setCell ⟨blk,off+i*2,none⟩ u).setCell ⟨blk,off+i*2+1,none⟩ v).drew.cell? ⟨blk,off+j*2,none⟩=some (.int .i64 dk[j]!.f0)∧((W.setCell ⟨blk,off+i*2,none⟩ u).setCell ⟨blk,off+i*2+1,none⟩ v).drew.cell? ⟨blk,off+j*2+1,none⟩=some (.int .u64 dk[j]!.f1):=by
 obtain⟨q0,q1,_,_⟩:=d9 h R hs j hj
 constructor
 ·show ((W.setCell _ u).setCell _ v).cell? _=_
  rw[World.cell?_setCell_other _ _ _ _ (by intro e;injection e with _ e _;omega),World.cell?_setCell_other _ _ _ _ (by intro e;injection e with _ e _;omega)];exact q0
 ·show ((W.setCell _ u).setCell _ v).cell? _=_
  rw[World.cell?_setCell_other _ _ _ _ (by intro e;injection e with _ e _;omega),World.cell?_setCell_other _ _ _ _ (by intro e;injection e with _ e _;omega)];exact q1
theorem uX {cf:bN→bN→Int} {g:Nat} (h:SWK bE 2 w0 blk off dk W) (hC:CmpLays Tryz.prog g #[] bE 2 cf blk off d0.size w0) (hs:dk.size=d0.size) (x y:bN) (n:Nat) (os:Array Obj) :
 Calls Tryz.prog g #[.agg #[.int .i64 x.f0,.int .u64 x.f1],.agg #[.int .i64 y.f0,.int .u64 y.f1]] (grow (W.drewN n) os) fun e w'=>e = .returned (.int .i64 (cf x y))∧∃ q os',w'=grow ((grow (W.drewN n) os).drewN q) os' :=
 h.cmp hC hs x y n os
theorem dD (h:SWK bE 2 w0 blk off dk W) (R:RowK bE 2 w0 blk off d0) (hs:dk.size=d0.size) (i:Nat) (hi:i<dk.size) (n:Nat) (os:Array Obj) :
 (grow (W.drewN n) os).cell? ⟨blk,off+i*2,none⟩=some (.int .i64 dk[i]!.f0)∧(grow (W.drewN n) os).cell? ⟨blk,off+i*2+1,none⟩=some (.int .u64 dk[i]!.f1):=
 ⟨(d9 (h.grown n os) R hs i hi).1,(d9 (h.grown n os) R hs i hi).2.1⟩
end
theorem swapRange.calls (g:Nat) (blk off cap a b n:Nat) (d0 d:Array bN) (w0 w:World) (R:RowK bE 2 w0 blk off d0) (hs:d0.size=d.size) (S:SWK bE 2 w0 blk off d w) (ha:a+n≤b) (hb:b+n≤d.size) (hsz:d.size<4611686018427387904) :
 Calls Tryz.prog 159 #[.slice (some ⟨blk,off,none⟩) d.size cap,.int .i64 a,.int .i64 b,.int .i64 n,.func (.func g) #[] #[]] w fun e w'=>e = .returned (.tuple #[])∧SWK bE 2 w0 blk off (DI d a b n) w':=by
 have mixed:Tryz.prog.follows .mixedOrders=true:=by kernel_rfl
 have S0:Aside (SWK bE 2 w0 blk off d w):=S
 clear S
 go_enter Tryz.func159,Tryz.ntmps159
 go_wp2
 go_loopg [10] n (fun kx s wr=>∃ (m:Nat),s = .int .i64 m∧m≤n∧n-m≤kx∧Aside (SWK bE 2 w0 blk off (DI d a b m) wr))
 case atStart=>exact⟨0,rfl,by omega,by omega,S0⟩
 case round=>
  clear S0
  obtain⟨m,rfl,hm,hkx,S1⟩:=hrel
  by_cases hlt:(m:Int)<(n:Int)
  ·have hds:=kS d a b m
   generalize hdk:DI d a b m=dk at S1 hds
   have ea44:((a:Int)+(m:Int)).toNat=a+m:=by omega
   have pa44:(0:Int)≤(a:Int)+(m:Int):=by omega
   have ba44:(a:Int)+(m:Int)<(d.size:Int):=by omega
   have ra44:IntKind.i64.wrap ((a:Int)+(m:Int))=(a:Int)+(m:Int):=by rw[IntKind.wrap_i64];omega
   have ec44:((b:Int)+(m:Int)).toNat=b+m:=by omega
   have pc44:(0:Int)≤(b:Int)+(m:Int):=by omega
   have bc44:(b:Int)+(m:Int)<(d.size:Int):=by omega
   have rc44:IntKind.i64.wrap ((b:Int)+(m:Int))=(b:Int)+(m:Int):=by rw[IntKind.wrap_i64];omega
   have S2:Aside (SWK bE 2 w0 blk off (swp dk (a+m) (b+m)) (Cj wr blk off (a+m) (b+m) dk[b+m]! dk[a+m]!)):=xC S1.o R (a+m) (b+m) (by omega) (by omega)
   obtain⟨p0,p1,_,_⟩:=d9 S1.o.drew R (by omega) (a+m) (by omega)
   obtain⟨q0,q1,_,_⟩:=d9 S1.o.drew R (by omega) (b+m) (by omega)
   obtain⟨_,_,f2,f3⟩:=d9 S1.o R (by omega) (a+m) (by omega)
   obtain⟨_,_,g2,g3⟩:=d9 S1.o R (by omega) (b+m) (by omega)
   have q3:=fun u v=>(jE S1.o R (by omega) (a+m) (b+m) (by omega) (by omega) u v).1
   have q4:=fun u v=>(jE S1.o R (by omega) (a+m) (b+m) (by omega) (by omega) u v).2
   generalize dk[a+m]! = X at *
   generalize dk[b+m]! = Y at *
   clear S1
   go_wp2_with fail
   go_big_region_o
   clear p0 p1 q0 q1 f2 f3 g2 g3 q3 q4
   rw[zW]
   generalize Cj wr blk off (a+m) (b+m) Y X=w2 at S2 ⊢
   have S3:Aside (SWK bE 2 w0 blk off (DI d a b (m+1)) w2):=by rw[DI,hdk];exact S2
   clear S2
   go_wp2
   go_roundg (n-(m+1))
   case measure=>omega
   case rel=>exact⟨m+1,by go_num,by omega,Nat.le_refl _,S3⟩
  ·obtain rfl:m=n:=by omega
   go_wp2
   go_end0
   exact⟨rfl,S1.o⟩
theorem rotate.calls (g:Nat) (blk off cap a m b:Nat) (d0 d:Array bN) (w0 w:World) (R:RowK bE 2 w0 blk off d0) (hs:d0.size=d.size) (S:SWK bE 2 w0 blk off d w) (ha:a<m) (hm:m<b) (hb:b≤d.size) (hsz:d.size<4611686018427387904) :
 Calls Tryz.prog 155 #[.slice (some ⟨blk,off,none⟩) d.size cap,.int .i64 a,.int .i64 m,.int .i64 b,.func (.func g) #[] #[]] w fun e w'=>e = .returned (.tuple #[])∧∃ d',SWK bE 2 w0 blk off d' w'∧d'.size=d.size∧∀ t,d'[t]! = d[fF a m b t]! := by
 have mixed:Tryz.prog.follows .mixedOrders=true:=by kernel_rfl
 have S0:Aside (SWK bE 2 w0 blk off d w):=S
 clear S
 go_enter Tryz.func155,Tryz.ntmps155
 go_wp2
 go_loopg [10,11] b (fun kx s10 s11 wr=>∃ (i j:Nat) (dk:Array bN),s10 = .int .i64 i∧s11 = .int .i64 j∧0<i∧0<j∧i≤m∧m+j≤d.size∧i+j≤kx∧dk.size=d.size∧Aside (SWK bE 2 w0 blk off dk wr)∧Aside (∀ t,dk[fF (m-i) m (m+j) t]! = d[fF a m b t]!))
 case atStart=>exact⟨m-a,b-m,d,by go_num,by go_num,by omega,by omega,by omega,by omega,by omega,rfl,S0,by show ∀ t,_;intro t;rw[show m-(m-a)=a from by omega,show m+(b-m)=b from by omega]⟩
 case round=>
  clear S0
  obtain⟨i,j,dk,rfl,rfl,hi,hj,him,hmj,hkx,hds,S1,HR⟩:=hrel
  have rw1:IntKind.i64.wrap ((m:Int)-(i:Int))=((m-i:Nat):Int):=by rw[IntKind.wrap_i64];omega
  have rw2:(m:Int)-(i:Int)=((m-i:Nat):Int):=by omega
  by_cases hij:i=j
  ·subst hij
   have hc:=swapRange.calls g blk off cap (m-i) m i d0 dk w0 wr R (by omega) S1.o (by omega) (by omega) (by omega)
   rw[hds] at hc
   have HC:=YtcgbgifbajdhpaaGreatDoorW.au.ah.mk hc
   clear hc
   go_wp2_with (first|(go_at_call 159;refine HC.o.mono ?_;rintro e w1 ⟨rfl,hS⟩;have S2:Aside (SWK bE 2 w0 blk off (DI dk (m-i) m i) w1):=hS;clear hS))
   go_end0
   refine⟨rfl,_,S2.o,by rw[kS];exact hds,fun t=>?_⟩
   rw[oQ dk _ _ i (by omega) (by omega),KI i m t him]
   exact HR.o t
  ·by_cases hlt:j<i
   ·have hgz:(i:Int)>(j:Int):=by omega
    have hne:¬ (i:Int)=(j:Int):=by omega
    have hc:=swapRange.calls g blk off cap (m-i) m j d0 dk w0 wr R (by omega) S1.o (by omega) (by omega) (by omega)
    rw[hds] at hc
    have HC:=YtcgbgifbajdhpaaGreatDoorW.au.ah.mk hc
    clear hc
    go_wp2_with (first|(go_at_call 159;refine HC.o.mono ?_;rintro e w1 ⟨rfl,hS⟩;have S2:Aside (SWK bE 2 w0 blk off (DI dk (m-i) m j) w1):=hS;clear hS))
    go_roundg (i+j-1)
    case measure=>omega
    case rel=>
     refine⟨i-j,j,DI dk (m-i) m j,by go_num,rfl,by omega,hj,by omega,hmj,by omega,by rw[kS];exact hds,S2,?_⟩
     show ∀ t,_
     intro t
     rw[oQ dk _ _ j (by omega) (by omega),KH i j m t hlt him]
     exact HR.o t
   ·have hgz:¬ (i:Int)>(j:Int):=by omega
    have hne:¬ (i:Int)=(j:Int):=by omega
    have rw3:(m:Int)+(j:Int)-(i:Int)=((m+j-i:Nat):Int):=by omega
    have hc:=swapRange.calls g blk off cap (m-i) (m+j-i) i d0 dk w0 wr R (by omega) S1.o (by omega) (by omega) (by omega)
    rw[hds] at hc
    have HC:=YtcgbgifbajdhpaaGreatDoorW.au.ah.mk hc
    clear hc
    go_wp2_with (first|(go_at_call 159;refine HC.o.mono ?_;rintro e w1 ⟨rfl,hS⟩;have S2:Aside (SWK bE 2 w0 blk off (DI dk (m-i) (m+j-i) i) w1):=hS;clear hS))
    go_roundg (i+j-1)
    case measure=>omega
    case rel=>
     refine⟨i,j-i,DI dk (m-i) (m+j-i) i,rfl,by go_num,hi,by omega,him,by omega,by omega,by rw[kS];exact hds,S2,?_⟩
     show ∀ t,_
     intro t
     rw[oQ dk _ _ i (by omega) (by omega),Ic i j m t (by omega) him]
     exact HR.o t
theorem Ox {α:Type} [Inhabited α] {d dk:Array α} {a k:Nat} (hs:dk.size=d.size) (hk:k+1<d.size) (ha:a≤k) (h:∀ t,dk[t]! = d[fF a (a+1) (k+1) t]!):∀ t,(swp dk k (k+1))[t]! = d[fF a (a+1) (k+1+1) t]! := fun t=>by
 rw[swp_get dk (by omega) (by omega),h,h,h]
 by_cases e1:t=k+1
 ·rw[if_pos e1,show fF a (a+1) (k+1) k=fF a (a+1) (k+1+1) t from by unfold fF;(repeat' split)<;>omega]
 ·rw[if_neg e1]
  by_cases e2:t=k
  ·rw[if_pos e2,show fF a (a+1) (k+1) (k+1)=fF a (a+1) (k+1+1) t from by unfold fF;(repeat' split)<;>omega]
  ·rw[if_neg e2,show fF a (a+1) (k+1) t=fF a (a+1) (k+1+1) t from by unfold fF;(repeat' split)<;>omega]
theorem KG {α:Type} [Inhabited α] {d dk:Array α} {m k:Nat} (hs:dk.size=d.size) (hk:k+1<d.size) (ha:k+1≤m) (h:∀ t,dk[t]! = d[fF (k+1) m (m+1) t]!):∀ t,(swp dk (k+1) k)[t]! = d[fF k m (m+1) t]! := fun t=>by
 rw[swp_get dk (by omega) (by omega),h,h,h]
 by_cases e1:t=k
 ·rw[if_pos e1,show fF (k+1) m (m+1) (k+1)=fF k m (m+1) t from by unfold fF;(repeat' split)<;>omega]
 ·rw[if_neg e1]
  by_cases e2:t=k+1
  ·rw[if_pos e2,show fF (k+1) m (m+1) k=fF k m (m+1) t from by unfold fF;(repeat' split)<;>omega]
  ·rw[if_neg e2,show fF (k+1) m (m+1) t=fF k m (m+1) t from by unfold fF;(repeat' split)<;>omega]
def sW (g:Nat) (cf:bN→bN→Int) (key:bN→Int) (blk off cap:Nat) (d0:Array bN) (w0:World) (n:Nat):Prop:=
 ∀ (a m b:Nat) (d:Array bN) (w:World),b-a≤n→d.size=d0.size→SWK bE 2 w0 blk off d w→a<m→m<b→b≤d0.size→jA key d a m→jA key d m b →
 Calls Tryz.prog 149 #[.slice (some ⟨blk,off,none⟩) d0.size cap,.int .i64 a,.int .i64 m,.int .i64 b,.func (.func g) #[] #[]] w fun e w'=>e = .returned (.tuple #[])∧∃ d',SWK bE 2 w0 blk off d' w'∧MG key d a b d'∧jA key d' a b
theorem symMerge.left (g:Nat) (cf:bN→bN→Int) (key:bN→Int) (hcf:∀ x y,cf x y<0↔key x<key y) (eg:∀ args w,(callFunc g args).run Tryz.prog w = .ok (.enter g args) w)
 (blk off cap:Nat) (d0:Array bN) (w0:World) (R:RowK bE 2 w0 blk off d0) (hC:CmpLays Tryz.prog g #[] bE 2 cf blk off d0.size w0) (hsz:d0.size<4611686018427387904)
 (a m b:Nat) (d:Array bN) (w:World) (hma:m=a+1) (hs:d.size=d0.size) (S:SWK bE 2 w0 blk off d w) (hm:a+1<b) (hb:b≤d0.size) (hB:jA key d (a+1) b) :
 Calls Tryz.prog 149 #[.slice (some ⟨blk,off,none⟩) d0.size cap,.int .i64 (a),.int .i64 (m),.int .i64 (b),.func (.func g) #[] #[]] w fun e w'=>e = .returned (.tuple #[])∧∃ d',SWK bE 2 w0 blk off d' w'∧MG key d a (b) d'∧jA key d' a (b):=by
 have mixed:Tryz.prog.follows .mixedOrders=true:=by kernel_rfl
 have S0:Aside (SWK bE 2 w0 blk off d w):=S
 have HC:=YtcgbgifbajdhpaaGreatDoorW.au.ah.mk hC
 have HCF:=YtcgbgifbajdhpaaGreatDoorW.au.ah.mk hcf
 have SB:=YtcgbgifbajdhpaaGreatDoorW.au.ah.mk hB
 clear S hC hcf hB
 have h1z:(m:Int)-(a:Int)=1:=by omega
 have m1:m≤a+1:=by omega
 have m2:a+1≤m:=by omega
 clear hma
 go_enter Tryz.func149,Tryz.ntmps149
 go_wp2
 go_loopg [10,11] (b-m) (fun kx s10 s11 wr=>∃ (i j:Nat),s10 = .int .i64 i∧s11 = .int .i64 j∧a+1≤i∧i≤j∧j≤b∧j-i≤kx∧Aside (SWK bE 2 w0 blk off d wr)∧Aside (a+1<i→key d[i-1]! < key d[a]!)∧Aside (j<b→key d[a]! ≤ key d[j]!))
 case atStart=>exact⟨m,b,rfl,rfl,by omega,by omega,Nat.le_refl _,Nat.le_refl _,S0,(fun h=>by omega),(fun h=>by omega)⟩
 case round=>
  clear S0
  obtain⟨i,j,rfl,rfl,hai,hij,hjb,hkx,S1,HL,HR⟩:=hrel
  by_cases hlt:i<j
  ·have hltz:(i:Int)<(j:Int):=by omega
   have c0:=fun n' os'=>(dD S1.o R hs ((i+j) / 2) (by omega) n' os').1
   have c1:=fun n' os'=>(dD S1.o R hs ((i+j) / 2) (by omega) n' os').2
   have e0:=fun n' os'=>(dD S1.o R hs a (by omega) n' os').1
   have e1:=fun n' os'=>(dD S1.o R hs a (by omega) n' os').2
   have hc:=fun n' os'=>uX S1.o HC.o hs d[(i+j) / 2]! d[a]! n' os'
   have pa:(0:Int)≤((i:Int)+(j:Int)) / 2:=by omega
   have ba:((i:Int)+(j:Int)) / 2<(d0.size:Int):=by omega
   have ea:(((i:Int)+(j:Int)) / 2).toNat=(i+j) / 2:=by omega
   have b1:(a:Int)<(d0.size:Int):=by omega
   cases hv:decide (cf d[(i+j) / 2]! d[a]! < 0) with
   | true=>
     have HX:=YtcgbgifbajdhpaaGreatDoorW.au.ah.mk ((HCF.o _ _).1 (of_decide_eq_true hv))
     generalize d[(i+j) / 2]! = x at c0 c1 hc hv
     generalize d[a]! = y at e0 e1 hc hv
     go_wp2_with fail
     go_quiet_grown (first|(go_at_fn g;refine Calls.grown_of (hc _ _)))
     have S2:Aside (SWK bE 2 w0 blk off d (grow (wr.drewN nq) osq)):=S1.o.grown nq osq
     clear c0 c1 e0 e1 hc S1
     generalize grow (wr.drewN nq) osq=w2 at S2 ⊢
     clear nq osq
     go_wp2
     go_roundg (j-((i+j) / 2+1))
     case measure=>omega
     case rel=>exact⟨(i+j) / 2+1,j,by go_num,rfl,by omega,by omega,hjb,Nat.le_refl _,S2,(fun _=>HX.o),HR⟩
   | false=>
     have HX:=YtcgbgifbajdhpaaGreatDoorW.au.ah.mk (fun h=>of_decide_eq_false hv ((HCF.o _ _).2 h))
     generalize d[(i+j) / 2]! = x at c0 c1 hc hv
     generalize d[a]! = y at e0 e1 hc hv
     go_wp2_with fail
     go_quiet_grown (first|(go_at_fn g;refine Calls.grown_of (hc _ _)))
     have S2:Aside (SWK bE 2 w0 blk off d (grow (wr.drewN nq) osq)):=S1.o.grown nq osq
     clear c0 c1 e0 e1 hc S1
     generalize grow (wr.drewN nq) osq=w2 at S2 ⊢
     clear nq osq
     go_wp2
     go_roundg ((i+j) / 2-i)
     case measure=>omega
     case rel=>exact⟨i,(i+j) / 2,rfl,by go_num,hai,by omega,by omega,Nat.le_refl _,S2,HL,(fun _=>Int.not_lt.1 HX.o)⟩
  ·obtain rfl:i=j:=by omega
   have hltz:¬ (i:Int)<(i:Int):=by omega
   go_wp2
   go_loopg [13] (i-1-a) (fun kx s13 wr=>∃ (k:Nat) (dk:Array bN),s13 = .int .i64 k∧a≤k∧k≤i-1∧i-1-k≤kx∧dk.size=d0.size∧Aside (SWK bE 2 w0 blk off dk wr)∧Aside (∀ t,dk[t]! = d[fF a (a+1) (k+1) t]!))
   case atStart=>exact⟨a,d,rfl,Nat.le_refl _,by omega,Nat.le_refl _,hs,S1,(fun t=>by rw[xk a (a+1) (a+1) t (by omega) (by omega) (by omega)])⟩
   case round=>
    clear S1
    obtain⟨k,dk,rfl,hak,hki,hkx2,hds,S2,HK⟩:=hrel
    by_cases hlt2:k<i-1
    ·have hltz2:(k:Int)<(i:Int)-1:=by omega
     have ew:((k:Int)+1).toNat=k+1:=by omega
     have pw:(0:Int)≤(k:Int)+1:=by omega
     have bw:(k:Int)+1<(d0.size:Int):=by omega
     have bw2:(k:Int)<(d0.size:Int):=by omega
     obtain⟨p0,p1,_,_⟩:=d9 S2.o.drew R (by omega) k (by omega)
     obtain⟨q0,q1,_,_⟩:=d9 S2.o.drew R (by omega) (k+1) (by omega)
     obtain⟨_,_,f2,f3⟩:=d9 S2.o R (by omega) k (by omega)
     obtain⟨_,_,g2,g3⟩:=d9 S2.o R (by omega) (k+1) (by omega)
     have q3:=fun u v=>(jE S2.o R (by omega) k (k+1) (by omega) (by omega) u v).1
     have q4:=fun u v=>(jE S2.o R (by omega) k (k+1) (by omega) (by omega) u v).2
     have S3:Aside (SWK bE 2 w0 blk off (swp dk k (k+1)) (Cj wr blk off k (k+1) dk[k+1]! dk[k]!)):=xC S2.o R k (k+1) (by omega) (by omega)
     clear S2
     generalize dk[k]! = X at *
     generalize dk[k+1]! = Y at *
     go_wp2_with fail
     go_big_region_o
     clear p0 p1 q0 q1 f2 f3 g2 g3 q3 q4
     rw[zW]
     generalize Cj wr blk off k (k+1) Y X=w2 at S3 ⊢
     go_wp2
     go_roundg (i-1-(k+1))
     case measure=>omega
     case rel=>exact⟨k+1,swp dk k (k+1),by go_num,by omega,by omega,Nat.le_refl _,by rw[size_swp];exact hds,S3,Ox (by omega) (by omega) hak HK.o⟩
    ·have hltz2:¬ (k:Int)<(i:Int)-1:=by omega
     go_wp2
     have he:=Kk (key:=key) (d:=d) (d1:=dk) (a:=a) (i:=i) (b:=b) (by omega) hai hjb SB.o (by omega) (fun t=>by rw[HK.o,show k+1=i from by omega]) HL.o HR.o
     (try simp only[Exit.inBlock,Exit.then]);refine bodyPost_ret (results_none rfl _ _ _) rfl ?_
     exact⟨rfl,dk,S2.o,he.1,he.2⟩
theorem symMerge.right (g:Nat) (cf:bN→bN→Int) (key:bN→Int) (hcf:∀ x y,cf x y<0↔key x<key y) (eg:∀ args w,(callFunc g args).run Tryz.prog w = .ok (.enter g args) w)
 (blk off cap:Nat) (d0:Array bN) (w0:World) (R:RowK bE 2 w0 blk off d0) (hC:CmpLays Tryz.prog g #[] bE 2 cf blk off d0.size w0) (hsz:d0.size<4611686018427387904)
 (a m b:Nat) (d:Array bN) (w:World) (hmb:b=m+1) (hs:d.size=d0.size) (S:SWK bE 2 w0 blk off d w) (h1:m≠a+1) (ha:a<m) (hb:b≤d0.size) (hA:jA key d a m) :
 Calls Tryz.prog 149 #[.slice (some ⟨blk,off,none⟩) d0.size cap,.int .i64 (a),.int .i64 (m),.int .i64 (b),.func (.func g) #[] #[]] w fun e w'=>e = .returned (.tuple #[])∧∃ d',SWK bE 2 w0 blk off d' w'∧MG key d a b d'∧jA key d' a b:=by
 have mixed:Tryz.prog.follows .mixedOrders=true:=by kernel_rfl
 have S0:Aside (SWK bE 2 w0 blk off d w):=S
 have HC:=YtcgbgifbajdhpaaGreatDoorW.au.ah.mk hC
 have HCF:=YtcgbgifbajdhpaaGreatDoorW.au.ah.mk hcf
 have SA:=YtcgbgifbajdhpaaGreatDoorW.au.ah.mk hA
 clear S hC hcf hA
 have h1z:¬ (m:Int)-(a:Int)=1:=by omega
 have h1b:((m:Int)-(a:Int)==1)=false:=beq_eq_false_iff_ne.2 h1z
 have h2z:(b:Int)-(m:Int)=1:=by omega
 have m1:b≤m+1:=by omega
 have m2:m+1≤b:=by omega
 have HMB:=YtcgbgifbajdhpaaGreatDoorW.au.ah.mk hmb
 clear hmb h1
 go_enter Tryz.func149,Tryz.ntmps149
 go_wp2
 go_loopg [14,15] (m-a) (fun kx s10 s11 wr=>∃ (i j:Nat),s10 = .int .i64 i∧s11 = .int .i64 j∧a≤i∧i≤j∧j≤m∧j-i≤kx∧Aside (SWK bE 2 w0 blk off d wr)∧Aside (a<i→key d[i-1]! ≤ key d[m]!)∧Aside (j<m→key d[m]! < key d[j]!))
 case atStart=>exact⟨a,m,rfl,rfl,Nat.le_refl _,by omega,Nat.le_refl _,Nat.le_refl _,S0,(fun h=>by omega),(fun h=>by omega)⟩
 case round=>
  clear S0
  obtain⟨i,j,rfl,rfl,hai,hij,hjb,hkx,S1,HL,HR⟩:=hrel
  by_cases hlt:i<j
  ·have hltz:(i:Int)<(j:Int):=by omega
   have c0:=fun n' os'=>(dD S1.o R hs ((i+j) / 2) (by omega) n' os').1
   have c1:=fun n' os'=>(dD S1.o R hs ((i+j) / 2) (by omega) n' os').2
   have e0:=fun n' os'=>(dD S1.o R hs m (by omega) n' os').1
   have e1:=fun n' os'=>(dD S1.o R hs m (by omega) n' os').2
   have hc:=fun n' os'=>uX S1.o HC.o hs d[m]! d[(i+j) / 2]! n' os'
   have pa:(0:Int)≤((i:Int)+(j:Int)) / 2:=by omega
   have ba:((i:Int)+(j:Int)) / 2<(d0.size:Int):=by omega
   have ea:(((i:Int)+(j:Int)) / 2).toNat=(i+j) / 2:=by omega
   have b1:(m:Int)<(d0.size:Int):=by omega
   cases hv:decide (cf d[m]! d[(i+j) / 2]! < 0) with
   | false=>
     have HX:=YtcgbgifbajdhpaaGreatDoorW.au.ah.mk (fun h=>of_decide_eq_false hv ((HCF.o _ _).2 h))
     generalize d[(i+j) / 2]! = y at c0 c1 hc hv
     generalize d[m]! = x at e0 e1 hc hv
     go_wp2_with fail
     go_quiet_grown (first|(go_at_fn g;refine Calls.grown_of (hc _ _)))
     have S2:Aside (SWK bE 2 w0 blk off d (grow (wr.drewN nq) osq)):=S1.o.grown nq osq
     clear c0 c1 e0 e1 hc S1
     generalize grow (wr.drewN nq) osq=w2 at S2 ⊢
     clear nq osq
     go_wp2
     go_roundg (j-((i+j) / 2+1))
     case measure=>omega
     case rel=>exact⟨(i+j) / 2+1,j,by go_num,rfl,by omega,by omega,hjb,Nat.le_refl _,S2,(fun _=>Int.not_lt.1 HX.o),HR⟩
   | true=>
     have HX:=YtcgbgifbajdhpaaGreatDoorW.au.ah.mk ((HCF.o _ _).1 (of_decide_eq_true hv))
     generalize d[(i+j) / 2]! = y at c0 c1 hc hv
     generalize d[m]! = x at e0 e1 hc hv
     go_wp2_with fail
     go_quiet_grown (first|(go_at_fn g;refine Calls.grown_of (hc _ _)))
     have S2:Aside (SWK bE 2 w0 blk off d (grow (wr.drewN nq) osq)):=S1.o.grown nq osq
     clear c0 c1 e0 e1 hc S1
     generalize grow (wr.drewN nq) osq=w2 at S2 ⊢
     clear nq osq
     go_wp2
     go_roundg ((i+j) / 2-i)
     case measure=>omega
     case rel=>exact⟨i,(i+j) / 2,rfl,by go_num,hai,by omega,by omega,Nat.le_refl _,S2,HL,(fun _=>HX.o)⟩
  ·obtain rfl:i=j:=by omega
   have hltz:¬ (i:Int)<(i:Int):=by omega
   go_wp2
   go_loopg [17] (m-i) (fun kx s13 wr=>∃ (k:Nat) (dk:Array bN),s13 = .int .i64 k∧i≤k∧k≤m∧k-i≤kx∧dk.size=d0.size∧Aside (SWK bE 2 w0 blk off dk wr)∧Aside (∀ t,dk[t]! = d[fF k m (m+1) t]!))
   case atStart=>exact⟨m,d,rfl,by omega,by omega,Nat.le_refl _,hs,S1,(fun t=>by rw[xk m m (m+1) t (by omega) (by omega) (by omega)])⟩
   case round=>
    clear S1
    obtain⟨k,dk,rfl,hak,hki,hkx2,hds,S2,HK⟩:=hrel
    by_cases hlt2:i<k
    ·obtain⟨kp,rfl⟩:∃ kp,k=kp+1:=⟨k-1,by omega⟩
     have hltz2:((kp+1:Nat):Int)>(i:Int):=by omega
     have hltz3:(i:Int)<(kp:Int)+1:=by omega
     have ew:((kp:Int)+1).toNat=kp+1:=by omega
     have ew2:((kp:Int)+1-1).toNat=kp:=by omega
     have pw:(0:Int)≤(kp:Int)+1:=by omega
     have bw:(kp:Int)+1<(d0.size:Int):=by omega
     have bw2:(kp:Int)<(d0.size:Int):=by omega
     obtain⟨p0,p1,_,_⟩:=d9 S2.o.drew R (by omega) (kp+1) (by omega)
     obtain⟨q0,q1,_,_⟩:=d9 S2.o.drew R (by omega) kp (by omega)
     obtain⟨_,_,f2,f3⟩:=d9 S2.o R (by omega) (kp+1) (by omega)
     obtain⟨_,_,g2,g3⟩:=d9 S2.o R (by omega) kp (by omega)
     have q3:=fun u v=>(jE S2.o R (by omega) (kp+1) kp (by omega) (by omega) u v).1
     have q4:=fun u v=>(jE S2.o R (by omega) (kp+1) kp (by omega) (by omega) u v).2
     have S3:Aside (SWK bE 2 w0 blk off (swp dk (kp+1) kp) (Cj wr blk off (kp+1) kp dk[kp]! dk[kp+1]!)):=xC S2.o R (kp+1) kp (by omega) (by omega)
     clear S2
     generalize dk[kp+1]! = X at *
     generalize dk[kp]! = Y at *
     go_wp2_with fail
     go_big_region_o
     clear p0 p1 q0 q1 f2 f3 g2 g3 q3 q4
     rw[zW]
     generalize Cj wr blk off (kp+1) kp Y X=w2 at S3 ⊢
     go_wp2
     go_roundg (kp-i)
     case measure=>omega
     case rel=>exact⟨kp,swp dk (kp+1) kp,by go_num,by omega,by omega,Nat.le_refl _,by rw[size_swp];exact hds,S3,KG (by omega) (by omega) (by omega) HK.o⟩
    ·have hltz2:¬ ((k:Nat):Int)>(i:Int):=by omega
     have hltz3:¬ (i:Int)<(k:Int):=by omega
     go_wp2
     have hmb:=HMB.o
     subst hmb
     have he:=Hr (key:=key) (d:=d) (d1:=dk) (a:=a) (i:=i) (m:=m) (by omega) hai hjb SA.o (by omega) (fun t=>by rw[HK.o,show k=i from by omega]) HL.o HR.o
     (try simp only[Exit.inBlock,Exit.then]);refine bodyPost_ret (results_none rfl _ _ _) rfl ?_
     exact⟨rfl,dk,S2.o,he.1,he.2⟩
def Qd:Nat→Code→Code
 | 0,c=>c
 | k+1,.seq _ b=>Qd k b
 | _,c=>c
theorem symMerge.t43 (g:Nat) (cf:bN→bN→Int) (key:bN→Int) (blk off cap:Nat) (d0:Array bN) (w0:World) (R:RowK bE 2 w0 blk off d0) (hsz:d0.size<4611686018427387904) (n:Nat) (hIH:sW g cf key blk off cap d0 w0 n)
 (a m b q i e:Nat) (d:Array bN) (w:World) (hn:b-a≤n+1) (hs:d.size=d0.size) (hm:m<b) (hb:b≤d0.size) (q1:2*q≤a+b) (q2:a+b≤2*q+1) (hs0i:a≤i) (him:i≤m) (E1:e+i=q+m) (e3:m≤e) (e4:e≤b) (e5:i≤q) (e6:q≤e) (hA:jA key d a m) (hB:jA key d m b) (hL:a<i→e<b→key d[i-1]! ≤ key d[e]!) (hR:i<m→m<e→key d[e-1]! < key d[i]!) (d1 d2:Array bN) (hz1:d1.size=d0.size) (hp1:∀ t,d1[t]! = d[fF i m e t]!) (k2:MG key d1 a q d2) (s2:jA key d2 a q) (t1:∀ x y,q≤x→x<y→y<e→key d2[x]! ≤ key d2[y]!) (t2:∀ x y,e≤x→x<y→y<b→key d2[x]! ≤ key d2[y]!) (S:SWK bE 2 w0 blk off d2 w)
 {u5 u6 u7 u8 u9 u10 u11 u12 u13 u14 u15 u16 u17 u19 u21 u22 u23 u25 u26 u27 u28 u29 u30 u31 u32 u33 u34 u35 u36 u37 u38 u39 u40 u41 u42 u43 u44 u45 u46 u47 u48 u49 u50 u51 u52 u53 u54 u55 u56 u57 u58 u59 u60 u61 u62 u63 u64 u65 u66 u67 u68 u69 u70 u71 u72 u73 u74 u75 u76 u77 u78 u79 u80 u81 u82 u83 u84 u85 u86 u87 u88 u89 u90 u91 u92 u93 u94 u95 u96 u97 u98 u99 u100 u101 u102 u103 u104 u105 u106 u107 u108 u109 u110 u111 u112 u113 u114 u115 u116 u117 u118 u119 u120 u121 u122 u123 u124 u125 u126 u127 u128 u129 u130 u131 u132 u133 u134 u135 u136 u137 u138 u139 u140 u141 u142 u143 u144 u145 u146 u147 u148 u149 u150 u151 u152 u153 u154 u155 u156 u157 u158 u159 u160 u161 u162 u163 u164 u165 u166 u167 u168 u169 u170 u171 u172 u173 u174 u175 u176 u177 u178 u179 u180 u181 u182 u183 u184 u185 u186 u187 u188 u189 u190 u191 u192 u193 u194 u195 u196 u197 u198 u199 u200 u201 u202 u203 u204 u205 u206 u207 u208 u209 u210 u211 u212 u213 u214 u215 u216 u217 u218 u219:Value} :
 Code.wp Tryz.prog (Qd 11 (Tryz.f149.body.getD .skip)) (bodyPost Tryz.prog Tryz.f149 fun e w'=>e = .returned (.tuple #[])∧∃ d',SWK bE 2 w0 blk off d' w'∧MG key d a b d'∧jA key d' a b) ⟨List.toArray ((.slice (some ⟨blk,off,none⟩) d0.size cap:Value)::(.int .i64 a:Value)::(.int .i64 m:Value)::(.int .i64 b:Value)::(.func (.func g) #[] #[]:Value)::u5::u6::u7::u8::u9::u10::u11::u12::u13::u14::u15::u16::u17::(.int .i64 q:Value)::u19::(.int .i64 i:Value)::u21::u22::u23::(.int .i64 e:Value)::u25::u26::u27::u28::u29::u30::u31::u32::u33::u34::u35::u36::u37::u38::u39::u40::u41::u42::u43::u44::u45::u46::u47::u48::u49::u50::u51::u52::u53::u54::u55::u56::u57::u58::u59::u60::u61::u62::u63::u64::u65::u66::u67::u68::u69::u70::u71::u72::u73::u74::u75::u76::u77::u78::u79::u80::u81::u82::u83::u84::u85::u86::u87::u88::u89::u90::u91::u92::u93::u94::u95::u96::u97::u98::u99::u100::u101::u102::u103::u104::u105::u106::u107::u108::u109::u110::u111::u112::u113::u114::u115::u116::u117::u118::u119::u120::u121::u122::u123::u124::u125::u126::u127::u128::u129::u130::u131::u132::u133::u134::u135::u136::u137::u138::u139::u140::u141::u142::u143::u144::u145::u146::u147::u148::u149::u150::u151::u152::u153::u154::u155::u156::u157::u158::u159::u160::u161::u162::u163::u164::u165::u166::u167::u168::u169::u170::u171::u172::u173::u174::u175::u176::u177::u178::u179::u180::u181::u182::u183::u184::u185::u186::u187::u188::u189::u190::u191::u192::u193::u194::u195::u196::u197::u198::u199::u200::u201::u202::u203::u204::u205::u206::u207::u208::u209::u210::u211::u212::u213::u214::u215::u216::u217::u218::u219::[]),[]⟩ w:=by
 have mixed:Tryz.prog.follows .mixedOrders=true:=by kernel_rfl
 have IH:=YtcgbgifbajdhpaaGreatDoorW.au.ah.mk hIH
 have SA:=YtcgbgifbajdhpaaGreatDoorW.au.ah.mk hA
 have SB:=YtcgbgifbajdhpaaGreatDoorW.au.ah.mk hB
 have HLL:=YtcgbgifbajdhpaaGreatDoorW.au.ah.mk hL
 have HRR:=YtcgbgifbajdhpaaGreatDoorW.au.ah.mk hR
 clear hIH hA hB hL hR
 have T3:Aside (SWK bE 2 w0 blk off d2 w):=S
 have HP1:=YtcgbgifbajdhpaaGreatDoorW.au.ah.mk hp1
 have K2:=YtcgbgifbajdhpaaGreatDoorW.au.ah.mk k2
 have S2:=YtcgbgifbajdhpaaGreatDoorW.au.ah.mk s2
 have HD2:=YtcgbgifbajdhpaaGreatDoorW.au.ah.mk (And.intro t1 t2)
 clear hp1 k2 s2 t1 t2 S
 conv=>arg 2;whnf
 go_upto_region 43 with (fail)
 rename_i hK
 go_cut [213] (fun v wx=>∃ bv:Bool,v = .bool bv∧YtcgbgifbajdhpaaGreatDoorW.au.ah (bv=decide ((q<e)∧(e<b)))∧YtcgbgifbajdhpaaGreatDoorW.au.ah (wx=w))
 case first=>
  by_cases g1:q<e
  ·have g1z:(q:Int)<(e:Int):=by omega
   by_cases g2:e<b
   ·have g2z:(e:Int)<(b:Int):=by omega
    go_wp2_with fail
    go_meet
    exact⟨true,rfl,⟨(decide_eq_true ⟨g1,g2⟩).symm⟩,⟨rfl⟩⟩
   ·have g2z:¬ (e:Int)<(b:Int):=by omega
    go_wp2_with fail
    go_meet
    exact⟨false,rfl,⟨(decide_eq_false (fun h=>g2 h.2)).symm⟩,⟨rfl⟩⟩
  ·have g1z:¬ (q:Int)<(e:Int):=by omega
   go_wp2_with fail
   go_meet
   exact⟨false,rfl,⟨(decide_eq_false (fun h=>g1 h.1)).symm⟩,⟨rfl⟩⟩
 case rest=>
  obtain⟨bv,rfl,hbv,hw1⟩:=hcut
  have T4:Aside (SWK bE 2 w0 blk off d2 wc):=by rw[hw1.o];exact T3
  clear T3 hw1
  cases bv
  rotate_left
  ·have hr:q<e∧e<b:=of_decide_eq_true hbv.o.symm
   have HR0:=YtcgbgifbajdhpaaGreatDoorW.au.ah.mk (IH.o q e b d2 wc (by omega) (K2.o.1.trans hz1) T4.o hr.1 hr.2 (by omega) HD2.o.1 HD2.o.2)
   clear hr
   go_wp2_with (first|(go_at_call 149;refine HR0.o.mono ?_;rintro _ w1 ⟨rfl,d3,hS,hp1⟩;have T5:Aside (SWK bE 2 w0 blk off d3 w1):=hS;have HP3:=YtcgbgifbajdhpaaGreatDoorW.au.ah.mk hp1;clear hS hp1))
   go_end0
   have hf:=mQ (key:=key) (d:=d) (d1:=d1) (d2:=d2) (d3:=d3) (a:=a) (s:=i) (m:=m) (e:=e) (b:=b) (q:=q) (by omega) hs0i him e3 e4 (by omega) SA.o SB.o (by omega) HP1.o HLL.o HRR.o K2.o S2.o HP3.o.1 HP3.o.2
   exact⟨rfl,d3,T5.o,hf.1,hf.2⟩
  ·have hr:¬ (q<e∧e<b):=of_decide_eq_false hbv.o.symm
   have HQ3:=YtcgbgifbajdhpaaGreatDoorW.au.ah.mk (show jA key d2 q b from by
    by_cases hqe:q<e
    ·have:b=e:=by omega
     subst this
     exact HD2.o.1
    ·have:q=e:=by omega
     subst this
     exact HD2.o.2)
   clear hr
   go_wp2
   go_end0
   have hf:=mQ (key:=key) (d:=d) (d1:=d1) (d2:=d2) (d3:=d2) (a:=a) (s:=i) (m:=m) (e:=e) (b:=b) (q:=q) (by omega) hs0i him e3 e4 (by omega) SA.o SB.o (by omega) HP1.o HLL.o HRR.o K2.o S2.o (MG.refl _ _ _) HQ3.o
   exact⟨rfl,d2,T4.o,hf.1,hf.2⟩
theorem symMerge.t41 (g:Nat) (cf:bN→bN→Int) (key:bN→Int) (blk off cap:Nat) (d0:Array bN) (w0:World) (R:RowK bE 2 w0 blk off d0) (hsz:d0.size<4611686018427387904) (n:Nat) (hIH:sW g cf key blk off cap d0 w0 n)
 (a m b q i e:Nat) (d:Array bN) (w:World) (hn:b-a≤n+1) (hs:d.size=d0.size) (hm:m<b) (hb:b≤d0.size) (q1:2*q≤a+b) (q2:a+b≤2*q+1) (hs0i:a≤i) (him:i≤m) (E1:e+i=q+m) (e3:m≤e) (e4:e≤b) (e5:i≤q) (e6:q≤e) (hA:jA key d a m) (hB:jA key d m b) (hL:a<i→e<b→key d[i-1]! ≤ key d[e]!) (hR:i<m→m<e→key d[e-1]! < key d[i]!) (d1:Array bN) (hz1:d1.size=d0.size) (hp1:∀ t,d1[t]! = d[fF i m e t]!) (S:SWK bE 2 w0 blk off d1 w)
 {u5 u6 u7 u8 u9 u10 u11 u12 u13 u14 u15 u16 u17 u19 u21 u22 u23 u25 u26 u27 u28 u29 u30 u31 u32 u33 u34 u35 u36 u37 u38 u39 u40 u41 u42 u43 u44 u45 u46 u47 u48 u49 u50 u51 u52 u53 u54 u55 u56 u57 u58 u59 u60 u61 u62 u63 u64 u65 u66 u67 u68 u69 u70 u71 u72 u73 u74 u75 u76 u77 u78 u79 u80 u81 u82 u83 u84 u85 u86 u87 u88 u89 u90 u91 u92 u93 u94 u95 u96 u97 u98 u99 u100 u101 u102 u103 u104 u105 u106 u107 u108 u109 u110 u111 u112 u113 u114 u115 u116 u117 u118 u119 u120 u121 u122 u123 u124 u125 u126 u127 u128 u129 u130 u131 u132 u133 u134 u135 u136 u137 u138 u139 u140 u141 u142 u143 u144 u145 u146 u147 u148 u149 u150 u151 u152 u153 u154 u155 u156 u157 u158 u159 u160 u161 u162 u163 u164 u165 u166 u167 u168 u169 u170 u171 u172 u173 u174 u175 u176 u177 u178 u179 u180 u181 u182 u183 u184 u185 u186 u187 u188 u189 u190 u191 u192 u193 u194 u195 u196 u197 u198 u199 u200 u201 u202 u203 u204 u205 u206 u207 u208 u209 u210 u211 u212 u213 u214 u215 u216 u217 u218 u219:Value} :
 Code.wp Tryz.prog (Qd 10 (Tryz.f149.body.getD .skip)) (bodyPost Tryz.prog Tryz.f149 fun e w'=>e = .returned (.tuple #[])∧∃ d',SWK bE 2 w0 blk off d' w'∧MG key d a b d'∧jA key d' a b) ⟨List.toArray ((.slice (some ⟨blk,off,none⟩) d0.size cap:Value)::(.int .i64 a:Value)::(.int .i64 m:Value)::(.int .i64 b:Value)::(.func (.func g) #[] #[]:Value)::u5::u6::u7::u8::u9::u10::u11::u12::u13::u14::u15::u16::u17::(.int .i64 q:Value)::u19::(.int .i64 i:Value)::u21::u22::u23::(.int .i64 e:Value)::u25::u26::u27::u28::u29::u30::u31::u32::u33::u34::u35::u36::u37::u38::u39::u40::u41::u42::u43::u44::u45::u46::u47::u48::u49::u50::u51::u52::u53::u54::u55::u56::u57::u58::u59::u60::u61::u62::u63::u64::u65::u66::u67::u68::u69::u70::u71::u72::u73::u74::u75::u76::u77::u78::u79::u80::u81::u82::u83::u84::u85::u86::u87::u88::u89::u90::u91::u92::u93::u94::u95::u96::u97::u98::u99::u100::u101::u102::u103::u104::u105::u106::u107::u108::u109::u110::u111::u112::u113::u114::u115::u116::u117::u118::u119::u120::u121::u122::u123::u124::u125::u126::u127::u128::u129::u130::u131::u132::u133::u134::u135::u136::u137::u138::u139::u140::u141::u142::u143::u144::u145::u146::u147::u148::u149::u150::u151::u152::u153::u154::u155::u156::u157::u158::u159::u160::u161::u162::u163::u164::u165::u166::u167::u168::u169::u170::u171::u172::u173::u174::u175::u176::u177::u178::u179::u180::u181::u182::u183::u184::u185::u186::u187::u188::u189::u190::u191::u192::u193::u194::u195::u196::u197::u198::u199::u200::u201::u202::u203::u204::u205::u206::u207::u208::u209::u210::u211::u212::u213::u214::u215::u216::u217::u218::u219::[]),[]⟩ w:=by
 have mixed:Tryz.prog.follows .mixedOrders=true:=by kernel_rfl
 have IH:=YtcgbgifbajdhpaaGreatDoorW.au.ah.mk hIH
 have SA:=YtcgbgifbajdhpaaGreatDoorW.au.ah.mk hA
 have SB:=YtcgbgifbajdhpaaGreatDoorW.au.ah.mk hB
 have HLL:=YtcgbgifbajdhpaaGreatDoorW.au.ah.mk hL
 have HRR:=YtcgbgifbajdhpaaGreatDoorW.au.ah.mk hR
 clear hIH hA hB hL hR
 have T1:Aside (SWK bE 2 w0 blk off d1 w):=S
 have HP1:=YtcgbgifbajdhpaaGreatDoorW.au.ah.mk hp1
 clear hp1 S
 have HRS:=YtcgbgifbajdhpaaGreatDoorW.au.ah.mk (show (∀ x y,a≤x→x<y→y<i→key d1[x]! ≤ key d1[y]!)∧(∀ x y,i≤x→x<y→y<q→key d1[x]! ≤ key d1[y]!)∧(∀ x y,q≤x→x<y→y<e→key d1[x]! ≤ key d1[y]!)∧(∀ x y,e≤x→x<y→y<b→key d1[x]! ≤ key d1[y]!) from by
  refine⟨fun x y x1 x2 x3=>?_,fun x y x1 x2 x3=>?_,fun x y x1 x2 x3=>?_,fun x y x1 x2 x3=>?_⟩
  ·rw[HP1.o,HP1.o,show fF i m e x=x from by unfold fF;(repeat' split)<;>omega,show fF i m e y=y from by unfold fF;(repeat' split)<;>omega]
   exact SA.o _ _ x1 x2 (by omega)
  ·rw[HP1.o,HP1.o,show fF i m e x=m+(x-i) from by unfold fF;(repeat' split)<;>omega,show fF i m e y=m+(y-i) from by unfold fF;(repeat' split)<;>omega]
   exact SB.o _ _ (by omega) (by omega) (by omega)
  ·rw[HP1.o,HP1.o,show fF i m e x=x-(e-m) from by unfold fF;(repeat' split)<;>omega,show fF i m e y=y-(e-m) from by unfold fF;(repeat' split)<;>omega]
   exact SA.o _ _ (by omega) (by omega) (by omega)
  ·rw[HP1.o,HP1.o,show fF i m e x=x from by unfold fF;(repeat' split)<;>omega,show fF i m e y=y from by unfold fF;(repeat' split)<;>omega]
   exact SB.o _ _ (by omega) (by omega) (by omega))
 conv=>arg 2;whnf
 go_upto_region 41 with (fail)
 rename_i hK
 go_cut [199] (fun v wx=>∃ bv:Bool,v = .bool bv∧YtcgbgifbajdhpaaGreatDoorW.au.ah (bv=decide ((a<i)∧(i<q)))∧YtcgbgifbajdhpaaGreatDoorW.au.ah (wx=w))
 case first=>
  by_cases g1:a<i
  ·have g1z:(a:Int)<(i:Int):=by omega
   by_cases g2:i<q
   ·have g2z:(i:Int)<(q:Int):=by omega
    go_wp2_with fail
    go_meet
    exact⟨true,rfl,⟨(decide_eq_true ⟨g1,g2⟩).symm⟩,⟨rfl⟩⟩
   ·have g2z:¬ (i:Int)<(q:Int):=by omega
    go_wp2_with fail
    go_meet
    exact⟨false,rfl,⟨(decide_eq_false (fun h=>g2 h.2)).symm⟩,⟨rfl⟩⟩
  ·have g1z:¬ (a:Int)<(i:Int):=by omega
   go_wp2_with fail
   go_meet
   exact⟨false,rfl,⟨(decide_eq_false (fun h=>g1 h.1)).symm⟩,⟨rfl⟩⟩
 case rest=>
  obtain⟨bv,rfl,hbv,hw1⟩:=hcut
  have T2:Aside (SWK bE 2 w0 blk off d1 wc):=by rw[hw1.o];exact T1
  clear T1 hw1
  generalize wc=wa2 at *
  go_upto_if 199 with (fail)
  rename_i hK2
  go_cut [] (fun wx=>∃ d2,Aside (SWK bE 2 w0 blk off d2 wx)∧YtcgbgifbajdhpaaGreatDoorW.au.ah (MG key d1 a q d2∧jA key d2 a q))
  case first=>
   cases bv
   rotate_left
   ·have hr:a<i∧i<q:=of_decide_eq_true hbv.o.symm
    have HR0:=YtcgbgifbajdhpaaGreatDoorW.au.ah.mk (IH.o a i q d1 wa2 (by omega) hz1 T2.o hr.1 hr.2 (by omega) HRS.o.1 HRS.o.2.1)
    clear hr
    go_wp2_with (first|(go_at_call 149;refine HR0.o.mono ?_;rintro _ w1 ⟨rfl,d2,hS,hp1⟩;have T3:Aside (SWK bE 2 w0 blk off d2 w1):=hS;have HP2:=YtcgbgifbajdhpaaGreatDoorW.au.ah.mk hp1;clear hS hp1))
    go_meet
    exact⟨d2,T3,HP2⟩
   ·have hr:¬ (a<i∧i<q):=of_decide_eq_false hbv.o.symm
    have HN:=YtcgbgifbajdhpaaGreatDoorW.au.ah.mk hr
    clear hr
    go_wp2
    go_meet
    refine⟨d1,T2,⟨MG.refl _ _ _,?_⟩⟩
    have hr:=HN.o
    by_cases hai2:a<i
    ·have:q=i:=by omega
     subst this
     exact HRS.o.1
    ·have:a=i:=by omega
     subst this
     exact HRS.o.2.1
  case rest=>
   obtain⟨d2,T3,HP2⟩:=hcut
   refine hK2 _ _ ?_
   exact symMerge.t43 g cf key blk off cap d0 w0 R hsz n IH.o a m b q i e d _ hn hs hm hb q1 q2 hs0i him E1 e3 e4 e5 e6 SA.o SB.o HLL.o HRR.o d1 d2 hz1 HP1.o HP2.o.1 HP2.o.2
    (fun x y x1 x2 x3=>by rw[HP2.o.1.2.1 x (.inr x1),HP2.o.1.2.1 y (.inr (by omega))];exact HRS.o.2.2.1 x y x1 x2 x3) (fun x y x1 x2 x3=>by rw[HP2.o.1.2.1 x (.inr (by omega)),HP2.o.1.2.1 y (.inr (by omega))];exact HRS.o.2.2.2 x y x1 x2 x3) T3.o
theorem symMerge.t39 (g:Nat) (cf:bN→bN→Int) (key:bN→Int) (blk off cap:Nat) (d0:Array bN) (w0:World) (R:RowK bE 2 w0 blk off d0) (hsz:d0.size<4611686018427387904) (n:Nat) (hIH:sW g cf key blk off cap d0 w0 n)
 (a m b q i e:Nat) (d:Array bN) (w:World) (hn:b-a≤n+1) (hs:d.size=d0.size) (S:SWK bE 2 w0 blk off d w) (hm:m<b) (hb:b≤d0.size) (q1:2*q≤a+b) (q2:a+b≤2*q+1) (hs0i:a≤i) (him:i≤m) (E1:e+i=q+m) (e3:m≤e) (e4:e≤b) (e5:i≤q) (e6:q≤e) (hA:jA key d a m) (hB:jA key d m b) (hL:a<i→e<b→key d[i-1]! ≤ key d[e]!) (hR:i<m→m<e→key d[e-1]! < key d[i]!)
 {u5 u6 u7 u8 u9 u10 u11 u12 u13 u14 u15 u16 u17 u19 u21 u22 u23 u25 u26 u27 u28 u29 u30 u31 u32 u33 u34 u35 u36 u37 u38 u39 u40 u41 u42 u43 u44 u45 u46 u47 u48 u49 u50 u51 u52 u53 u54 u55 u56 u57 u58 u59 u60 u61 u62 u63 u64 u65 u66 u67 u68 u69 u70 u71 u72 u73 u74 u75 u76 u77 u78 u79 u80 u81 u82 u83 u84 u85 u86 u87 u88 u89 u90 u91 u92 u93 u94 u95 u96 u97 u98 u99 u100 u101 u102 u103 u104 u105 u106 u107 u108 u109 u110 u111 u112 u113 u114 u115 u116 u117 u118 u119 u120 u121 u122 u123 u124 u125 u126 u127 u128 u129 u130 u131 u132 u133 u134 u135 u136 u137 u138 u139 u140 u141 u142 u143 u144 u145 u146 u147 u148 u149 u150 u151 u152 u153 u154 u155 u156 u157 u158 u159 u160 u161 u162 u163 u164 u165 u166 u167 u168 u169 u170 u171 u172 u173 u174 u175 u176 u177 u178 u179 u180 u181 u182 u183 u184 u185 u186 u187 u188 u189 u190 u191 u192 u193 u194 u195 u196 u197 u198 u199 u200 u201 u202 u203 u204 u205 u206 u207 u208 u209 u210 u211 u212 u213 u214 u215 u216 u217 u218 u219:Value} :
 Code.wp Tryz.prog (Qd 9 (Tryz.f149.body.getD .skip)) (bodyPost Tryz.prog Tryz.f149 fun e w'=>e = .returned (.tuple #[])∧∃ d',SWK bE 2 w0 blk off d' w'∧MG key d a b d'∧jA key d' a b) ⟨List.toArray ((.slice (some ⟨blk,off,none⟩) d0.size cap:Value)::(.int .i64 a:Value)::(.int .i64 m:Value)::(.int .i64 b:Value)::(.func (.func g) #[] #[]:Value)::u5::u6::u7::u8::u9::u10::u11::u12::u13::u14::u15::u16::u17::(.int .i64 q:Value)::u19::(.int .i64 i:Value)::u21::u22::u23::(.int .i64 e:Value)::u25::u26::u27::u28::u29::u30::u31::u32::u33::u34::u35::u36::u37::u38::u39::u40::u41::u42::u43::u44::u45::u46::u47::u48::u49::u50::u51::u52::u53::u54::u55::u56::u57::u58::u59::u60::u61::u62::u63::u64::u65::u66::u67::u68::u69::u70::u71::u72::u73::u74::u75::u76::u77::u78::u79::u80::u81::u82::u83::u84::u85::u86::u87::u88::u89::u90::u91::u92::u93::u94::u95::u96::u97::u98::u99::u100::u101::u102::u103::u104::u105::u106::u107::u108::u109::u110::u111::u112::u113::u114::u115::u116::u117::u118::u119::u120::u121::u122::u123::u124::u125::u126::u127::u128::u129::u130::u131::u132::u133::u134::u135::u136::u137::u138::u139::u140::u141::u142::u143::u144::u145::u146::u147::u148::u149::u150::u151::u152::u153::u154::u155::u156::u157::u158::u159::u160::u161::u162::u163::u164::u165::u166::u167::u168::u169::u170::u171::u172::u173::u174::u175::u176::u177::u178::u179::u180::u181::u182::u183::u184::u185::u186::u187::u188::u189::u190::u191::u192::u193::u194::u195::u196::u197::u198::u199::u200::u201::u202::u203::u204::u205::u206::u207::u208::u209::u210::u211::u212::u213::u214::u215::u216::u217::u218::u219::[]),[]⟩ w:=by
 have mixed:Tryz.prog.follows .mixedOrders=true:=by kernel_rfl
 have IH:=YtcgbgifbajdhpaaGreatDoorW.au.ah.mk hIH
 have SA:=YtcgbgifbajdhpaaGreatDoorW.au.ah.mk hA
 have SB:=YtcgbgifbajdhpaaGreatDoorW.au.ah.mk hB
 have HLL:=YtcgbgifbajdhpaaGreatDoorW.au.ah.mk hL
 have HRR:=YtcgbgifbajdhpaaGreatDoorW.au.ah.mk hR
 clear hIH hA hB hL hR
 have T0:Aside (SWK bE 2 w0 blk off d w):=S
 clear S
 conv=>arg 2;whnf
 go_upto_region 39 with (fail)
 rename_i hK
 go_cut [185] (fun v wx=>∃ bv:Bool,v = .bool bv∧YtcgbgifbajdhpaaGreatDoorW.au.ah (bv=decide ((i<m)∧(m<e)))∧YtcgbgifbajdhpaaGreatDoorW.au.ah (wx=w))
 case first=>
  by_cases g1:i<m
  ·have g1z:(i:Int)<(m:Int):=by omega
   by_cases g2:m<e
   ·have g2z:(m:Int)<(e:Int):=by omega
    go_wp2_with fail
    go_meet
    exact⟨true,rfl,⟨(decide_eq_true ⟨g1,g2⟩).symm⟩,⟨rfl⟩⟩
   ·have g2z:¬ (m:Int)<(e:Int):=by omega
    go_wp2_with fail
    go_meet
    exact⟨false,rfl,⟨(decide_eq_false (fun h=>g2 h.2)).symm⟩,⟨rfl⟩⟩
  ·have g1z:¬ (i:Int)<(m:Int):=by omega
   go_wp2_with fail
   go_meet
   exact⟨false,rfl,⟨(decide_eq_false (fun h=>g1 h.1)).symm⟩,⟨rfl⟩⟩
 case rest=>
  obtain⟨bv,rfl,hbv,hw1⟩:=hcut
  have T1:Aside (SWK bE 2 w0 blk off d wc):=by rw[hw1.o];exact T0
  clear T0 hw1
  generalize wc=wa at *
  go_upto_if 185 with (fail)
  rename_i hK2
  go_cut [] (fun wx=>∃ d1,Aside (SWK bE 2 w0 blk off d1 wx)∧d1.size=d0.size∧YtcgbgifbajdhpaaGreatDoorW.au.ah (∀ t,d1[t]! = d[fF i m e t]!))
  case first=>
   cases bv
   rotate_left
   ·have hr:i<m∧m<e:=of_decide_eq_true hbv.o.symm
    have hr0:=rotate.calls g blk off cap i m e d0 d w0 wa R hs.symm T1.o hr.1 hr.2 (by omega) (by omega)
    rw[hs] at hr0
    have HR0:=YtcgbgifbajdhpaaGreatDoorW.au.ah.mk hr0
    clear hr0 hr
    go_wp2_with (first|(go_at_call 155;refine HR0.o.mono ?_;rintro _ w1 ⟨rfl,d1,hS,hz1,hp1⟩;have T2:Aside (SWK bE 2 w0 blk off d1 w1):=hS;have HP1:=YtcgbgifbajdhpaaGreatDoorW.au.ah.mk hp1;clear hS hp1))
    go_meet
    exact⟨d1,T2,hz1,HP1⟩
   ·have hr:¬ (i<m∧m<e):=of_decide_eq_false hbv.o.symm
    have HN:=YtcgbgifbajdhpaaGreatDoorW.au.ah.mk hr
    clear hr
    go_wp2
    go_meet
    exact⟨d,T1,hs,⟨fun t=>by rw[xk i m e t him e3 (by have:=HN.o;omega)]⟩⟩
  case rest=>
   obtain⟨d1,T2,hz1,HP1⟩:=hcut
   refine hK2 _ _ ?_
   exact symMerge.t41 g cf key blk off cap d0 w0 R hsz n IH.o a m b q i e d _ hn hs hm hb q1 q2 hs0i him E1 e3 e4 e5 e6 SA.o SB.o HLL.o HRR.o d1 hz1 HP1.o T2.o
theorem symMerge.hi (g:Nat) (cf:bN→bN→Int) (key:bN→Int) (hcf:∀ x y,cf x y<0↔key x<key y) (eg:∀ args w,(callFunc g args).run Tryz.prog w = .ok (.enter g args) w)
 (blk off cap:Nat) (d0:Array bN) (w0:World) (R:RowK bE 2 w0 blk off d0) (hC:CmpLays Tryz.prog g #[] bE 2 cf blk off d0.size w0) (hsz:d0.size<4611686018427387904) (n:Nat) (hIH:sW g cf key blk off cap d0 w0 n)
 (a m b:Nat) (d:Array bN) (w:World) (hn:b-a≤n+1) (hs:d.size=d0.size) (S:SWK bE 2 w0 blk off d w) (h1:m≠a+1) (h2:b≠m+1) (ha:a<m) (hm:m<b) (hb:b≤d0.size) (hq:(a+b) / 2<m) (hA:jA key d a m) (hB:jA key d m b) :
 Calls Tryz.prog 149 #[.slice (some ⟨blk,off,none⟩) d0.size cap,.int .i64 a,.int .i64 m,.int .i64 b,.func (.func g) #[] #[]] w fun e w'=>e = .returned (.tuple #[])∧∃ d',SWK bE 2 w0 blk off d' w'∧MG key d a b d'∧jA key d' a b:=by
 have mixed:Tryz.prog.follows .mixedOrders=true:=by kernel_rfl
 have S0:Aside (SWK bE 2 w0 blk off d w):=S
 have HC:=YtcgbgifbajdhpaaGreatDoorW.au.ah.mk hC
 have HCF:=YtcgbgifbajdhpaaGreatDoorW.au.ah.mk hcf
 have SA:=YtcgbgifbajdhpaaGreatDoorW.au.ah.mk hA
 have SB:=YtcgbgifbajdhpaaGreatDoorW.au.ah.mk hB
 have IH:=YtcgbgifbajdhpaaGreatDoorW.au.ah.mk hIH
 clear S hC hcf hA hB hIH
 have h1z:¬ (m:Int)-(a:Int)=1:=by omega
 have h1b:((m:Int)-(a:Int)==1)=false:=beq_eq_false_iff_ne.2 h1z
 have h2z:¬ (b:Int)-(m:Int)=1:=by omega
 have h2b:((b:Int)-(m:Int)==1)=false:=beq_eq_false_iff_ne.2 h2z
 obtain⟨q,hqd⟩:∃ q,q=(a+b) / 2:=⟨_,rfl⟩
 have Q:((a:Int)+(b:Int)) / 2=(q:Int):=by omega
 have q1:2*q≤a+b:=by omega
 have q2:a+b≤2*q+1:=by omega
 rw[← hqd] at hq
 clear hqd h1 h2
 obtain⟨s0,hs0⟩:∃ s0,s0=q+m-b:=⟨_,rfl⟩
 have Z0:(q:Int)+(m:Int)-(b:Int)=(s0:Int):=by omega
 have Z1:s0+b=q+m:=by omega
 have Z2:(m:Int)>(q:Int):=by omega
 clear hs0
 go_enter Tryz.func149,Tryz.ntmps149
 go_wp2
 go_loopg [20,21] (q-s0) (fun kx s20 s21 wr=>∃ (i j:Nat),s20 = .int .i64 i∧s21 = .int .i64 j∧s0≤i∧i≤j∧j≤q∧j-i≤kx∧Aside (SWK bE 2 w0 blk off d wr)∧Aside (s0<i→key d[i-1]! ≤ key d[q+m-i]!)∧Aside (j<q→key d[q+m-1-j]! < key d[j]!))
 case atStart=>exact⟨s0,q,rfl,rfl,Nat.le_refl _,by omega,Nat.le_refl _,Nat.le_refl _,S0,(fun h=>by omega),(fun h=>by omega)⟩
 case round=>
  clear S0
  obtain⟨i,j,rfl,rfl,hai,hij,hjb,hkx,S1,HL,HR⟩:=hrel
  by_cases hlt:i<j
  ·have hltz:(i:Int)<(j:Int):=by omega
   obtain⟨c,hcd⟩:∃ c,c=(i+j) / 2:=⟨_,rfl⟩
   have C:((i:Int)+(j:Int)) / 2=(c:Int):=by omega
   have c1':i≤c:=by omega
   have c2':c<j:=by omega
   clear hcd
   obtain⟨pc,hpd⟩:∃ pc,pc=q+m-1-c:=⟨_,rfl⟩
   have PC:(q:Int)+(m:Int)-1-(c:Int)=(pc:Int):=by omega
   have pc1:pc<d0.size:=by omega
   have R1:IntKind.i64.wrap ((q:Int)+(m:Int)-1-(c:Int))=(pc:Int):=by rw[PC,IntKind.wrap_i64];omega
   have R2:IntKind.i64.wrap (pc:Int)=(pc:Int):=by rw[IntKind.wrap_i64];omega
   have pc2:(pc:Int)<(d0.size:Int):=by omega
   have cc2:(c:Int)<(d0.size:Int):=by omega
   have c0:=fun n' os'=>(dD S1.o R hs pc (by omega) n' os').1
   have c1:=fun n' os'=>(dD S1.o R hs pc (by omega) n' os').2
   have e0:=fun n' os'=>(dD S1.o R hs c (by omega) n' os').1
   have e1:=fun n' os'=>(dD S1.o R hs c (by omega) n' os').2
   have hc:=fun n' os'=>uX S1.o HC.o hs d[pc]! d[c]! n' os'
   have HPD:=YtcgbgifbajdhpaaGreatDoorW.au.ah.mk hpd
   clear hpd
   cases hv:decide (cf d[pc]! d[c]! < 0) with
   | false=>
     have HX:=YtcgbgifbajdhpaaGreatDoorW.au.ah.mk (fun h=>of_decide_eq_false hv ((HCF.o _ _).2 h))
     generalize d[pc]! = x at c0 c1 hc hv
     generalize d[c]! = y at e0 e1 hc hv
     go_wp2_with fail
     go_quiet_grown (first|(go_at_fn g;refine Calls.grown_of (hc _ _)))
     have S2:Aside (SWK bE 2 w0 blk off d (grow (wr.drewN nq) osq)):=S1.o.grown nq osq
     clear c0 c1 e0 e1 hc S1
     generalize grow (wr.drewN nq) osq=w2 at S2 ⊢
     clear nq osq
     go_wp2
     go_roundg (j-(c+1))
     case measure=>omega
     case rel=>exact⟨c+1,j,by go_num,rfl,by omega,by omega,hjb,Nat.le_refl _,S2,(fun _=>by rw[show c+1-1=c from rfl,show q+m-(c+1)=pc from by rw[HPD.o];omega];exact Int.not_lt.1 HX.o),HR⟩
   | true=>
     have HX:=YtcgbgifbajdhpaaGreatDoorW.au.ah.mk ((HCF.o _ _).1 (of_decide_eq_true hv))
     generalize d[pc]! = x at c0 c1 hc hv
     generalize d[c]! = y at e0 e1 hc hv
     go_wp2_with fail
     go_quiet_grown (first|(go_at_fn g;refine Calls.grown_of (hc _ _)))
     have S2:Aside (SWK bE 2 w0 blk off d (grow (wr.drewN nq) osq)):=S1.o.grown nq osq
     clear c0 c1 e0 e1 hc S1
     generalize grow (wr.drewN nq) osq=w2 at S2 ⊢
     clear nq osq
     go_wp2
     go_roundg (c-i)
     case measure=>omega
     case rel=>exact⟨i,c,rfl,rfl,hai,by omega,by omega,Nat.le_refl _,S2,HL,(fun _=>by rw[← HPD.o];exact HX.o)⟩
  ·obtain rfl:i=j:=by omega
   have hltz:¬ (i:Int)<(i:Int):=by omega
   have hs0i:a≤i:=by omega
   have him:i≤m:=by omega
   obtain⟨e,hed⟩:∃ e,e=q+m-i:=⟨_,rfl⟩
   have E:(q:Int)+(m:Int)-(i:Int)=(e:Int):=by omega
   have E1:e+i=q+m:=by omega
   have HL':a<i→e<b→key d[i-1]! ≤ key d[e]! := fun h1 h2=>by rw[hed];exact HL.o (by omega)
   have HR':i<m→m<e→key d[e-1]! < key d[i]! := fun h1 h2=>by rw[hed,show q+m-i-1=q+m-1-i from by omega];exact HR.o (by omega)
   have HLL:=YtcgbgifbajdhpaaGreatDoorW.au.ah.mk HL'
   have HRR:=YtcgbgifbajdhpaaGreatDoorW.au.ah.mk HR'
   have e3:m≤e:=by omega
   have e4:e≤b:=by omega
   have e5:i≤q:=by omega
   have e6:q≤e:=by omega
   clear HL HR hed HL' HR'
   go_upto_region 38 with (fail)
   rename_i hK
   have HE:=YtcgbgifbajdhpaaGreatDoorW.au.ah.mk E
   go_cut [24] (fun v wx=>v = .int .i64 (e:Int)∧YtcgbgifbajdhpaaGreatDoorW.au.ah (wx=wr))
   case first=>
    go_wp2_with fail
    go_meet
    exact⟨rfl,⟨rfl⟩⟩
   case rest=>
    obtain⟨rfl,hw1⟩:=hcut
    have T0:SWK bE 2 w0 blk off d wc:=by rw[hw1.o];exact S1
    refine hK _ _ ?_
    exact symMerge.t39 g cf key blk off cap d0 w0 R hsz n IH.o a m b q i e d wc hn hs T0 hm hb q1 q2 hs0i him E1 e3 e4 e5 e6 SA.o SB.o HLL.o HRR.o
theorem symMerge.lo (g:Nat) (cf:bN→bN→Int) (key:bN→Int) (hcf:∀ x y,cf x y<0↔key x<key y) (eg:∀ args w,(callFunc g args).run Tryz.prog w = .ok (.enter g args) w)
 (blk off cap:Nat) (d0:Array bN) (w0:World) (R:RowK bE 2 w0 blk off d0) (hC:CmpLays Tryz.prog g #[] bE 2 cf blk off d0.size w0) (hsz:d0.size<4611686018427387904) (n:Nat) (hIH:sW g cf key blk off cap d0 w0 n)
 (a m b:Nat) (d:Array bN) (w:World) (hn:b-a≤n+1) (hs:d.size=d0.size) (S:SWK bE 2 w0 blk off d w) (h1:m≠a+1) (h2:b≠m+1) (ha:a<m) (hm:m<b) (hb:b≤d0.size) (hq:m≤(a+b) / 2) (hA:jA key d a m) (hB:jA key d m b) :
 Calls Tryz.prog 149 #[.slice (some ⟨blk,off,none⟩) d0.size cap,.int .i64 a,.int .i64 m,.int .i64 b,.func (.func g) #[] #[]] w fun e w'=>e = .returned (.tuple #[])∧∃ d',SWK bE 2 w0 blk off d' w'∧MG key d a b d'∧jA key d' a b:=by
 have mixed:Tryz.prog.follows .mixedOrders=true:=by kernel_rfl
 have S0:Aside (SWK bE 2 w0 blk off d w):=S
 have HC:=YtcgbgifbajdhpaaGreatDoorW.au.ah.mk hC
 have HCF:=YtcgbgifbajdhpaaGreatDoorW.au.ah.mk hcf
 have SA:=YtcgbgifbajdhpaaGreatDoorW.au.ah.mk hA
 have SB:=YtcgbgifbajdhpaaGreatDoorW.au.ah.mk hB
 have IH:=YtcgbgifbajdhpaaGreatDoorW.au.ah.mk hIH
 clear S hC hcf hA hB hIH
 have h1z:¬ (m:Int)-(a:Int)=1:=by omega
 have h1b:((m:Int)-(a:Int)==1)=false:=beq_eq_false_iff_ne.2 h1z
 have h2z:¬ (b:Int)-(m:Int)=1:=by omega
 have h2b:((b:Int)-(m:Int)==1)=false:=beq_eq_false_iff_ne.2 h2z
 obtain⟨q,hqd⟩:∃ q,q=(a+b) / 2:=⟨_,rfl⟩
 have Q:((a:Int)+(b:Int)) / 2=(q:Int):=by omega
 have q1:2*q≤a+b:=by omega
 have q2:a+b≤2*q+1:=by omega
 rw[← hqd] at hq
 clear hqd h1 h2
 have Z2:¬ (m:Int)>(q:Int):=by omega
 go_enter Tryz.func149,Tryz.ntmps149
 go_wp2
 go_loopg [20,21] (m-a) (fun kx s20 s21 wr=>∃ (i j:Nat),s20 = .int .i64 i∧s21 = .int .i64 j∧a≤i∧i≤j∧j≤m∧j-i≤kx∧Aside (SWK bE 2 w0 blk off d wr)∧Aside (a<i→key d[i-1]! ≤ key d[q+m-i]!)∧Aside (j<m→key d[q+m-1-j]! < key d[j]!))
 case atStart=>exact⟨a,m,rfl,rfl,Nat.le_refl _,by omega,Nat.le_refl _,Nat.le_refl _,S0,(fun h=>by omega),(fun h=>by omega)⟩
 case round=>
  clear S0
  obtain⟨i,j,rfl,rfl,hai,hij,hjb,hkx,S1,HL,HR⟩:=hrel
  by_cases hlt:i<j
  ·have hltz:(i:Int)<(j:Int):=by omega
   obtain⟨c,hcd⟩:∃ c,c=(i+j) / 2:=⟨_,rfl⟩
   have C:((i:Int)+(j:Int)) / 2=(c:Int):=by omega
   have c1':i≤c:=by omega
   have c2':c<j:=by omega
   clear hcd
   obtain⟨pc,hpd⟩:∃ pc,pc=q+m-1-c:=⟨_,rfl⟩
   have PC:(q:Int)+(m:Int)-1-(c:Int)=(pc:Int):=by omega
   have pc1:pc<d0.size:=by omega
   have R1:IntKind.i64.wrap ((q:Int)+(m:Int)-1-(c:Int))=(pc:Int):=by rw[PC,IntKind.wrap_i64];omega
   have R2:IntKind.i64.wrap (pc:Int)=(pc:Int):=by rw[IntKind.wrap_i64];omega
   have pc2:(pc:Int)<(d0.size:Int):=by omega
   have cc2:(c:Int)<(d0.size:Int):=by omega
   have c0:=fun n' os'=>(dD S1.o R hs pc (by omega) n' os').1
   have c1:=fun n' os'=>(dD S1.o R hs pc (by omega) n' os').2
   have e0:=fun n' os'=>(dD S1.o R hs c (by omega) n' os').1
   have e1:=fun n' os'=>(dD S1.o R hs c (by omega) n' os').2
   have hc:=fun n' os'=>uX S1.o HC.o hs d[pc]! d[c]! n' os'
   have HPD:=YtcgbgifbajdhpaaGreatDoorW.au.ah.mk hpd
   clear hpd
   cases hv:decide (cf d[pc]! d[c]! < 0) with
   | false=>
     have HX:=YtcgbgifbajdhpaaGreatDoorW.au.ah.mk (fun h=>of_decide_eq_false hv ((HCF.o _ _).2 h))
     generalize d[pc]! = x at c0 c1 hc hv
     generalize d[c]! = y at e0 e1 hc hv
     go_wp2_with fail
     go_quiet_grown (first|(go_at_fn g;refine Calls.grown_of (hc _ _)))
     have S2:Aside (SWK bE 2 w0 blk off d (grow (wr.drewN nq) osq)):=S1.o.grown nq osq
     clear c0 c1 e0 e1 hc S1
     generalize grow (wr.drewN nq) osq=w2 at S2 ⊢
     clear nq osq
     go_wp2
     go_roundg (j-(c+1))
     case measure=>omega
     case rel=>exact⟨c+1,j,by go_num,rfl,by omega,by omega,hjb,Nat.le_refl _,S2,(fun _=>by rw[show c+1-1=c from rfl,show q+m-(c+1)=pc from by rw[HPD.o];omega];exact Int.not_lt.1 HX.o),HR⟩
   | true=>
     have HX:=YtcgbgifbajdhpaaGreatDoorW.au.ah.mk ((HCF.o _ _).1 (of_decide_eq_true hv))
     generalize d[pc]! = x at c0 c1 hc hv
     generalize d[c]! = y at e0 e1 hc hv
     go_wp2_with fail
     go_quiet_grown (first|(go_at_fn g;refine Calls.grown_of (hc _ _)))
     have S2:Aside (SWK bE 2 w0 blk off d (grow (wr.drewN nq) osq)):=S1.o.grown nq osq
     clear c0 c1 e0 e1 hc S1
     generalize grow (wr.drewN nq) osq=w2 at S2 ⊢
     clear nq osq
     go_wp2
     go_roundg (c-i)
     case measure=>omega
     case rel=>exact⟨i,c,rfl,rfl,hai,by omega,by omega,Nat.le_refl _,S2,HL,(fun _=>by rw[← HPD.o];exact HX.o)⟩
  ·obtain rfl:i=j:=by omega
   have hltz:¬ (i:Int)<(i:Int):=by omega
   have hs0i:a≤i:=by omega
   have him:i≤m:=by omega
   obtain⟨e,hed⟩:∃ e,e=q+m-i:=⟨_,rfl⟩
   have E:(q:Int)+(m:Int)-(i:Int)=(e:Int):=by omega
   have E1:e+i=q+m:=by omega
   have HL':a<i→e<b→key d[i-1]! ≤ key d[e]! := fun h1 h2=>by rw[hed];exact HL.o (by omega)
   have HR':i<m→m<e→key d[e-1]! < key d[i]! := fun h1 h2=>by rw[hed,show q+m-i-1=q+m-1-i from by omega];exact HR.o (by omega)
   have HLL:=YtcgbgifbajdhpaaGreatDoorW.au.ah.mk HL'
   have HRR:=YtcgbgifbajdhpaaGreatDoorW.au.ah.mk HR'
   have e3:m≤e:=by omega
   have e4:e≤b:=by omega
   have e5:i≤q:=by omega
   have e6:q≤e:=by omega
   clear HL HR hed HL' HR'
   go_upto_region 38 with (fail)
   rename_i hK
   have HE:=YtcgbgifbajdhpaaGreatDoorW.au.ah.mk E
   go_cut [24] (fun v wx=>v = .int .i64 (e:Int)∧YtcgbgifbajdhpaaGreatDoorW.au.ah (wx=wr))
   case first=>
    go_wp2_with fail
    go_meet
    exact⟨rfl,⟨rfl⟩⟩
   case rest=>
    obtain⟨rfl,hw1⟩:=hcut
    have T0:SWK bE 2 w0 blk off d wc:=by rw[hw1.o];exact S1
    refine hK _ _ ?_
    exact symMerge.t39 g cf key blk off cap d0 w0 R hsz n IH.o a m b q i e d wc hn hs T0 hm hb q1 q2 hs0i him E1 e3 e4 e5 e6 SA.o SB.o HLL.o HRR.o
theorem symMerge.step (g:Nat) (cf:bN→bN→Int) (key:bN→Int) (hcf:∀ x y,cf x y<0↔key x<key y) (eg:∀ args w,(callFunc g args).run Tryz.prog w = .ok (.enter g args) w)
 (blk off cap:Nat) (d0:Array bN) (w0:World) (R:RowK bE 2 w0 blk off d0) (hC:CmpLays Tryz.prog g #[] bE 2 cf blk off d0.size w0) (hsz:d0.size<4611686018427387904) (n:Nat) (hIH:sW g cf key blk off cap d0 w0 n):sW g cf key blk off cap d0 w0 (n+1):=by
 intro a m b d w hn hs S ha hm hb hA hB
 by_cases h1:m=a+1
 ·exact symMerge.left g cf key hcf eg blk off cap d0 w0 R hC hsz a m b d w h1 hs S (by omega) hb (by rw[← h1];exact hB)
 ·by_cases h2:b=m+1
  ·exact symMerge.right g cf key hcf eg blk off cap d0 w0 R hC hsz a m b d w h2 hs S h1 ha hb hA
  ·by_cases hq:(a+b) / 2<m
   ·exact symMerge.hi g cf key hcf eg blk off cap d0 w0 R hC hsz n hIH a m b d w hn hs S h1 h2 ha hm hb hq hA hB
   ·exact symMerge.lo g cf key hcf eg blk off cap d0 w0 R hC hsz n hIH a m b d w hn hs S h1 h2 ha hm hb (by omega) hA hB
theorem symMerge.calls (g:Nat) (cf:bN→bN→Int) (key:bN→Int) (hcf:∀ x y,cf x y<0↔key x<key y) (eg:∀ args w,(callFunc g args).run Tryz.prog w = .ok (.enter g args) w)
 (blk off cap:Nat) (d0:Array bN) (w0:World) (R:RowK bE 2 w0 blk off d0) (hC:CmpLays Tryz.prog g #[] bE 2 cf blk off d0.size w0) (hsz:d0.size<4611686018427387904):∀ n,sW g cf key blk off cap d0 w0 n
 | 0=>fun a m b d w hn hs S ha hm hb hA hB=>by omega
 | n+1=>symMerge.step g cf key hcf eg blk off cap d0 w0 R hC hsz n (symMerge.calls g cf key hcf eg blk off cap d0 w0 R hC hsz n)
end Go.Proofs.YtcgbgifbajdhpaaGreatDoor.PA
namespace Go.Proofs
open Go.Shelf Go.RowKit Go.Lib Go.Sort
def Tryz.Cy:Go.Shelf.Ren:=⟨fun | 20=>148 | n=>n,fun | 24=>70 | 22=>49 | 3=>3 | 25=>160 | 4=>4 | 0=>0 | n=>n,fun | n=>n⟩
theorem Tryz.Mg:Go.Proofs.SlLaysF0.n20 Tryz.prog Tryz.Cy:={
 mixed:=by kernel_rfl
 f20:=⟨Tryz.f148.name,by decide,Tryz.func148.trans (congrArg some (by kernel_rfl))⟩
 t0:=Tryz.underlying0
 a0:=Tryz.isAgg0
 z0:=Tryz.sizeOf0
 v0:=Tryz.zeroValue0
 t3:=Tryz.underlying3
 a3:=Tryz.isAgg3
 z3:=Tryz.sizeOf3
 v3:=Tryz.zeroValue3
 t4:=Tryz.underlying4
 a4:=Tryz.isAgg4
 z4:=Tryz.sizeOf4
 v4:=Tryz.zeroValue4
 t22:=Tryz.underlying49
 a22:=Tryz.isAgg49
 z22:=Tryz.sizeOf49
 v22:=Tryz.zeroValue49
 t25:=Tryz.underlying160
 a25:=Tryz.isAgg160
 z25:=Tryz.sizeOf160
 v25:=Tryz.zeroValue160 }
end Go.Proofs
namespace Go.Proofs.YtcgbgifbajdhpaaGreatDoor.PA
open Go.Shelf Go.RowKit Go.Lib Go.Sort
theorem JZ:∀ w,(isAgg 70).run Tryz.prog w = .ok true w:=fun w=>by kernel_rfl
theorem Gc:∀ w,(Go.sizeOf 70).run Tryz.prog w = .ok 2 w:=fun w=>by kernel_rfl
theorem uP {c s a:Nat} (h1:c∣s) (h2:c∣a) (h:s<a):s+c≤a:=by
 have:=Nat.le_of_dvd (by omega) (Nat.dvd_sub h2 h1)
 omega
section
variable {α:Type} [Inhabited α] {key:α→Int}
def Gn (key:α→Int) (d:Array α) (c n lo:Nat):Prop:=∀ s,c∣s→lo≤s→jA key d s (min (s+c) n)
def Gm (key:α→Int) (d:Array α) (c hi:Nat):Prop:=∀ s,c∣s→s<hi→jA key d s (s+c)
theorem jA.keep {d d':Array α} {a b x y:Nat} (h:jA key d x y) (hm:MG key d a b d') (ho:y≤a∨b≤x):jA key d' x y:=fun i j h1 h2 h3=>by
 rw[hm.2.1 i (by omega),hm.2.1 j (by omega)]
 exact h i j h1 h2 h3
theorem jA.sub {d:Array α} {x y x' y':Nat} (h:jA key d x y) (h1:x≤x') (h2:y'≤y):jA key d x' y':=fun i j a b c=>h i j (by omega) b (by omega)
theorem Gm.step {d d':Array α} {c a:Nat} (h:Gm key d c a) (ha:c∣a) (hm:MG key d a (a+c) d') (hs:jA key d' a (a+c)):Gm key d' c (a+c):=fun s h1 h2=>by
 rcases Nat.lt_trichotomy s a with h3 | rfl | h3
 ·exact (h s h1 h3).keep hm (.inl (uP h1 ha h3))
 ·exact hs
 ·have:=uP ha h1 h3
  omega
theorem Gn.step {d d':Array α} {c n a e:Nat} (h:Gn key d c n a) (hm:MG key d a e d') (he:a≤e):Gn key d' c n e:=fun s h1 h2=>(h s h1 (by omega)).keep hm (.inr (by omega))
theorem Qe.first {d d':Array α} {c n a:Nat} (hc:0<c) (h:Gm key d c a) (ha:c∣a) (h1:a≤n) (h2:n<a+c) (hm:MG key d a n d') (hs:jA key d' a n):Gn key d' c n 0:=fun s h3 _=>by
 rcases Nat.lt_trichotomy s a with h4 | rfl | h4
 ·have:=uP h3 ha h4
  exact ((h s h3 h4).keep hm (.inl this)).sub (Nat.le_refl _) (by omega)
 ·exact hs.sub (Nat.le_refl _) (by omega)
 ·have:=uP ha h3 h4
  exact fun i j _ _ _=>by omega
end
theorem stable.calls (g:Nat) (cf:bN→bN→Int) (key:bN→Int) (hcf:∀ x y,cf x y<0↔key x<key y) (eg:∀ args w,(callFunc g args).run Tryz.prog w = .ok (.enter g args) w) (hC:∀ blk off size w,CmpLays Tryz.prog g #[] bE 2 cf blk off size w)
 (blk off cap:Nat) (d:Array bN) (w:World) (R:RowK bE 2 w blk off d) (hsz:d.size<1152921504606846976) :
 Calls Tryz.prog 131 #[.slice (some ⟨blk,off,none⟩) d.size cap,.int .i64 d.size,.func (.func g) #[] #[]] w fun e w'=>e = .returned (.tuple #[])∧∃ d',SWK bE 2 w blk off d' w'∧MG key d 0 d.size d'∧jA key d' 0 d.size:=by
 have hlt:∀ x y,ltOf cf x y=true↔key x<key y:=fun x y=>by unfold ltOf;rw[decide_eq_true_iff];exact hcf x y
 have INS:∀ (a b:Nat) (dk:Array bN) (W:World),SWK bE 2 w blk off dk W→dk.size=d.size→a≤b→b≤d.size →
  Calls Tryz.prog 148 #[.slice (some ⟨blk,off,none⟩) d.size cap,.int .i64 a,.int .i64 b,.func (.func g) #[] #[]] W fun e w'=>e = .returned (.tuple #[])∧∃ d',SWK bE 2 w blk off d' w'∧MG key dk a b d'∧jA key d' a b:=fun a b dk W S hs hab hb=>by
  have h:=AnyQ.insertionSortCmpFunc Tryz.Mg 2 JZ Gc bE (fun _=>rfl) vR cf g #[] blk off cap a b dk W eg (hC _ _ _ _) (S.holds R.hblk R.hH hs) (S.lt R.hblk) hab (by omega) (by omega)
  rw[hs] at h
  refine Calls.mono h ?_
  rintro e w' ⟨he,n,os,rfl⟩
  have hz:(Sort.insertionSort (ltOf cf) dk a b).size=dk.size:=(Aa (fun x y=>(hlt x y).1) dk a b hab (by omega)).1
  exact⟨he,_,S.on R.hblk n _ os hz,Aa (fun x y=>(hlt x y).1) dk a b hab (by omega),FP hlt dk a b hab (by omega)⟩
 have IN:=YtcgbgifbajdhpaaGreatDoorW.au.ah.mk INS
 have SY:=YtcgbgifbajdhpaaGreatDoorW.au.ah.mk (fun k=>symMerge.calls g cf key hcf eg blk off cap d w R (hC _ _ _ _) (by omega) k)
 have S0:Aside (SWK bE 2 w blk off d w):=SWK.start R.hH
 have RR:=YtcgbgifbajdhpaaGreatDoorW.au.ah.mk R
 obtain⟨n,hn⟩:∃ n,n=d.size:=⟨_,rfl⟩
 have HN:=YtcgbgifbajdhpaaGreatDoorW.au.ah.mk hn
 rw[← hn] at IN hsz ⊢
 clear INS hlt hcf eg hC R hn
 go_enter Tryz.func131,Tryz.ntmps131
 go_wp2
 go_loopg [7,8] n (fun kx s7 s8 wr=>∃ (a:Nat) (dk:Array bN),s7 = .int .i64 a∧s8 = .int .i64 (a+20:Nat)∧a≤n∧n-a≤kx∧dk.size=n∧Aside (SWK bE 2 w blk off dk wr)∧YtcgbgifbajdhpaaGreatDoorW.au.ah (20∣a)∧Aside (Gm key dk 20 a)∧Aside (MG key d 0 n dk))
 case atStart=>exact⟨0,d,rfl,rfl,Nat.zero_le _,by omega,HN.o.symm,S0,⟨Nat.dvd_zero _⟩,(fun s h1 h2=>by omega),MG.refl _ _ _⟩
 case round=>
  clear S0
  obtain⟨a,dk,rfl,rfl,han,hkx,hds,S1,HD,HB,HM⟩:=hrel
  by_cases hlt:a+20≤n
  ·have hltz:((a+20:Nat):Int)≤(n:Int):=by omega
   have hc:=YtcgbgifbajdhpaaGreatDoorW.au.ah.mk (IN.o a (a+20) dk wr S1.o (by omega) (by omega) (by omega))
   go_wp2_with (first|(go_at_call 148;refine hc.o.mono ?_;rintro _ w1 ⟨rfl,d1,hS,hm1,hs1⟩;have T1:Aside (SWK bE 2 w blk off d1 w1):=hS;have M1:=YtcgbgifbajdhpaaGreatDoorW.au.ah.mk hm1;have R1:=YtcgbgifbajdhpaaGreatDoorW.au.ah.mk hs1;clear hS hm1 hs1))
   go_roundg (n-(a+20))
   case measure=>omega
   case rel=>exact⟨a+20,d1,by go_num,by go_num,hlt,Nat.le_refl _,M1.o.1.trans hds,T1,⟨Nat.dvd_add HD.o (Nat.dvd_refl _)⟩,HB.o.step HD.o M1.o R1.o,HM.o.trans (M1.o.wide (Nat.zero_le _) (by omega) (by omega))⟩
  ·have hltz:¬ ((a+20:Nat):Int)≤(n:Int):=by omega
   have hltz2:¬ (a:Int)+20≤(n:Int):=by omega
   have hc:=YtcgbgifbajdhpaaGreatDoorW.au.ah.mk (IN.o a n dk wr S1.o (by omega) (by omega) (by omega))
   go_wp2_with (first|(go_at_call 148;refine hc.o.mono ?_;rintro _ w1 ⟨rfl,d1,hS,hm1,hs1⟩;have T1:Aside (SWK bE 2 w blk off d1 w1):=hS;have M1:=YtcgbgifbajdhpaaGreatDoorW.au.ah.mk hm1;have R1:=YtcgbgifbajdhpaaGreatDoorW.au.ah.mk hs1;clear hS hm1 hs1))
   go_loopg [6,7,8,9] n (fun kx s6 s7 s8 s9 wr=>∃ (c:Nat) (dk:Array bN),s6 = .int .i64 c∧20≤c∧(c=20∨c<2*n)∧n-c≤kx∧dk.size=n∧Aside (SWK bE 2 w blk off dk wr)∧Aside (Gn key dk c n 0)∧Aside (MG key d 0 n dk))
   case atStart=>exact⟨20,d1,rfl,by omega,.inl rfl,by omega,M1.o.1.trans hds,T1,Qe.first (by omega) HB.o HD.o (by omega) (by omega) M1.o R1.o,HM.o.trans (M1.o.wide (Nat.zero_le _) (by omega) (by omega))⟩
   case round=>
    clear S1 T1 M1 R1 HB HM hc HD hkx hds
    obtain⟨c,dk,rfl,hc1,hc2,hkx,hds,S1,HB,HM⟩:=hrel
    by_cases hcn:c<n
    ·have hcnz:(c:Int)<(n:Int):=by omega
     go_wp2
     go_loopg [7,8] n (fun kx s7 s8 wr=>∃ (a:Nat) (dk:Array bN),s7 = .int .i64 a∧s8 = .int .i64 ((a:Int)+2*(c:Int))∧a≤n∧n-a≤kx∧dk.size=n∧Aside (SWK bE 2 w blk off dk wr)∧YtcgbgifbajdhpaaGreatDoorW.au.ah (2*c∣a)∧Aside (Gm key dk (2*c) a)∧Aside (Gn key dk c n a)∧Aside (MG key d 0 n dk))
     case atStart=>exact⟨0,dk,rfl,by go_num,Nat.zero_le _,by omega,hds,S1,⟨Nat.dvd_zero _⟩,(fun s h1 h2=>by omega),HB,HM⟩
     case round=>
      clear S1 HB HM hds
      obtain⟨a,dk,rfl,rfl,han,hkx2,hds,S1,HD,HB,HF,HM⟩:=hrel
      have dca:c∣a:=Nat.dvd_trans (Nat.dvd_mul_left _ _) HD.o
      have HDC:=YtcgbgifbajdhpaaGreatDoorW.au.ah.mk dca
      clear dca
      by_cases hlt2:a+2*c≤n
      ·have hltz3:((a+2*c:Nat):Int)≤(n:Int):=by omega
       have hltz4:(a:Int)+2*(c:Int)≤(n:Int):=by omega
       have hA:jA key dk a (a+c):=(HF.o a HDC.o (Nat.le_refl _)).sub (Nat.le_refl _) (by omega)
       have hB:jA key dk (a+c) (a+2*c):=(HF.o (a+c) (Nat.dvd_add HDC.o (Nat.dvd_refl _)) (by omega)).sub (Nat.le_refl _) (by omega)
       have hc:=YtcgbgifbajdhpaaGreatDoorW.au.ah.mk (SY.o n a (a+c) (a+2*c) dk wr (by omega) (by rw[hds];exact HN.o) S1.o (by omega) (by omega) (by rw[← HN.o];exact hlt2) hA hB)
       rw[← HN.o,show ((a+c:Nat):Int)=(a:Int)+(c:Int) from by omega,show ((a+2*c:Nat):Int)=(a:Int)+2*(c:Int) from by omega] at hc
       clear hA hB
       go_wp2_with (first|(go_at_call 149;refine hc.o.mono ?_;rintro _ w1 ⟨rfl,d1,hS,hm1,hs1⟩;have T1:Aside (SWK bE 2 w blk off d1 w1):=hS;have M1:=YtcgbgifbajdhpaaGreatDoorW.au.ah.mk hm1;have R1:=YtcgbgifbajdhpaaGreatDoorW.au.ah.mk hs1;clear hS hm1 hs1))
       go_roundg (n-(a+2*c))
       case measure=>omega
       case rel=>exact⟨a+2*c,d1,by go_num,by go_num,hlt2,Nat.le_refl _,M1.o.1.trans hds,T1,⟨Nat.dvd_add HD.o (Nat.dvd_refl _)⟩,HB.o.step HD.o M1.o R1.o,HF.o.step M1.o (by omega),HM.o.trans (M1.o.wide (Nat.zero_le _) (by omega) (by omega))⟩
      ·have hltz3:¬ ((a+2*c:Nat):Int)≤(n:Int):=by omega
       have hltz4:¬ (a:Int)+2*(c:Int)≤(n:Int):=by omega
       by_cases hm:a+c<n
       ·have hmz:(a:Int)+(c:Int)<(n:Int):=by omega
        have hA:jA key dk a (a+c):=(HF.o a HDC.o (Nat.le_refl _)).sub (Nat.le_refl _) (by omega)
        have hB:jA key dk (a+c) n:=(HF.o (a+c) (Nat.dvd_add HDC.o (Nat.dvd_refl _)) (by omega)).sub (Nat.le_refl _) (by omega)
        have hc:=YtcgbgifbajdhpaaGreatDoorW.au.ah.mk (SY.o n a (a+c) n dk wr (by omega) (by rw[hds];exact HN.o) S1.o (by omega) (by omega) (by rw[← HN.o];exact Nat.le_refl _) hA hB)
        rw[← HN.o,show ((a+c:Nat):Int)=(a:Int)+(c:Int) from by omega] at hc
        clear hA hB
        go_wp2_with (first|(go_at_call 149;refine hc.o.mono ?_;rintro _ w1 ⟨rfl,d1,hS,hm1,hs1⟩;have T1:Aside (SWK bE 2 w blk off d1 w1):=hS;have M1:=YtcgbgifbajdhpaaGreatDoorW.au.ah.mk hm1;have R1:=YtcgbgifbajdhpaaGreatDoorW.au.ah.mk hs1;clear hS hm1 hs1))
        go_roundg (n-c*2)
        case measure=>omega
        case rel=>exact⟨c*2,d1,by go_num,by omega,.inr (by omega),by omega,M1.o.1.trans hds,T1,(by rw[Nat.mul_comm c 2];exact Qe.first (by omega) HB.o HD.o han (by omega) M1.o R1.o),HM.o.trans (M1.o.wide (Nat.zero_le _) (Nat.le_refl _) han)⟩
       ·have hmz:¬ (a:Int)+(c:Int)<(n:Int):=by omega
        have HS:=YtcgbgifbajdhpaaGreatDoorW.au.ah.mk (show jA key dk a n from (HF.o a HDC.o (Nat.le_refl _)).sub (Nat.le_refl _) (by omega))
        go_wp2
        go_roundg (n-c*2)
        case measure=>omega
        case rel=>exact⟨c*2,dk,by go_num,by omega,.inr (by omega),by omega,hds,S1,(by rw[Nat.mul_comm c 2];exact Qe.first (by omega) HB.o HD.o han (by omega) (MG.refl _ _ _) HS.o),HM⟩
    ·have hcnz:¬ (c:Int)<(n:Int):=by omega
     go_wp2
     go_end0
     exact⟨rfl,dk,S1.o,HM.o,(HB.o 0 (Nat.dvd_zero _) (Nat.le_refl _)).sub (Nat.le_refl _) (by omega)⟩
theorem EW.calls (g:Nat) (cf:bN→bN→Int) (key:bN→Int) (hcf:∀ x y,cf x y<0↔key x<key y) (eg:∀ args w,(callFunc g args).run Tryz.prog w = .ok (.enter g args) w) (hC:∀ blk off size w,CmpLays Tryz.prog g #[] bE 2 cf blk off size w)
 (blk off cap:Nat) (d:Array bN) (w:World) (R:RowK bE 2 w blk off d) (hsz:d.size<1152921504606846976) :
 Calls Tryz.prog 109 #[.slice (some ⟨blk,off,none⟩) d.size cap,.func (.func g) #[] #[]] w fun e w'=>e = .returned (.tuple #[])∧∃ d',SWK bE 2 w blk off d' w'∧MG key d 0 d.size d'∧jA key d' 0 d.size:=by
 have HI:=YtcgbgifbajdhpaaGreatDoorW.au.ah.mk (stable.calls g cf key hcf eg hC blk off cap d w R hsz)
 clear R hsz hcf eg hC
 generalize d.size=n at *
 go_enter Tryz.func109,Tryz.ntmps109
 go_wp2_with (first|(go_at_call 131;refine HI.o.mono ?_;rintro e w' ⟨rfl,hw'⟩;have HW:=YtcgbgifbajdhpaaGreatDoorW.au.ah.mk hw';clear hw'))
 go_end0
 exact⟨rfl,HW.o⟩
end Go.Proofs.YtcgbgifbajdhpaaGreatDoor.PA
namespace Go.Proofs
open Go.Shelf Go.RowKit Go.Lib Go.Sort
def Tryz.KF:Go.Shelf.Ren:=⟨fun | 35=>107 | n=>n,fun | 22=>49 | 23=>70 | 3=>3 | 4=>4 | 0=>0 | n=>n,fun | n=>n⟩
theorem Tryz.Ow:Go.Proofs.SlLaysE0.n35 Tryz.prog Tryz.KF:={
 mixed:=by kernel_rfl
 f35:=⟨Tryz.f107.name,by decide,Tryz.func107.trans (congrArg some (by kernel_rfl))⟩
 t0:=Tryz.underlying0
 a0:=Tryz.isAgg0
 z0:=Tryz.sizeOf0
 v0:=Tryz.zeroValue0
 t3:=Tryz.underlying3
 a3:=Tryz.isAgg3
 z3:=Tryz.sizeOf3
 v3:=Tryz.zeroValue3
 t4:=Tryz.underlying4
 a4:=Tryz.isAgg4
 z4:=Tryz.sizeOf4
 v4:=Tryz.zeroValue4
 t22:=Tryz.underlying49
 a22:=Tryz.isAgg49
 z22:=Tryz.sizeOf49
 v22:=Tryz.zeroValue49 }
end Go.Proofs
namespace Go.Proofs.YtcgbgifbajdhpaaGreatDoor.PA
open Go.Shelf Go.RowKit Go.Lib Go.Sort
def xS (x y:Int):Int:=if x<y then -1 else if y<x then 1 else 0
def BJ (a b:bN):Int:=xS a.f0 b.f0
def uw (a:bN):Int:=a.f0
theorem LM (x y:bN):BJ x y<0↔uw x<uw y:=by
 unfold BJ xS uw
 by_cases h:x.f0<y.f0
 ·simp[h]
 ·by_cases h2:y.f0<x.f0<;>simp[h,h2]
theorem Jy.calls (a b:bN) (W:World):Calls Tryz.prog 108 #[.agg (bE a).toArray,.agg (bE b).toArray] W fun e w'=>e = .returned (.int .i64 (BJ a b))∧∃ q os',w'=grow (W.drewN q) os':=by
 unfold bE
 simp only[List.toArray]
 go_enter Tryz.func108,Tryz.ntmps108
 have h0:(a.f0 != a.f0)=false:=by simp
 have h1:(b.f0 != b.f0)=false:=by simp
 by_cases h2:a.f0<b.f0
 ·have d2:decide (a.f0<b.f0)=true:=decide_eq_true h2
  have HC:Aside (BJ a b = -1):=by show BJ a b = -1;unfold BJ xS;rw[if_pos h2]
  clear h2
  go_wp2_with (first | go_in)
  go_ret
  exact⟨by rw[show BJ a b = -1 from HC];rfl,0,_,by rw[alloc_eq_grow,alloc_eq_grow,grow_grow];rfl⟩
 ·have d2:decide (a.f0<b.f0)=false:=decide_eq_false h2
  by_cases h3:b.f0<a.f0
  ·have d3:decide (b.f0<a.f0)=true:=decide_eq_true h3
   have HC:Aside (BJ a b=1):=by show BJ a b=1;unfold BJ xS;rw[if_neg h2,if_pos h3]
   clear h2 h3
   go_wp2_with (first | go_in)
   go_ret
   exact⟨by rw[show BJ a b=1 from HC];rfl,0,_,by rw[alloc_eq_grow,alloc_eq_grow,grow_grow];rfl⟩
  ·have d3:decide (b.f0<a.f0)=false:=decide_eq_false h3
   have HC:Aside (BJ a b=0):=by show BJ a b=0;unfold BJ xS;rw[if_neg h2,if_neg h3]
   clear h2 h3
   go_wp2_with (first | go_in)
   go_ret
   exact⟨by rw[show BJ a b=0 from HC];rfl,0,_,by rw[alloc_eq_grow,alloc_eq_grow,grow_grow];rfl⟩
theorem Jy.lays (blk off size:Nat) (w:World):CmpLays Tryz.prog 108 #[] bE 2 BJ blk off size w:=fun _ _ _ _ x y=>Jy.calls x y _
theorem Jy.enters:∀ args w,(callFunc 108 args).run Tryz.prog w = .ok (.enter 108 args) w:=enters_of Tryz.func108 (by kernel_rfl) rfl
theorem Qb.enters:∀ args w,(callFunc 111 args).run Tryz.prog w = .ok (.enter 111 args) w:=enters_of Tryz.func111 (by kernel_rfl) rfl
theorem Qb.calls (a b:bN) (W:World):Calls Tryz.prog 111 #[.agg #[.int .i64 a.f0,.int .u64 a.f1],.agg #[.int .i64 b.f0,.int .u64 b.f1]] W fun e w'=>e = .returned (.bool (a.f0==b.f0))∧∃ q os',w'=grow (W.drewN q) os':=by
 go_enter Tryz.func111,Tryz.ntmps111
 go_wp2
 go_ret
 exact⟨rfl,0,_,by rw[alloc_eq_grow,alloc_eq_grow,grow_grow];rfl⟩
theorem SWK.trans {w0 W W':World} {blk off:Nat} {d d':Array bN} (h:SWK bE 2 w0 blk off d W) (hb:blk<w0.heap.size) (k:SWK bE 2 W blk off d' W') (hs:d'.size=d.size):SWK bE 2 w0 blk off d' W':=by
 obtain⟨m,os,rfl⟩:=k
 exact h.on hb m d' os hs
theorem SWK.row {w0 W:World} {blk off:Nat} {d0 d:Array bN} (h:SWK bE 2 w0 blk off d W) (R:RowK bE 2 w0 blk off d0) (hs:d.size=d0.size):RowK bE 2 W blk off d:=⟨R.hk,R.h1,h.holds R.hblk R.hH hs,h.lt R.hblk⟩
theorem Ow.calls (blk off cap:Nat) (d:Array bN) (w:World) (R:RowK bE 2 w blk off d) (hsz:d.size≤9223372036854775807) :
 Calls Tryz.prog 107 #[.slice (some ⟨blk,off,none⟩) d.size cap] w fun e w'=>e = .returned (.tuple #[])∧SWK bE 2 w blk off d.reverse w':=by
 refine Calls.mono (AnyQ.slices_Reverse Tryz.Ow 2 JZ Gc bE (fun _=>rfl) vR blk off cap d w R.hH hsz) ?_
 rintro e w' ⟨he,n,rfl⟩
 exact⟨he,n,#[],by unfold sortWorldK;rw[grow_empty]⟩
section
variable {w0 W:World} {blk off:Nat} {d0 dk dk':Array bN}
theorem Dv (h:SWK bE 2 w0 blk off dk W) (hb:blk<w0.heap.size) (s:Nat) (vs:List Value) (hs:s+vs.length≤dk.size*2) (he:setMany (flatK bE 2 dk) s vs=flatK bE 2 dk'):SWK bE 2 w0 blk off dk' (W.setCells blk (off+s) vs):=by
 obtain⟨n,os,rfl⟩:=h
 refine⟨n,os,?_⟩
 unfold sortWorldK
 rw[← putRowK_grow bE 2 (Sort.ahead w0 n) os blk off dk hb,← putRowK_grow bE 2 (Sort.ahead w0 n) os blk off dk' hb]
 unfold putRowK
 rw[setCells_putRow _ _ _ _ _ _ (by rw[size_flatK];exact hs),he]
theorem MV (h:SWK bE 2 w0 blk off dk W) (hb:blk<w0.heap.size) (i:Nat) (hi:i<dk.size) (x:bN) :
 SWK bE 2 w0 blk off (dk.setIfInBounds i x) ((W.setCell ⟨blk,off+i*2,none⟩ (.int .i64 x.f0)).setCell ⟨blk,off+i*2+1,none⟩ (.int .u64 x.f1)):=by
 refine Dv h hb (i*2) (bE x) (by show i*2+2≤_;omega) (ext_get! (by simp) fun t ht=>?_)
 have ht':t<dk.size*2:=by simpa using ht
 rw[get_setMany _ _ _ t (by simpa using ht'),get_flatK _ _ _ t ht',get_flatK _ _ _ t (by simpa using ht')]
 have h2:(bE x).length=2:=rfl
 by_cases c:t / 2=i
 ·rw[if_pos (by rw[h2];omega),show t-i*2=t % 2 from by omega]
  congr 2
  subst c
  simp[getElem!_def,hi]
 ·rw[if_neg (by rw[h2];omega)]
  congr 2
  simp[getElem!_def,Array.getElem?_setIfInBounds,Ne.symm c]
end
def zs2 (m:Nat):List Value:=(Builtin.zeroCells #[.int .i64 0,.int .u64 0] m).toList
theorem rA (m:Nat):(zs2 m).length=m*2:=by simp[zs2,Builtin.zeroCells]
theorem Gl (m t:Nat) (h:t<m*2):(zs2 m)[t]! = (bE z70)[t % 2]! := by
 have h2:t % 2=0∨t % 2=1:=by omega
 have:(zs2 m)[t]? = some ((#[Value.int .i64 0,.int .u64 0]:Array Value)[t % 2]!):=by
  simp[zs2,Builtin.zeroCells,h]
 rw[List.getElem!_eq_getElem?_getD,this]
 rcases h2 with h2 | h2<;>rw[h2]<;>rfl
theorem M7 (m:Nat):∀ v∈zs2 m,v.oneCell'=true:=by
 intro v hv
 obtain⟨t,ht,rfl⟩:=List.mem_iff_getElem.1 hv
 have h2:t % 2=0∨t % 2=1:=by omega
 have h:=Gl m t (by rw[rA] at ht;exact ht)
 rw[List.getElem!_eq_getElem?_getD,List.getElem?_eq_getElem ht] at h
 have h':(zs2 m)[t]=(bE z70)[t % 2]! := h
 rw[h']
 rcases h2 with h2 | h2<;>rw[h2]<;>rfl
def BO (d:Array bN) (k:Nat):Array bN:=((List.range d.size).map fun t=>if t<k then d[t]! else z70).toArray
theorem rM (d:Array bN) (k:Nat):(BO d k).size=d.size:=by simp[BO]
theorem BP (d:Array bN) (k t:Nat) (h:t<d.size):(BO d k)[t]! = if t<k then d[t]! else z70:=by
 simp[BO,h]
theorem Ik {w0 W:World} {blk off:Nat} {d:Array bN} (h:SWK bE 2 w0 blk off d W) (hb:blk<w0.heap.size) (k:Nat) (hk:k≤d.size):SWK bE 2 w0 blk off (BO d k) (W.setCells blk (off+k*2) (zs2 (d.size-k))):=by
 refine Dv h hb (k*2) _ (by rw[rA];omega) (ext_get! (by simp[rM]) fun t ht=>?_)
 have ht':t<d.size*2:=by simpa using ht
 rw[get_setMany _ _ _ t (by simpa using ht'),get_flatK _ _ _ t ht',get_flatK _ _ _ t (by rw[rM];exact ht'),BP _ _ _ (by omega),rA]
 by_cases c:t / 2<k
 ·rw[if_neg (by omega),if_pos c]
 ·rw[if_pos (by omega),if_neg c,Gl _ _ (by omega),show (t-k*2) % 2=t % 2 from by omega]
theorem Gz (W:World) (blk o m c:Nat) (hc:∀ j,j<m*2→(W.cell? ⟨blk,o+j,none⟩).isSome=true) (hf:∀ j,j<m*2→W.frozen? ⟨blk,o+j,none⟩=false) (hm:0<m) (ty:TypeId) :
 Sem.run Tryz.prog (Builtin.clear_ #[49] ty #[.slice (some ⟨blk,o,none⟩) m c]) W = .ok (.tuple #[]) (W.setCells blk o (zs2 m)):=by
 have hst:=run_storeCells_cells (P:=Tryz.prog) blk o (zs2 m) 0 W (by rw[rA];simpa using hc) (by rw[rA];simpa using hf) (M7 m)
 simp only[Nat.add_zero] at hst
 have hz:∀ w,(zeroValue 70).run Tryz.prog w = .ok (.agg #[.int .i64 0,.int .u64 0]) w:=fun w=>by kernel_rfl
 obtain⟨q,rfl⟩:∃ q,m=q+1:=⟨m-1,by omega⟩
 have hzs:(Builtin.zeroCells (Value.agg #[.int .i64 0,.int .u64 0]).cells (q+1)).toList=zs2 (q+1):=rfl
 simp[Builtin.clear_,run_underlying Tryz.underlying49,hz,hzs,hst]
def cK (d:Array bN):Nat→List bN
 | 0=>[]
 | i+1=>if i=0∨d[i]!.f0≠d[i-1]!.f0 then cK d i++[d[i]!] else cK d i
theorem Nk (d:Array bN):∀ i,(cK d i).length≤i
 | 0=>Nat.le_refl _
 | i+1=>by
   have:=Nk d i
   rw[cK]
   split
   ·rw[List.length_append];simp;omega
   ·omega
theorem Nj (d:Array bN) (i:Nat) (h:(d[i]!.f0==d[i-1]!.f0)=false):cK d (i+1)=cK d i++[d[i]!]:=by
 rw[cK,if_pos (.inr (by simpa using h))]
theorem Fw (d:Array bN) (i:Nat) (hi:0<i) (h:(d[i]!.f0==d[i-1]!.f0)=true):cK d (i+1)=cK d i:=by
 rw[cK,if_neg (by rintro (h1 | h1);omega;exact h1 (by simpa using h))]
theorem Az {α:Type} [Inhabited α] (d:Array α) (k:Nat):fB d k (k+1)=[d[k]!]:=by simp[fB]
theorem Jl (off a b:Nat):off+(a+b)*2=off+a*2+b*2:=by omega
theorem JA.calls (blk off cap:Nat) (d:Array bN) (w:World) (R:RowK bE 2 w blk off d) (hcap:d.size≤cap) (hsz:d.size<1152921504606846976) :
 Calls Tryz.prog 110 #[.slice (some ⟨blk,off,none⟩) d.size cap,.func (.func 111) #[] #[]] w fun e w'=>e = .returned (.slice (some ⟨blk,off,none⟩) (cK d d.size).length cap)∧∃ d',SWK bE 2 w blk off d' w'∧d'.size=d.size∧fB d' 0 (cK d d.size).length=cK d d.size:=by
 have mixed:Tryz.prog.follows .mixedOrders=true:=by kernel_rfl
 have eg:=Qb.enters
 have S0:Aside (SWK bE 2 w blk off d w):=SWK.start R.hH
 have RR:=YtcgbgifbajdhpaaGreatDoorW.au.ah.mk R
 obtain⟨n,hn⟩:∃ n,n=d.size:=⟨_,rfl⟩
 have HN:=YtcgbgifbajdhpaaGreatDoorW.au.ah.mk hn
 rw[← hn] at hsz hcap ⊢
 clear R hn
 by_cases h2:n<2
 ·have h2z:(n:Int)<2:=by omega
  have HE:YtcgbgifbajdhpaaGreatDoorW.au.ah (cK d n=fB d 0 n):=⟨by
   rcases (show n=0∨n=1 from by omega) with h | h
   ·rw[h];rfl
   ·rw[h];rfl⟩
  go_enter Tryz.func110,Tryz.ntmps110
  go_wp2
  go_ret
  exact⟨by rw[HE.o,mZ,Nat.sub_zero];rfl,d,S0,HN.o.symm,by rw[HE.o,mZ,Nat.sub_zero]⟩
 ·have h2z:¬ (n:Int)<2:=by omega
  go_enter Tryz.func110,Tryz.ntmps110
  go_wp2
  go_loopg [5] n (fun kx s5 wr=>∃ (k:Nat),s5 = .int .i64 (k+1:Nat)∧k+1≤n∧n-k≤kx∧Aside (SWK bE 2 w blk off d wr)∧YtcgbgifbajdhpaaGreatDoorW.au.ah (cK d (k+1)=fB d 0 (k+1)))
  case atStart=>exact⟨0,rfl,by omega,by omega,S0,⟨rfl⟩⟩
  case round=>
   clear S0
   obtain⟨k,rfl,hk,hkx,S1,HE⟩:=hrel
   by_cases hlt:k+1<n
   ·have hltz:(k:Int)+1<(n:Int):=by omega
    have e1:((k:Int)+1).toNat=k+1:=by omega
    have pa:(0:Int)≤(k:Int)+1:=by omega
    have e2:(k:Int)+1-1=(k:Int):=by omega
    have r2:IntKind.i64.wrap ((k:Int)+1-1)=(k:Int):=by rw[IntKind.wrap_i64];omega
    have r3:IntKind.i64.wrap (k:Int)=(k:Int):=by rw[IntKind.wrap_i64];omega
    have bk:(k:Int)<(n:Int):=by omega
    have c0:=fun n' os'=>(dD S1.o RR.o rfl (k+1) (by rw[← HN.o];exact hlt) n' os').1
    have c1:=fun n' os'=>(dD S1.o RR.o rfl (k+1) (by rw[← HN.o];exact hlt) n' os').2
    have g0:=fun n' os'=>(dD S1.o RR.o rfl k (by rw[← HN.o];omega) n' os').1
    have g1:=fun n' os'=>(dD S1.o RR.o rfl k (by rw[← HN.o];omega) n' os').2
    have hc:=fun n' os'=>Qb.calls d[k+1]! d[k]! (grow (wr.drewN n') os')
    cases hv:(d[k+1]!.f0==d[k]!.f0) with
    | false=>
      have HX:=YtcgbgifbajdhpaaGreatDoorW.au.ah.mk (Nj d (k+1) hv)
      generalize d[k+1]! = x at c0 c1 hc hv
      generalize d[k]! = y at g0 g1 hc hv
      go_wp2_with fail
      go_quiet_grown (first|(go_at_fn 111;refine Calls.grown_of (hc _ _)))
      have S2:Aside (SWK bE 2 w blk off d (grow (wr.drewN nq) osq)):=S1.o.grown nq osq
      clear c0 c1 g0 g1 hc S1
      generalize grow (wr.drewN nq) osq=w2 at S2 ⊢
      clear nq osq
      go_wp2
      go_roundg (n-(k+1))
      case measure=>omega
      case rel=>exact⟨k+1,by go_num,by omega,Nat.le_refl _,S2,⟨by rw[HX.o,HE.o,kC d (Nat.zero_le (k+1)) (Nat.le_succ (k+1)),Az]⟩⟩
    | true=>
      have HX:=YtcgbgifbajdhpaaGreatDoorW.au.ah.mk (Fw d (k+1) (by omega) hv)
      generalize d[k+1]! = x at c0 c1 hc hv
      generalize d[k]! = y at g0 g1 hc hv
      go_wp2_with fail
      go_quiet_grown (first|(go_at_fn 111;refine Calls.grown_of (hc _ _)))
      have S2:Aside (SWK bE 2 w blk off d (grow (wr.drewN nq) osq)):=S1.o.grown nq osq
      clear c0 c1 g0 g1 hc S1
      generalize grow (wr.drewN nq) osq=w2 at S2 ⊢
      clear nq osq
      have hcz:¬ (cap:Int)=(k:Int)+1:=by omega
      have hcz2:¬ cap=k+1:=by omega
      have HCZ:=hcap
      go_wp2
      rw[hv]
      clear hv
      obtain⟨M,hM⟩:∃ M,M=n-(k+1):=⟨_,rfl⟩
      rw[← hM]
      have hM1:M+(k+1)=n:=by omega
      have HM:=YtcgbgifbajdhpaaGreatDoorW.au.ah.mk hM1
      have hM2:M+k<n:=by omega
      have hM3:n≤M+k+1:=by omega
      clear hM hM1 hcz hcz2 HCZ
      go_loopg [5,7] M (fun kx s5 s7 wr=>∃ (q j:Nat) (dk:Array bN),s5 = .int .i64 q∧s7 = .int .i64 (j+1:Nat)∧j+1≤M∧k+1≤q∧q≤k+1+j∧M-j≤kx∧Aside (SWK bE 2 w blk off dk wr)∧YtcgbgifbajdhpaaGreatDoorW.au.ah (dk.size=d.size)∧YtcgbgifbajdhpaaGreatDoorW.au.ah (fB dk 0 q=cK d (k+1+(j+1))∧∀ t,q≤t→dk[t]! = d[t]!))
      case atStart=>exact⟨k+1,0,d,by go_num,rfl,by omega,Nat.le_refl _,Nat.le_refl _,by omega,S2,⟨rfl⟩,⟨by rw[show k+1+(0+1)=k+1+1 from rfl,HX.o,HE.o],fun _ _=>rfl⟩⟩
      case round=>
       clear S2 HX HE
       obtain⟨q,j,dk,rfl,rfl,hj,hkq,hqj,hkx2,S3,HS,HQ⟩:=hrel
       by_cases hlt3:j+1<M
       ·have hltz3:(j:Int)+1<(M:Int):=by omega
        have e1:((j:Int)+1).toNat=j+1:=by omega
        have pa2:(0:Int)≤(j:Int)+1:=by omega
        have e2:(j:Int)+1-1=(j:Int):=by omega
        have r2:IntKind.i64.wrap ((j:Int)+1-1)=(j:Int):=by rw[IntKind.wrap_i64];omega
        have r3:IntKind.i64.wrap (j:Int)=(j:Int):=by rw[IntKind.wrap_i64];omega
        have bj:(j:Int)<(M:Int):=by omega
        have hi1:k+1+(j+1)<dk.size:=by rw[HS.o,← HN.o];omega
        have hi2:k+1+j<dk.size:=by rw[HS.o,← HN.o];omega
        have k0:=dD S3.o RR.o HS.o (k+1+(j+1)) hi1
        have k1:=dD S3.o RR.o HS.o (k+1+j) hi2
        rw[Jl] at k0 k1
        have c0:=fun n' os'=>(k0 n' os').1
        have c1:=fun n' os'=>(k0 n' os').2
        have g0:=fun n' os'=>(k1 n' os').1
        have g1:=fun n' os'=>(k1 n' os').2
        have hc:=fun n' os'=>Qb.calls dk[k+1+(j+1)]! dk[k+1+j]! (grow (wr.drewN n') os')
        have HI:=YtcgbgifbajdhpaaGreatDoorW.au.ah.mk (And.intro hi1 hi2)
        clear k0 k1 hi1 hi2
        have HX1:=YtcgbgifbajdhpaaGreatDoorW.au.ah.mk (HQ.o.2 (k+1+(j+1)) (by omega))
        have HX2:=YtcgbgifbajdhpaaGreatDoorW.au.ah.mk (HQ.o.2 (k+1+j) (by omega))
        have K0:=fun (W:World) (S:SWK bE 2 w blk off dk W)=>d9 S RR.o HS.o (k+1+(j+1)) HI.o.1
        rw[Jl] at K0
        have KK:=YtcgbgifbajdhpaaGreatDoorW.au.ah.mk K0
        clear K0
        cases hv:(dk[k+1+(j+1)]!.f0==dk[k+1+j]!.f0) with
        | true=>
          have HX:=YtcgbgifbajdhpaaGreatDoorW.au.ah.mk (Fw d (k+1+(j+1)) (by omega) (by rw[← HX1.o,show k+1+(j+1)-1=k+1+j from rfl,← HX2.o];exact hv))
          generalize dk[k+1+(j+1)]! = x2 at c0 c1 hc hv
          generalize dk[k+1+j]! = y2 at g0 g1 hc hv
          go_wp2_with fail
          go_quiet_grown (first|(go_at_fn 111;refine Calls.grown_of (hc _ _)))
          have S4:Aside (SWK bE 2 w blk off dk (grow (wr.drewN nq) osq)):=S3.o.grown nq osq
          clear c0 c1 g0 g1 hc S3
          generalize grow (wr.drewN nq) osq=w3 at S4 ⊢
          clear nq osq
          go_wp2
          go_roundg (M-(j+1))
          case measure=>omega
          case rel=>exact⟨q,j+1,dk,rfl,by go_num,by omega,hkq,by omega,Nat.le_refl _,S4,HS,⟨by rw[show k+1+(j+1+1)=k+1+(j+1)+1 from rfl,HX.o];exact HQ.o.1,HQ.o.2⟩⟩
        | false=>
          have HX:=YtcgbgifbajdhpaaGreatDoorW.au.ah.mk (Nj d (k+1+(j+1)) (by rw[← HX1.o,show k+1+(j+1)-1=k+1+j from rfl,← HX2.o];exact hv))
          have HX3:=YtcgbgifbajdhpaaGreatDoorW.au.ah.mk (show ∃ x,x=dk[k+1+(j+1)]! from ⟨_,rfl⟩)
          have KQ:=YtcgbgifbajdhpaaGreatDoorW.au.ah.mk (fun (W:World) (S:SWK bE 2 w blk off dk W)=>d9 S RR.o HS.o q (by rw[HS.o,← HN.o];omega))
          generalize hx2:dk[k+1+(j+1)]! = x2 at c0 c1 hc hv KK
          generalize dk[k+1+j]! = y2 at g0 g1 hc hv
          have HX4:=YtcgbgifbajdhpaaGreatDoorW.au.ah.mk hx2
          clear hx2
          go_wp2_with fail
          go_quiet_grown (first|(go_at_fn 111;refine Calls.grown_of (hc _ _)))
          have S4:Aside (SWK bE 2 w blk off dk (grow (wr.drewN nq) osq)):=S3.o.grown nq osq
          clear c0 c1 g0 g1 hc S3
          generalize grow (wr.drewN nq) osq=w3 at S4 ⊢
          clear nq osq
          obtain⟨p0,p1,_,_⟩:=KK.o w3 S4.o
          obtain⟨q0,q1,f0,f1⟩:=KQ.o w3 S4.o
          have hqn:(q:Int)<(n:Int):=by omega
          have S5:Aside (SWK bE 2 w blk off (dk.setIfInBounds q x2) ((w3.setCell ⟨blk,off+q*2,none⟩ (.int .i64 x2.f0)).setCell ⟨blk,off+q*2+1,none⟩ (.int .u64 x2.f1))):=MV S4.o RR.o.hblk q (by rw[HS.o,← HN.o];omega) x2
          generalize dk[q]! = y3 at q0 q1
          go_wp2
          go_roundg (M-(j+1))
          case measure=>omega
          case rel=>
           have hqs:q<dk.size:=by rw[HS.o,← HN.o];omega
           refine⟨q+1,j+1,dk.setIfInBounds q x2,by go_num,by go_num,by omega,by omega,by omega,Nat.le_refl _,S5,⟨by rw[Array.size_setIfInBounds];exact HS.o⟩,⟨?_,fun t ht=>?_⟩⟩
           ·rw[show k+1+(j+1+1)=k+1+(j+1)+1 from rfl,HX.o,← HQ.o.1,← HX1.o,HX4.o,kC _ (Nat.zero_le q) (Nat.le_succ q),Az,oO (d:=dk) (d':=dk.setIfInBounds q x2) (fun t h1 h2=>by simp[getElem!_def,Array.getElem?_setIfInBounds,show ¬ q=t from by omega])]
            congr 2
            simp[getElem!_def,hqs]
           ·rw[← HQ.o.2 t (by omega)]
            simp[getElem!_def,Array.getElem?_setIfInBounds,show ¬ q=t from by omega]
       ·have hjM:j+1=M:=by omega
        have HJ:=YtcgbgifbajdhpaaGreatDoorW.au.ah.mk hjM
        have hltz3:¬ (j:Int)+1<(M:Int):=by omega
        have hcl:=Gz wr blk (off+q*2) (n-q) (cap-q) (fun i hi=>by
         have hq2:q+i / 2<dk.size:=by rw[HS.o,← HN.o];omega
         have h3:=(d9 S3.o RR.o HS.o (q+i / 2) hq2)
         rcases (show i % 2=0∨i % 2=1 from by omega) with h4 | h4
         ·rw[show off+q*2+i=off+(q+i / 2)*2 from by omega,h3.1];rfl
         ·rw[show off+q*2+i=off+(q+i / 2)*2+1 from by omega,h3.2.1];rfl) (fun i hi=>by
         have hq2:q+i / 2<dk.size:=by rw[HS.o,← HN.o];omega
         have h3:=(d9 S3.o RR.o HS.o (q+i / 2) hq2)
         rcases (show i % 2=0∨i % 2=1 from by omega) with h4 | h4
         ·rw[show off+q*2+i=off+(q+i / 2)*2 from by omega,h3.2.2.1]
         ·rw[show off+q*2+i=off+(q+i / 2)*2+1 from by omega,h3.2.2.2]) (by omega)
        have S6:=Ik S3.o RR.o.hblk q (by rw[HS.o,← HN.o];omega)
        rw[HS.o,← HN.o] at S6
        have S7:Aside (SWK bE 2 w blk off (BO dk q) (wr.setCells blk (off+q*2) (zs2 (n-q)))):=S6
        have HQL:YtcgbgifbajdhpaaGreatDoorW.au.ah ((cK d n).length=q∧fB (BO dk q) 0 q=cK d n):=⟨by
         have e:=HQ.o.1
         rw[HJ.o,Nat.add_comm (k+1) M,HM.o] at e
         rw[← e]
         exact⟨by rw[mZ,Nat.sub_zero],oO (fun t h1 h2=>by rw[BP _ _ _ (by rw[HS.o,← HN.o];omega),if_pos h2])⟩⟩
        have hcz2:¬ cap=q:=by omega
        have hqn:q≤n:=by omega
        clear S6 hjM
        go_wp2
        go_ret
        exact⟨by rw[HQL.o.1];rfl,BO dk q,S7.o,by rw[rM];exact HS.o.trans HN.o.symm,by rw[HQL.o.1];exact HQL.o.2⟩
   ·obtain rfl:k+1=n:=by omega
    have hltz:¬ ((k:Int)+1<(k:Int)+1):=by omega
    go_wp2
    go_ret
    exact⟨by rw[HE.o,mZ,Nat.sub_zero];rfl,d,S1.o,HN.o.symm,by rw[HE.o,mZ,Nat.sub_zero]⟩
end Go.Proofs.YtcgbgifbajdhpaaGreatDoor.PA
namespace Go.Proofs.YtcgbgifbajdhpaaGreatDoor.PA
open Go.Sort
def Rs (l:List bN):Prop:=l.Pairwise (fun x y=>x.f0<y.f0)
def at_ (v:Int) (l:List bN):List bN:=l.filter (fun x=>decide (x.f0=v))
theorem kD (v:Int) (a b:List bN):at_ v (a++b)=at_ v a++at_ v b:=List.filter_append ..
theorem qz {v:Int} {l:List bN} (h:∀ x∈l,x.f0≠v):at_ v l=[]:=by
 unfold at_
 rw[List.filter_eq_nil_iff]
 intro x hx
 simpa using h x hx
theorem iw (v:Int) (x:bN) (l:List bN):at_ v (x::l)=if x.f0=v then x::at_ v l else at_ v l:=by
 unfold at_
 rw[List.filter_cons]
 simp
theorem I9:∀ (a b:List bN),Rs a→Rs b→(∀ v,at_ v a=at_ v b)→a=b
 | [],[],_,_,_=>rfl
 | [],y::b,_,_,h=>by
   have:=h y.f0
   rw[iw,if_pos rfl] at this
   simp[at_] at this
 | x::a,[],_,_,h=>by
   have:=h x.f0
   rw[iw,if_pos rfl] at this
   simp[at_] at this
 | x::a,y::b,ha,hb,h=>by
   have ha':=List.pairwise_cons.1 ha
   have hb':=List.pairwise_cons.1 hb
   have na:∀ v,v≤x.f0→at_ v a=[]:=fun v hv=>qz (fun z hz=>by have:=ha'.1 z hz;omega)
   have nb:∀ v,v≤y.f0→at_ v b=[]:=fun v hv=>qz (fun z hz=>by have:=hb'.1 z hz;omega)
   have hxy:x.f0=y.f0:=by
    rcases Int.lt_trichotomy x.f0 y.f0 with h1 | h1 | h1
    ·have:=h x.f0
     rw[iw,if_pos rfl,iw,if_neg (by omega),nb _ (by omega)] at this
     simp at this
    ·exact h1
    ·have:=h y.f0
     rw[iw,if_neg (by omega),iw,if_pos rfl,na _ (by omega)] at this
     simp at this
   have he:x=y:=by
    have:=h x.f0
    rw[iw,if_pos rfl,iw,if_pos hxy.symm,na _ (Int.le_refl _),nb _ (by omega)] at this
    simpa using this
   subst he
   rw[I9 a b ha'.2 hb'.2 (fun v=>by
    have:=h v
    rw[iw,iw] at this
    split at this
    ·exact (List.cons.inj this).2
    ·exact this)]
def qU (l:List bN) (t:Int):Nat→Nat
 | 0=>0
 | j+1=>if t≤(l.getD j z70).f0 then qU l t j else j+1
def yg (l:List bN) (s:bN):List bN:=
 if qU l s.f0 l.length<l.length∧(l.getD (qU l s.f0 l.length) z70).f0=s.f0 then l.set (qU l s.f0 l.length) s else l.take (qU l s.f0 l.length)++s::l.drop (qU l s.f0 l.length)
theorem F6 (l:List bN) (t:Int):∀ j,qU l t j≤j
 | 0=>Nat.le_refl _
 | j+1=>by
   rw[qU]
   split
   ·exact Nat.le_succ_of_le (F6 l t j)
   ·exact Nat.le_refl _
theorem yU (l:List bN) (t:Int):∀ j,(0<qU l t j→(l.getD (qU l t j-1) z70).f0<t)∧∀ i,qU l t j≤i→i<j→t≤(l.getD i z70).f0
 | 0=>⟨fun h=>by rw[qU] at h;omega,fun i _ h=>by omega⟩
 | j+1=>by
   rw[qU]
   by_cases h:t≤(l.getD j z70).f0
   ·rw[if_pos h]
    obtain⟨h1,h2⟩:=yU l t j
    refine⟨h1,fun i h3 h4=>?_⟩
    rcases Nat.lt_or_ge i j with h5 | h5
    ·exact h2 i h3 h5
    ·rw[show i=j from by omega];exact h
   ·rw[if_neg h]
    exact⟨fun _=>by rw[Nat.add_sub_cancel];omega,fun i h3 h4=>by omega⟩
theorem DV {l:List bN} (h:Rs l) {i j:Nat} (hij:i<j) (hj:j<l.length):(l.getD i z70).f0<(l.getD j z70).f0:=by
 have:=List.pairwise_iff_getElem.1 h i j (by omega) hj hij
 simpa [List.getD_eq_getElem?_getD,List.getElem?_eq_getElem (show i<l.length by omega),List.getElem?_eq_getElem hj] using this
theorem xw {l:List bN} (h:Rs l) (s:bN):∃ a b,(∀ x∈a,x.f0<s.f0)∧(∀ x∈b,s.f0<x.f0)∧yg l s=a++s::b∧Rs a∧Rs b∧(l=a++b∨∃ y,y.f0=s.f0∧l=a++y::b):=by
 obtain⟨p,hp⟩:∃ p,p=qU l s.f0 l.length:=⟨_,rfl⟩
 have hle:p≤l.length:=by rw[hp];exact F6 _ _ _
 obtain⟨h1,h2⟩:=yU l s.f0 l.length
 rw[← hp] at h1 h2
 have ht:∀ x∈l.take p,x.f0<s.f0:=fun x hx=>by
  obtain⟨i,hi,rfl⟩:=List.mem_iff_getElem.1 hx
  rw[List.length_take] at hi
  rw[List.getElem_take]
  have h3:=h1 (by omega)
  have e:l[i]'(by omega)=l.getD i z70:=by simp[List.getD_eq_getElem?_getD,List.getElem?_eq_getElem (show i<l.length by omega)]
  rw[e]
  rcases Nat.lt_or_ge i (p-1) with h4 | h4
  ·have:=DV h h4 (by omega)
   omega
  ·rw[show i=p-1 from by omega];exact h3
 have hRt:Rs (l.take p):=List.Pairwise.sublist (List.take_sublist _ _) h
 by_cases hc:p<l.length∧(l.getD p z70).f0=s.f0
 ·have eL:l.getD p z70=l[p]'hc.1:=by simp[List.getD_eq_getElem?_getD,List.getElem?_eq_getElem hc.1]
  refine⟨l.take p,l.drop (p+1),ht,fun x hx=>?_,?_,hRt,List.Pairwise.sublist (List.drop_sublist _ _) h,.inr ⟨l[p]'hc.1,by rw[← eL];exact hc.2,by rw[← List.drop_eq_getElem_cons hc.1,List.take_append_drop]⟩⟩
  ·obtain⟨i,hi,rfl⟩:=List.mem_iff_getElem.1 hx
   rw[List.length_drop] at hi
   rw[List.getElem_drop]
   have:=DV h (show p<p+1+i by omega) (by omega)
   rw[hc.2] at this
   simpa [List.getD_eq_getElem?_getD,List.getElem?_eq_getElem (show p+1+i<l.length by omega)] using this
  ·unfold yg
   rw[← hp,if_pos hc,List.set_eq_take_append_cons_drop,if_pos hc.1]
 ·refine⟨l.take p,l.drop p,ht,fun x hx=>?_,?_,hRt,List.Pairwise.sublist (List.drop_sublist _ _) h,.inl (by rw[List.take_append_drop])⟩
  ·obtain⟨i,hi,rfl⟩:=List.mem_iff_getElem.1 hx
   rw[List.length_drop] at hi
   rw[List.getElem_drop]
   have e:l[p+i]'(by omega)=l.getD (p+i) z70:=by simp[List.getD_eq_getElem?_getD,List.getElem?_eq_getElem (show p+i<l.length by omega)]
   rw[e]
   have h0:=h2 p (Nat.le_refl _) (by omega)
   have h0':s.f0<(l.getD p z70).f0:=by
    rcases Int.lt_or_eq_of_le h0 with h5 | h5
    ·exact h5
    ·exact absurd ⟨by omega,h5.symm⟩ hc
   rcases Nat.eq_zero_or_pos i with h6 | h6
   ·rw[h6];exact h0'
   ·have:=DV h (show p<p+i by omega) (by omega)
    omega
  ·unfold yg
   rw[← hp,if_neg hc]
theorem Ja {a b:List bN} {s:bN} (ha:∀ x∈a,x.f0<s.f0) (hb:∀ x∈b,s.f0<x.f0) (h1:Rs a) (h2:Rs b):Rs (a++s::b):=by
 refine List.pairwise_append.2 ⟨h1,List.pairwise_cons.2 ⟨hb,h2⟩,fun x hx y hy=>?_⟩
 rcases List.mem_cons.1 hy with rfl | hy
 ·exact ha x hx
 ·have:=ha x hx
  have:=hb y hy
  omega
theorem Gb {l:List bN} (h:Rs l) (s:bN):Rs (yg l s):=by
 obtain⟨a,b,ha,hb,he,h1,h2,_⟩:=xw h s
 rw[he]
 exact Ja ha hb h1 h2
theorem ML {l:List bN} (h:Rs l) (s:bN) (v:Int):at_ v (yg l s)=if s.f0=v then [s] else at_ v l:=by
 obtain⟨a,b,ha,hb,he,h1,h2,hl⟩:=xw h s
 rw[he,kD,iw]
 by_cases hv:s.f0=v
 ·rw[if_pos hv,if_pos hv,qz (fun x hx=>by have:=ha x hx;omega),qz (fun x hx=>by have:=hb x hx;omega)]
  rfl
 ·rw[if_neg hv,if_neg hv]
  rcases hl with hl | ⟨y,hy,hl⟩
  ·rw[hl,kD]
  ·rw[hl,kD,iw,if_neg (by omega)]
def sO (l:List bN) (xs:List bN):List bN:=xs.foldl yg l
def jd (xs:List bN):List bN:=sO [] xs
theorem y9:∀ (xs l:List bN),Rs l→Rs (sO l xs)
 | [],_,h=>h
 | x::xs,l,h=>y9 xs (yg l x) (Gb h x)
theorem za (v:Int):∀ (xs l:List bN),Rs l→at_ v (sO l xs)=((at_ v l++at_ v xs).getLast?).toList∨(at_ v xs=[]∧at_ v (sO l xs)=at_ v l)
 | [],l,h => .inr ⟨rfl,rfl⟩
 | x::xs,l,h=>by
   have ih:=za v xs (yg l x) (Gb h x)
   rw[ML h] at ih
   rw[iw]
   show at_ v (sO (yg l x) xs)=_∨_∧at_ v (sO (yg l x) xs)=_
   by_cases hv:x.f0=v
   ·rw[if_pos hv] at ih ⊢
    refine .inl ?_
    rcases ih with ih | ⟨h1,ih⟩
    ·rw[ih]
     simp[List.getLast?_append,List.getLast?_cons]
    ·rw[ih,h1]
     simp
   ·rw[if_neg hv] at ih ⊢
    exact ih
theorem zx:Rs []:=List.Pairwise.nil
theorem Ie (xs:List bN):Rs (jd xs):=y9 xs [] zx
theorem Ig (v:Int) (xs:List bN):at_ v (jd xs)=((at_ v xs).getLast?).toList:=by
 rcases za v xs [] zx with h | ⟨h1,h⟩
 ·exact h
 ·rw[jd,h,h1]
  rfl
theorem Fv (d:Array bN) (hs:jA uw d 0 d.size):∀ i,i≤d.size→Rs (cK d i)∧(∀ x∈cK d i,∃ j,j<i∧d[j]! = x)∧∀ v,at_ v (cK d i)=((at_ v (fB d 0 i)).head?).toList
 | 0,_=>⟨zx,(fun x h=>by cases h),fun v=>rfl⟩
 | i+1,hi=>by
   obtain⟨h1,h2,h3⟩:=Fv d hs i (by omega)
   have hseg:fB d 0 (i+1)=fB d 0 i++[d[i]!]:=by rw[kC d (Nat.zero_le i) (Nat.le_succ i),Az]
   rw[cK]
   by_cases hc:i=0∨d[i]!.f0≠d[i-1]!.f0
   ·rw[if_pos hc]
    have hlt:∀ j,j<i→d[j]!.f0<d[i]!.f0:=fun j hj=>by
     have k1:uw d[i-1]! ≤ uw d[i]! := hs (i-1) i (Nat.zero_le _) (by omega) (by omega)
     have k2:uw d[j]! ≤ uw d[i-1]! := by
      rcases Nat.lt_or_ge j (i-1) with k | k
      ·exact hs j (i-1) (Nat.zero_le _) k (by omega)
      ·rw[show j=i-1 from by omega];exact Int.le_refl _
     have k3:d[i]!.f0≠d[i-1]!.f0:=by
      rcases hc with hc | hc
      ·omega
      ·exact hc
     unfold uw at k1 k2
     omega
    refine⟨Ja (b:=[]) (fun x hx=>?_) (fun x hx=>by cases hx) h1 zx,fun x hx=>?_,fun v=>?_⟩
    ·obtain⟨j,hj,rfl⟩:=h2 x hx
     exact hlt j hj
    ·rcases List.mem_append.1 hx with hx | hx
     ·obtain⟨j,hj,he⟩:=h2 x hx
      exact⟨j,by omega,he⟩
     ·rw[List.mem_singleton] at hx
      exact⟨i,by omega,hx.symm⟩
    ·rw[hseg,kD,kD,h3,iw]
     by_cases hv:d[i]!.f0=v
     ·rw[if_pos hv]
      have hn:at_ v (fB d 0 i)=[]:=qz (fun x hx=>by
       obtain⟨t,_,ht,rfl⟩:=oF.1 hx
       have:=hlt t ht
       omega)
      rw[hn]
      rfl
     ·rw[if_neg hv]
      simp[at_]
   ·rw[if_neg hc]
    have hc1:0<i:=by rcases Nat.eq_zero_or_pos i with h | h;exact absurd (.inl h) hc;exact h
    have hc2:d[i]!.f0=d[i-1]!.f0:=Classical.not_not.1 (fun h=>hc (.inr h))
    refine⟨h1,fun x hx=>?_,fun v=>?_⟩
    ·obtain⟨j,hj,he⟩:=h2 x hx
     exact⟨j,by omega,he⟩
    ·rw[h3,hseg,kD,iw]
     by_cases hv:d[i]!.f0=v
     ·have hm:d[i-1]! ∈ at_ v (fB d 0 i):=List.mem_filter.2 ⟨oF.2 ⟨i-1,Nat.zero_le _,by omega,rfl⟩,by simp;omega⟩
      match hs2:at_ v (fB d 0 i) with
      | []=>rw[hs2] at hm;cases hm
      | y::r=>rfl
     ·rw[if_neg hv]
      simp[at_]
theorem EK (d d':Array bN) (hm:MG uw d.reverse 0 d.reverse.size d') (hs:jA uw d' 0 d'.size):cK d' d'.size=jd d.toList:=by
 obtain⟨h1,_,h3⟩:=Fv d' hs d'.size (Nat.le_refl _)
 refine I9 _ _ h1 (Ie _) (fun v=>?_)
 rw[h3,Ig]
 have e:=hm.2.2 v
 rw[← hm.1] at e
 rw[hm.1] at e
 have e2:at_ v (fB d' 0 d'.size)=at_ v d.toList.reverse:=by
  have h4:=hm.2.2 v
  rw[oN,← hm.1,oN] at h4
  rw[oN]
  have h5:at_ v d'.toList=at_ v d.reverse.toList:=h4
  rw[h5,Array.toList_reverse]
 rw[e2]
 unfold at_
 rw[List.filter_reverse,List.head?_reverse]
end Go.Proofs.YtcgbgifbajdhpaaGreatDoor.PA
namespace Go.Proofs.YtcgbgifbajdhpaaGreatDoor.PA
open Go.RowKit Go.Proofs.YtcgbgifbajdhpaaGreatDoor.G Go.Proofs.YtcgbgifbajdhpaaGreatDoorW.au Go.Proofs.YtcgbgifbajdhpaaGreatDoorW.aI Go.Proofs.YtcgbgifbajdhpaaGreatDoorW.aJ
def lq (l:List bN):List Value:=l.flatMap bE
theorem pX (x:bN) (l:List bN):lq (x::l) = .int .i64 x.f0 :: .int .u64 x.f1::lq l:=rfl
theorem rT:∀ (l:List bN),(lq l).length=l.length*2
 | []=>rfl
 | x::l=>by rw[pX,List.length_cons,List.length_cons,rT l,List.length_cons];omega
theorem rR:∀ (l:List bN) (j:Nat),j<l.length*2→(lq l)[j]? = (bE (l.getD (j / 2) z70))[j % 2]?
 | [],j,h=>by simp at h
 | x::l,0,_=>rfl
 | x::l,1,_=>rfl
 | x::l,j+2,h=>by
   rw[pX,List.getElem?_cons_succ,List.getElem?_cons_succ,rR l j (by rw[List.length_cons] at h;omega),show (j+2) / 2=j / 2+1 from by omega,show (j+2) % 2=j % 2 from by omega]
   rfl
theorem JV (d:Array bN) (i:Nat):d.toList.getD i z70=d[i]! := by
 rw[List.getD_eq_getElem?_getD,getElem!_def]
 simp only[Array.getElem?_toList]
 cases d[i]? <;> rfl
theorem Ca (x:bN) (j:Nat) (h:j<2):(bE x)[j]? = some (bE x)[j]! := by
 rcases (show j=0∨j=1 from by omega) with rfl | rfl<;>rfl
theorem MC {w:World} {base g cap:Nat} {l:List bN} (h:w.ownsRow base 70 2 (.slice (some ⟨g,0,none⟩) l.length cap) l.length (lq l)) (h0:0<l.length):Go.Proofs.RowK bE 2 w g 0 l.toArray∧l.length≤cap∧cap≤maxLen∧base≤g∧∃ cur,w.heap[g]? = some (.cells cur 70 (0,0))∧cur.size=cap*2:=by
 rcases h.2 with ⟨_,h1⟩ | ⟨g',cap',cur,he,hb,hh,h1,h2,h3,h4⟩
 ·omega
 ·have he':g=g'∧cap=cap':=by simpa using he
  obtain⟨rfl,rfl⟩:=he'
  refine⟨⟨JI,vR,fun j hj=>?_,dO hh⟩,h1,h2,hb,cur,hh,h3⟩
  rw[Sort.size_flatK] at hj
  have hj':j<l.length*2:=by simpa using hj
  refine⟨?_,aC hh _⟩
  rw[Nat.zero_add,av hh,Sort.get_flatK _ _ _ _ hj]
  have e1:cur[j]? = (lq l)[j]? := by
   rw[← h4,List.getElem?_take,if_pos hj']
   simp
  rw[e1,rR l j hj',Ca _ _ (Nat.mod_lt _ (by omega))]
  have e2:l.getD (j / 2) z70=l.toArray[j / 2]! := by rw[← JV]
  rw[e2]
  rfl
theorem zf {w W:World} {g:Nat} {d:Array bN} (h:SWK bE 2 w g 0 d W) (hg:g<w.heap.size) {cur:Array Value} (hh:w.heap[g]? = some (.cells cur 70 (0,0))) :
 w.grownBy W (some g)∧∃ cur',W.heap[g]? = some (.cells cur' 70 (0,0))∧cur'.size=cur.size:=by
 obtain⟨n,os,rfl⟩:=h
 refine⟨⟨rfl,rfl,rfl,by unfold Go.Proofs.sortWorldK Sort.putRowK Sort.grow;simp[Sort.ahead],fun k hk hne=>?_⟩,?_⟩
 ·unfold Go.Proofs.sortWorldK Sort.putRowK
  rw[Sort.heap_grow_old _ _ (by simp;exact hk)]
  show (Sort.mapBlock _ g _).heap[k]? = _
  unfold Sort.mapBlock
  simp[Array.getElem?_modify,Sort.ahead]
  intro e
  exact absurd (by rw[e]) hne
 ·unfold Go.Proofs.sortWorldK Sort.putRowK
  rw[Sort.heap_grow_old _ _ (by simp;exact hg)]
  show ∃ cur',(Sort.mapBlock _ g _).heap[g]? = _∧_
  unfold Sort.mapBlock
  have hh':(Sort.ahead w n).heap[g]? = some (.cells cur 70 (0,0)):=hh
  refine⟨_,by rw[Array.getElem?_modify,if_pos rfl,hh'];rfl,?_⟩
  simp[Sort.putCells]
theorem KU {w W:World} {base g cap m:Nat} {d:Array bN} (h:SWK bE 2 w g 0 d W) (hg:g<w.heap.size) {cur:Array Value} (hh:w.heap[g]? = some (.cells cur 70 (0,0))) (hc:cur.size=cap*2) {d0:Array bN} (R:Go.Proofs.RowK bE 2 w g 0 d0) (hs:d.size=d0.size) (hb:base≤g) (hm:m≤d.size) (hd:d.size≤cap) (hx:cap≤maxLen) :
 W.ownsRow base 70 2 (.slice (some ⟨g,0,none⟩) m cap) m (lq (fB d 0 m)):=by
 obtain⟨_,cur',h1,h2⟩:=zf h hg hh
 have hl:(fB d 0 m).length=m:=by rw[mZ,Nat.sub_zero]
 refine⟨by rw[rT,hl],.inr ⟨g,cap,cur',rfl,hb,h1,by omega,hx,by omega,?_⟩⟩
 apply List.ext_getElem?
 intro j
 by_cases hj:j<m*2
 ·have hH:=h.holds R.hblk R.hH hs
  have hc2:=(hH j (by rw[Sort.size_flatK];omega)).1
  rw[Nat.zero_add,av h1,Sort.get_flatK _ _ _ _ (by omega)] at hc2
  rw[List.getElem?_take,if_pos hj,rR _ _ (by rw[hl];exact hj),Ca _ _ (Nat.mod_lt _ (by omega))]
  have e2:(fB d 0 m).getD (j / 2) z70=d[j / 2]! := by
   rw[List.getD_eq_getElem?_getD]
   unfold fB
   simp[show j / 2<m from by omega]
  rw[e2]
  simpa using hc2
 ·rw[List.getElem?_eq_none (by rw[List.length_take];omega),List.getElem?_eq_none (by rw[rT,hl];omega)]
theorem D8.calls (base g cap:Nat) (l:List bN) (w:World) (h:w.ownsRow base 70 2 (.slice (some ⟨g,0,none⟩) l.length cap) l.length (lq l)) (h0:0<l.length) (hl:l.length≤1000000) :
 Calls Tryz.prog 73 #[.slice (some ⟨g,0,none⟩) l.length cap] w fun e w'=>e = .returned (.slice (some ⟨g,0,none⟩) (jd l).length cap)∧w'.ownsRow base 70 2 (.slice (some ⟨g,0,none⟩) (jd l).length cap) (jd l).length (lq (jd l))∧w.grownBy w' (some g):=by
 obtain⟨R,h1,h2,hb,cur,hh,hc⟩:=MC h h0
 have HR:=ah.mk R
 have HH:=ah.mk (And.intro hh hc)
 have hsz:l.toArray.size=l.length:=by simp
 have C1:=Ow.calls g 0 cap l.toArray w R (by rw[hsz];omega)
 rw[hsz] at C1
 have HC1:=ah.mk C1
 have HSZ:=ah.mk hsz
 have HSR:ah (l.toArray.reverse.size=l.length):=⟨by simp⟩
 have HX:=ah.mk (show g<w.heap.size from R.hblk)
 have HCP:=ah.mk (And.intro h1 (And.intro h2 hb))
 have hl2:l.length<1152921504606846976:=by omega
 clear h hh hc R C1 hsz h1 h2 hb h0
 generalize hn:l.length=n at *
 have HN:=ah.mk hn
 clear hn
 go_enter Tryz.func73,Tryz.ntmps73
 go_upto_region 2 with (first|(go_at_call 107;refine HC1.o.mono ?_;rintro _ w1 ⟨rfl,hS⟩;have S1:ah (SWK bE 2 w g 0 l.toArray.reverse w1):=⟨hS⟩;clear hS))
 have hc2:=EW.calls 108 BJ uw LM Jy.enters Jy.lays g 0 cap l.toArray.reverse w1 (SWK.row S1.o HR.o (by rw[HSR.o,HSZ.o])) (by rw[HSR.o];exact hl2)
 rw[HSR.o] at hc2
 have HC2:=ah.mk hc2
 clear hc2
 go_upto_region 4 with (first|(go_at_call 109;refine HC2.o.mono ?_;rintro _ w2 ⟨rfl,d2,hS,hm,hs⟩;have S2:ah (SWK bE 2 w1 g 0 d2 w2):=⟨hS⟩;have M2:=ah.mk (And.intro hm hs);clear hS hm hs))
 have HS2:ah (d2.size=n):=⟨M2.o.1.1.trans HSR.o⟩
 have S3:ah (SWK bE 2 w g 0 d2 w2):=ah.mk (SWK.trans S1.o HX.o S2.o M2.o.1.1)
 have hc3:=JA.calls g 0 cap d2 w2 (SWK.row S3.o HR.o (by rw[HS2.o,HSZ.o])) (by rw[HS2.o];exact HCP.o.1) (by rw[HS2.o];exact hl2)
 have he:cK d2 d2.size=jd l:=by
  have:=EK l.toArray d2 (by rw[HSR.o];exact M2.o.1) (by rw[HS2.o];exact M2.o.2)
  rw[this]
 rw[he,HS2.o] at hc3
 have HC3:=ah.mk hc3
 have HE:=ah.mk (show (jd l).length≤n from by rw[← he];exact Nat.le_trans (Nk d2 _) (by rw[HS2.o];exact Nat.le_refl _))
 clear hc3 he
 go_wp2_with (first|(go_at_call 110;refine HC3.o.mono ?_;rintro _ w3 ⟨rfl,d3,hS,hs3,hseg⟩;have S4:ah (SWK bE 2 w2 g 0 d3 w3):=⟨hS⟩;have M4:=ah.mk (And.intro hs3 hseg);clear hS hs3 hseg))
 go_ret
 have S5:=SWK.trans S3.o HX.o S4.o (M4.o.1.trans HS2.o.symm)
 refine⟨rfl,?_,(zf S5 HX.o HH.o.1).1⟩
 have:=KU S5 (base:=base) (m:=(jd l).length) (cap:=cap) HX.o HH.o.1 HH.o.2 HR.o (by rw[M4.o.1,HSZ.o]) HCP.o.2.2 (by rw[M4.o.1];exact HE.o) (by rw[M4.o.1];exact HCP.o.1) HCP.o.2.1
 rw[M4.o.2] at this
 exact this
def xW (G:List cB) (i:Nat) (t:List eP):List cB:=G.take i++[⟨t,[]⟩]++G.drop i
def Bn (G:List cB) (i:Nat) (ss:List bN):List cB:=G.set i ⟨(aK G (i:Int)).f0,(aK G (i:Int)).f1++ss⟩
def wB (G:List cB) (t:List eP):Bool:=decide (posB G t<G.length)&&decide (cmpL (aK G (posB G t:Int)).f0 t=0)
def lV (G:List cB) (t:List eP):List cB:=if wB G t=true then G else xW G (posB G t) t
def stepG (G:List cB) (s:cB):List cB:=if s.f1.length=0 then G else Bn (lV G s.f0) (posB G s.f0) s.f1
def dY (l:List cB):List cB:=l.foldl stepG []
def joinL (l:List cB):List cB:=(dY l).map (fun x=>⟨x.f0,jd x.f1⟩)
theorem qG (l:List cB) (x:cB):dY (l++[x])=stepG (dY l) x:=by simp[dY,List.foldl_append]
theorem dZ {l:List cB} {i:Nat} (h:i<l.length):aK l (i:Int)=l[i]:=by simp[aK,List.getD_eq_getElem?_getD,List.getElem?_eq_getElem h]
theorem L9 {G:List cB} {t:List eP} (h:wB G t=true):posB G t<G.length∧(aK G (posB G t:Int)).f0=t:=by
 unfold wB at h
 rw[Bool.and_eq_true,decide_eq_true_iff,decide_eq_true_iff] at h
 exact⟨h.1,(BN _ _).1 h.2⟩
theorem F8 (G:List cB) (t:List eP):posB G t<(lV G t).length∧(aK (lV G t) (posB G t:Int)).f0=t:=by
 unfold lV
 by_cases h:wB G t=true
 ·rw[if_pos h];exact L9 h
 ·rw[if_neg h]
  have hp:=qR G t
  have hl:posB G t<(xW G (posB G t) t).length:=by unfold xW;simp;omega
  refine⟨hl,?_⟩
  rw[dZ hl]
  unfold xW at hl ⊢
  rw[List.getElem_append_left (by simp;omega),List.getElem_append_right (by simp;omega)]
  simp
theorem Gq {G:List cB} (h:oU G) {t:List eP} (hn:wB G t=false):oU (xW G (posB G t) t):=by
 have hp:=qR G t
 have hgt:∀ i,posB G t≤i→(hi:i<G.length)→cmpL t G[i].f0<0:=fun i h1 hi=>by
  have h0:=Am G t (by omega)
  have h2:cmpL (aK G (posB G t:Int)).f0 t≠0:=fun e=>by
   unfold wB at hn
   rw[e] at hn
   simp at hn
   omega
  have h3:cmpL t (aK G (posB G t:Int)).f0<0:=by rw[yE];omega
  rcases Nat.lt_or_eq_of_le h1 with h4 | h4
  ·have h5:=Bh h h4 hi
   rw[dZ hi] at h5
   exact pW _ _ _ h3 h5
  ·rw[← dZ hi,← h4]
   exact h3
 unfold xW
 unfold oU at h ⊢
 have hh:=h
 rw[← List.take_append_drop (posB G t) G] at hh
 obtain⟨p1,p2,p3⟩:=List.pairwise_append.1 hh
 refine List.pairwise_append.2 ⟨List.pairwise_append.2 ⟨p1,List.pairwise_singleton _ _,fun a ha b hb=>?_⟩,p2,fun a ha b hb=>?_⟩
 ·rw[List.mem_singleton] at hb
  subst hb
  obtain⟨i,hi,rfl⟩:=List.mem_iff_getElem.1 ha
  rw[List.length_take] at hi
  rw[List.getElem_take]
  have:=Ao G t i (by omega)
  rw[dZ (by omega)] at this
  exact this
 ·rcases List.mem_append.1 ha with ha | ha
  ·exact p3 a ha b hb
  ·rw[List.mem_singleton] at ha
   subst ha
   obtain⟨i,hi,rfl⟩:=List.mem_iff_getElem.1 hb
   rw[List.length_drop] at hi
   rw[List.getElem_drop]
   exact hgt _ (by omega) (by omega)
theorem Gr {G:List cB} (h:oU G) (t:List eP):oU (lV G t):=by
 unfold lV
 by_cases hh:wB G t=true
 ·rw[if_pos hh];exact h
 ·rw[if_neg hh];exact Gq h (by simpa using hh)
theorem Jb {G H:List cB} (h:oU G) (he:H.map (·.f0)=G.map (·.f0)):oU H:=by
 have h1:(G.map (·.f0)).Pairwise (fun a b=>cmpL a b<0):=List.pairwise_map.2 h
 rw[← he] at h1
 exact List.pairwise_map.1 h1
theorem LC (G:List cB) (i:Nat) (ss:List bN):(Bn G i ss).map (·.f0)=G.map (·.f0):=by
 unfold Bn
 rw[List.map_set]
 apply List.ext_getElem
 ·simp
 ·intro j h1 h2
  rw[List.getElem_set]
  split
  ·rename_i hij
   subst hij
   simp at h2 ⊢
   rw[dZ h2]
  ·rfl
theorem DW {G:List cB} (h:oU G) (s:cB):oU (stepG G s):=by
 unfold stepG
 split
 ·exact h
 ·exact Jb (Gr h s.f0) (LC _ _ _)
theorem Jc:oU []:=List.Pairwise.nil
theorem yx:∀ (l G:List cB),oU G→oU (l.foldl stepG G)
 | [],_,h=>h
 | x::l,G,h=>yx l _ (DW h x)
theorem Bj (l:List cB):oU (dY l):=yx l [] Jc
theorem Ku (G:List cB) (t:List eP):(lV G t).length≤G.length+1:=by
 unfold lV xW
 split
 ·omega
 ·simp;omega
theorem Ij (G:List cB) (s:cB):(stepG G s).length≤G.length+1:=by
 unfold stepG
 split
 ·omega
 ·unfold Bn;rw[List.length_set];exact Ku G s.f0
theorem Dg {G:List cB} {t:List eP} {x:cB} (h:x∈lV G t):x∈G∨x=⟨t,[]⟩:=by
 unfold lV at h
 split at h
 ·exact .inl h
 ·unfold xW at h
  rcases List.mem_append.1 h with h | h
  ·rcases List.mem_append.1 h with h | h
   ·exact .inl (List.mem_of_mem_take h)
   ·exact .inr (by simpa using h)
  ·exact .inl (List.mem_of_mem_drop h)
theorem EF (G:List cB) (t:List eP) (j:Nat) (hj:j<(lV G t).length) (hne:posB G t≠j):(lV G t)[j]∈G:=by
 have hp:=qR G t
 unfold lV at hj ⊢
 by_cases hh:wB G t=true
 ·simp only[if_pos hh] at hj ⊢
  exact List.getElem_mem hj
 ·simp only[if_neg hh] at hj ⊢
  unfold xW at hj ⊢
  rcases Nat.lt_or_ge j (posB G t) with h | h
  ·rw[List.getElem_append_left (by simp;omega),List.getElem_append_left (by simp;omega),List.getElem_take]
   exact List.getElem_mem _
  ·rw[List.getElem_append_right (by simp;omega),List.getElem_drop]
   exact List.getElem_mem _
theorem ze {P:cB→Prop} {G:List cB} {s:cB} (h:∀ x∈G,P x) (h0:s.f1.length≠0→P ⟨s.f0,s.f1⟩) (h1:s.f1.length≠0→∀ x∈G,x.f0=s.f0→P ⟨s.f0,x.f1++s.f1⟩):∀ x∈stepG G s,P x:=by
 intro x hx
 unfold stepG at hx
 split at hx
 ·exact h x hx
 ·rename_i hs
  obtain⟨hp,hf⟩:=F8 G s.f0
  obtain⟨j,hj,rfl⟩:=List.mem_iff_getElem.1 hx
  have hj':j<(lV G s.f0).length:=by unfold Bn at hj;rw[List.length_set] at hj;exact hj
  clear hx
  unfold Bn at hj ⊢
  rw[List.getElem_set]
  split
  ·rename_i hij
   have hm:aK (lV G s.f0) (posB G s.f0:Int)∈lV G s.f0:=by rw[dZ hp];exact List.getElem_mem hp
   rcases Dg hm with hm | hm
   ·rw[hf];exact h1 hs _ hm hf
   ·rw[hf,hm];exact h0 hs
  ·rename_i hij
   exact h _ (EF G s.f0 j hj' hij)
theorem wm {P:cB→Prop}:∀ (l G:List cB),(∀ x∈G,P x)→(∀ s∈l,s.f1.length≠0→P ⟨s.f0,s.f1⟩)→(∀ s∈l,s.f1.length≠0→∀ a,P ⟨s.f0,a⟩→P ⟨s.f0,a++s.f1⟩)→∀ x∈l.foldl stepG G,P x
 | [],_,h,_,_=>h
 | s::l,G,h,h0,h1=>wm l _ (ze h (fun hs=>h0 s (List.mem_cons_self ..) hs) (fun hs x hx hf=>by
    have:=h1 s (List.mem_cons_self ..) hs x.f1
    rw[← hf] at this ⊢
    exact this (h x hx))) (fun x hx=>h0 x (List.mem_cons_of_mem _ hx)) (fun x hx=>h1 x (List.mem_cons_of_mem _ hx))
theorem En (l:List cB):∀ x∈dY l,x.f1.length≠0:=wm (P:=fun x=>x.f1.length≠0) l [] (fun x hx=>by cases hx) (fun s _ hs=>hs) (fun s _ hs a ha=>by show (a++s.f1).length≠0;rw[List.length_append];omega)
theorem Em (l:List cB):∀ x∈dY l,∃ s∈l,x.f0=s.f0:=wm (P:=fun x=>∃ s∈l,x.f0=s.f0) l [] (fun x hx=>by cases hx) (fun s hs _=>⟨s,hs,rfl⟩) (fun s hs _ a ha=>ha)
def tot:List cB→Nat
 | []=>0
 | x::l=>x.f1.length+tot l
theorem q9:∀ (l:List cB) (x:cB),tot (l++[x])=tot l+x.f1.length
 | [],x=>by simp[tot]
 | y::l,x=>by rw[List.cons_append,tot,tot,q9 l x];omega
theorem lM (l:List cB):∀ k,tot (l.take k)≤tot l:=by
 induction l with
 | nil=>intro k;simp
 | cons x l ih=>
   intro k
   cases k with
   | zero=>simp[tot]
   | succ k=>rw[List.take_succ_cons,tot,tot];have:=ih k;omega
theorem pY (l:List cB):∀ k,k≤l.length→(dY (l.take k)).length≤k∧∀ x∈dY (l.take k),x.f1.length≤tot (l.take k)
 | 0,_=>by simp[dY]
 | k+1,hk=>by
   obtain⟨h1,h2⟩:=pY l k (by omega)
   rw[List.take_succ_eq_append_getElem hk,qG,q9]
   refine⟨Nat.le_trans (Ij _ _) (by omega),ze (fun x hx=>by have:=h2 x hx;omega) (fun _=>by show l[k].f1.length≤_;omega) (fun _ x hx _=>by show (x.f1++l[k].f1).length≤_;rw[List.length_append];have:=h2 x hx;omega)⟩
theorem Co (l:List cB):(dY l).length≤l.length∧∀ x∈dY l,x.f1.length≤tot l:=by
 have:=pY l l.length (Nat.le_refl _)
 rwa [List.take_length] at this
end Go.Proofs.YtcgbgifbajdhpaaGreatDoor.PA
