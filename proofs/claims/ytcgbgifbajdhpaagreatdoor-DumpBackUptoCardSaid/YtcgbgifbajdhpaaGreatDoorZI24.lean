/- Of the law rZIQDumpBack. -/
import Derived.Test.YtcgbgifbajdhpaaGreatDoorZI7
import Derived.Shelf.Spec.SlicesInsert
import Derived.Lib.AppendZerosOnto
set_option linter.unusedVariables false
set_option linter.unusedSimpArgs false
set_option maxHeartbeats 4000000
set_option maxRecDepth 100000
namespace Go
abbrev dU:=@List.mem_of_mem_drop
abbrev fB:=@List.take_append_drop
abbrev fV:=@List.flatten_cons
abbrev gF:=@List.take_left'
abbrev jr:=@List.drop_left'
abbrev jw:=@List.flatten_append
abbrev jM:=@List.drop_drop
abbrev kQ:=@Go.Addr.add_lit
abbrev kV:=@Go.Calls.mono
abbrev oF:=@Nat.min_def
end Go
namespace Go.Proofs.Y.PA
open Go.RowKit Go.Proofs.Y.G Go.Proofs.YW.o7 Go.Proofs.YW.pJ Go.Proofs.YW.pO
theorem AY (w:World)(dT sT ty elem:TypeId)(b o dLen dCap:Nat)(a:Addr)(sLen sCap:Nat)(cs:List Value)
 (hu:Tryz.prog.underlying dT=some (.slice elem)) (hs:(Tryz.prog.info? elem).map (·.size)=some 2) (hn:Nat.min sLen dLen*2=cs.length)
 (hsrc:∀ j v,cs[j]? = some v→w.cell? (a.add j)=some v) (hc:∀ j,j<cs.length→(w.cell? ⟨b,o+j,none⟩).isSome=true) (hf:∀ j,j<cs.length→w.frozen? ⟨b,o+j,none⟩=false) (h1:∀ v∈cs,v.oneCell'=true) :
 (Builtin.copy_ #[dT,sT] ty #[.slice (some ⟨b,o,none⟩) dLen dCap,.slice (some a) sLen sCap]).run Tryz.prog w = .ok (goInt (Nat.min sLen dLen:Nat)) (w.setCells b o cs):=by
 have hl:=run_loadCells_list (P:=Tryz.prog) w a cs hsrc;have hst:=mV (P:=Tryz.prog) b o cs 0 w (by simpa using hc) (by simpa using hf) h1;cases hq:Tryz.prog.info? elem with
 | none=>simp[hq] at hs
 | some i=>
   have hi:i.size=2:=by simpa [hq] using hs
   simp[Builtin.copy_,eY hu,Builtin.lenOf,Builtin.firstCells,sizeOf,typeInfo,hq,hi,hn,hl,hst]
theorem yI:(Tryz.prog.info? 51).map (·.size)=some 2:=by kernel_rfl
theorem Oo:∀ w,(Go.sizeOf 51).run Tryz.prog w = .ok 2 w:=fun w=>by kernel_rfl
theorem KD {g:Nat}{e:TypeId}{w:World}{cur:Array Value}{xs c:List Value}{n i cap base:Nat}(hg:w.heap[g]? = some (.cells cur e (0,0)))(hx:xs.length=n*2)(hcur:cur.toList.take (n*2)=xs)(hc:c.length=2)(hsz:cur.size=cap*2)(hi:i≤n)(hcap:n+1≤cap)(hcm:cap≤maxLen)(hb:base≤g) :
 ((w.setCells g ((i+1)*2) (xs.drop (i*2))).setCells g (i*2) c).ownsRow base e 2 (.slice (some ⟨g,0,none⟩) (n+1) cap) (n+1) (xs.take (i*2)++c++xs.drop (i*2))∧w.grownBy ((w.setCells g ((i+1)*2) (xs.drop (i*2))).setCells g (i*2) c) (some g):=by
 obtain⟨adq,h1,h2,h3⟩:=tQ (xs.drop (i*2)) ((i+1)*2) w cur hg (by rw[bB];omega);obtain⟨agt,h4,h5,h6⟩:=tQ c (i*2) _ adq h1 (by omega);obtain⟨s1,s2,s3,s4⟩:=uF g (xs.drop (i*2)) ((i+1)*2) w;obtain⟨t1,t2,t3,t4⟩:=uF g c (i*2) (w.setCells g ((i+1)*2) (xs.drop (i*2)));refine⟨⟨by simp;omega,.inr ⟨g,cap,agt,rfl,hb,h4,by omega,hcm,by omega,?_⟩⟩,⟨t1.trans s1,t2.trans s2,t3.trans s3,by rw[t4,s4];exact aD _,fun k _ hk=>by rw[tO _ _ k (fun e=>hk (by rw[e])),tO _ _ k (fun e=>hk (by rw[e]))]⟩⟩;have hl:cur.toList.length=cap*2:=by rw[iG,hsz]
 have hA:(List.take ((i+1)*2) cur.toList++xs.drop (i*2)++List.drop ((i+1)*2+(xs.drop (i*2)).length) cur.toList).take (i*2)=xs.take (i*2):=by
  rw[bH,iK (by rw[bG];omega),nC,dY (by omega),← hcur,nC,dY (by omega)]
 have hB:(List.take ((i+1)*2) cur.toList++xs.drop (i*2)++List.drop ((i+1)*2+(xs.drop (i*2)).length) cur.toList).drop (i*2+c.length)=xs.drop (i*2)++List.drop ((i+1)*2+(xs.drop (i*2)).length) cur.toList:=by
  rw[bH,jr (by rw[bG,hc];omega)]
 rw[h6,h3,hA,hB,← bH,gF (by simp;omega)]
theorem Kl (base g cap n i vb:Nat)(xs:List Value)(c0 c1:Value)(w:World)(h:w.ownsRow base 51 2 (.slice (some ⟨g,0,none⟩) n cap) n xs)(hx1:∀ v∈xs,v.oneCell'=true)(hi:i<n)(hcap:n+1≤cap)
 (hv:w.heap[vb]? = some (.cells #[c0,c1] 51 (0,0))) (hne:vb≠g) (h0:c0.oneCell'=true) (h1:c1.oneCell'=true) :
 Calls Tryz.prog 72 #[.slice (some ⟨g,0,none⟩) n cap,.int .i64 i,.slice (some ⟨vb,0,none⟩) 1 1] w fun e w'=>e = .returned (.slice (some ⟨g,0,none⟩) (n+1) cap)∧w'=(w.drew.setCells g ((i+1)*2) (xs.drop (i*2))).setCells g (i*2) [c0,c1]:=by
 obtain⟨hxl,hr⟩:=h;rcases hr with ⟨hno,_⟩ | ⟨g',cap',cur,he,hb,hg,hnc,hcm,hcs,htk⟩
 ·cases hno
 ·have he':g=g'∧cap=cap':=by simpa using he
  obtain⟨rfl,rfl⟩:=he'
  have hcm':cap≤9223372036854775807:=by have:maxLen≤9223372036854775807:=by decide
                                        omega
  have hxj:∀ k v,xs[k]? = some v→cur[k]? = some v:=fun k v hk=>by
   have hkl:k<n*2:=by have:=(List.getElem?_eq_some_iff.1 hk).1;omega
   rw[← jF];rw[← htk,dH,ak hkl] at hk;exact hk
  have hsome:∀ (W:World) (cu:Array Value),W.heap[g]? = some (.cells cu 51 (0,0))→cu.size=cap*2→∀ k,k<cap*2→(W.cell? ⟨g,k,none⟩).isSome=true:=fun W cu hW hz k hk=>by
   rw[pq hW,iy (by omega)];rfl
  have hcp1:∀ ty dc sc,(Builtin.copy_ #[22,22] ty #[.slice (some ⟨g,(i+1)*2,none⟩) (n-i) dc,.slice (some ⟨g,i*2,none⟩) (n+1-i) sc]).run Tryz.prog w.drew = .ok (goInt (Nat.min (n+1-i) (n-i):Nat)) (w.drew.setCells g ((i+1)*2) (xs.drop (i*2))):=fun ty dc sc=>
   AY w.drew _ _ ty 51 g ((i+1)*2) (n-i) dc ⟨g,i*2,none⟩ (n+1-i) sc (xs.drop (i*2)) Tryz.underlying22 yI (by rw[bB,hxl];simp only[oF];split<;>omega)
    (fun j v hj=>by
     rw[kQ];show w.cell? _=_;rw[pq hg];exact hxj _ v (by rwa [fF] at hj))
    (fun j hj=>by rw[bB,hxl] at hj;exact hsome w cur hg hcs _ (by omega)) (fun j hj=>pE hg _) (fun v hv'=>hx1 v (dU hv'))
  obtain⟨adq,k1,k2,k3⟩:=tQ (xs.drop (i*2)) ((i+1)*2) w.drew cur hg (by rw[bB];omega);have hv1:(w.drew.setCells g ((i+1)*2) (xs.drop (i*2))).heap[vb]? = some (.cells #[c0,c1] 51 (0,0)):=by rw[tO _ _ vb hne];exact hv
  have hv0:w.heap[vb]? = some (.cells #[c0,c1] 51 (0,0)):=hv;have hov:∀ lb cb,(callFunc 105 #[.slice (some ⟨vb,0,none⟩) 1 1,.slice (some ⟨g,(i+1)*2,none⟩) lb cb]).run Tryz.prog w = .ok (.value (.bool false)) w:=fun lb cb=>by
   rw[run_callFunc_extern Tryz.func105 (by kernel_rfl) (by kernel_rfl) (by kernel_rfl) (e:=Extern.SlicesOverlaps.overlaps #[22,22] #[4]) (by kernel_rfl),
    Lib.run_overlaps_apart w 22 4 51 Tryz.underlying22 2 Oo ⟨vb,0,none⟩ ⟨g,(i+1)*2,none⟩ 1 1 lb cb hne 51 51 2 (cap*2) (by simp[World.shape?,hv]) (by simp[World.shape?,hg,hcs]) (by omega) (pE hv _) (pE hv _)]
   rfl
  obtain⟨W1,hW1⟩:∃ W1,W1=w.drew.setCells g ((i+1)*2) (xs.drop (i*2)):=⟨_,rfl⟩;rw[← hW1] at hcp1 k1 hv1 ⊢;have hcp2:∀ ty dc,(Builtin.copy_ #[22,22] ty #[.slice (some ⟨g,i*2,none⟩) (n+1-i) dc,.slice (some ⟨vb,0,none⟩) 1 1]).run Tryz.prog W1 = .ok (goInt (Nat.min 1 (n+1-i):Nat)) (W1.setCells g (i*2) [c0,c1]):=fun ty dc=>
   AY W1 _ _ ty 51 g (i*2) (n+1-i) dc ⟨vb,0,none⟩ 1 1 [c0,c1] Tryz.underlying22 yI (by simp only[oF];split<;>simp<;>omega)
    (fun j v hj=>by
     rw[kQ,pq hv1,dX]
     simpa using hj)
    (fun j hj=>by simp at hj;exact hsome W1 adq k1 (by omega) _ (by omega)) (fun j hj=>pE k1 _) (fun v hv'=>by simp at hv';rcases hv' with rfl | rfl<;>assumption)
  have mixed:Tryz.prog.follows .mixedOrders=true:=by kernel_rfl
  have HW1:=Yu hW1;have hin:i≤n:=by omega
  have hw1:IntKind.i64.wrap ((i:Int)+1)=(i:Int)+1:=by rw[bI];omega
  have hb1:(0:Int)≤(i:Int)+1:=by omega
  have htn:((i:Int)+1).toNat=i+1:=by omega
  have hb3:(i:Int)≤(n:Int)+1:=by omega
  have hb5:(i:Int)≤(n:Int):=by omega
  have hz2:¬ ((i:Int)=(n:Int)):=by omega
  have hz3:¬ ((n:Int)+1>(cap:Int)):=by omega
  have hb2:¬ (cap=i+1):=by omega
  have hb4:¬ (cap=i):=by omega
  clear hW1 hv hg k1 k3 hv1 hv0 hsome hxj htk hxl hx1
  go_enter Tryz.func72,Tryz.ntmps72
  go_wp2_with (simp only[hov])
  go_region_law_o (refine step_copy_runI rfl _ _ 22 22 rfl _ _ (by simp[Act.eval,Act.put]) (by simp[Act.eval,Act.put]) (hcp1 _ _ _) ?_)
  go_wp2_with (at_builtin;refine wpList_copy_runI _ rfl _ _ 22 22 rfl _ _ rfl rfl (hcp2 _ _) ?_)
  go_ret;exact⟨rfl,rfl⟩
theorem SH {B:Nat}{e:TypeId}{w:World}{cur:Array Value}{xs c:List Value}{n i cap base:Nat}(hg:w.heap[B]? = some (.cells cur e (0,0)))(hx:xs.length=n*2)(hcur:cur.toList.take (i*2)=xs.take (i*2))(hc:c.length=2)(hsz:cur.size=cap*2)(hi:i≤n)(hcap:n+1≤cap)(hcm:cap≤maxLen)(hb:base≤B) :
 ((w.setCells B (i*2) c).drew.setCells B ((i+1)*2) (xs.drop (i*2))).ownsRow base e 2 (.slice (some ⟨B,0,none⟩) (n+1) cap) (n+1) (xs.take (i*2)++c++xs.drop (i*2))∧w.grownBy ((w.setCells B (i*2) c).drew.setCells B ((i+1)*2) (xs.drop (i*2))) (some B):=by
 obtain⟨adq,h1,h2,h3⟩:=tQ c (i*2) w cur hg (by omega);have h1':(w.setCells B (i*2) c).drew.heap[B]? = some (.cells adq e (0,0)):=h1;obtain⟨agt,h4,h5,h6⟩:=tQ (xs.drop (i*2)) ((i+1)*2) _ adq h1' (by rw[bB];omega);obtain⟨s1,s2,s3,s4⟩:=uF B c (i*2) w;obtain⟨t1,t2,t3,t4⟩:=uF B (xs.drop (i*2)) ((i+1)*2) (w.setCells B (i*2) c).drew;have hl:cur.toList.length=cap*2:=by rw[iG,hsz]
 have hA:(List.take (i*2) cur.toList++c++List.drop (i*2+c.length) cur.toList).take ((i+1)*2)=xs.take (i*2)++c:=by
  rw[gF (by rw[bg,bG];omega),hcur]
 refine⟨⟨by simp;omega,.inr ⟨B,cap,agt,rfl,hb,h4,by omega,hcm,by omega,?_⟩⟩,⟨t1.trans s1,t2.trans s2,t3.trans s3,by rw[t4];show w.heap.size≤(w.setCells B (i*2) c).heap.size;rw[s4];exact aD _,fun k _ hk=>?_⟩⟩
 ·rw[h6,h3,hA,gF (by simp;omega)]
 ·rw[tO _ _ k (fun e=>hk (by rw[e]))];show (w.setCells B (i*2) c).heap[k]? = _;rw[tO _ _ k (fun e=>hk (by rw[e]))]
theorem Md (base g cap n i vb:Nat)(xs:List Value)(c0 c1:Value)(w:World)(h:w.ownsRow base 51 2 (.slice (some ⟨g,0,none⟩) n cap) n xs)(hx1:∀ v∈xs,v.oneCell'=true)(hi:i<n)(hcap:cap<n+1)(hbig:n≤1000000)
 (hv:w.heap[vb]? = some (.cells #[c0,c1] 51 (0,0))) (h0:c0.oneCell'=true) (h1:c1.oneCell'=true) (hbase:base≤w.heap.size) :
 Calls Tryz.prog 72 #[.slice (some ⟨g,0,none⟩) n cap,.int .i64 i,.slice (some ⟨vb,0,none⟩) 1 1] w fun e w'=>∃ cap',e = .returned (.slice (some ⟨w.heap.size,0,none⟩) (n+1) cap')∧w'.ownsRow base 51 2 (.slice (some ⟨w.heap.size,0,none⟩) (n+1) cap') (n+1) (xs.take (i*2)++[c0,c1]++xs.drop (i*2))∧Below w.heap.size w w':=by
 obtain⟨hxl,hr⟩:=h;rcases hr with ⟨hno,_⟩ | ⟨g',cap',cur,he,hb,hg,hnc,hcm,hcs,htk⟩
 ·cases hno
 ·have he':g=g'∧cap=cap':=by simpa using he
  obtain⟨rfl,rfl⟩:=he';have hxj:∀ k v,xs[k]? = some v→cur[k]? = some v:=fun k v hk=>by
   have hkl:k<n*2:=by have:=(List.getElem?_eq_some_iff.1 hk).1;omega
   rw[← jF];rw[← htk,dH,ak hkl] at hk;exact hk
  obtain⟨i0,hi0,hz0,hzs,hzb⟩:=info_parts zl;have hold:(Builtin.firstCells i0.size i (.slice (some ⟨g,0,none⟩) i cap)).run Tryz.prog w.drew = .ok (xs.take (i*2)).toArray w.drew:=by
   rw[hzs];exact run_firstCells_some w.drew 2 i ⟨g,0,none⟩ i cap (xs.take (i*2)) (by rw[bG];omega) (fun j v hj=>by
    rw[kQ,dX];rw[dH] at hj;split at hj
    ·show w.cell? _=_;rw[pq hg];exact hxj j v hj
    ·cases hj)
  have hik:i+(n+1-i)=n+1:=by omega
  have hkk:(n:Int)+1-(i:Int)=((n+1-i:Nat):Int):=by omega
  have hfit:Builtin.nextslicecap (i+(n+1-i)) cap*i0.bytes≤281474976710656:=by
   rw[hzb,hik];exact growslice_fits (by omega) (by omega)
  obtain⟨G,hG⟩:∃ G,G=grownCap w (n+1) cap 51:=⟨_,rfl⟩;have hG1:n+1≤G:=by rw[hG];exact grownCap_ge w (n+1) cap _
  have hG2:G≤maxLen:=by rw[hG];exact grownCap_le_maxLen w (n+1) cap _ (by have:(2000000:Nat)≤maxLen:=by decide
                                                                          omega)
  obtain⟨ROW,hROW⟩:∃ ROW:Array Value,ROW=(xs.take (i*2)).toArray++Builtin.zeroCells (Value.agg #[.slice none 0 0,.slice none 0 0]).cells (n+1-i)++Builtin.zeroCells (Value.agg #[.slice none 0 0,.slice none 0 0]).cells (G-(n+1)):=⟨_,rfl⟩;have hRs:ROW.size=G*2:=by
   rw[hROW];simp[Builtin.zeroCells,Value.cells];omega
  have hRt:ROW.toList.take (i*2)=xs.take (i*2):=by
   rw[hROW,nk,nk,bH,gF (by simp;omega)]
  have hrz:∀ ty,(Builtin.append_ #[22,3] ty #[.slice (some ⟨g,0,none⟩) i cap,.int .i64 ((n:Int)+1-(i:Int))]).run Tryz.prog w = .ok (.slice (some ⟨w.heap.size,0,none⟩) (n+1) G) (w.drew.alloc (.cells ROW 51)):=fun ty=>by
   have h:=Lib.run_append_grow_zeros w 22 3 ty 51 i0 _ .i64 .i64 Tryz.underlying22 Tryz.underlying3 hi0 hz0 (some ⟨g,0,none⟩) i cap (xs.take (i*2)) hold (n+1-i) (by omega) (by omega) (by omega) (by omega) (by rw[hzb];omega) hfit;rw[hik,← hG,← hROW] at h;rw[hkk];exact h
  have hB1:(w.drew.alloc (.cells ROW 51)).heap[w.heap.size]? = some (.cells ROW 51 (0,0)):=kK w.drew _;have hgl:=rE hg;have hvl:=rE hv;have hg1:(w.drew.alloc (.cells ROW 51)).heap[g]? = some (.cells cur 51 (0,0)):=by rw[oH w.drew _ hgl];exact hg
  have hv1:(w.drew.alloc (.cells ROW 51)).heap[vb]? = some (.cells #[c0,c1] 51 (0,0)):=by rw[oH w.drew _ hvl];exact hv
  obtain⟨hO,hGr⟩:=SH (base:=base) (n:=n) (i:=i) (cap:=G) (c:=[c0,c1]) hB1 hxl hRt rfl hRs (by omega) hG1 hG2 hbase;have hBel:Below w.heap.size w ((((w.drew.alloc (.cells ROW 51)).setCells w.heap.size (i*2) [c0,c1]).drew.setCells w.heap.size ((i+1)*2) (xs.drop (i*2)))):=
   (bq w.heap.size w).drew.alloc (aD _) _ |>.grown hGr (by show w.heap.size≤(w.drew.alloc _).heap.size;simp) (fun k hk=>by cases hk;exact aD _)
  obtain⟨W1,hW1⟩:∃ W1,W1=w.drew.alloc (.cells ROW 51):=⟨_,rfl⟩;rw[← hW1] at hrz hB1 hg1 hv1 hO hBel;have hcp1:∀ ty,(Builtin.copy_ #[22,22] ty #[.slice (some ⟨w.heap.size,i*2,none⟩) (n+1-i) (G-i),.slice (some ⟨vb,0,none⟩) 1 1]).run Tryz.prog W1 = .ok (goInt (Nat.min 1 (n+1-i):Nat)) (W1.setCells w.heap.size (i*2) [c0,c1]):=fun ty=>
   AY W1 _ _ ty 51 w.heap.size (i*2) (n+1-i) (G-i) ⟨vb,0,none⟩ 1 1 [c0,c1] Tryz.underlying22 yI (by simp only[oF];split<;>simp<;>omega)
    (fun j v hj=>by
     rw[kQ,pq hv1,dX]
     simpa using hj)
    (fun j hj=>by simp at hj;rw[pq hB1,iy (by omega)];rfl) (fun j hj=>pE hB1 _) (fun v hv'=>by simp at hv';rcases hv' with rfl | rfl<;>assumption)
  obtain⟨adq,k1,k2,_⟩:=tQ [c0,c1] (i*2) W1 ROW hB1 (by simp;omega);have hg2:(W1.setCells w.heap.size (i*2) [c0,c1]).heap[g]? = some (.cells cur 51 (0,0)):=by rw[tO _ _ g (by omega)];exact hg1
  obtain⟨W2,hW2⟩:∃ W2,W2=W1.setCells w.heap.size (i*2) [c0,c1]:=⟨_,rfl⟩;rw[← hW2] at hcp1 k1 hg2 hO hBel;have hcp2:∀ ty,(Builtin.copy_ #[22,22] ty #[.slice (some ⟨w.heap.size,(i+1)*2,none⟩) (n-i) (G-(i+1)),.slice (some ⟨g,i*2,none⟩) (n-i) (cap-i)]).run Tryz.prog W2.drew = .ok (goInt (Nat.min (n-i) (n-i):Nat)) (W2.drew.setCells w.heap.size ((i+1)*2) (xs.drop (i*2))):=fun ty=>
   AY W2.drew _ _ ty 51 w.heap.size ((i+1)*2) (n-i) _ ⟨g,i*2,none⟩ (n-i) _ (xs.drop (i*2)) Tryz.underlying22 yI (by rw[bB,hxl];simp only[oF];split<;>omega)
    (fun j v hj=>by
     rw[kQ];show W2.cell? _=_;rw[pq hg2];exact hxj _ v (by rwa [fF] at hj))
    (fun j hj=>by
     rw[bB,hxl] at hj;show (W2.cell? _).isSome=true;rw[pq k1,iy (by omega)];rfl) (fun j hj=>pE (w:=W2) k1 _) (fun v hv'=>hx1 v (dU hv'))
  have mixed:Tryz.prog.follows .mixedOrders=true:=by kernel_rfl
  have HO:=Yu hO;have aiU:=Yu hBel;have hin:i≤n:=by omega
  have hw1:IntKind.i64.wrap ((i:Int)+1)=(i:Int)+1:=by rw[bI];omega
  have hb1:(0:Int)≤(i:Int)+1:=by omega
  have htn:((i:Int)+1).toNat=i+1:=by omega
  have hb3:(i:Int)≤(n:Int)+1:=by omega
  have hb5:(i:Int)≤(n:Int):=by omega
  have hz2:¬ ((i:Int)=(n:Int)):=by omega
  have hz3:(n:Int)+1>(cap:Int):=by omega
  have hic:i≤cap:=by omega
  have hg1':¬ G=i+1:=by omega
  have aks:¬ G=i:=by omega
  have hc2':¬ cap=i:=by omega
  have hiG:(i:Int)+1≤(G:Int):=by omega
  clear hW1 hW2 hv hg k1 hB1 hg1 hv1 hg2 hxj htk hxl hx1 hO hBel hG hROW hRs hRt hGr hkk hik hold hi0 hz0 hfit;generalize w.heap.size=B at *
  go_enter Tryz.func72,Tryz.ntmps72
  go_wp2_with (first|(at_builtin;refine Lib.wpList_append_run _ rfl _ _ _ _ rfl _ _ rfl rfl _ _ (hrz _) ?_)|(at_builtin;refine wpList_copy_runI _ rfl _ _ 22 22 rfl _ _ rfl rfl (hcp1 _) ?_))
  go_region_law_o (refine step_copy_runI rfl _ _ 22 22 rfl _ _ (by simp[Act.eval,Act.put]) (by simp[Act.eval,Act.put]) (hcp2 _) ?_)
  go_wp2;go_ret;exact⟨G,rfl,HO.o,aiU.o⟩
def Two (rows:List (List Value)):Prop:=∀ r∈rows,r.length=2∧∀ u∈r,u.oneCell'=true
theorem MK:∀ (rows:List (List Value)) (inner:List Value),tq (fun (x cs:List Value)=>cs=x∧cs.length=2∧∀ u∈cs,u.oneCell'=true) 2 rows inner→inner=rows.flatten∧Two rows
 | [],inner,h=>⟨dG (by simpa using h.1),fun r hr=>by cases hr⟩
 | r::rs,inner,h=>by
   have h0:=h.2 0 r rfl;rw[iF,iA] at h0;have ih:=MK rs (inner.drop 2) ⟨by rw[bB,h.1,bC];omega,fun j p hj=>by
    have:=h.2 (j+1) p (by simpa using hj);rw[jM];rwa [show (j+1)*2=2+j*2 from by omega] at this⟩
   refine⟨?_,fun x hx=>?_⟩
   ·rw[fV,← ih.1,← h0.1,fB]
   ·rcases List.mem_cons.1 hx with rfl | hx
    ·rw[← h0.1];exact h0.2
    ·exact ih.2 x hx
theorem M6:∀ (rows:List (List Value)),Two rows→tq (fun (x cs:List Value)=>cs=x∧cs.length=2∧∀ u∈cs,u.oneCell'=true) 2 rows rows.flatten
 | [],_=>tq.none _ _
 | r::rs,h=>tq.front (R:=fun (x cs:List Value)=>cs=x∧cs.length=2∧∀ u∈cs,u.oneCell'=true) ⟨rfl,h r (bK ..)⟩ (h r (bK ..)).1 (M6 rs (fun x hx=>h x (dh _ hx))) rfl
theorem Ac:∀ (rows:List (List Value)) (i:Nat),Two rows→rows.flatten.take (i*2)=(rows.take i).flatten∧rows.flatten.drop (i*2)=(rows.drop i).flatten
 | [],i,_=>by simp
 | r::rs,0,_=>by simp
 | r::rs,i+1,h=>by
   have ih:=Ac rs i (fun x hx=>h x (dh _ hx));have hr:=(h r (bK ..)).1;rw[fV,jU,fV,List.drop_succ_cons,← ih.1,← ih.2];constructor
   ·rw[List.take_append,hr,jB (by omega),show (i+1)*2-2=i*2 from by omega]
   ·rw[mD,hr,l7 (by omega),show (i+1)*2-2=i*2 from by omega,dL]
abbrev RR (w:World)(base:Nat)(v:Value)(rows:List (List Value)):Prop:=(Kd.raw 2).R 51 w base (fun _=>True) v rows
theorem Oh {w:World}{base:Nat}{v:Value}{rows:List (List Value)}(h:RR w base v rows):w.ownsRow base 51 2 v rows.length rows.flatten∧Two rows:=by
 obtain⟨_,inner,ho,hr⟩:=h;obtain⟨he,ht⟩:=MK rows inner hr;rw[he] at ho;exact⟨ho,ht⟩
theorem NW {w:World}{base n:Nat}{v:Value}{rows:List (List Value)}(h:w.ownsRow base 51 2 v n rows.flatten)(hn:rows.length=n)(ht:Two rows):RR w base v rows:=by
 subst hn;exact⟨fun _ _=>dD,rows.flatten,h,M6 rows ht⟩
theorem VB {rows:List (List Value)}{c:List Value}(h:Two rows)(hc:c.length=2)(h1:∀ u∈c,u.oneCell'=true)(i:Nat):Two (rows.take i++[c]++rows.drop i):=fun r hr=>by
 rcases List.mem_append.1 hr with hr | hr
 ·rcases List.mem_append.1 hr with hr | hr
  ·exact h r (dO hr)
  ·rw[gu] at hr;subst hr;exact⟨hc,h1⟩
 ·exact h r (dU hr)
theorem LW {rows:List (List Value)}(h:Two rows)(c:List Value)(i:Nat):(rows.take i++[c]++rows.drop i).flatten=rows.flatten.take (i*2)++c++rows.flatten.drop (i*2):=by
 rw[(Ac rows i h).1,(Ac rows i h).2,jw,jw];simp
theorem NQ (base n vb:Nat)(v:Value)(rows:List (List Value))(c0 c1:Value)(w:World)(hn:rows.length=n)(h:RR w base v rows)(hbig:n≤1000000)
 (hv:w.heap[vb]? = some (.cells #[c0,c1] 51 (0,0))) (h0:c0.oneCell'=true) (h1:c1.oneCell'=true) (hbase:base≤w.heap.size) :
 Calls Tryz.prog 72 #[v,.int .i64 n,.slice (some ⟨vb,0,none⟩) 1 1] w fun e w'=>∃ v',e = .returned v'∧RR w' base v' (rows++[[c0,c1]])∧w.grownBy w' v.ownBlock∧(v'.ownBlock=v.ownBlock∨∃ b,v'.ownBlock=some b∧w.heap.size≤b):=by
 obtain⟨A,c,rfl⟩:=Kd.qo h;rw[hn] at h ⊢;have HO:=Yu h;have HN:=Yu hn;have HBS:=Yu hbase;have HRD:oZ (sW (fun (x cs:List Value)=>cs=x∧cs.length=2∧∀ u∈cs,u.oneCell'=true) 2 w (some ⟨vb,0,none⟩) 1 [[c0,c1]]):=⟨⟨rfl,by omega,fun _=>⟨⟨vb,0,none⟩,rfl,fun j p hj=>by
  rcases j with _ | j
  ·simp at hj;subst hj;refine⟨[c0,c1],rfl,⟨rfl,rfl,fun u hu=>by simp at hu;rcases hu with rfl | rfl<;>assumption⟩,fun i u hi=>?_⟩;rw[kQ,pq hv,dX,iF,dX]
   simpa using hi
  ·simp at hj⟩⟩⟩
 have aj8:¬ (n:Int)<0:=by omega
 have hnc:oZ (n≤c):=⟨by
  rcases h with ⟨_,inner,⟨hl,ho⟩,_⟩
  rcases ho with ⟨h1,h2⟩ | ⟨g,cap,cur,h1,h2,h3,h4,h5,h6⟩
  ·rw[hn] at h2;omega
  ·simp at h1;omega⟩
 have akt:=hnc.o;clear h hn hbase hv hnc
 go_enter Tryz.func72,Tryz.ntmps72
 cases A with
 | none=>
   go_wp2_with ((with_reducible refine qK (N:=25) rfl ?_);refine Kd.uy (Kd.raw 2) (w0:=w) base rfl (.tmp 23) (.tmp 24) 22 51 (.agg #[.slice none 0 0,.slice none 0 0]) 48 rfl Tryz.underlying22 zl rfl (by decide) (by omega) _ rows [[c0,c1]] (some ⟨vb,0,none⟩) 1 1 (fun _=>True) (fun _=>False) rfl rfl HO.o HRD.o (fun x cs hx=>hx) (fun _ hk=>hk.elim) (fun _ _=>dD) (bq _ _) ?hb ?hl ?_;(case hb=>exact HBS.o);(case hl=>(rw[HN.o];omega));intro v1 w1 hR1 hB1 hg_ ho_;have HR1:=Yu hR1;have HG1:=Yu hg_;have HO1:=Yu ho_;clear hR1 hB1 hg_ ho_)
   go_ret;exact⟨_,rfl,HR1.o,HG1.o,HO1.o⟩
 | some a=>
   obtain⟨ab,ao,asp⟩:=a
   go_wp2_with ((with_reducible refine qK (N:=25) rfl ?_);refine Kd.uy (Kd.raw 2) (w0:=w) base rfl (.tmp 23) (.tmp 24) 22 51 (.agg #[.slice none 0 0,.slice none 0 0]) 48 rfl Tryz.underlying22 zl rfl (by decide) (by omega) _ rows [[c0,c1]] (some ⟨vb,0,none⟩) 1 1 (fun _=>True) (fun _=>False) rfl rfl HO.o HRD.o (fun x cs hx=>hx) (fun _ hk=>hk.elim) (fun _ _=>dD) (bq _ _) ?hb ?hl ?_;(case hb=>exact HBS.o);(case hl=>(rw[HN.o];omega));intro v1 w1 hR1 hB1 hg_ ho_;have HR1:=Yu hR1;have HG1:=Yu hg_;have HO1:=Yu ho_;clear hR1 hB1 hg_ ho_)
   all_goals (go_ret;exact⟨_,rfl,HR1.o,HG1.o,HO1.o⟩)
theorem KA {w:World}{base:Nat}{v:Value}{rows:List (List Value)}(h:RR w base v rows)(h0:0<rows.length):∃ g cap,v = .slice (some ⟨g,0,none⟩) rows.length cap∧rows.length≤cap∧cap≤maxLen∧base≤g∧∃ cur,w.heap[g]? = some (.cells cur 51 (0,0))∧cur.size=cap*2:=by
 obtain⟨⟨_,ho⟩,_⟩:=Oh h;rcases ho with ⟨_,h1⟩ | ⟨g,cap,cur,he,hb,hh,h1,h2,h3,h4⟩
 ·omega
 ·exact⟨g,cap,he,h1,h2,hb,cur,hh,h3⟩
theorem insert.c (base n i vb:Nat)(v:Value)(rows:List (List Value))(c0 c1:Value)(w:World)(hn:rows.length=n)(h:RR w base v rows)(hi:i≤n)(hbig:n≤1000000)
 (hv:w.heap[vb]? = some (.cells #[c0,c1] 51 (0,0))) (hne:some vb≠v.ownBlock) (h0:c0.oneCell'=true) (h1:c1.oneCell'=true) (hbase:base≤w.heap.size) :
 Calls Tryz.prog 72 #[v,.int .i64 i,.slice (some ⟨vb,0,none⟩) 1 1] w fun e w'=>∃ v',e = .returned v'∧RR w' base v' (rows.take i++[[c0,c1]]++rows.drop i)∧w.grownBy w' v.ownBlock∧(v'.ownBlock=v.ownBlock∨∃ b,v'.ownBlock=some b∧w.heap.size≤b):=by
 rcases eH i n with hlt | hge
 ·obtain⟨ho,ht⟩:=Oh h;obtain⟨g,cap,rfl,hnc,hcm,hbg,cur,hg,hcs⟩:=KA h (by omega);rw[hn] at ho hnc;rw[hn];have hx1:∀ u∈rows.flatten,u.oneCell'=true:=fun u hu=>by
   obtain⟨r,hr,hur⟩:=List.mem_flatten.1 hu;exact (ht r hr).2 u hur
  have ht2:Two (rows.take i++[[c0,c1]]++rows.drop i):=VB ht rfl (fun u hu=>by simp at hu;rcases hu with rfl | rfl<;>assumption) i;have hl2:(rows.take i++[[c0,c1]]++rows.drop i).length=n+1:=by simp;omega
  have hne':vb≠g:=fun e=>hne (by rw[e];rfl)
  by_cases hcap:n+1≤cap
  ·refine kV (Kl base g cap n i vb rows.flatten c0 c1 w ho hx1 hlt hcap hv hne' h0 h1) ?_;rintro e w' ⟨rfl,rfl⟩;have htk:cur.toList.take (n*2)=rows.flatten:=by
    rcases ho.2 with ⟨hno,_⟩ | ⟨g',cap',cur',he,_,hh,_,_,_,h4⟩
    ·cases hno
    ·have he':g=g'∧cap=cap':=by simpa using he
     obtain⟨rfl,rfl⟩:=he';rw[hg] at hh;injection hh with hh
     injection hh with hh
     rw[hh];exact h4
   have:=KD (w:=w.drew) (base:=base) (i:=i) (cap:=cap) (c:=[c0,c1]) hg ho.1 htk rfl hcs hi hcap hcm hbg;rw[← LW ht] at this;exact⟨_,rfl,NW this.1 hl2 ht2,⟨this.2.os,this.2.tape,this.2.output,this.2.size,this.2.block⟩,.inl rfl⟩
  ·refine kV (Md base g cap n i vb rows.flatten c0 c1 w ho hx1 hlt (by omega) hbig hv h0 h1 hbase) ?_;rintro e w' ⟨cap',rfl,hO,hB⟩;rw[← LW ht] at hO;exact⟨_,rfl,NW hO hl2 ht2,GA hB _,.inr ⟨w.heap.size,rfl,aD _⟩⟩
 ·obtain rfl:i=n:=by omega
  refine kV (NQ base i vb v rows c0 c1 w hn h hbig hv h0 h1 hbase) ?_;rintro e w' ⟨v',rfl,hR,hG,hO⟩;exact⟨v',rfl,by rw[jB (by omega),l7 (by omega),fq];exact hR,hG,hO⟩
end Go.Proofs.Y.PA
