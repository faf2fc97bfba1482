/- Of the law rZIQDumpBack. -/
import Derived.Test.YtcgbgifbajdhpaaGreatDoorZI35
set_option linter.unusedVariables false
set_option linter.unusedSimpArgs false
set_option maxHeartbeats 200000
set_option maxRecDepth 512
namespace Go
abbrev ng:=@List.cons.injEq
end Go
namespace Go.Proofs.Y.G
open Go.ChangeShapes Go.WideShapes Go.Deep Go.RowKit Go.Proofs.Y.PA Go.Proofs.YW.o7
theorem yt {H:Type}{P:Program}{e:TypeId}{n:Nat}{x:DataW H}:∀ {l:List (DataW H)},x∈l→n∈DataW.weights P e x→n∈DataW.weightsAll P e l
 | y::r,hx,hn=>by
   rw[DataW.weightsAll,List.mem_append];rcases List.mem_cons.1 hx with h | h
   ·subst h;exact .inl hn
   ·exact .inr (yt h hn)
section
variable {H:Type} {enc:TypeId × Value→H} {w:World}
theorem Tn:Ml ([]:List rW):=fun x h=>by cases h
theorem Ol {n:Nat}{v:Value}{y:DataW H × List MemPlace}(hsz:∀ m∈DataW.weights Tryz.prog 46 y.1,m≤reachBytes)(h:DataW.trod enc Tryz.prog w 0 (fun _=>true) true n 46 [v]=some y) :
 ∃ (A:Option Addr) (c:Nat) (l:List rW),v = .slice A l.length c∧l.length≤c∧wE.C w A l.length l∧Ml l:=by
 rcases uX Tryz.underlying46 Tryz.underlying68 (by kernel_rfl) (by kernel_rfl) h with ⟨hcs,_⟩ | ⟨x,l,c,m,D,Pl,hcs,_,hl,hm,hmm,hdx,hi⟩
 ·simp only[ng,lS] at hcs;exact⟨none,0,[],hcs,aD _,⟨rfl,by simp,fun h=>by simp at h⟩,Tn⟩
 ·simp only[ng,lS] at hcs;subst hcs;simp only[nE] at hmm;subst hmm;have hd:y.1 = .slice ((List.range l).map D) ((List.range (m-l)).map fun j=>D (l+j)):=by rw[hdx]
  obtain⟨xs,hxl,hxs⟩:=yG (fun i (s:rW)=>(s.f0.size≤140737488355328∧s.f1.size≤140737488355328)∧∃ cs,cs.length=2∧wE.K w s cs∧∀ j u,cs[j]? = some u→w.cell? (x.add (i*2+j))=some u) l (fun i hil=>by
   obtain⟨ys,n,hDi,_,_,ac5⟩:=hi i (by omega);obtain⟨v0,y0,c0,hy0,t0⟩:=ac5 0 _ rfl;obtain⟨v1,y1,c1,hy1,t1⟩:=ac5 1 _ rfl;obtain⟨s0,e0,d0,_⟩:=DataW.trod_string Tryz.underlying9 t0;obtain⟨s1,e1,d1,_⟩:=DataW.trod_string Tryz.underlying9 t1;obtain rfl:v0 = .string s0:=by simpa using e0
   obtain rfl:v1 = .string s1:=by simpa using e1
   have hw:(DataW.weightsEach Tryz.prog [9,9] (ys.map (·.1))).all (· ≤ reachBytes)=true:=by
    rw[iq];intro k hk;have:=hsz k (by
     rw[hd,DataW.weights,Tryz.underlying46];exact dh _ (mQ _ (yt (List.mem_map.2 ⟨i,List.mem_range.2 hil,rfl⟩) (by rw[hDi,DataW.weights,Tryz.underlying68];exact hk))))
    exact aM this
   have z0:=sized_string (j:=0) hw rfl (bytes:=s0.data.toList) (by rw[fC,hy0,d0];rfl);have z1:=sized_string (j:=1) hw rfl (bytes:=s1.data.toList) (by rw[fC,hy1,d1];rfl);rw[iG] at z0 z1;have hrb:reachBytes≤140737488355328:=by decide
   refine⟨⟨s0,s1⟩,⟨bM z0 hrb,bM z1 hrb⟩,_,rfl,SX w ⟨s0,s1⟩,fun j u hj=>?_⟩
   match j,hj with
   | 0,hj=>injection hj with hj;subst hj;exact c0
   | 1,hj=>injection hj with hj;subst hj;exact c1
   | n+2,hj=>simp at hj)
  have hmx:maxLen≤9223372036854775807:=by decide
  refine⟨some x,m,xs,by rw[hxl],by omega,⟨rfl,by rw[hxl];omega,fun _=>⟨x,rfl,fun j p hj=>?_⟩⟩,fun s hs=>?_⟩
  ·obtain⟨_,cs,h1,h2,h3⟩:=hxs j p hj;exact⟨cs,h1,h2,h3⟩
  ·obtain⟨j,hj⟩:=kX hs;exact (hxs j s hj).1
theorem MQ {n:Nat}{v:Value}{y:DataW H × List MemPlace}(h:DataW.trod enc Tryz.prog w 0 (fun _=>true) true n 49 [v]=some y) :
 ∃ (A:Option Addr) (c:Nat) (l:List qC),v = .slice A l.length c∧l.length≤c∧vk.C w A l.length l∧∀ x∈l,Dn x:=by
 have hv:∃ a len cap,v = .slice a len cap:=by
  rcases uX Tryz.underlying49 Tryz.underlying70 (by kernel_rfl) (by kernel_rfl) h with ⟨hcs,_⟩ | ⟨x,l,c,m,D,Pl,hcs,_⟩
  ·simp only[ng,lS] at hcs;exact⟨_,_,_,hcs⟩
  ·simp only[ng,lS] at hcs;exact⟨_,_,_,hcs⟩
 have hT:DataW.Trod enc Tryz.prog w 0 (fun _=>true) true 49 v y.1 y.2:=by
  obtain⟨a,len,cap,rfl⟩:=hv;exact⟨n,h⟩
 obtain⟨A,c,l,h1,h2,h3,h4⟩:=Mr hv hT;exact⟨A,c,l,h1,h3,h2,h4⟩
theorem Kt {v:Value}{d:DataW H}{p:List MemPlace}(hv:∃ a len cap,v = .slice a len cap){ts:List TypeId}{ds:List (DataW H)}(hsz:(DataW.weightsEach Tryz.prog (22::ts) (d::ds)).all (· ≤ reachBytes)=true)(h:DataW.Trod enc Tryz.prog w 0 (fun _=>true) true 22 v d p) :
 ∃ (A:Option Addr) (c:Nat) (l:List qJ),v = .slice A l.length c∧yD.C w A l.length l∧l.length≤c∧okW l∧l.length*48≤140737488355328:=by
 obtain⟨a,len,cap,rfl⟩:=hv;obtain⟨fuel,hf⟩:=h;rcases uX Tryz.underlying22 Tryz.underlying51 (by kernel_rfl) (by kernel_rfl) hf with ⟨hcs,_⟩ | ⟨x,l,c,m,D,Pl,hcs,_,hl,hm,hmm,hdx,hi⟩
 ·simp[Value.cells] at hcs;obtain⟨rfl,rfl,rfl⟩:=hcs;exact⟨none,0,[],rfl,⟨rfl,by simp,fun h=>by simp at h⟩,aD _,(fun x hx=>by cases hx),by simp⟩
 ·simp[Value.cells] at hcs;obtain⟨rfl,rfl,rfl⟩:=hcs;simp only[nE] at hmm;subst hmm;have hd:d = .slice ((List.range len).map D) ((List.range (m-len)).map fun j=>D (len+j)):=(nH hdx).1;have hall:∀ k∈DataW.weights Tryz.prog 22 d,k≤reachBytes:=fun k hk=>by
   have:=List.all_eq_true.1 hsz k (by rw[DataW.weightsEach,List.mem_append];exact .inl hk);exact aR this
  have h48:=hall ((((List.range len).map D).length+((List.range (m-len)).map fun j=>D (len+j)).length)*Tryz.prog.bytesOf 51) (by rw[hd,DataW.weights,Tryz.underlying22];exact bK ..);obtain⟨xs,hxl,hxs⟩:=yG (fun i (s:qJ)=>(Ml s.f0∧∀ q∈s.f1,Dn q)∧∃ cs,cs.length=2∧yD.K w s cs∧∀ j u,cs[j]? = some u→w.cell? (x.add (i*2+j))=some u) len (fun i hil=>by
   obtain⟨ys,n,hDi,_,_,ac5⟩:=hi i (by omega);obtain⟨v0,y0,c0,hy0,t0⟩:=ac5 0 _ rfl;obtain⟨v1,y1,c1,hy1,t1⟩:=ac5 1 _ rfl;obtain⟨A0,q0,l0,rfl,hq0,hC0,hw0⟩:=Ol (fun k hk=>hall k (by
    rw[hd,DataW.weights,Tryz.underlying22];refine dh _ (mQ _ (yt (List.mem_map.2 ⟨i,List.mem_range.2 hil,rfl⟩) ?_));rw[hDi,DataW.weights,Tryz.underlying51];exact DataW.weights_mem_each (j:=0) (ts:=[46,49]) rfl (by rw[fC,hy0];rfl) k hk)) t0
   obtain⟨A1,q1,l1,rfl,hq1,hC1,hw1⟩:=MQ t1;refine⟨⟨l0,l1⟩,⟨hw0,hw1⟩,_,rfl,DV w ⟨l0,l1⟩ hq0 hC0 hq1 hC1,fun j u hj=>?_⟩
   match j,hj with
   | 0,hj=>injection hj with hj;subst hj;exact c0
   | 1,hj=>injection hj with hj;subst hj;exact c1
   | n+2,hj=>simp at hj)
  have hmx:maxLen≤9223372036854775807:=by decide
  have hbo:Tryz.prog.bytesOf 51=48:=by kernel_rfl
  have hrb:reachBytes≤140737488355328:=by decide
  refine⟨some x,m,xs,by rw[hxl],⟨rfl,by rw[hxl];omega,fun _=>⟨x,rfl,fun j p hj=>?_⟩⟩,by omega,fun s hs=>?_,?_⟩
  ·obtain⟨_,cs,h1,h2,h3⟩:=hxs j p hj;exact⟨cs,h1,h2,h3⟩
  ·obtain⟨j,hj⟩:=kX hs;exact (hxs j s hj).1
  ·rw[hbo] at h48;simp only[bJ,nR] at h48;rw[hxl];omega
end
end Go.Proofs.Y.G
