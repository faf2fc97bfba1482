/- Of the law ZHQDumpReads. -/
import Derived.SizedLaws
import Derived.ChangeSlices
import Derived.Test.YtcgbgifbajdhpaaGreatDoorZH1
set_option linter.unusedVariables false
set_option linter.unusedSimpArgs false
set_option maxHeartbeats 200000
set_option maxRecDepth 512
namespace Go
abbrev bD:=@Go.IntKind.wrap_i64
abbrev bE:=@trivial
abbrev bF:=@Option.some.injEq
abbrev dw:=@Bool.and_eq_true
abbrev gB:=@List.getElem?_cons_succ
abbrev gH:=@Nat.zero_mul
abbrev gN:=@Array.getElem?_eq_getElem
abbrev gT:=@List.drop_zero
abbrev iA:=@Nat.add_zero
abbrev iG:=@List.getElem?_cons_zero
abbrev iO:=@List.take_of_length_le
abbrev ji:=@Nat.add_sub_cancel
abbrev jo:=@List.length_replicate
abbrev jy:=@Ne.symm
abbrev jA:=@Array.setIfInBounds_comm
abbrev jB:=@List.foldlM_cons
abbrev jN:=@Bool.or_eq_true
abbrev jO:=@Go.ready_mono
abbrev jP:=@List.foldlM_nil
abbrev jT:=@Prod.mk.inj
abbrev jU:=@Array.getElem?_eq_none
abbrev kH:=@beq_iff_eq
abbrev lH:=@List.drop_of_length_le
abbrev mg:=@Go.Region.noSelect_spec
abbrev mh:=@Go.run_storeCells_cells
abbrev mo:=@Nat.add_comm
abbrev mH:=@Array.toList_append
abbrev mQ:=@Go.getD_set_ne
abbrev ny:=@List.size_toArray
abbrev nI:=@Go.Region.free_spec
abbrev nU:=@Go.wpOp_mono
abbrev oo:=@Go.heap_alloc_old
abbrev oF:=@Bool.false_or
end Go
namespace Go.Proofs.YW.oO
open Go.ChangeShapes Go.WideShapes
theorem OX {H:Type}{enc:TypeId × Value→H}{P:Program}{W:World}{base:Nat}{spare:Nat→Bool}{held:Bool}{t e:TypeId}{k:IntKind}{a:Option Addr}{len cap:Nat}{d:DataW H}{ps:List MemPlace}{ts:List TypeId}{ds:List (DataW H)}{j:Nat}
 (hsz:(DataW.weightsEach P ts ds).all (· ≤ reachBytes)=true) (ht:ts[j]? = some t) (hd:ds[j]? = some d) (hu:P.underlying t=some (.slice e)) (he:P.underlying e=some (.int k)) (hc:P.cellsOf e=1) {B:Nat} (hB:P.bytesOf e=B)
 (h:DataW.Trod enc P W base spare held t (.slice a len cap) d ps):len*B≤140737488351232:=by
 obtain⟨fuel,hf⟩:=h;rcases open_ints hu he hc hf with ⟨hcs,_⟩ | ⟨x,l,c,zs,hcs,_,hl,_,hz,hx,_,_⟩
 ·simp[Value.cells] at hcs;obtain⟨rfl,rfl,rfl⟩:=hcs;simp
 ·simp[Value.cells] at hcs;obtain⟨rfl,rfl,rfl⟩:=hcs;obtain⟨hx,_⟩:=jT hx;subst hx;have z:=sized_slice hsz ht hd hu;rw[hB] at z;have hl2:len≤zs.length:=by
   rw[hz];split
   ·exact hl
   ·exact ay _
  have h1:(lits (H:=H) k (zs.take len)).length+(lits (H:=H) k (zs.drop len)).length=zs.length:=by
   simp[lits];omega
  rw[h1] at z;exact bY (dM _ hl2) z
end Go.Proofs.YW.oO
/-
 PRINTED WORDS,second file: A REGION THAT DRAWS ITS ORDER,WALKED BY HAND,where its last store writes what its own loads read ('x.f=append(x.f,f(i))'). Plain theorems;no macro,no elab. A claim may hold it (turn the ahG name).
 A load may be taken first in every world that meets S;behind the operations of ds nothing is shown;sound because each of ds waits for what is taken (Region.lastB). The kernel checks it.
 By an AI agent of Go's test side,Mon Nov 16 2026. No person has read it.
-/
namespace Go.Proofs.YW.pq
section
variable {P:Program} {ops:Array Oper} {Q:Exit→Act→World→Prop} {md:Region.Mode} {S:World→Prop} {ds:List Nat}
def Region.zI (md:Region.Mode)(ops:Array Oper)(i:Nat):Nat→Nat→Bool
 | 0,_=>false
 | fuel+1,d=>match ops[d]? with
   | some o=>o.after.any fun e=>Region.binds md e&&(e.on==i||Region.zI md ops i fuel e.on)
   | none=>false
def Region.Kw (md:Region.Mode)(ops:Array Oper)(listed:Array Bool):Bool:=
 (List.range ops.size).all fun j => !listed.getD j false||match ops[j]? with
  | some o=>o.after.all fun e => !Region.binds md e||listed.getD e.on false
  | none=>true
def Region.lastB (md:Region.Mode)(ops:Array Oper)(listed:Array Bool)(ds:List Nat)(i:Nat):Bool:=
 ds.all fun d=>listed.getD d true||Region.zI md ops i ops.size d
def vR (md:Region.Mode)(ops:Array Oper)(listed:Array Bool):Prop:=
 ∀ j oj,ops[j]? = some oj→listed.getD j false=true→∀ e∈oj.after,Region.binds md e=true→listed.getD e.on false=true
theorem Region.Ky {listed:Array Bool}(h:Region.Kw md ops listed=true):vR md ops listed:=by
 intro j oj hj hl e he hb;have hlt:j<ops.size:=(Array.getElem?_eq_some_iff.1 hj).1;have h1:=List.all_eq_true.1 h j (List.mem_range.2 hlt);simp only[hl,hj,Bool.not_true,oF] at h1;have h2:=Array.all_eq_true_iff_forall_mem.1 h1 e he
 simpa [hb] using h2
theorem vR.set {listed:Array Bool}{i:Nat}(h:vR md ops listed)(hi:i∈Region.ready md ops listed):vR md ops (listed.setIfInBounds i true):=by
 obtain⟨_,oi,hoi,hall⟩:=mem_ready.1 hi;intro j oj hj hl e he hb
 by_cases hij:i=j
 ·subst hij;have:oj=oi:=bB (hj.symm.trans hoi);subst this;exact getD_set_true (hall e he hb)
 ·rw[mQ false hij] at hl;exact getD_set_true (h j oj hj hl e he hb)
theorem Region.Ey {listed:Array Bool}{i:Nat}(hc:vR md ops listed):∀ (fuel d:Nat),Region.zI md ops i fuel d=true→listed.getD d false=true→listed.getD i false=true
 | 0,_,h,_=>by simp[Region.zI] at h
 | fuel+1,d,h,hl=>by
   unfold Region.zI at h;cases ho:ops[d]? with
   | none=>rw[ho] at h;simp at h
   | some o=>
     rw[ho] at h;obtain⟨e,he,h1⟩:=Array.any_eq_true'.1 h;simp only[dw,jN,kH] at h1;have hle:=hc d o ho hl e he h1.1;rcases h1.2 with h2 | h2
     ·rw[← h2];exact hle
     ·exact Region.Ey hc fuel e.on h2 hle
theorem Region.Gl {listed:Array Bool}{i d fuel:Nat}(hc:vR md ops listed)(hr:Region.zI md ops i fuel d=true)(hun:listed.getD i true=false):d ∉ Region.ready md ops listed:=by
 intro hd;obtain⟨_,o,ho,hall⟩:=mem_ready.1 hd;have hi:listed.getD i false=true:=by
  cases fuel with
  | zero=>simp[Region.zI] at hr
  | succ n=>
    unfold Region.zI at hr;rw[ho] at hr;obtain⟨e,he,h1⟩:=Array.any_eq_true'.1 hr;simp only[dw,jN,kH] at h1;have hle:=hall e he h1.1;rcases h1.2 with h2 | h2
    ·rw[← h2];exact hle
    ·exact Region.Ey hc n e.on h2 hle
 rcases dN i listed.size with h' | h'
 ·simp[h'] at hun hi;rw[hun] at hi;cases hi
 ·simp[jU h'] at hun
def qJ (P:Program)(md:Region.Mode)(ops:Array Oper)(Q:Exit→Act→World→Prop)(S:World→Prop)(ds:List Nat):Nat→Array Bool→Act→World→Prop
 | 0,listed,a,w=>Region.ready md ops listed=[]∧Q .normal a w
 | fuel+1,listed,a,w=>
   (Region.ready md ops listed=[]→Q .normal a w) ∧
   ∀ i∈Region.ready md ops listed,wpOp P ops Q i (fun a' w'=>(i ∉ ds→S w→S w')∧qJ P md ops Q S ds fuel (listed.setIfInBounds i true) a' w') a w
theorem Db:∀ (fuel:Nat) (listed:Array Bool) (a:Act) (w:World),qJ P md ops Q S ds fuel listed a w→wpAny P md ops Q fuel listed a w
 | 0,_,_,_,h=>h
 | fuel+1,_,_,_,h=>⟨h.1,fun i hi=>nU (fun a' w' h'=>Db fuel _ a' w' h'.2) (h.2 i hi)⟩
theorem Gp {i:Nat}{oi:Oper}{v:Value}(hi:ops[i]? = some oi)(hsel:∀ (j:Nat) (o:Oper) cs b,ops[j]? = some o→o.op ≠ .select cs b)
 (hQ:∀ c a w,Q (.panic c) (a.put oi.dst v) w→Q (.panic c) a w) (n:Nat) :
 ∀ (fuel:Nat) (listed:Array Bool) (a:Act) (w:World),
   (∀ j oj,ops[j]? = some oj→j≠i→listed.getD j true=false→(∀ e∈oj.after,Region.binds md e=true→e.on≠i)→oi.apart ops oj=true) →
   vR md ops listed→(∀ d∈ds,listed.getD d true=false→Region.zI md ops i n d=true) →
   i∈Region.ready md ops listed→YieldsIf P ops S oi v a→S w →
   qJ P md ops Q S ds fuel (listed.setIfInBounds i true) (a.put oi.dst v) w→qJ P md ops Q S ds (fuel+1) listed a w:=by
 intro fuel
 induction fuel with
 | zero=>
   intro listed a w _ _ _ hr hy hS H;refine⟨fun h=>(by rw[h] at hr;cases hr),fun j hj=>?_⟩
   by_cases hji:j=i
   ·subst hji;exact hy.wpOp hi hS ⟨fun _ h=>h,H⟩
   ·have:=jO hj hji;rw[H.1] at this;cases this
 | succ fuel ih=>
   intro listed a w hfree hc hd hr hy hS H;refine⟨fun h=>(by rw[h] at hr;cases hr),fun j hj=>?_⟩
   by_cases hji:j=i
   ·subst hji;exact hy.wpOp hi hS ⟨fun _ h=>h,H⟩
   ·have h1:=H.2 j (jO hj hji);obtain⟨hjun,oj,hoj,hall⟩:=mem_ready.1 hj;have afk:=(mem_ready.1 hr).1;have hnot:∀ e∈oj.after,Region.binds md e=true→e.on≠i:=fun e he hb heq=>by
     have h1:=hall e he hb;rw[heq] at h1;rcases dN i listed.size with h' | h'
     ·simp[h'] at afk h1;rw[afk] at h1;cases h1
     ·simp[jU h'] at h1
    have hjd:j ∉ ds:=fun hm=>Region.Gl hc (hd j hm hjun) afk hj
    have h2:=wpOp_putIf hoj (hfree j oj hoj hji hjun hnot) (fun cs b=>hsel i oi cs b hi) (fun cs b=>hsel j oj cs b hoj) hQ hy h1;have hfree':∀ k ok,ops[k]? = some ok→k≠i→(listed.setIfInBounds j true).getD k true=false →
     (∀ e∈ok.after,Region.binds md e=true→e.on≠i)→oi.apart ops ok=true:=fun k ok hk hki hun hno=>by
     refine hfree k ok hk hki ?_ hno
     by_cases hjk:j=k
     ·subst hjk;exact hjun
     ·rw[mQ true hjk] at hun;exact hun
    have hd':∀ d∈ds,(listed.setIfInBounds j true).getD d true=false→Region.zI md ops i n d=true:=fun d hm hun=>by
     refine hd d hm ?_
     by_cases hjk:j=d
     ·subst hjk;exact hjun
     ·rw[mQ true hjk] at hun;exact hun
    refine nU (fun a' w' h3=>⟨h3.2.1,ih (listed.setIfInBounds j true) a' w' hfree' (hc.set hj) hd' (jO hr (jy hji)) h3.1 (h3.2.1 hjd hS) ?_⟩) h2;rw[jA _ _ hji];exact h3.2.2
theorem Jl {i:Nat}{oi:Oper}{v:Value}(hi:ops[i]? = some oi)(hsel:∀ (j:Nat) (o:Oper) cs b,ops[j]? = some o→o.op ≠ .select cs b)
 (hQ:∀ c a w,Q (.panic c) (a.put oi.dst v) w→Q (.panic c) a w) :
 ∀ (fuel:Nat) (listed:Array Bool) (a:Act) (w:World),
   (∀ j oj,ops[j]? = some oj→j≠i→listed.getD j true=false→(∀ e∈oj.after,Region.binds md e=true→e.on≠i)→oi.apart ops oj=true) →
   i∈Region.ready md ops listed→Yields P ops oi v a →
   qJ P md ops Q S ds fuel (listed.setIfInBounds i true) (a.put oi.dst v) w→qJ P md ops Q S ds (fuel+1) listed a w:=by
 intro fuel
 induction fuel with
 | zero=>
   intro listed a w _ hr hy H;refine⟨fun h=>(by rw[h] at hr;cases hr),fun j hj=>?_⟩
   by_cases hji:j=i
   ·subst hji;exact (hy.yieldsIf (S:=fun _=>True)).wpOp hi bE ⟨fun _ h=>h,H⟩
   ·have:=jO hj hji;rw[H.1] at this;cases this
 | succ fuel ih=>
   intro listed a w hfree hr hy H;refine⟨fun h=>(by rw[h] at hr;cases hr),fun j hj=>?_⟩
   by_cases hji:j=i
   ·subst hji;exact (hy.yieldsIf (S:=fun _=>True)).wpOp hi bE ⟨fun _ h=>h,H⟩
   ·have h1:=H.2 j (jO hj hji);obtain⟨hjun,oj,hoj,hall⟩:=mem_ready.1 hj;have afk:=(mem_ready.1 hr).1;have hnot:∀ e∈oj.after,Region.binds md e=true→e.on≠i:=fun e he hb heq=>by
     have h1:=hall e he hb;rw[heq] at h1;rcases dN i listed.size with h' | h'
     ·simp[h'] at afk h1;rw[afk] at h1;cases h1
     ·simp[jU h'] at h1
    have h2:=wpOp_put hoj (hfree j oj hoj hji hjun hnot) (fun cs b=>hsel i oi cs b hi) (fun cs b=>hsel j oj cs b hoj) hQ hy h1;have hfree':∀ k ok,ops[k]? = some ok→k≠i→(listed.setIfInBounds j true).getD k true=false →
     (∀ e∈ok.after,Region.binds md e=true→e.on≠i)→oi.apart ops ok=true:=fun k ok hk hki hun hno=>by
     refine hfree k ok hk hki ?_ hno
     by_cases hjk:j=k
     ·subst hjk;exact hjun
     ·rw[mQ true hjk] at hun;exact hun
    refine nU (fun a' w' h3=>⟨h3.2.1,ih (listed.setIfInBounds j true) a' w' hfree' (jO hr (jy hji)) h3.1 ?_⟩) h2;rw[jA _ _ hji];exact h3.2.2
theorem IX {i:Nat}{oi:Oper}{v:Value}{fuel:Nat}{listed:Array Bool}{a:Act}{w:World}(hi:ops[i]? = some oi)
 (hs:Region.noSelect ops=true) (hf:Region.free md ops listed i=true) (hr:(Region.ready md ops listed).contains i=true)
 (hc:Region.Kw md ops listed=true) (hl:Region.lastB md ops listed ds i=true)
 (hQ:∀ c a w,Q (.panic c) (a.put oi.dst v) w→Q (.panic c) a w) (hy:YieldsIf P ops S oi v a) (hS:S w)
 (h:qJ P md ops Q S ds fuel (listed.setIfInBounds i true) (a.put oi.dst v) w):qJ P md ops Q S ds (fuel+1) listed a w:=
 Gp hi (mg hs) hQ ops.size fuel listed a w (nI hi hf) (Region.Ky hc)
  (fun d hm hun=>by have:=List.all_eq_true.1 hl d hm;rw[hun] at this;simpa using this) (by simpa using hr) hy hS h
theorem Jk {rs:List Nat}{fuel:Nat}{listed:Array Bool}{a:Act}{w:World}(hr:Region.ready md ops listed=rs)(hne:rs≠[])
 (h:∀ i∈rs,wpOp P ops Q i (fun a' w'=>(i ∉ ds→S w→S w')∧qJ P md ops Q S ds fuel (listed.setIfInBounds i true) a' w') a w):qJ P md ops Q S ds (fuel+1) listed a w:=
 ⟨fun h0=>absurd (hr ▸ h0) hne,hr ▸ h⟩
theorem IW {listed:Array Bool}{a:Act}{w:World}(hr:Region.ready md ops listed=[])(h:Q .normal a w) :
 ∀ fuel,qJ P md ops Q S ds fuel listed a w
 | 0=>⟨hr,h⟩
 | _+1=>⟨fun _=>h,by rw[hr];simp⟩
theorem I5 {id:Nat}{a:Act}{w:World}(hm:P.follows .mixedOrders=true)
 (h:qJ P .any ops Q S ds ops.size (Array.replicate ops.size false) a { w with drawn:=w.drawn+1 }):(Code.region id ops true).wp P Q a w:=
 wp_region_any hm (Db _ _ _ _ h)
end
section
variable {P:Program} {ops:Array Oper} {Q:Exit→Act→World→Prop} {md:Region.Mode} {S:World→Prop} {ds:List Nat}
def tO (P:Program)(md:Region.Mode)(ops:Array Oper)(Q:Exit→Act→World→Prop)(S:World→Prop)(ds:List Nat)(fuel:Nat)(listed:Array Bool)(a:Act)(w:World)(rs:List Nat):Prop:=
 ∀ i∈rs,wpOp P ops Q i (fun a' w'=>(i ∉ ds→S w→S w')∧qJ P md ops Q S ds fuel (listed.setIfInBounds i true) a' w') a w
theorem tO.nil {fuel:Nat}{listed:Array Bool}{a:Act}{w:World}:tO P md ops Q S ds fuel listed a w []:=fun _ h=>by cases h
theorem tO.cons {fuel:Nat}{listed:Array Bool}{a:Act}{w:World}{i:Nat}{o:Oper}{rs:List Nat}(ho:ops[i]? = some o)(hd:i ∉ ds)
 (h:∀ K':Act→World→Prop,Shut (∀ a w,S w→(S w→qJ P md ops Q S ds fuel (listed.setIfInBounds i true) a w)→K' a w)→if Region.wanted o (yielded ops a.tmps)=true then Oper.wp P o a w K' Q else K' (a.put o.dst undef) w)
 (hs:tO P md ops Q S ds fuel listed a w rs):tO P md ops Q S ds fuel listed a w (i::rs):=fun j hj=>by
 rcases List.mem_cons.1 hj with rfl | hj
 ·exact wpOp_step ho (fun K' hK=>h K' (fun a w hS hW=>hK a w ⟨fun _ _=>hS,hW hS⟩))
 ·exact hs j hj
theorem tO.QH {fuel:Nat}{listed:Array Bool}{a:Act}{w:World}{i:Nat}{o:Oper}{rs:List Nat}(ho:ops[i]? = some o)(hd:i∈ds)
 (h:∀ K':Act→World→Prop,Shut (∀ a w,qJ P md ops Q S ds fuel (listed.setIfInBounds i true) a w→K' a w)→if Region.wanted o (yielded ops a.tmps)=true then Oper.wp P o a w K' Q else K' (a.put o.dst undef) w)
 (hs:tO P md ops Q S ds fuel listed a w rs):tO P md ops Q S ds fuel listed a w (i::rs):=fun j hj=>by
 rcases List.mem_cons.1 hj with rfl | hj
 ·exact wpOp_step ho (fun K' hK=>h K' (fun a w hW=>hK a w ⟨fun hn=>absurd hd hn,hW⟩))
 ·exact hs j hj
theorem yH {rs:List Nat}{fuel:Nat}{listed:Array Bool}{a:Act}{w:World}(hr:Region.ready md ops listed=rs)(hne:rs≠[])
 (h:tO P md ops Q S ds fuel listed a w rs):qJ P md ops Q S ds (fuel+1) listed a w:=Jk hr hne h
theorem DR {id n:Nat}{a:Act}{w:World}(l:Array Bool)(hm:P.follows .mixedOrders=true)(hn:ops.size=n)(hl:Array.replicate n false=l)(hS:S w.drew)
 (h:S w.drew→qJ P .any ops Q S ds n l a w.drew):(Code.region id ops true).wp P Q a w:=by
 subst hn;subst hl;exact I5 hm (h hS)
def takeB (md:Region.Mode)(ops:Array Oper)(ds:List Nat)(l l':Array Bool)(i:Nat):Bool:=
 Region.noSelect ops&&Region.free md ops l i&&(Region.ready md ops l).contains i&&Region.Kw md ops l&&Region.lastB md ops l ds i&&(l.setIfInBounds i true==l')
theorem EI {i:Nat}{N:Option Tmp}{oi:Oper}{v:Value}{fuel:Nat}{l:Array Bool}{a:Act}{w:World}(l':Array Bool)(hi:ops[i]? = some oi)(hN:oi.dst=N)(hc:takeB md ops ds l l' i=true)
 (hQ:∀ c a w,Q (.panic c) (a.put oi.dst v) w→Q (.panic c) a w) (hy:YieldsIf P ops S oi v a) (hS:S w) {a':Act} (ha:a.put N v=a')
 (h:qJ P md ops Q S ds fuel l' a' w):qJ P md ops Q S ds (fuel+1) l a w:=by
 subst ha;subst hN;simp only[takeB,dw,kH] at hc;obtain⟨⟨⟨⟨⟨h1,h2⟩,h3⟩,h4⟩,h5⟩,h6⟩:=hc;subst h6;exact IX hi h1 h2 h3 h4 h5 hQ hy hS h
def Ya (md:Region.Mode)(ops:Array Oper)(l l':Array Bool)(i:Nat):Bool:=
 Region.noSelect ops&&Region.free md ops l i&&(Region.ready md ops l).contains i&&(l.setIfInBounds i true==l')
theorem rC {i:Nat}{N:Option Tmp}{oi:Oper}{v:Value}{fuel:Nat}{l:Array Bool}{a:Act}{w:World}(l':Array Bool)(hi:ops[i]? = some oi)(hN:oi.dst=N)(hc:Ya md ops l l' i=true)
 (hQ:∀ c a w,Q (.panic c) (a.put oi.dst v) w→Q (.panic c) a w) (hy:Yields P ops oi v a) {a':Act} (ha:a.put N v=a')
 (h:qJ P md ops Q S ds fuel l' a' w):qJ P md ops Q S ds (fuel+1) l a w:=by
 subst ha;subst hN;simp only[Ya,dw,kH] at hc;obtain⟨⟨⟨h1,h2⟩,h3⟩,h6⟩:=hc;subst h6;exact Jl hi (mg h1) hQ fuel l a w (nI hi h2) (by simpa using h3) hy h
def Lf (md:Region.Mode)(ops:Array Oper)(l l':Array Bool)(i:Nat):Bool:=(Region.ready md ops l==[i])&&(l.setIfInBounds i true==l')
theorem zG {i:Nat}{N:Option Tmp}{oi:Oper}{fuel:Nat}{l:Array Bool}{a:Act}{w:World}(l':Array Bool)(hi:ops[i]? = some oi)(hN:oi.dst=N)(hc:Lf md ops l l' i=true)(hd:i ∉ ds)
 (h:∀ K:Act→World→Prop,Shut (∀ a' w',S w'→(S w'→qJ P md ops Q S ds fuel l' a' w')→K a' w')→if Region.wanted oi (yielded ops a.tmps)=true then Oper.wp P oi a w K Q else K (a.put N undef) w) :
 qJ P md ops Q S ds (fuel+1) l a w:=by
 subst hN;simp only[Lf,dw,kH] at hc;obtain⟨h1,h2⟩:=hc;subst h2;exact yH h1 (by simp) (tO.cons hi hd (fun K hK=>h K hK) tO.nil)
theorem F4 {i:Nat}{N:Option Tmp}{oi:Oper}{fuel:Nat}{l:Array Bool}{a:Act}{w:World}(l':Array Bool)(hi:ops[i]? = some oi)(hN:oi.dst=N)(hc:Lf md ops l l' i=true)(hd:i∈ds)
 (h:∀ K:Act→World→Prop,Shut (∀ a' w',qJ P md ops Q S ds fuel l' a' w'→K a' w')→if Region.wanted oi (yielded ops a.tmps)=true then Oper.wp P oi a w K Q else K (a.put N undef) w) :
 qJ P md ops Q S ds (fuel+1) l a w:=by
 subst hN;simp only[Lf,dw,kH] at hc;obtain⟨h1,h2⟩:=hc;subst h2;exact yH h1 (by simp) (tO.QH hi hd (fun K hK=>h K hK) tO.nil)
theorem Hr {l:Array Bool}{a:Act}{w:World}{n:Nat}(hr:(Region.ready md ops l==[])=true)(h:Q .normal a w):qJ P md ops Q S ds n l a w:=IW (by simpa using hr) h n
theorem RV {i j:Nat}{Ni Nj:Option Tmp}{oi oj:Oper}{fuel:Nat}{l:Array Bool}{a:Act}{w:World}(li lj:Array Bool)(hi:ops[i]? = some oi)(hj:ops[j]? = some oj)(hNi:oi.dst=Ni)(hNj:oj.dst=Nj)
 (hc:(Region.ready md ops l==[i,j]&&l.setIfInBounds i true==li&&l.setIfInBounds j true==lj)=true) (hdi:i ∉ ds) (hdj:j ∉ ds)
 (h1:∀ K:Act→World→Prop,Shut (∀ a' w',S w'→(S w'→qJ P md ops Q S ds fuel li a' w')→K a' w')→if Region.wanted oi (yielded ops a.tmps)=true then Oper.wp P oi a w K Q else K (a.put Ni undef) w)
 (h2:∀ K:Act→World→Prop,Shut (∀ a' w',S w'→(S w'→qJ P md ops Q S ds fuel lj a' w')→K a' w')→if Region.wanted oj (yielded ops a.tmps)=true then Oper.wp P oj a w K Q else K (a.put Nj undef) w) :
 qJ P md ops Q S ds (fuel+1) l a w:=by
 subst hNi;subst hNj;simp only[dw,kH] at hc;obtain⟨⟨h3,h4⟩,h5⟩:=hc;subst h4;subst h5;exact yH h3 (by simp) (tO.cons hi hdi (fun K hK=>h1 K hK) (tO.cons hj hdj (fun K hK=>h2 K hK) tO.nil))
def Fq:Act→List (Tmp × Value)→Act
 | a,[]=>a
 | a,(n,v)::r=>Fq (a.put (some n) v) r
theorem TM {σ:Type}{fuel:Nat}{l:Array Bool}{a:Act}{w:World}(fuel':Nat)(l':Array Bool)(ns:σ→List (Tmp × Value))(F:σ→World→Prop)
 (hcont:∀ s w',F s w'→qJ P md ops Q S ds fuel' l' (Fq a (ns s)) w')
 (h:(∀ s w',F s w'→qJ P md ops Q S ds fuel' l' (Fq a (ns s)) w')→qJ P md ops Q S ds fuel l a w):qJ P md ops Q S ds fuel l a w:=h hcont
theorem tu {fuel:Nat}{l:Array Bool}{a a':Act}{w:World}(ha:a=a')(h:qJ P md ops Q S ds fuel l a' w):qJ P md ops Q S ds fuel l a w:=by
 subst ha;exact h
theorem call_ {oi:Oper}{N:Option Tmp}{a:Act}{w:World}{K:Act→World→Prop}(f:FuncId)(args:Array Value)(hw:Region.wanted oi (yielded ops a.tmps)=true)(hN:oi.dst=N)(hrun:(execOp a.eval oi).run P w = .ok (.enter f args) w)
 (h:Calls P f args w fun e w'=>∃ v,e = .returned v∧K (a.put N v) w'):if Region.wanted oi (yielded ops a.tmps)=true then Oper.wp P oi a w K Q else K (a.put N undef) w:=by
 rw[au hw];subst hN;unfold Oper.wp;rw[hrun,Oper.upon_enter];refine h.mono fun e w'' hh=>?_
 obtain⟨v,rfl,hk⟩:=hh;exact hk
theorem PO {f:FuncId}{fn:Func}(hf:P.funcs[f]? = some fn)(hname:(fn.name == "runtime.NumGoroutine")=false)(hb:fn.body.isSome=true)(args:Array Value)(w:World):(callFunc f args).run P w = .ok (.enter f args) w:=by
 have h1:fn.name ≠ "runtime.NumGoroutine" := by simpa using hname
 obtain⟨c,hc⟩:=Option.isSome_iff_exists.1 hb;simp[callFunc,hf,h1,hc]
theorem TB {oi:Oper}{N:Option Tmp}{a:Act}{w:World}{K:Act→World→Prop}{f:FuncId}{fn:Func}{as:Array Operand}{ts:Array TypeId}(hf:P.funcs[f]? = some fn)(hname:(fn.name == "runtime.NumGoroutine")=false)(hb:fn.body.isSome=true)(args:Array Value)
 (hw:Region.wanted oi (yielded ops a.tmps)=true) (hN:oi.dst=N) (hop:oi.op = .call { callee := .value (.func f),args:=as,argTypes:=ts }) (hargs:as.map a.eval=args)
 (h:Calls P f args w fun e w'=>∃ v,e = .returned v∧K (a.put N v) w'):if Region.wanted oi (yielded ops a.tmps)=true then Oper.wp P oi a w K Q else K (a.put N undef) w:=by
 refine call_ f args hw hN ?_ h;have he:=PO hf hname hb args w;unfold execOp;simp[hop,resolve,Deferred.ofValue,invoke,Act.eval,hargs,he]
theorem rZ {rest:List Oper}{oi:Oper}{a:Act}{w:World}(N:Option Tmp)(hd:oi.dst=N)(hg:oi.guard=none){f:FuncId}{fn:Func}{as:Array Operand}{ts:Array TypeId}(hf:P.funcs[f]? = some fn)(hname:(fn.name == "runtime.NumGoroutine")=false)(hb:fn.body.isSome=true)(args:Array Value)
 (hop:oi.op = .call { callee := .value (.func f),args:=as,argTypes:=ts }) (hargs:as.map a.eval=args)
 (h:Calls P f args w fun e w'=>∃ v,e = .returned v∧wpList P ops Q rest (a.put N v) w'):wpList P ops Q (oi::rest) a w:=by
 refine kU hg fun K hK=>?_
 have he:=PO hf hname hb args w;have hrun:(execOp a.eval oi).run P w = .ok (.enter f args) w:=by
  unfold execOp;simp[hop,resolve,Deferred.ofValue,invoke,Act.eval,hargs,he]
 unfold Oper.wp;rw[hrun,Oper.upon_enter];refine h.mono fun e w'' hh=>?_
 obtain⟨v,rfl,hk⟩:=hh;subst hd;exact hK _ _ hk
theorem wF {oi:Oper}{N:Option Tmp}{a:Act}{w w1:World}{v:Value}{K:Act→World→Prop}(hw:Region.wanted oi (yielded ops a.tmps)=true)(hN:oi.dst=N)(hrun:(execOp a.eval oi).run P w = .ok (.value v) w1)
 (h:K (a.put N v) w1):if Region.wanted oi (yielded ops a.tmps)=true then Oper.wp P oi a w K Q else K (a.put N undef) w:=by
 rw[au hw];subst hN;unfold Oper.wp;rw[hrun];exact h
theorem WI {oi:Oper}{a:Act}{w w1:World}{K:Act→World→Prop}(hw:Region.wanted oi (yielded ops a.tmps)=true)(hN:oi.dst=none)(hrun:(execOp a.eval oi).run P w = .ok .skip w1)
 (h:K a w1):if Region.wanted oi (yielded ops a.tmps)=true then Oper.wp P oi a w K Q else K (a.put none undef) w:=by
 rw[au hw];unfold Oper.wp;rw[hrun];show K (a.put oi.dst undef) w1;rw[hN];exact h
theorem q8 (n:Int):IntKind.i64.wrap n=Go.RowKit.wrap64 n:=by unfold Go.RowKit.wrap64;exact bD n
theorem xE (n:Int):IntKind.i32.wrap n=Go.RowKit.wrap32 n:=by unfold Go.RowKit.wrap32;exact IntKind.wrap_i32 n
end
end Go.Proofs.YW.pq
namespace Go.Proofs.YW.oO
open Go.RowKit
namespace Kd
def tag {α:Type}(f:Nat→Nat)(d:Kd α):Kd (α × Nat) where
 sz:=d.sz
 E:=d.E
 K:=fun w x cs=>d.K w x.1 cs
 M:=fun w base ok x cs=>d.M w base (fun k=>ok k∧f k=x.2) x.1 cs
 K_len:=fun h=>d.K_len h
 K_one:=fun h=>d.K_one h
 K_below:=fun hb h=>d.K_below hb h
 K_of_M:=fun h=>d.K_of_M h
 M_mono:=fun hok h=>d.M_mono (fun k hk=>⟨hok k hk.1,hk.2⟩) h
 M_bound:=fun h=>d.M_mono (fun _ hk=>⟨⟨hk.1.1,hk.2⟩,hk.1.2⟩) (d.M_bound h)
 M_move:=fun hm h=>d.M_move (fun k hk=>hm k hk.1) h
 M_lower:=fun hb h=>d.M_lower hb h
def bare {α:Type}(d:Kd α):Kd α where
 sz:=d.sz
 E:=d.E
 K:=d.K
 M:=fun w base _ x cs=>d.M w base (fun _=>False) x cs
 K_len:=fun h=>d.K_len h
 K_one:=fun h=>d.K_one h
 K_below:=fun hb h=>d.K_below hb h
 K_of_M:=fun h=>d.K_of_M h
 M_mono:=fun _ h=>h
 M_bound:=fun h=>h
 M_move:=fun _ h=>d.M_move (fun _ hk=>hk.elim) h
 M_lower:=fun hb h=>d.M_lower hb h
def raw (sz:Nat):Kd (List Value) where
 sz:=sz
 E:=[]
 K:=fun _ x cs=>cs=x∧cs.length=sz∧∀ u∈cs,u.oneCell'=true
 M:=fun _ _ _ x cs=>cs=x∧cs.length=sz∧∀ u∈cs,u.oneCell'=true
 K_len:=fun h=>h.2.1
 K_one:=fun h=>h.2.2
 K_below:=fun _ h=>h
 K_of_M:=fun h=>h
 M_mono:=fun _ h=>h
 M_bound:=fun h=>h
 M_move:=fun _ h=>h
 M_lower:=fun _ h=>h
def S {α:Type}(d:Kd α)(e:Nat)(w:World)(base:Nat)(ok:Nat→Prop)(v:Value)(xs:List α):Prop:=∃ f,(tag f d).R e w base ok v xs.zipIdx
section
variable {α β:Type} {d:Kd α} {d':Kd β} {e e':Nat} {w w1 W:World} {base b:Nat} {ok ok' okv oku:Nat→Prop} {u v:Value} {xs:List α} {ys:List β}
theorem BZ (hE:d.E=[])(h:d.R e w base ok v xs):d.R e w base (fun k=>some k=v.ownBlock) v xs:=by
 obtain⟨h0,inner,ho,hr⟩:=h;refine⟨fun k hk=>hk.symm,inner,ho,hr.zQ (fun p c hp=>d.M_mono (fun k hk=>?_) (d.M_bound hp))⟩;obtain⟨_,_,_,q,hq,_⟩:=hk;rw[hE] at hq;cases hq
end
def gap {α:Type}(f:Nat→Nat)(d:Kd α)(i:Nat)(c:List Value):Kd (α × Nat) where
 sz:=d.sz
 E:=d.E
 K:=fun w x cs=>(x.2=i→cs=c∧cs.length=d.sz∧∀ u∈cs,u.oneCell'=true)∧(x.2≠i→d.K w x.1 cs)
 M:=fun w base ok x cs=>(x.2=i→cs=c∧cs.length=d.sz∧∀ u∈cs,u.oneCell'=true)∧(x.2≠i→d.M w base (fun k=>ok k∧f k=x.2) x.1 cs)
 K_len:=fun {w x cs} h=>by
  by_cases hx:x.2=i
  ·exact (h.1 hx).2.1
  ·exact d.K_len (h.2 hx)
 K_one:=fun {w x cs} h=>by
  by_cases hx:x.2=i
  ·exact (h.1 hx).2.2
  ·exact d.K_one (h.2 hx)
 K_below:=fun hb h=>⟨h.1,fun hx=>d.K_below hb (h.2 hx)⟩
 K_of_M:=fun h=>⟨h.1,fun hx=>d.K_of_M (h.2 hx)⟩
 M_mono:=fun hok h=>⟨h.1,fun hx=>d.M_mono (fun k hk=>⟨hok k hk.1,hk.2⟩) (h.2 hx)⟩
 M_bound:=fun h=>⟨h.1,fun hx=>d.M_mono (fun _ hk=>⟨⟨hk.1.1,hk.2⟩,hk.1.2⟩) (d.M_bound (h.2 hx))⟩
 M_move:=fun hm h=>⟨h.1,fun hx=>d.M_move (fun k hk=>hm k hk.1) (h.2 hx)⟩
 M_lower:=fun hb h=>⟨h.1,fun hx=>d.M_lower hb (h.2 hx)⟩
def H {α:Type}(d:Kd α)(e:Nat)(w:World)(base:Nat)(ok:Nat→Prop)(v:Value)(xs:List α)(i:Int)(oki:Nat→Prop)(c:List Value):Prop:=
 (∀ k,oki k→ok k)∧∃ f,(gap f d i.toNat c).R e w base (fun k=>ok k∧¬ oki k) v xs.zipIdx
end Kd
end Go.Proofs.YW.oO
namespace Go.Proofs.YW.oO
open Go.RowKit
namespace Kd
theorem UE {α:Type}{R:α→List Value→Prop}{size:Nat}{ps:List α}{cs:List Value}(h:qP R size ps cs)(hs0:0<size)(hR:∀ p c,R p c→∀ u∈c,u.oneCell'=true):∀ u∈cs,u.oneCell'=true:=by
 intro u hu;obtain⟨q,hq,rfl⟩:=List.mem_iff_getElem.1 hu;have hql:q / size<ps.length:=by
  rw[kr hs0,← h.1];exact hq
 refine hR _ _ (h.2 (q / size) _ (aR hql)) _ ?_;rw[lX];refine⟨q % size,?_⟩;rw[dB,au (gG _ hs0),eY,dX,nR,aR hq]
end Kd
end Go.Proofs.YW.oO
namespace Go.Proofs.YW.oO
open Go.RowKit
section
variable {P:Program}
theorem Fw (w:World)(base:Nat)(t ti ty e:TypeId)(i:TypeInfo)(z:Value)(size bytes:Nat)(ht:P.underlying t=some (.slice e)){k:IntKind}(hti:P.underlying ti=some (.int k))(hi:P.info? e=some i)(hz:i.zero=some z)
 (hsize:i.size=size) (hby:i.bytes=bytes) (hzs:z.cells.size=size) (hsz:0<size) (hb0:0<bytes)
 (v:Value) (n:Nat) (xs:List Value) (hown:w.ownsRow base e size v n xs) (kx:IntKind) (m:Nat) (h1:∀ u∈(Builtin.zeroCells z.cells m).toList,u.oneCell'=true)
 (hbytes:(n+m)*bytes≤140737488355328) (hbase:base≤w.heap.size) :
 ∃ v' w',(Builtin.append_ #[t,ti] ty #[v,.int kx m]).run P w = .ok v' w'∧w'.ownsRow base e size v' (n+m) (xs++(Builtin.zeroCells z.cells m).toList)∧w.grownBy w' v.ownBlock ∧
   (v'.ownBlock=v.ownBlock∨v'.ownBlock=some w.heap.size):=by
 subst hsize;subst hby;have hle:n+m≤140737488355328:=bY (fA _ hb0) hbytes;have h63:n+m≤maxLen:=by simp only[maxLen];omega
 have hw:IntKind.i64.wrap (m:Int)=m:=by rw[bD];omega
 have hw0:IntKind.i64.wrap 0=0:=by rw[bD];rfl
 have hneg:¬ ((m:Int)<0):=by omega
 have hmb:m*i.bytes≤140737488355328:=bY (dM _ (Nat.le_add_left m n)) hbytes;have hbig:¬ (281474976710656<(m:Int)*(i.bytes:Int)):=by
  rw[← kQ];omega
 have hsn:i.size≠0:=by omega
 obtain⟨news,hnews⟩:∃ news,news=(Builtin.zeroCells z.cells m).toList:=⟨_,rfl⟩;rw[← hnews] at h1 ⊢;have hl:news.length=m*i.size:=by rw[hnews,iJ,size_zeroCells,hzs]
 have hna:Builtin.zeroCells z.cells m=news.toArray:=by rw[hnews]
 have hlen:(xs++news).length=(n+m)*i.size:=by rw[aT,hown.1,hl,gI]
 have hnil:m=0→news=[]:=fun h=>dx (by rw[hl,h,gH])
 have grown:∀ (old:Nat),old<n+m→∀ (row:Option Nat),
  (w.drew.alloc (.cells (xs.toArray++news.toArray++Builtin.zeroCells z.cells (grownCap w (n+m) old e-(n+m))) e)).ownsRow base e i.size
   (.slice (some ⟨w.heap.size,0,none⟩) (n+m) (grownCap w (n+m) old e)) (n+m) (xs++news) ∧
  w.grownBy (w.drew.alloc (.cells (xs.toArray++news.toArray++Builtin.zeroCells z.cells (grownCap w (n+m) old e-(n+m))) e)) row:=by
  intro old ho row;have hge:=grownCap_ge w (n+m) old e;have hcm:grownCap w (n+m) old e≤maxLen:=grownCap_le_maxLen w (n+m) old e h63;refine⟨⟨hlen,.inr ⟨w.heap.size,_,_,rfl,hbase,kg w.drew _,hge,hcm,?_,?_⟩⟩,⟨rfl,rfl,rfl,by simp,fun k hk _=>oo w.drew _ hk⟩⟩
  ·simp only[Array.size_append,ny,size_zeroCells,hzs,hown.1,hl,← gI];congr 1;omega
  ·simp only[mH,bC];rw[← bC,← hlen];exact List.take_left
 have runs:∀ (A:Option Addr) (cap:Nat),cap<n+m→(Builtin.firstCells i.size n (.slice A n cap)).run P w.drew = .ok xs.toArray w.drew→(Builtin.append_ #[t,ti] ty #[.slice A n cap,.int kx m]).run P w =
  .ok (.slice (some ⟨w.heap.size,0,none⟩) (n+m) (grownCap w (n+m) cap e)) (w.drew.alloc (.cells (xs.toArray++news.toArray++Builtin.zeroCells z.cells (grownCap w (n+m) cap e-(n+m))) e)):=by
  intro A cap hcap hfo;have hn:¬ (n+m≤cap):=by omega
  have h63':¬ (9223372036854775807<((n:Int)+(m:Int))):=by omega
  have hfit:=growslice_fits hcap hbytes;have h48':¬ (281474976710656<Builtin.nextslicecap (n+m) cap*i.bytes):=by omega
  by_cases hm:m=0
  ·have hnl:=hnil hm;subst hm;rw[hnl];simp only[iA] at hn h63' h48' ⊢;have ai5:¬ (9223372036854775807<(n:Int)):=by omega
   simp[Builtin.append_,dV ht,dV hti,sizeOf,typeInfo,zeroValue,hi,hz,asInt,asIntOf,hw0,hn,ai5,h48',Question.forced,hfo,newRow,grownCap]
  ·have hmz:¬ (m*i.size=0):=Nat.mul_ne_zero hm hsn;simp[Builtin.append_,dV ht,dV hti,sizeOf,typeInfo,zeroValue,hi,hz,asInt,asIntOf,hw,hneg,hbig,hn,h63',h48',Question.forced,hfo,newRow,grownCap,hmz,hna];congr 2;apply Array.ext';simp[bC]
 rcases hown.2 with ⟨rfl,rfl⟩ | ⟨g,cap,cur,rfl,hbg,hg,hnc,hcm,hcs,htake⟩
 ·have hx:xs=[]:=dx (by simpa using hown.1);subst hx
  by_cases hm:m=0
  ·have hnl:=hnil hm;subst hm;rw[hnl];refine⟨.slice none 0 0,w,?_,World.ownsRow_nil w base e i.size,⟨rfl,rfl,rfl,ay _,fun _ _ _=>rfl⟩,Or.inl rfl⟩;simp[Builtin.append_,dV ht,dV hti,sizeOf,typeInfo,hi,asInt,asIntOf,hw0]
  ·have hgr:=grown 0 (by omega) (Value.ownBlock (.slice none 0 0));exact⟨_,_,runs none 0 (by omega) (by simp[Builtin.firstCells]),hgr.1,hgr.2,Or.inr rfl⟩
 ·by_cases hroom:n+m≤cap
  ·have hfit:n*i.size+news.length≤cur.size:=by rw[hl,hcs,← gI];exact dM _ hroom
   obtain⟨cur',h3,h4,h5⟩:=uM news (n*i.size) w cur hg hfit;obtain⟨s1,s2,s3,s4⟩:=vF g news (n*i.size) w;have hst:=mh (P:=P) g (n*i.size) news 0 w (fun j hj=>by rw[iN w g _ cur e (0,0) hg];simp;omega) (fun j _=>oW hg _) h1;simp only[iA] at hst;refine⟨.slice (some ⟨g,0,none⟩) (n+m) cap,w.setCells g (n*i.size) news,?_,⟨hlen,.inr ⟨g,cap,cur',rfl,hbg,h3,hroom,hcm,by rw[h4,hcs],?_⟩⟩,⟨s1,s2,s3,by rw[s4];exact ay _,fun k _ hk=>uL news _ k (fun e=>hk (by simp[Value.ownBlock,e]))⟩,Or.inl rfl⟩
   ·by_cases hm:m=0
    ·have hnl:=hnil hm;subst hm;rw[hnl] at hst ⊢;simp[Builtin.append_,dV ht,dV hti,sizeOf,typeInfo,hi,asInt,asIntOf,hw0,hnc,add_plain,hst]
    ·have hmz:¬ (m*i.size=0):=Nat.mul_ne_zero hm hsn;simp[Builtin.append_,dV ht,dV hti,sizeOf,typeInfo,zeroValue,hi,hz,asInt,asIntOf,hw,hneg,hbig,hroom,hmz,hna,add_plain,hst]
   ·rw[h5];have h6:cur.toList.take (n*i.size)=xs:=htake;rw[h6,← hlen];exact List.take_left
  ·have holds:∀ j u,xs[j]? = some u→w.cell? ((⟨g,0,none⟩:Addr).add j)=some u:=hown.cells (g:=g) rfl;have hgr:=grown cap (by omega) (Value.ownBlock (.slice (some ⟨g,0,none⟩) n cap));exact⟨_,_,runs (some ⟨g,0,none⟩) cap (by omega) (run_firstCells_some (P:=P) w.drew i.size n _ n cap xs hown.1 (by simpa using holds)),hgr.1,hgr.2,Or.inr rfl⟩
end
namespace Kd
theorem OO {α:Type}{R:α→List Value→Prop}{z:Value}{size:Nat}{z0:α}(hz:z.cells.size=size)(hs:0<size)(h0:R z0 z.cells.toList)(m:Nat):qP R size (List.replicate m z0) (Builtin.zeroCells z.cells m).toList:=by
 have h:=Fv hz hs h0 m;rw[show Builtin.zeroCells z.cells m=madeCells z.cells (m*size) by unfold Builtin.zeroCells madeCells;rw[hz]];exact h
section
variable {P:Program} {ops:Array Oper} {rest:List Oper} {o:Oper} {a:Act} {Q:Exit→Act→World→Prop} {Kc:Act→World→Prop} {α:Type}
theorem LK (d:Kd α){W:World}(base:Nat)(t ti ty e:TypeId)(z:Value)(bytes:Nat)(ht:P.underlying t=some (.slice e)){k:IntKind}(hti:P.underlying ti=some (.int k))(hinfo:(P.info? e).map (fun i=>(i.zero,i.size,i.bytes))=some (some z,d.sz,bytes))(hz:z.cells.size=d.sz)(hs0:0<d.sz)(hb0:0<bytes)
 (v:Value) (xs:List α) (z0:α) {ok:Nat→Prop} (hzero:d.M W base (fun _=>False) z0 z.cells.toList) (hfresh:∀ k,W.heap.size≤k→ok k) (HO:d.R e W base ok v xs) (kx:IntKind) (n:Int) (h0:0≤n) (hl:(xs.length+n.toNat)*bytes≤140737488355328) (hbase:base≤W.heap.size) :
 ∃ v1 w1,(Builtin.append_ #[t,ti] ty #[v,.int kx n]).run P W = .ok v1 w1∧d.R e w1 base ok v1 (xs++List.replicate n.toNat z0)∧W.grownBy w1 v.ownBlock∧(v1.ownBlock=v.ownBlock∨∃ b,v1.ownBlock=some b∧W.heap.size≤b):=by
 obtain⟨m,rfl⟩:=bO h0;simp only[aG] at hl ⊢;obtain⟨i0,hi,hzz⟩:=Option.map_eq_some_iff.1 hinfo;simp only[bG] at hzz;obtain⟨hz0,hz1,hz2⟩:=hzz;obtain⟨hok,inner,hown,hr⟩:=HO;have hnM:qP (d.M W base (fun _=>False)) d.sz (List.replicate m z0) (Builtin.zeroCells z.cells m).toList:=OO hz hs0 hzero m;obtain⟨v1,w1,hrun,h2,hg,hat⟩:=Fw (P:=P) W base t ti ty e i0 z d.sz bytes ht hti hi hz0 hz1 hz2 hz hs0 hb0 v xs.length inner hown kx m (UE hnM hs0 (fun _ _ hp=>d.K_one (d.K_of_M hp))) hl hbase;have hat':v1.ownBlock=v.ownBlock∨∃ b,v1.ownBlock=some b∧W.heap.size≤b:=by
  rcases hat with hat | hat
  ·exact .inl hat
  ·exact .inr ⟨_,hat,ay _⟩
 have hne:∀ k,some k≠v.ownBlock→k<W.heap.size→some k≠v1.ownBlock:=by
  intro k hk hlt;rcases hat' with hat | ⟨b,hb,hle⟩
  ·rw[hat];exact hk
  ·rw[hb];intro he;injection he with he
   omega
 have step:∀ {q:α} {c:List Value} {o:Nat→Prop},d.M W base o q c→(∀ k,o k→ok k∧some k≠v.ownBlock)→d.M w1 base (fun k=>ok k∧some k≠v1.ownBlock) q c:=by
  intro q c o hq ho;have h1:=d.M_move (w1:=w1) (fun k hk=>hg.block k hk.2.2.1 (ho k hk.1).2) (d.M_bound hq);exact d.M_mono (fun k hk=>⟨(ho k hk.1).1,hne k (ho k hk.1).2 hk.2.2.1⟩) h1
 refine⟨v1,w1,hrun,⟨fun k hk=>?_,inner++(Builtin.zeroCells z.cells m).toList,by rw[aT,jo];exact h2,BM (hr.zQ (fun _ _ hq=>step hq (fun _ hk=>hk))) (hnM.zQ (fun _ _ hq=>step hq (fun _ hk=>hk.elim)))⟩,hg,hat'⟩;rcases hat' with hat | ⟨b,hb,hle⟩
 ·exact hok k (hat ▸ hk)
 ·rw[hb] at hk;injection hk with hk
  exact hfresh k (by omega)
theorem GV (d:Kd α){w0 W:World}(base:Nat)(hgd:o.guard=none)(s x:Operand)(t ti e:TypeId)(z:Value)(bytes:Nat)
 (ho:o.op = .call { callee := .builtin .append,args := #[s,x],argTypes := #[t,ti] })
 (ht:P.underlying t=some (.slice e)) {k:IntKind} (hti:P.underlying ti=some (.int k)) (hinfo:(P.info? e).map (fun i=>(i.zero,i.size,i.bytes))=some (some z,d.sz,bytes)) (hz:z.cells.size=d.sz) (hs0:0<d.sz) (hb0:0<bytes)
 (v:Value) (xs:List α) (z0:α) {kx:IntKind} (n:Int) (ok:Nat→Prop) (hs:a.eval s=v) (hx:a.eval x = .int kx n) (hzero:d.M W base (fun _=>False) z0 z.cells.toList) (hfresh:∀ k,W.heap.size≤k→ok k)
 (HO:d.R e W base ok v xs) (h0:0≤n) (HB:Below base w0 W) (hbase:base≤W.heap.size) (hl:(xs.length+n.toNat)*bytes≤140737488355328)
 (h:∀ v1 w1,d.R e w1 base ok v1 (xs++List.replicate n.toNat z0)→Below base w0 w1→W.grownBy w1 v.ownBlock→(v1.ownBlock=v.ownBlock∨∃ b,v1.ownBlock=some b∧W.heap.size≤b)→wpList P ops Q rest (a.put o.dst v1) w1) :
 wpList P ops Q (o::rest) a W:=by
 obtain⟨v1,w1,hr1,h1,hg,hat⟩:=LK (P:=P) d base t ti o.type e z bytes ht hti hinfo hz hs0 hb0 v xs z0 hzero hfresh HO kx n h0 hl hbase;refine kU hgd fun K hK=>?_
 unfold Oper.wp execOp;simp only[ho,resolve,invoke,builtin,iL,j6,ig,bR,bS,bZ,hs,hx,hr1];exact hK _ _ (h v1 w1 h1 (HB.grown hg hbase (Ke HO)) hg hat)
end
end Kd
end Go.Proofs.YW.oO
namespace Go.Proofs.YW.oO
open Go.RowKit
namespace Kd
structure Heap {α:Type} (d:Kd α):Prop where
 K:∀ {w w1:World} {x:α} {cs:List Value},(∀ k,k<w.heap.size→w1.heap[k]? = w.heap[k]?)→d.K w x cs→d.K w1 x cs
theorem QD {w w1:World}(hb:∀ k,k<w.heap.size→w1.heap[k]? = w.heap[k]?){a:Addr}{v:Value}(h:w.cell? a=some v):w1.cell? a=some v:=by
 have:=hb a.block (gu w a h)
 simpa [World.cell?,this] using h
theorem Heap.C {α:Type}{d:Kd α}(hd:Heap d){w w1:World}{A:Option Addr}{n:Nat}{xs:List α}(hb:∀ k,k<w.heap.size→w1.heap[k]? = w.heap[k]?)(h:d.C w A n xs):d.C w1 A n xs:=
 ⟨h.1,h.2.1,fun hn=>by
  obtain⟨ad,e,hc⟩:=h.2.2 hn;refine⟨ad,e,fun j p hj=>?_⟩;obtain⟨c,hs,hr,hcell⟩:=hc j p hj;exact⟨c,hs,hd.K hb hr,fun i u hu=>QD hb (hcell i u hu)⟩⟩
theorem MJ (k:IntKind):Heap (Kd.int k):=⟨fun _ h=>h⟩
end Kd
end Go.Proofs.YW.oO
namespace Go.Proofs.YW.oO
open Go.RowKit
def yJ (P:World→Prop)(W:World)(ok:Nat→Prop):Prop:=∀ W':World,(∀ k,ok k→k<W.heap.size→W'.heap[k]? = W.heap[k]?)→P W'
theorem VD {W W1:World}{k:Nat}(h:W1.heap[k]? = W.heap[k]?)(hlt:k<W.heap.size):k<W1.heap.size:=by
 rw[gN hlt] at h;exact (Array.getElem?_eq_some_iff.1 h).1
namespace yJ
variable {P Q:World→Prop} {W W1:World} {ok ok':Nat→Prop}
theorem now (h:yJ P W ok):P W:=h W (fun _ _ _=>rfl)
theorem mono (h:yJ P W ok)(hok:∀ k,ok k→ok' k):yJ P W ok':=fun W' hW=>h W' (fun k hk hlt=>hW k (hok k hk) hlt)
theorem bound (h:yJ P W ok):yJ P W (fun k=>ok k∧k<W.heap.size):=fun W' hW=>h W' (fun k hk hlt=>hW k ⟨hk,hlt⟩ hlt)
theorem step (h:yJ P W ok)(hm:∀ k,ok k→k<W.heap.size→W1.heap[k]? = W.heap[k]?):yJ P W1 ok:=fun W' hW=>h W' (fun k hk hlt=>(hW k hk (VD (hm k hk hlt) hlt)).trans (hm k hk hlt))
theorem imp (h:yJ P W ok)(hi:∀ W',P W'→Q W'):yJ Q W ok:=fun W' hW=>hi W' (h W' hW)
theorem old (h:yJ P W ok)(hb:Below W.heap.size W W1):yJ P W1 (fun k=>ok k∧k<W.heap.size):=(h.bound).step (fun k _ hlt=>hb.block k hlt)
end yJ
namespace Kd
def F {α:Type}(d:Kd α)(W:World)(ok:Nat→Prop)(A:Option Addr)(n:Nat)(xs:List α):Prop:=yJ (fun W=>d.C W A n xs) W ok
def FK {α:Type}(d:Kd α)(W:World)(ok:Nat→Prop)(x:α)(c:List Value):Prop:=yJ (fun W=>d.K W x c) W ok
section
variable {α β:Type} {d:Kd α} {e base n n' cc g N:Nat} {ok ok' okp S:Nat→Prop} {w w0 w1 W W1:World} {A A':Option Addr} {u v v1:Value} {xs:List α} {xs':List β} {d':Kd β} {x:α} {c:List Value}
theorem Po (h:F d W ok A n xs):d.C W A n xs:=yJ.now h
theorem Sd (h:F d W ok A n xs)(hok:∀ k,ok k→ok' k):F d W ok' A n xs:=yJ.mono h hok
theorem BU (h:F d W ok A n xs):F d W (fun k=>ok k∧k<W.heap.size) A n xs:=yJ.bound h
theorem WQ (h:F d W ok A n xs)(hm:∀ k,ok k→k<W.heap.size→W1.heap[k]? = W.heap[k]?):F d W1 ok A n xs:=yJ.step h hm
theorem GR (h:F d W ok A n xs)(hi:∀ W',d.C W' A n xs→d'.C W' A' n' xs'):F d' W ok A' n' xs':=yJ.imp h hi
theorem xJ (h:F d W ok A n xs)(hb:Below W.heap.size W W1):F d W1 ok A n xs:=WQ h (fun k _ hlt=>hb.block k hlt)
theorem Sb (h:F d W ok A n xs):F d W.drew ok A n xs:=xJ h (q9 (aU _ _))
theorem Y0 (hd:Heap d)(h:d.C w A n xs):F d w (fun k=>k<w.heap.size) A n xs:=fun _ hW=>hd.C (fun k hlt=>hW k hlt hlt) h
theorem X9 (h:d.R e W base ok (.slice A n cc) xs):F d W ok A n xs:=fun W' hW=>by
 have h2:=pE (Dg h hW);rw[h2.1];exact h2.2.2
theorem zA (h:FK d W ok x c):d.K W x c:=yJ.now h
theorem J9 (h:FK d W ok x c)(hok:∀ k,ok k→ok' k):FK d W ok' x c:=yJ.mono h hok
theorem LG (h:FK d W ok x c):FK d W (fun k=>ok k∧k<W.heap.size) x c:=yJ.bound h
theorem BR (h:FK d W ok x c)(hm:∀ k,ok k→k<W.heap.size→W1.heap[k]? = W.heap[k]?):FK d W1 ok x c:=yJ.step h hm
theorem y7 (h:FK d W ok x c)(hb:Below W.heap.size W W1):FK d W1 ok x c:=BR h (fun k _ hlt=>hb.block k hlt)
theorem R8 (h:FK d W ok x c){row:Option Nat}(hg:W.grownBy W1 row)(hok:∀ k,ok k→some k≠row):FK d W1 ok x c:=BR h (fun k hk hlt=>hg.block k hlt (hok k hk))
theorem Vh (h:d.M W base ok x c):FK d W ok x c:=fun _ hW=>d.K_of_M (Sg h hW)
theorem emptied (W:World)(g:Nat):∃ W':World,(∀ k,k≠g→W'.heap[k]? = W.heap[k]?)∧∀ a:Addr,a.block=g→W'.cell? a=none:=by
 refine⟨{ W with heap:=W.heap.setIfInBounds g (.cells #[] 0) },fun k hk=>by simp[jy hk],fun a ha=>?_⟩;subst ha
 by_cases hlt:a.block<W.heap.size
 ·simp[World.cell?,hlt]
 ·simp[World.cell?,hlt]
end
end Kd
end Go.Proofs.YW.oO
namespace Go.Proofs.YW.oO
open Go.RowKit
namespace Kd
def chunks (sz:Nat)(n:Nat)(inner:List Value):List (List Value):=(List.range n).map fun j=>(inner.drop (j*sz)).take sz
theorem uN (sz n:Nat)(inner:List Value):(chunks sz n inner).length=n:=by simp[chunks]
theorem QF {sz n:Nat}{inner:List Value}{j:Nat}(hj:j<n):(chunks sz n inner)[j]? = some ((inner.drop (j*sz)).take sz):=by simp[chunks,hj]
theorem Ad {sz n:Nat}{inner:List Value}{j:Nat}{c:List Value}(h:(chunks sz n inner)[j]? = some c):c=(inner.drop (j*sz)).take sz:=by
 have hj:j<n:=by have:=(List.getElem?_eq_some_iff.1 h).1;rwa [uN] at this
 rw[QF hj] at h;injection h with h
 exact h.symm
theorem UF {α:Type}{Rr:α→List Value→Prop}{sz:Nat}{xs:List α}{inner:List Value}(h:qP Rr sz xs inner)(hR:∀ x c,Rr x c→c.length=sz∧∀ u∈c,u.oneCell'=true):qP (fun x cs=>cs=x∧cs.length=sz∧∀ u∈cs,u.oneCell'=true) sz (chunks sz xs.length inner) inner:=by
 refine⟨by rw[uN];exact h.1,fun j p hj=>?_⟩;have hjl:j<xs.length:=by have:=(List.getElem?_eq_some_iff.1 hj).1;rwa [uN] at this
 have hp:=Ad hj;exact⟨hp.symm,hR _ _ (h.2 j _ (aR hjl))⟩
section
variable {α:Type} {d:Kd α} {e base n cc g:Nat} {ok ok' okp S:Nat→Prop} {w w1 W W1:World} {A:Option Addr} {u v v1:Value} {xs:List α} {x:α} {c:List Value}
theorem Sc (h:F d W ok A n xs)(z:α)(i:Int)(h0:0≤i)(h1:i<n) :
 ∃ ad c,A=some ad∧c.length=d.sz∧FK d W ok (xs.getD i.toNat z) c∧(∀ j u,c[j]? = some u→W.cell? (ad.add (i.toNat*d.sz+j))=some u)∧(0<d.sz→ok ad.block):=by
 obtain⟨ad,c,rfl,hcl,hK,hcc⟩:=CQ (Po h) z i h0 h1;have hin:0<d.sz→ok ad.block:=by
  intro hs
  by_cases hk:ok ad.block
  ·exact hk
  ·obtain⟨W',h2,h3⟩:=emptied W ad.block;obtain⟨ad',c',he,hcl',_,ah9⟩:=CQ (h W' (fun k hk' _=>h2 k (fun e=>hk (e ▸ hk')))) z i h0 h1;injection he with he
   subst he;have h4:=ah9 0 _ (aR (by omega));rw[h3 _ (add_block _ _)] at h4;cases h4
 refine⟨ad,c,rfl,hcl,fun W' hW=>?_,hcc,hin⟩;obtain⟨ad',c',he,hcl',hK',ah9⟩:=CQ (h W' hW) z i h0 h1;injection he with he
 subst he;have hc:c=c':=by
  apply iZ;intro j
  by_cases hj:j<d.sz
  ·have hb:W'.heap[ad.block]? = W.heap[ad.block]? := by
    have h5:=hcc j _ (aR (by omega));have h6:=gu W _ h5;rw[add_block] at h6;exact hW _ (hin (by omega)) h6
   have h5:=hcc j _ (aR (by omega));have h6:=ah9 j _ (aR (by omega));have h7:W'.cell? (ad.add (i.toNat*d.sz+j))=W.cell? (ad.add (i.toNat*d.sz+j)):=by simp[World.cell?,add_block,hb]
   rw[h7,h5] at h6;rw[aR (by omega),aR (by omega)];exact h6
  ·rw[dS (by omega),dS (by omega)]
 rw[hc];exact hK'
theorem WO (h:F d W ok A n xs):sM (fun x c=>FK d W ok x c) d.sz W A n xs:=by
 obtain⟨hl,hm,hn⟩:=Po h;refine⟨hl,hm,fun hp=>?_⟩;obtain⟨ad,rfl,_⟩:=hn hp;refine⟨ad,rfl,fun j p hj=>?_⟩;obtain⟨hjl,hjp⟩:=List.getElem?_eq_some_iff.1 hj;obtain⟨ad',c,he,hcl,hK,hcc,_⟩:=Sc h p (j:Int) (by omega) (by omega);injection he with he
 subst he;simp only[aG] at hK hcc;rw[aV,hj] at hK;exact⟨c,hcl,hK,hcc⟩
def N {α:Type}(d:Kd α)(e:Nat)(w:World)(base:Nat)(ok:Nat→Prop)(v:Value)(xs:List α):Prop:=
 (∀ k,v.ownBlock=some k→ok k)∧∃ rows:List (List Value),rows.length=xs.length∧(raw d.sz).R e w base (fun k=>some k=v.ownBlock) v rows∧∀ (j:Nat) (x:α) (c:List Value),xs[j]? = some x→rows[j]? = some c→FK d w (fun k=>ok k∧some k≠v.ownBlock) x c
theorem Ro {sz:Nat}{rows:List (List Value)}(h:(raw sz).R e w base ok v rows):(raw sz).R e w base (fun k=>some k=v.ownBlock) v rows:=BZ rfl h
theorem La {sz:Nat}{rows:List (List Value)}(h:(raw sz).R e w base ok v rows):(raw sz).R e w base (fun _=>True) v rows:=qR h (fun _ _=>bE)
theorem YM (h:d.R e w base ok v xs):N d e w base ok v xs:=by
 obtain⟨h0,inner,ho,hr⟩:=h;refine⟨h0,chunks d.sz xs.length inner,uN _ _ _,⟨fun k hk=>hk.symm,inner,by rw[uN];exact ho,UF hr (fun x c hp=>⟨d.K_len (d.K_of_M hp),d.K_one (d.K_of_M hp)⟩)⟩,fun j x c hx hc=>?_⟩;rw[Ad hc];exact Vh (hr.2 j x hx)
theorem FJ (d:Kd α)(e:Nat)(w:World)(base:Nat)(ok:Nat→Prop):N d e w base ok (.slice none 0 0) []:=YM (tJ _ _ _ _ _)
theorem Vj (h:N d e w base ok v xs):∀ k,v.ownBlock=some k→k<w.heap.size:=by
 obtain⟨_,rows,_,hR,_⟩:=h;exact Qv hR
theorem Df (h:N d e w base ok v xs):∀ k,v.ownBlock=some k→base≤k:=by
 obtain⟨_,rows,_,hR,_⟩:=h;exact Ke hR
theorem Vk (h:N d e w base ok v xs):∀ k,v.ownBlock=some k→∃ cells,w.heap[k]? = some (.cells cells e (0,0)):=by
 obtain⟨_,rows,_,hR,_⟩:=h;exact Ca hR
theorem Pq {base':Nat}(h:N d e w base ok v xs)(hb:base'≤base):N d e w base' ok v xs:=by
 obtain⟨h0,rows,hl,hR,hf⟩:=h;exact⟨h0,rows,hl,qW hR hb,hf⟩
theorem N7 (h:N d e w base ok v xs)(hm:∀ k,ok k→k<w.heap.size→w1.heap[k]? = w.heap[k]?):N d e w1 base ok v xs:=by
 obtain⟨h0,rows,hl,hR,hf⟩:=h;exact⟨h0,rows,hl,Dg hR (fun k hk hlt=>hm k (h0 k hk.symm) hlt),fun j x c hx hc=>BR (hf j x c hx hc) (fun k hk hlt=>hm k hk.1 hlt)⟩
theorem wV (h:N d e w base ok v xs)(hb:Below w.heap.size w w1):N d e w1 base ok v xs:=N7 h (fun k _ hk=>hb.block k hk)
theorem DX (h:N d e w base ok v xs)(o:Obj):N d e (w.alloc o) base ok v xs:=wV h (oN (aU _ _) o)
theorem WZ (h:N d e w base ok v xs):N d e w.drew base ok v xs:=wV h (q9 (aU _ _))
theorem X8 (h:N d e w base ok v xs){p:Addr}(hok:∀ k,ok k→k≠p.block)(u:Value):N d e (w.setCell p u) base ok v xs:=N7 h (fun k ho _=>fQ w p u k (hok k ho))
theorem zW (h:N d e w base ok v xs):∃ A c,v = .slice A xs.length c:=by
 obtain⟨_,rows,hl,hR,_⟩:=h;obtain⟨A,c,he⟩:=pO hR;exact⟨A,c,by rw[he,hl]⟩
theorem LJ {n c:Nat}(h:N d e w base ok (.slice A n c) xs):n=xs.length∧n≤c∧d.C w A xs.length xs:=by
 obtain⟨_,rows,hl,hR,hf⟩:=h;obtain⟨hn,hc,hC⟩:=pE hR;refine⟨by omega,hc,?_⟩;rw[hl] at hC;refine⟨rfl,hC.2.1,fun hp=>?_⟩;obtain⟨ad,he,hcell⟩:=hC.2.2 hp;refine⟨ad,he,fun j p hj=>?_⟩;have hjl:j<rows.length:=by have:=(List.getElem?_eq_some_iff.1 hj).1;omega
 obtain⟨c',hcl,hK,hcc⟩:=hcell j _ (aR hjl);have hk:=zA (hf j p _ hj (aR hjl));refine⟨c',hcl,?_,hcc⟩;rw[show c'=rows[j] from hK.1];exact hk
theorem yj (h:N d e w base ok v xs):∃ A c,v = .slice A xs.length c∧xs.length≤c∧d.C w A xs.length xs:=by
 obtain⟨A,c,rfl⟩:=zW h;exact⟨A,c,rfl,(LJ h).2⟩
theorem YG {n:Nat}(h:N d e w base ok (.slice A n cc) xs):F d w ok A n xs:=fun W' hW=>by
 have h2:=LJ (N7 h hW);rw[h2.1];exact h2.2.2
end
end Kd
end Go.Proofs.YW.oO
namespace Go.Proofs.YW.oO
open Go.RowKit
section
variable {P:Program} {d:Nat} {xs ys:Array Value} {f:Field} {fs:List Field} {a b:Value} {r s:Bool} {w:World}
theorem Tw (hn:(f.name == "_")=false)(ha:(part f.type xs f.offset).run P w = .ok a w)(hb:(part f.type ys f.offset).run P w = .ok b w)(he:(Op.equalIn d f.type a b).run P w = .ok r w):(Op.eqFields d xs ys [f]).run P w = .ok r w:=by
 have hn':f.name ≠ "_" := by simpa using hn
 simp only[Op.eqFields,au hn',iL,ha,hb,he,ig];cases r<;>simp
theorem Tv (hn:(f.name == "_")=false)(ha:(part f.type xs f.offset).run P w = .ok a w)(hb:(part f.type ys f.offset).run P w = .ok b w)(he:(Op.equalIn d f.type a b).run P w = .ok r w)(hr:(Op.eqFields d xs ys fs).run P w = .ok s w):(Op.eqFields d xs ys (f::fs)).run P w = .ok (r&&s) w:=by
 have hn':f.name ≠ "_" := by simpa using hn
 rw[Op.eqFields];simp only[au hn',iL,ha,hb,he,ig];cases r
 ·simp
 ·simpa using hr
theorem Xl {t:TypeId}{fs:Array Field}(hu:P.underlying t=some (.struct fs))(hp:P.stoodInHeld t=false)(h:(Op.eqFields d xs ys fs.toList).run P w = .ok r w):(Op.equalIn (d+1) t (.agg xs) (.agg ys)).run P w = .ok r w:=by
 have hf:P.fieldsOf t=fs:=by simp[Program.fieldsOf,hu]
 rw[run_equalIn_struct (P:=P) w d t xs ys (by rw[hf];exact hu) hp,hf];exact h
end
end Go.Proofs.YW.oO
namespace Go.Proofs.YW.oO
theorem qP.one {α:Type}{R:α→List Value→Prop}{ps:List α}{cs:List Value}{p:α}{v:Value}(hp:R p [v])(h:qP R 1 ps cs):qP R 1 (p::ps) (v::cs):=by
 refine⟨by simp[h.1],fun j q hq=>?_⟩;cases j with
 | zero=>
   simp only[iG,bF] at hq;subst hq
   simpa using hp
 | succ j=>
   simp only[gB] at hq;have h1:=h.2 j q hq
   simpa [kM] using h1
theorem qP.front {α:Type}{R:α→List Value→Prop}{size:Nat}{ps:List α}{cs c all:List Value}{p:α}(hp:R p c)(hc:c.length=size)(h:qP R size ps cs)(ha:c++cs=all):qP R size (p::ps) all:=by
 subst ha;refine⟨by rw[aT,hc,h.1,bq,iM,mo],fun j q hq=>?_⟩;cases j with
 | zero=>
   simp only[iG,bF] at hq;subst hq;rw[gH,gT,iw (by omega),iO (by omega)];exact hp
 | succ j=>
   simp only[gB] at hq;have h1:=h.2 j q hq;rw[iM,lN,lH (by rw[hc];exact Nat.le_add_left _ _),cB,hc,ji];exact h1
end Go.Proofs.YW.oO
namespace Go.Proofs.YW.oO
open Go.RowKit
theorem Kd.rV {α:Type}{d:Kd α}{e base:Nat}{ok:Nat→Prop}{w:World}{v:Value}{xs:List α}(h:d.R e w base ok v xs)(hn:0<xs.length):∃ (ad:Addr) (c:Nat),v = .slice (some ad) xs.length c:=by
 obtain⟨A,c,rfl⟩:=Kd.pO h;have h2:=(Kd.pE h).2.2;obtain⟨ad,he,_⟩:=h2.2.2 hn;subst he;exact⟨ad,c,rfl⟩
section
variable {P:Program} {ops:Array Oper} {rest:List Oper} {o:Oper} {a:Act} {Q:Exit→Act→World→Prop} {W:World}
theorem sQ (hw:Region.wanted o (yielded ops a.tmps)=true)(h:wpList P ops Q ({ o with guard:=none }::rest) a W):wpList P ops Q (o::rest) a W:=by
 have h1:Region.wanted { o with guard:=none } (yielded ops a.tmps)=true:=rfl;unfold wpList at h ⊢;rw[au h1] at h;rw[au hw];exact h
end
namespace Kd
section
variable {α:Type} {d:Kd α} {e base n cap g:Nat} {ok ok' okp:Nat→Prop} {w w1 W:World} {v v1:Value} {xs ys:List α}
theorem Dc {rows news:List (List Value)}(h0:∀ k,v.ownBlock=some k→ok k)(hl:rows.length=xs.length)(hf:∀ (j:Nat) (x:α) (c:List Value),xs[j]? = some x→rows[j]? = some c→FK d W (fun k=>ok k∧some k≠v.ownBlock) x c)
 (hl2:news.length=ys.length) (hf2:∀ (j:Nat) (x:α) (c:List Value),ys[j]? = some x→news[j]? = some c→FK d W okp x c) (Z9:∀ k,okp k→ok k∧some k≠v.ownBlock) (hfresh:∀ k,W.heap.size≤k→ok k)
 (hR:(raw d.sz).R e w1 base (fun _=>True) v1 (rows++news)) (hg:W.grownBy w1 v.ownBlock) (hat:v1.ownBlock=v.ownBlock∨∃ b,v1.ownBlock=some b∧W.heap.size≤b):N d e w1 base ok v1 (xs++ys):=by
 have hne:∀ k,some k≠v.ownBlock→k<W.heap.size→some k≠v1.ownBlock:=by
  intro k hk hlt;rcases hat with hat | ⟨b,hb,hle⟩
  ·rw[hat];exact hk
  ·rw[hb];intro he;injection he with he
   omega
 have step:∀ {x:α} {c:List Value} {o:Nat→Prop},FK d W o x c→(∀ k,o k→ok k∧some k≠v.ownBlock)→FK d w1 (fun k=>ok k∧some k≠v1.ownBlock) x c:=by
  intro x c o hq ho;exact J9 (BR (LG hq) (fun k hk hlt=>hg.block k hlt (ho k hk.1).2)) (fun k hk=>⟨(ho k hk.1).1,hne k (ho k hk.1).2 hk.2⟩)
 refine⟨fun k hk=>?_,rows++news,by rw[aT,aT,hl,hl2],Ro hR,fun j x c hx hc=>?_⟩
 ·rcases hat with hat | ⟨b,hb,hle⟩
  ·exact h0 k (hat ▸ hk)
  ·rw[hb] at hk;injection hk with hk
   exact hfresh k (by omega)
 ·rcases dN j xs.length with hlt | hge
  ·rw[fO hlt] at hx;rw[fO (by omega)] at hc;exact step (hf j x c hx hc) (fun _ hk=>hk)
  ·rw[fq hge] at hx;rw[fq (by omega),hl] at hc;exact step (hf2 _ x c hx hc) Z9
theorem R9 {x:α}{c:List Value}(h:FK d W ok x c):c=c∧c.length=d.sz∧∀ u∈c,u.oneCell'=true:=⟨rfl,d.K_len (zA h),d.K_one (zA h)⟩
theorem Rp {Rr:α→List Value→Prop}{sz m:Nat}{A:Option Addr}(h:sM Rr sz W A m ys)(hR:∀ x c,Rr x c→c.length=sz∧∀ u∈c,u.oneCell'=true) :
 ∃ news:List (List Value),news.length=ys.length∧sM (fun x cs=>cs=x∧cs.length=sz∧∀ u∈cs,u.oneCell'=true) sz W A m news∧∀ (j:Nat) (x:α) (c:List Value),ys[j]? = some x→news[j]? = some c→Rr x c:=by
 rcases dW m with h0 | hp
 ·have hy:ys=[]:=dx (h.1.trans h0);subst hy;exact⟨[],rfl,⟨h0 ▸ rfl,h.2.1,fun hp=>by omega⟩,fun j x c hx=>by simp at hx⟩
 ·obtain⟨ad,rfl,_⟩:=h.2.2 hp;obtain⟨inner,hr,hc⟩:=sM.Ox h;refine⟨chunks sz ys.length inner,uN _ _ _,⟨by rw[uN];exact h.1,h.2.1,fun _=>⟨ad,rfl,fun j p hj=>?_⟩⟩,fun j x c hx hcc=>?_⟩
  ·have hjl:j<ys.length:=by have:=(List.getElem?_eq_some_iff.1 hj).1;rwa [uN] at this
   have hpe:=Ad hj;have hq:=hR _ _ (hr.2 j _ (aR hjl));rw[← hpe] at hq;refine⟨p,hq.1,⟨rfl,hq⟩,fun i u hu=>?_⟩;have hu2:inner[j*sz+i]? = some u:=by
    rw[hpe,dB] at hu;split at hu
    ·rw[eY] at hu;exact hu
    ·cases hu
   exact hc _ u hu2
  ·rw[Ad hcc];exact hr.2 j x hx
end
section
variable {P:Program} {ops:Array Oper} {rest:List Oper} {o:Oper} {a:Act} {Q:Exit→Act→World→Prop} {Kc:Act→World→Prop} {α:Type}
theorem Bg (d:Kd α){w0 W:World}(base:Nat)(hgd:o.guard=none)(s x:Operand)(t e:TypeId)(z:Value)(bytes:Nat)
 (ho:o.op = .call { callee := .builtin .append,args := #[s,x],argTypes := #[t,t] })
 (ht:P.underlying t=some (.slice e)) (hinfo:(P.info? e).map (fun i=>(i.zero,i.size,i.bytes))=some (some z,d.sz,bytes)) (hz:z.cells.size=d.sz) (hs0:0<d.sz) (hb0:0<bytes)
 (v:Value) (xs:List α) (p:α) (cs:List Value) (ok okp:Nat→Prop) (hs:a.eval s=v) (hx:a.eval x = .slice (some ⟨W.heap.size,0,none⟩) 1 1) (hp:FK d W okp p cs) (Z9:∀ k,okp k→ok k∧some k≠v.ownBlock) (hfresh:∀ k,W.heap.size≤k→ok k)
 (HO:N d e W base ok v xs) (HB:Below base w0 W) (hbase:base≤W.heap.size) (hl:(xs.length+1)*bytes≤140737488355328)
 (h:∀ v1 w1,N d e w1 base ok v1 (xs++[p])→Below base w0 w1→W.grownBy w1 v.ownBlock→(v1.ownBlock=v.ownBlock∨∃ b,v1.ownBlock=some b∧W.heap.size≤b)→wpList P ops Q rest (a.put o.dst v1) w1) :
 wpList P ops Q (o::rest) a (W.alloc (.cells cs.toArray e)):=by
 obtain⟨h0,rows,hlr,hR,hf⟩:=HO;refine yw (raw d.sz) base hgd s x t e z bytes ho ht hinfo hz hs0 hb0 v rows cs cs (fun _=>True) (fun _=>False) hs hx (R9 hp) (fun _ hk=>hk.elim) (fun _ _=>bE) (La hR) HB hbase (by rw[hlr];exact hl) ?_;intro v1 w1 hr hb hg hat;exact h v1 w1 (Dc h0 hlr hf (ys:=[p]) (news:=[cs]) rfl (fun j y c hy hc=>by
  rcases j with _ | j
  ·simp only[iG,bF] at hy hc;rw[← hy,← hc];exact hp
  ·simp at hy) Z9 hfresh hr hg hat) hb hg hat
theorem I7 (d:Kd α){w0 W:World}(base:Nat)(hw:Region.wanted o (yielded ops a.tmps)=true)(s x:Operand)(t e:TypeId)(z:Value)(bytes:Nat)
 (ho:o.op = .call { callee := .builtin .append,args := #[s,x],argTypes := #[t,t] })
 (ht:P.underlying t=some (.slice e)) (hinfo:(P.info? e).map (fun i=>(i.zero,i.size,i.bytes))=some (some z,d.sz,bytes)) (hz:z.cells.size=d.sz) (hs0:0<d.sz) (hb0:0<bytes)
 (v:Value) (xs:List α) (p:α) (cs:List Value) (ok okp:Nat→Prop) (hs:a.eval s=v) (hx:a.eval x = .slice (some ⟨W.heap.size,0,none⟩) 1 1) (hp:FK d W okp p cs) (Z9:∀ k,okp k→ok k∧some k≠v.ownBlock) (hfresh:∀ k,W.heap.size≤k→ok k)
 (HO:N d e W base ok v xs) (HB:Below base w0 W) (hbase:base≤W.heap.size) (hl:(xs.length+1)*bytes≤140737488355328)
 (h:∀ v1 w1,N d e w1 base ok v1 (xs++[p])→Below base w0 w1→W.grownBy w1 v.ownBlock→(v1.ownBlock=v.ownBlock∨∃ b,v1.ownBlock=some b∧W.heap.size≤b)→Kc (a.put o.dst v1) w1) :
 if Region.wanted o (yielded ops a.tmps)=true then Oper.wp P o a (W.alloc (.cells cs.toArray e)) Kc Q else Kc (a.put o.dst undef) (W.alloc (.cells cs.toArray e)):=by
 obtain⟨h0,rows,hlr,hR,hf⟩:=HO;refine CW (raw d.sz) base hw s x t e z bytes ho ht hinfo hz hs0 hb0 v rows cs cs (fun _=>True) (fun _=>False) hs hx (R9 hp) (fun _ hk=>hk.elim) (fun _ _=>bE) (La hR) HB hbase (by rw[hlr];exact hl) ?_;intro v1 w1 hr hb hg hat;exact h v1 w1 (Dc h0 hlr hf (ys:=[p]) (news:=[cs]) rfl (fun j y c hy hc=>by
  rcases j with _ | j
  ·simp only[iG,bF] at hy hc;rw[← hy,← hc];exact hp
  ·simp at hy) Z9 hfresh hr hg hat) hb hg hat
theorem uR (d:Kd α){w0 W:World}(base:Nat)(hw:Region.wanted o (yielded ops a.tmps)=true)(s x:Operand)(t e:TypeId)(z:Value)(bytes:Nat)
 (ho:o.op = .call { callee := .builtin .append,args := #[s,x],argTypes := #[t,t] })
 (ht:P.underlying t=some (.slice e)) (hinfo:(P.info? e).map (fun i=>(i.zero,i.size,i.bytes))=some (some z,d.sz,bytes)) (hz:z.cells.size=d.sz) (hs0:0<d.sz) (hb0:0<bytes)
 (v:Value) (xs ys:List α) (A:Option Addr) (m c:Nat) (ok okp:Nat→Prop) (hs:a.eval s=v) (hx:a.eval x = .slice A m c)
 (HO:N d e W base ok v xs) (HR:F d W okp A m ys) (Z9:∀ k,okp k→ok k∧some k≠v.ownBlock) (hfresh:∀ k,W.heap.size≤k→ok k)
 (HB:Below base w0 W) (hbase:base≤W.heap.size) (hl:(xs.length+m)*bytes≤140737488355328)
 (h:∀ v1 w1,N d e w1 base ok v1 (xs++ys)→Below base w0 w1→W.grownBy w1 v.ownBlock→(v1.ownBlock=v.ownBlock∨∃ b,v1.ownBlock=some b∧W.heap.size≤b)→Kc (a.put o.dst v1) w1) :
 if Region.wanted o (yielded ops a.tmps)=true then Oper.wp P o a W Kc Q else Kc (a.put o.dst undef) W:=by
 obtain⟨h0,rows,hlr,hR,hf⟩:=HO;obtain⟨news,hnl,hnr,hnf⟩:=Rp (WO HR) (fun y c hk=>⟨d.K_len (zA hk),d.K_one (zA hk)⟩);refine qI (raw d.sz) base hw s x t e z bytes ho ht hinfo hz hs0 hb0 v rows news A m c (fun _=>True) (fun _=>False) hs hx (La hR) hnr (fun _ _ hk=>hk) (fun _ hk=>hk.elim) (fun _ _=>bE) HB hbase (by rw[hlr];exact hl) ?_;intro v1 w1 hr hb hg hat;exact h v1 w1 (Dc h0 hlr hf hnl hnf Z9 hfresh hr hg hat) hb hg hat
end
end Kd
end Go.Proofs.YW.oO
namespace Go.Proofs.YW.pz
open Go.RowKit Go.Proofs.YW.oO
theorem sV (k k':IntKind)(x y:Int):Builtin.max2 (.int k x) (.int k' y)=pure (.int k (if x<y then y else x)):=by simp only[Builtin.max2,gt_iff_lt]
theorem sZ (k k':IntKind)(x y:Int):Builtin.min2 (.int k x) (.int k' y)=pure (.int k (if y<x then y else x)):=by simp only[Builtin.min2]
theorem uE (ats:Array TypeId)(ty:TypeId)(a b:Value):Builtin.max_ ats ty #[a,b]=(Builtin.max2 a b >>= fun s=>pure s):=by simp only[Builtin.max_,jB,jP]
theorem uF (ats:Array TypeId)(ty:TypeId)(a b:Value):Builtin.min_ ats ty #[a,b]=(Builtin.min2 a b >>= fun s=>pure s):=by simp only[Builtin.min_,jB,jP]
theorem sW (ats:Array TypeId)(ty:TypeId)(a b c:Value):Builtin.max_ ats ty #[a,b,c]=(Builtin.max2 a b >>= fun s=>Builtin.max2 s c >>= fun s=>pure s):=by simp only[Builtin.max_,jB,jP]
theorem tq (ats:Array TypeId)(ty:TypeId)(a b c:Value):Builtin.min_ ats ty #[a,b,c]=(Builtin.min2 a b >>= fun s=>Builtin.min2 s c >>= fun s=>pure s):=by simp only[Builtin.min_,jB,jP]
theorem uj (ats:Array TypeId)(ty:TypeId)(a b c d:Value):Builtin.max_ ats ty #[a,b,c,d]=(Builtin.max2 a b >>= fun s=>Builtin.max2 s c >>= fun s=>Builtin.max2 s d >>= fun s=>pure s):=by simp only[Builtin.max_,jB,jP]
theorem um (ats:Array TypeId)(ty:TypeId)(a b c d:Value):Builtin.min_ ats ty #[a,b,c,d]=(Builtin.min2 a b >>= fun s=>Builtin.min2 s c >>= fun s=>Builtin.min2 s d >>= fun s=>pure s):=by simp only[Builtin.min_,jB,jP]
end Go.Proofs.YW.pz
namespace Go.Proofs.YW.oO
open Go.RowKit
section
variable {P:Program} {ops:Array Oper} {rest:List Oper} {o:Oper} {a:Act} {Q:Exit→Act→World→Prop} {W:World}
theorem qp {f:FuncId}{as:Array Operand}{ts:Array TypeId}(_ho:o.op = .call { callee := .value (.func f),args:=as,argTypes:=ts })(h:wpList P ops Q (o::rest) a W):wpList P ops Q (o::rest) a W:=h
theorem uh {b:Builtin}{xs:Array Operand}{ts:Array TypeId}(_ho:o.op = .call { callee := .builtin b,args:=xs,argTypes:=ts })(h:wpList P ops Q (o::rest) a W):wpList P ops Q (o::rest) a W:=h
end
def mn (a b:Int):Int:=if b<a then b else a
def shl (k:IntKind)(x y:Int):Int:=k.wrap (x*2 ^ min y.toNat k.bits)
def shr (k:IntKind)(x y:Int):Int:=x / 2 ^ min y.toNat k.bits
theorem uW {k:IntKind}{x y j:Int}(h:shl k x y=j)(hy:y≤k.bits):k.wrap (x*2 ^ y.toNat)=j:=by rw[← h];unfold shl;rw[dJ (by omega)]
theorem Cz {k:IntKind}{x y j:Int}(h:shr k x y=j)(hy:y≤k.bits):x / 2 ^ y.toNat=j:=by rw[← h];unfold shr;rw[dJ (by omega)]
namespace Kd
def V {α:Type}(d:Kd α)(_e:Nat)(W:World)(_base:Nat)(ok:Nat→Prop)(v:Value)(xs:List α):Prop:=∃ A c,v = .slice A xs.length c∧xs.length≤c∧F d W ok A xs.length xs
section
variable {α β:Type} {d:Kd α} {e base base' n m c g N' lo hi:Nat} {ok ok' S:Nat→Prop} {w W w1:World} {A:Option Addr} {ad:Addr} {u v v1:Value} {xs:List α}
theorem WT (h:F d W ok A xs.length xs)(hm:m≤xs.length):F d W ok A (xs.take m).length (xs.take m):=GR h (fun _ hC=>wZ hC hm)
theorem X6 (h:F d W ok A xs.length xs)(hm:m≤xs.length)(hc:xs.length≤c):F d W ok (if c=m then A else A.map (·.add (m*d.sz))) (xs.drop m).length (xs.drop m):=GR h (fun _ hC=>Bf hC hm hc)
theorem FH {l:List α}(hl:l.length≤c)(hf:F d W ok A l.length l):FK (Kd.slice e d) W ok l [.slice A l.length c]:=fun W' hW=>⟨A,c,rfl,hl,hf W' hW⟩
end
end Kd
end Go.Proofs.YW.oO
