/- Of the law rZIQDumpBack. -/
import Derived.Test.YtcgbgifbajdhpaaGreatDoorRows
import Derived.WalkKit
import Derived.ProofKit
import Derived.OpenShut
import Derived.ShutString
import Derived.OrdersHeld
import Derived.StillTailTactics
import Derived.OrdersIn
import Derived.RangeFuncCalls
import Derived.RangeFuncKeeps
set_option linter.unusedVariables false
set_option linter.unusedSimpArgs false
set_option maxHeartbeats 200000
set_option maxRecDepth 512
namespace Go
abbrev av:=@if_pos
abbrev aH:=@Nat.le_refl
abbrev bD:=@List.length_cons
abbrev bL:=@List.mem_cons_self
abbrev dw:=@List.mem_cons_of_mem
abbrev dz:=@Bool.and_eq_true
abbrev dF:=@trivial
abbrev dX:=@Nat.zero_add
abbrev eP:=@Nat.lt_or_ge
abbrev fG:=@List.getElem?_drop
abbrev fI:=@List.drop_eq_getElem_cons
abbrev gK:=@decide_eq_true_eq
abbrev gQ:=@List.drop_eq_nil_of_le
abbrev ji:=@Nat.mod_two_eq_zero_or_one
abbrev jC:=@Nat.xor_lt_two_pow
abbrev jK:=@Ne.symm
abbrev jP:=@Array.setIfInBounds_comm
abbrev nE:=@if_true
abbrev nH:=@Prod.mk.inj
abbrev oI:=@Array.mem_of_getElem?
end Go
namespace Go.Proofs.Y.G
open Go.RowKit Go.WideShapes Go.ChangeShapes
theorem R4 {H:Type}(l:List (DataW H)):l.length≤Go.Proofs.YtcgbgifbajdhpaaGreatDoor.Rows.uptoBulkAll l:=by
 induction l with
 | nil=>simp[Go.Proofs.YtcgbgifbajdhpaaGreatDoor.Rows.uptoBulkAll]
 | cons x r ih=>
   have h1:1≤Go.Proofs.YtcgbgifbajdhpaaGreatDoor.Rows.uptoBulk x:=by
    cases x with
    | lit l=>cases l<;>simp[Go.Proofs.YtcgbgifbajdhpaaGreatDoor.Rows.uptoBulk]
    | nil=>simp[Go.Proofs.YtcgbgifbajdhpaaGreatDoor.Rows.uptoBulk]
    | ptr d=>simp[Go.Proofs.YtcgbgifbajdhpaaGreatDoor.Rows.uptoBulk]
    | slice elems spare=>simp[Go.Proofs.YtcgbgifbajdhpaaGreatDoor.Rows.uptoBulk]
    | agg parts=>simp[Go.Proofs.YtcgbgifbajdhpaaGreatDoor.Rows.uptoBulk]
    | iface t d=>simp[Go.Proofs.YtcgbgifbajdhpaaGreatDoor.Rows.uptoBulk]
    | map entries=>simp[Go.Proofs.YtcgbgifbajdhpaaGreatDoor.Rows.uptoBulk]
    | held h=>simp[Go.Proofs.YtcgbgifbajdhpaaGreatDoor.Rows.uptoBulk]
   simp only[Go.Proofs.YtcgbgifbajdhpaaGreatDoor.Rows.uptoBulkAll,bD];omega
theorem PS {H:Type}{enc:TypeId × Value→H}{P:Program}{W:World}{base:Nat}{spare:Nat→Bool}{held:Bool}{t e:TypeId}{k:IntKind}{a:Option Addr}{len cap:Nat}{d:DataW H}{ps:List MemPlace}
 (hu:P.underlying t=some (.slice e)) (he:P.underlying e=some (.int k)) (hc:P.cellsOf e=1) (h:DataW.Trod enc P W base spare held t (.slice a len cap) d ps):len+1≤Go.Proofs.YtcgbgifbajdhpaaGreatDoor.Rows.uptoBulk d:=by
 obtain⟨fuel,hf⟩:=h;rcases open_ints hu he hc hf with ⟨hcs,hx⟩ | ⟨x,l,c,zs,hcs,_,hl,_,hz,hx,_,_⟩
 ·simp[Value.cells] at hcs;obtain⟨rfl,rfl,rfl⟩:=hcs;obtain⟨rfl,_⟩:=nH hx;simp[Go.Proofs.YtcgbgifbajdhpaaGreatDoor.Rows.uptoBulk]
 ·simp[Value.cells] at hcs;obtain⟨rfl,rfl,rfl⟩:=hcs;obtain⟨rfl,_⟩:=nH hx;have hl2:len≤zs.length:=by
   rw[hz];split
   ·exact hl
   ·exact aH _
  have h1:=R4 (lits (H:=H) k (zs.take len));have h2:(lits (H:=H) k (zs.take len)).length=len:=by simp[lits];omega
  simp only[Go.Proofs.YtcgbgifbajdhpaaGreatDoor.Rows.uptoBulk];omega
end Go.Proofs.Y.G
namespace Go
section
variable {P:Program} {ops:Array Oper} {Q:Exit→Act→World→Prop} {md:Region.Mode} {S:World→Prop}
def Eh (P:Program)(md:Region.Mode)(ops:Array Oper)(Q:Exit→Act→World→Prop)(S:World→Prop)(n:Nat)(L:Array Bool→Act→World→Prop):Nat→Array Bool→Act→World→Prop
 | 0,listed,a,w=>L listed a w
 | f+1,listed,a,w=>
   Region.ready md ops listed≠[]∧∀ i∈Region.ready md ops listed,i<n∧wpOp P ops Q i (fun a' w'=>S w'∧Eh P md ops Q S n L f (listed.setIfInBounds i true) a' w') a w
theorem Ij {n g:Nat}{L:Array Bool→Act→World→Prop}(hL:∀ listed a w,L listed a w→wpAny P md ops Q g listed a w) :
 ∀ (f:Nat) (listed:Array Bool) (a:Act) (w:World),Eh P md ops Q S n L f listed a w→wpAny P md ops Q (f+g) listed a w
 | 0,listed,a,w,h=>by rw[dX];exact hL _ _ _ h
 | f+1,listed,a,w,h=>by
   rw[show f+1+g=(f+g)+1 by omega];exact⟨fun h0=>absurd h0 h.1,fun i hi=>wpOp_mono (fun a' w' h'=>Ij hL f _ a' w' h'.2) (h.2 i hi).2⟩
theorem KG {n i:Nat}{oi:Oper}{v:Value}{L:Array Bool→Act→World→Prop}(hi:ops[i]? = some oi)(hsel:∀ (j:Nat) (o:Oper) cs b,ops[j]? = some o→o.op ≠ .select cs b)
 (hs:Region.sinkB md ops n=true) (hc:Region.chainB md ops n=true) (hn:n<ops.size) (hin:i<n) (hQ:∀ c a w,Q (.panic c) (a.put oi.dst v) w→Q (.panic c) a w)
 (hdone:∀ listed a w,L listed a w→∀ j∈Region.ready md ops listed,n≤j) :
 ∀ (f:Nat) (listed:Array Bool) (a:Act) (w:World),HeadInv md ops n listed →
   (∀ j oj,ops[j]? = some oj→j≠i→listed.getD j true=false→(∀ e∈oj.after,Region.binds md e=true→e.on≠i)→oi.apart ops oj=true) →
   i∈Region.ready md ops listed→YieldsIf P ops S oi v a→S w →
   Eh P md ops Q S n L f (listed.setIfInBounds i true) (a.put oi.dst v) w→Eh P md ops Q S n L (f+1) listed a w:=by
 intro f
 induction f with
 | zero=>
   intro listed a w inv _ hr hy hS H;have hun:=(mem_ready.1 hr).1;refine⟨fun h=>(by rw[h] at hr;cases hr),fun j hj=>?_⟩;have hjn:j<n:=by
    rcases eP j n with h | h
    ·exact h
    ·exact absurd hj (tail_waits hs hc hn inv _ i rfl hin hun j h)
   refine⟨hjn,?_⟩
   by_cases hji:j=i
   ·subst hji;exact hy.wpOp hi hS ⟨hS,H⟩
   ·have:=hdone _ _ _ H j (ready_mono hj hji);omega
 | succ f ih=>
   intro listed a w inv hfree hr hy hS H;have hun:=(mem_ready.1 hr).1;refine⟨fun h=>(by rw[h] at hr;cases hr),fun j hj=>?_⟩;have hjn:j<n:=by
    rcases eP j n with h | h
    ·exact h
    ·exact absurd hj (tail_waits hs hc hn inv _ i rfl hin hun j h)
   refine⟨hjn,?_⟩
   by_cases hji:j=i
   ·subst hji;exact hy.wpOp hi hS ⟨hS,H⟩
   ·have h1:=(H.2 j (ready_mono hj hji)).2;obtain⟨hjun,oj,hoj,hall⟩:=mem_ready.1 hj;have hnot:∀ e∈oj.after,Region.binds md e=true→e.on≠i:=fun e he hb heq=>by
     have h1:=hall e he hb;rw[heq,getD_both hun] at h1;cases h1
    have h2:=wpOp_putIf hoj (hfree j oj hoj hji hjun hnot) (fun cs b=>hsel i oi cs b hi) (fun cs b=>hsel j oj cs b hoj) hQ hy h1;have hfree':∀ k ok,ops[k]? = some ok→k≠i→(listed.setIfInBounds j true).getD k true=false →
     (∀ e∈ok.after,Region.binds md e=true→e.on≠i)→oi.apart ops ok=true:=fun k ok hk hki hun hno=>by
     refine hfree k ok hk hki ?_ hno
     by_cases hjk:j=k
     ·subst hjk;exact hjun
     ·rw[getD_set_ne true hjk] at hun;exact hun
    refine wpOp_mono (fun a' w' h3=>⟨h3.2.1,ih (listed.setIfInBounds j true) a' w' (inv.set hj hjn) hfree' (ready_mono hr (jK hji)) h3.1 h3.2.1 ?_⟩) h2;rw[jP _ _ hji];exact h3.2.2
def V9 (P:Program)(ops:Array Oper)(Q:Exit→Act→World→Prop)(n:Nat)(listed:Array Bool)(a:Act)(w:World):Prop:=
 Region.seqB .any ops (ops.size-n) n listed=true∧wpList P ops Q (ops.toList.drop n) a w
def qy (P:Program)(ops:Array Oper)(Q:Exit→Act→World→Prop)(S:World→Prop)(n f:Nat)(listed:Array Bool)(a:Act)(w:World):Prop:=
 HeadInv .any ops n listed→Eh P .any ops Q S n (V9 P ops Q n) f listed a w
theorem qy.take {n f i:Nat}{oi:Oper}{v:Value}{listed:Array Bool}{a:Act}{w:World}(hi:ops[i]? = some oi)
 (hB:(Region.noSelect ops&&decide (n<ops.size)&&Region.sinkB .any ops n&&Region.chainB .any ops n&&decide (i<n)&&Region.free .any ops listed i&&(Region.ready .any ops listed).contains i)=true)
 (hQ:∀ c a w,Q (.panic c) (a.put oi.dst v) w→Q (.panic c) a w) (hy:YieldsIf P ops S oi v a) (hS:S w)
 (h:qy P ops Q S n f (listed.setIfInBounds i true) (a.put oi.dst v) w):qy P ops Q S n (f+1) listed a w:=fun inv=>by
 simp only[dz,gK] at hB;obtain⟨⟨⟨⟨⟨⟨hsel,hn⟩,hs⟩,hc⟩,hin⟩,hf⟩,hr⟩:=hB;have hr':i∈Region.ready .any ops listed:=by simpa using hr
 exact KG hi (Region.noSelect_spec hsel) hs hc hn hin hQ (fun listed' a' w' hL=>seqB_ready hL.1) f listed a w inv (Region.free_spec hi hf) hr' hy hS (h (inv.set hr' hin))
theorem qy.take' {n f i d:Nat}{oi:Oper}{v:Value}{listed:Array Bool}{a:Act}{w:World}(hi:ops[i]? = some oi)(hd:oi.dst=some d)
 (hB:(Region.noSelect ops&&decide (n<ops.size)&&Region.sinkB .any ops n&&Region.chainB .any ops n&&decide (i<n)&&Region.free .any ops listed i&&(Region.ready .any ops listed).contains i)=true)
 (hQ:∀ c a w,Q (.panic c) (a.put oi.dst v) w→Q (.panic c) a w) (hy:YieldsIf P ops S oi v a) (hS:S w)
 (h:qy P ops Q S n f (listed.setIfInBounds i true) { a with tmps:=a.tmps.setIfInBounds d v } w):qy P ops Q S n (f+1) listed a w:=
 qy.take hi hB hQ hy hS (by rw[hd];exact h)
theorem qy.one {n f i:Nat}{oi:Oper}{listed:Array Bool}{a:Act}{w:World}(hi:ops[i]? = some oi)
 (hB:(decide (Region.ready .any ops listed=[i])&&decide (i<n))=true) (hw:Region.wanted oi (yielded ops a.tmps)=true)
 (h:∀ K:Act→World→Prop,(∀ a' w',S w'→qy P ops Q S n f (listed.setIfInBounds i true) a' w'→K a' w')→Oper.wp P oi a w K Q):qy P ops Q S n (f+1) listed a w:=fun inv=>by
 simp only[dz,gK] at hB;obtain⟨hr,hin⟩:=hB;refine⟨fun h0=>(by rw[hr] at h0;cases h0),fun j hj=>?_⟩;have hji:j=i:=by rw[hr] at hj;simpa using hj
 subst hji;refine⟨hin,?_⟩;refine wpOp_step hi fun K hK=>?_
 rw[av hw];exact h K fun a' w' hS' hG=>hK a' w' ⟨hS',hG (inv.set hj hin)⟩
theorem qy.nil {n:Nat}{listed:Array Bool}{a:Act}{w:World}(hB:Region.seqB .any ops (ops.size-n) n listed=true)(h:wpList P ops Q (ops.toList.drop n) a w):qy P ops Q S n 0 listed a w:=fun _=>⟨hB,h⟩
theorem qy.last {n:Nat}{oi:Oper}{listed:Array Bool}{a:Act}{w:World}(hi:ops[n]? = some oi)(hB:(Region.seqB .any ops (ops.size-n) n listed&&decide (ops.size=n+1))=true)(hw:Region.wanted oi (yielded ops a.tmps)=true)
 (h:∀ K:Act→World→Prop,(∀ a' w',Q .normal a' w'→K a' w')→Oper.wp P oi a w K Q):qy P ops Q S n 0 listed a w:=by
 simp only[dz,gK] at hB;refine qy.nil hB.1 ?_;have hl:ops.toList.drop n=[oi]:=by
  obtain⟨hlt,he⟩:=Array.getElem?_eq_some_iff.1 hi;rw[fI (by simpa using hlt),gQ (by simp[hB.2])];simp[he]
 rw[hl];simp only[wpList,av hw];exact .inl (h _ (fun _ _ h=>h))
theorem qy.start {n:Nat}{a:Act}{w:World}(hn:n≤ops.size)(h:qy P ops Q S n n (Array.replicate ops.size false) a w):wpAny P .any ops Q ops.size (Array.replicate ops.size false) a w:=by
 have inv0:HeadInv .any ops n (Array.replicate ops.size false):=
  ⟨by simp,fun j oj _ hl=>(by rw[getD_replicate_false] at hl;cases hl),fun t _ ht=>getD_in (by simpa using ht) (getD_replicate_false _ _)⟩
 have H:=Ij (Q:=Q) (g:=ops.size-n) (fun listed a' w' (hL:V9 P ops Q n listed a' w')=>by
  have hlen:(ops.toList.drop n).length=ops.size-n:=by simp
  have:=wpAny_of_seq (md := .any) (Q':=Q) (ops.toList.drop n) n listed a' w' (fun j=>by simp[fG]) (by rw[hlen];exact hL.1) hL.2;rwa [hlen] at this) n _ a w (h inv0)
 rwa [Nat.add_sub_cancel' hn] at H
end
section
variable {P:Program} {ops:Array Oper} {Q:Exit→Act→World→Prop} {md:Region.Mode}
theorem Ik (l n:Nat)(hnl:¬ LetsOut Q)(hnd:∀ (j:Nat) (o:Oper) c,ops[j]? = some o→o.op ≠ .defer c){i:Nat}{K K':Act→World→Prop}{a:Act}{w:World}(hK:∀ a w,K a w→K' a w)(h:wpOp P ops Q i K a w):wpOpIn (Fence.wide.inRound l) n P ops Q i K' a w:=by
 unfold wpOp at h;unfold wpOpIn;split
 ·rename_i ho;simp only[ho] at h;exact hK _ _ h
 ·rename_i o ho;simp only[ho] at h;split
  ·rename_i hw;simp only[hw,nE] at h;rcases h with h | ⟨_,h⟩
   ·refine⟨fun _ _=>dF,?_⟩;rw[Oper.semAt_eq _ _ _ (fun c=>hnd i o c ho)];unfold Oper.wp at h;generalize (execOp a.eval o).run P w=r at *;cases r with
    | ok x w'=>
      cases x<;>simp only[Oper.upon] at h<;>simp only[Oper.uponIn]
      case value v=>exact hK _ _ h
      case skip=>exact hK _ _ h
      case defer d=>exact hK _ _ h
      case enter f args=>
       refine⟨fun hd=>by simp[Fence.wide] at hd,(CallsIn.inRound l (callsIn_wide.2 h)).mono fun e w'' he=>?_⟩;cases e with
       | returned u=>exact hK _ _ he
       | panicked c=>exact he
       | outgrown=>exact he
      case row row args=>
       refine⟨fun hd=>by simp[Fence.wide] at hd,?_⟩;intro c cs _;obtain⟨v,w'',hR,hs⟩:=h c cs;exact⟨v,w'',hK _ _ hR,stepsIn_wide.2 hs⟩
    | halt x w'=>cases x<;>simp only[Oper.upon] at h<;>simp only[Oper.uponIn]<;>exact h
   ·exact absurd h hnl
  ·rename_i hw;simp only[hw] at h;exact⟨fun _ _=>dF,hK _ _ h⟩
theorem zC (l n:Nat)(hnl:¬ LetsOut Q)(hnd:∀ (j:Nat) (o:Oper) c,ops[j]? = some o→o.op ≠ .defer c):∀ (fuel:Nat) (listed:Array Bool) (a:Act) (w:World),
 wpAny P md ops Q fuel listed a w→wpAnyIn (Fence.wide.inRound l) n P md ops Q fuel listed a w
 | 0,_,_,_,h=>h
 | fuel+1,_,_,_,h=>⟨h.1,fun i hi=>Ik l n hnl hnd (fun a' w' h'=>zC l n hnl hnd fuel _ a' w' h') (h.2 i hi)⟩
def Kn (ops:Array Oper):Bool:=ops.all fun o=>match o.op with | .defer _=>false | _=>true
theorem Ko (h:Kn ops=true)(j:Nat)(o:Oper)(c:Call)(ho:ops[j]? = some o):o.op ≠ .defer c:=by
 intro hc;have:=Array.all_eq_true'.1 h o (oI ho);rw[hc] at this;cases this
theorem Ei {id:Nat}(l n:Nat){a:Act}{w:World}(hnl:¬ LetsOut Q)(hm:P.follows .mixedOrders=true)(hd:Kn ops=true)
 (h:wpAny P .any ops Q ops.size (Array.replicate ops.size false) a w.drew):(Code.region id ops true).wpIn (Fence.wide.inRound l) n P Q a w:=
 wpIn_region_any hm (zC l n hnl (Ko hd) _ _ _ _ h)
theorem Dj {id:Nat}(l n:Nat){a:Act}{w:World}(hm:P.follows .mixedOrders=true)(hd:Kn ops=true)
 (h:wpAny P .any ops (fun e a w=>e = .normal∧Q .normal a w) ops.size (Array.replicate ops.size false) a w.drew):(Code.region id ops true).wpIn (Fence.wide.inRound l) n P Q a w:=
 wpIn_mono (Q:=fun e a w=>e = .normal∧Q .normal a w) (Ei l n (fun hl=>by obtain⟨_,_,h,_⟩:=hl;cases h) hm hd h) (fun e a w he=>by obtain⟨h1,h2⟩:=he;subst h1;exact h2)
end
end Go
namespace Go.Proofs.Y.G
namespace qF
def one (r:Nat):Nat:=(r / 2) ^^^ (if r % 2=1 then 2197175160 else 0)
def quarter:Nat→Nat
 | 0=>0 | 1=>1098587580 | 2=>2197175160 | _=>3280807620
def two (r:Nat):Nat:=(r / 4) ^^^ quarter (r % 4)
theorem Uw (a b:Nat):(a ^^^ b) % 2=(a % 2+b % 2) % 2:=by
 have:=Nat.xor_mod_two_pow (a:=a) (b:=b) (n:=1);simp at this;rw[this];rcases ji a with h | h<;>rcases ji b with h' | h'<;>simp[h,h']
theorem Uv (a b:Nat):(a ^^^ b) / 2=a / 2 ^^^ b / 2:=by
 have:=Nat.xor_div_two_pow (a:=a) (b:=b) (n:=1)
 simpa using this
theorem Um (r:Nat):two r=one (one r):=by
 unfold two one;have h4:r / 2 / 2=r / 4:=by omega
 rcases ji r with h | h
 ·simp only[h];simp only[Nat.xor_zero,reduceIte,show ¬ (0=1) from by omega];rcases ji (r / 2) with h' | h'
  ·have:r % 4=0:=by omega
   simp[h',this,h4,quarter]
  ·have:r % 4=2:=by omega
   simp[h',this,h4,quarter]
 ·simp only[h,reduceIte];rw[Uw,Uv,h4];rcases ji (r / 2) with h' | h'
  ·have:r % 4=1:=by omega
   simp[h',this,quarter]
  ·have:r % 4=3:=by omega
   simp[h',this,quarter,Nat.xor_assoc]
def eight (r:Nat):Nat:=one (one (one (one (one (one (one (one r)))))))
theorem Sz (r:Nat):two (two (two (two r)))=eight r:=by simp[Um,eight]
theorem NV {r:Nat}(h:r<4294967296):one r<4294967296:=by
 unfold one;have:r / 2<2 ^ 32:=by omega
 split
 ·exact jC (n:=32) this (by decide)
 ·simpa using this
theorem Sl {r:Nat}(h:r<4294967296):eight r<4294967296:=by
 unfold eight;repeat (first | exact h | apply NV)
def run (r:Nat):List Nat→Nat
 | []=>r
 | x::l=>run (eight (r ^^^ x)) l
theorem Oi (r:Nat)(a b:List Nat):run r (a++b)=run (run r a) b:=by
 induction a generalizing r with
 | nil=>rfl
 | cons x a ih=>simp[run,ih]
theorem Oj {r:Nat}(h:r<4294967296){l:List Nat}(hl:∀ x∈l,x<256):run r l<4294967296:=by
 induction l generalizing r with
 | nil=>exact h
 | cons x l ih=>
   refine ih (Sl (jC (n:=32) h ?_)) (fun y hy=>hl y (dw _ hy));have:=hl x (bL ..);omega
def ones:Nat:=4294967295
theorem Ve:ones<2 ^ 32:=by decide
def inv (x:Nat):Nat:=ones ^^^ x
theorem inv_def (x:Nat):inv x=ones ^^^ x:=by delta inv;rfl
theorem NR {x:Nat}(h:x<4294967296):inv x<4294967296:=by
 have:=jC (n:=32) (x:=ones) (y:=x) Ve (by omega);rw[inv_def];omega
def nat (l:List Int):List Nat:=l.map Int.toNat
def more (s:Nat)(l:List Int):Nat:=inv (run (inv s) (nat l))
theorem GU {l:List Int}(hl:∀ x∈l,0≤x∧x<256):∀ x∈nat l,x<256:=by
 intro x hx;obtain⟨y,hy,rfl⟩:=List.mem_map.1 hx;have:=hl y hy;omega
theorem Va {s:Nat}(h:s<4294967296){l:List Int}(hl:∀ x∈l,0≤x∧x<256):more s l<4294967296:=NR (Oj (NR h) (GU hl))
end qF
end Go.Proofs.Y.G
