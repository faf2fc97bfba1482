/- Of the law rZIQDumpBack. -/
import Derived.Test.YtcgbgifbajdhpaaGreatDoorZI1
set_option linter.unusedVariables false
set_option linter.unusedSimpArgs false
set_option maxHeartbeats 200000
set_option maxRecDepth 512
namespace Go
abbrev cO:=@Option.some.injEq
abbrev gW:=@List.getElem?_cons_succ
abbrev iA:=@List.drop_zero
abbrev iF:=@Nat.zero_mul
abbrev iW:=@List.getElem?_cons_zero
abbrev jB:=@List.take_of_length_le
abbrev lI:=@Nat.add_sub_cancel
abbrev l7:=@List.drop_of_length_le
abbrev mU:=@Nat.add_comm
end Go
namespace Go.Proofs.YW.o7
open Go.RowKit
namespace Kd
theorem TL {α:Type}{R:α→List Value→Prop}{size:Nat}{ps:List α}{cs:List Value}(h:tq R size ps cs)(hs0:0<size)(hR:∀ p c,R p c→∀ u∈c,u.oneCell'=true):∀ u∈cs,u.oneCell'=true:=by
 intro u hu;obtain⟨q,hq,rfl⟩:=List.mem_iff_getElem.1 hu;have hql:q / size<ps.length:=by
  rw[kM hs0,← h.1];exact hq
 refine hR _ _ (h.2 (q / size) _ (aQ hql)) _ ?_;rw[mI];refine⟨q % size,?_⟩;rw[dH,ak (iI _ hs0),fF,fJ,ow,aQ hq]
end Kd
end Go.Proofs.YW.o7
namespace Go.Proofs.YW.o7
open Go.RowKit
section
variable {P:Program} {d:Nat} {xs ys:Array Value} {f:Field} {fs:List Field} {a b:Value} {r s:Bool} {w:World}
theorem Sy (hn:(f.name == "_")=false)(ha:(part f.type xs f.offset).run P w = .ok a w)(hb:(part f.type ys f.offset).run P w = .ok b w)(he:(Op.equalIn d f.type a b).run P w = .ok r w):(Op.eqFields d xs ys [f]).run P w = .ok r w:=by
 have hn':f.name ≠ "_" := by simpa using hn
 simp only[Op.eqFields,ak hn',jo,ha,hb,he,iX];cases r<;>simp
theorem Sw (hn:(f.name == "_")=false)(ha:(part f.type xs f.offset).run P w = .ok a w)(hb:(part f.type ys f.offset).run P w = .ok b w)(he:(Op.equalIn d f.type a b).run P w = .ok r w)(hr:(Op.eqFields d xs ys fs).run P w = .ok s w):(Op.eqFields d xs ys (f::fs)).run P w = .ok (r&&s) w:=by
 have hn':f.name ≠ "_" := by simpa using hn
 rw[Op.eqFields];simp only[ak hn',jo,ha,hb,he,iX];cases r
 ·simp
 ·simpa using hr
theorem Wz {t:TypeId}{fs:Array Field}(hu:P.underlying t=some (.struct fs))(hp:P.stoodInHeld t=false)(h:(Op.eqFields d xs ys fs.toList).run P w = .ok r w):(Op.equalIn (d+1) t (.agg xs) (.agg ys)).run P w = .ok r w:=by
 have hf:P.fieldsOf t=fs:=by simp[Program.fieldsOf,hu]
 rw[run_equalIn_struct (P:=P) w d t xs ys (by rw[hf];exact hu) hp,hf];exact h
end
end Go.Proofs.YW.o7
namespace Go.Proofs.YW.o7
theorem tq.one {α:Type}{R:α→List Value→Prop}{ps:List α}{cs:List Value}{p:α}{v:Value}(hp:R p [v])(h:tq R 1 ps cs):tq R 1 (p::ps) (v::cs):=by
 refine⟨by simp[h.1],fun j q hq=>?_⟩;cases j with
 | zero=>
   simp only[iW,cO] at hq;subst hq
   simpa using hp
 | succ j=>
   simp only[gW] at hq;have h1:=h.2 j q hq
   simpa [kZ] using h1
theorem tq.front {α:Type}{R:α→List Value→Prop}{size:Nat}{ps:List α}{cs c all:List Value}{p:α}(hp:R p c)(hc:c.length=size)(h:tq R size ps cs)(ha:c++cs=all):tq R size (p::ps) all:=by
 subst ha;refine⟨by rw[bg,hc,h.1,bC,iL,mU],fun j q hq=>?_⟩;cases j with
 | zero=>
   simp only[iW,cO] at hq;subst hq;rw[iF,iA,iK (by omega),jB (by omega)];exact hp
 | succ j=>
   simp only[gW] at hq;have h1:=h.2 j q hq;rw[iL,mD,l7 (by rw[hc];exact Nat.le_add_left _ _),dL,hc,lI];exact h1
end Go.Proofs.YW.o7
namespace Go.Proofs.YW.o7
open Go.RowKit
section
variable {P:Program} {ops:Array Oper} {rest:List Oper} {o:Oper} {a:Act} {Q:Exit→Act→World→Prop} {W:World}
theorem rO (hw:Region.wanted o (yielded ops a.tmps)=true)(h:wpList P ops Q ({ o with guard:=none }::rest) a W):wpList P ops Q (o::rest) a W:=by
 have h1:Region.wanted { o with guard:=none } (yielded ops a.tmps)=true:=rfl;unfold wpList at h ⊢;rw[ak h1] at h;rw[ak hw];exact h
end
end Go.Proofs.YW.o7
