/- Of the law rZIQDumpBack. -/
import Derived.Test.YtcgbgifbajdhpaaGreatDoorZI18
import Derived.Test.YtcgbgifbajdhpaaGreatDoorZI12
set_option linter.unusedVariables false
set_option linter.unusedSimpArgs false
set_option maxHeartbeats 4000000
set_option maxRecDepth 100000
namespace Go
abbrev fD:=@Go.wpQuiet_nil
end Go
namespace Go.Proofs.Y.PA
open Go.RowKit Go.Proofs.Y.G Go.Proofs.YW.o7 Go.Proofs.YW.pJ Go.Proofs.YW.pO
theorem TW (s:ByteArray):uj.f s=some (tZ s):=by
 unfold uj.f tZ tF.f
 by_cases h1:1≤s.size
 ·rw[ak (by omega),aM h1]
  by_cases h2:s.size≤40
  ·rw[ak (by omega),aM h2];rfl
  ·rw[aK (by omega),aN h2];rfl
 ·rw[aK (by omega),aN h1];rfl
theorem rvalue.c (s:ByteArray)(b:Bool)(h:tZ s=b)(w:World):Calls Tryz.prog 100 #[.string s] w fun e w'=>e = .returned (.bool b)∧Below w.heap.size w w' :=
 uj.c s b w (by rw[TW,h])
def Ml (l:List rW):Prop:=∀ x∈l,x.f0.size≤140737488355328∧x.f1.size≤140737488355328
theorem Vl (l:List rW)(k:Nat)(h:k<l.length):qM l (k:Int)∈l:=by
 have e:qM l (k:Int)=l[k]:=by simp[qM,bn,aQ h]
 rw[e];exact eF h
theorem xw {w:World}{a:Addr}{v:Value}(o:Obj)(h:w.cell? a=some v):(w.alloc o).cell? a=some v:=qm (o8 (bq _ _) o) h
theorem Ju.c (A:Option Addr)(c n:Nat)(l:List rW)(w:World)(hn:l.length=n)(hr:Kd.C wE w A n l)(hc:n≤c)(hok:Ml l) :
 Calls Tryz.prog 67 #[.slice A n c] w fun e w'=>e = .returned (.bool (rF l))∧Below w.heap.size w w':=by
 subst hn
 by_cases hlen:1≤l.length∧l.length≤8
 ·have h0:decide ((l.length:Int)<1)=false:=aN (by omega);have h8:decide ((8:Int)<(l.length:Int))=false:=aN (by omega);have HR:=Yu hr;have HL:=Yu hlen;have HK:=Yu hok;have hl8:=hlen.2;clear hr hc hlen hok
  go_enter Tryz.func67,Tryz.ntmps67
  go_wp2
  go_loopw [15] (fun i wr=>∃ (k:Nat),k≤l.length∧i = .int .i64 k∧oZ (∀ j,j<k→yE l j=true)∧oZ (Below w.heap.size w wr)) (fun i _=>l.length-(intOf i).toNat)
  case atStart=>exact⟨0,bV _,rfl,⟨fun j hj=>by omega⟩,⟨bq _ _⟩⟩
  case round=>
   obtain⟨k,hk,rfl,HO,HB⟩:=hrel
   by_cases hlt:k<l.length
   ·have hC:=Kd.pI HR.o HB.o;obtain⟨ad,rfl,c0,c1⟩:=wu hC (k:Int) (by omega) (by omega);rw[bf] at c0 c1;have HBAD:=Yu (fun h=>Lg (l:=l) (k:=k) hlt h);have HS:=Yu (fun h=>JH (l:=l) (k:=k) HO.o h);have HSZ:=Yu (HK.o _ (Vl l k hlt)).1;cases k with
    | zero=>
      obtain⟨x,ex⟩:∃ x,qM l ((0:Nat):Int)=x:=⟨_,rfl⟩;have EX:=Yu ex;rw[ex] at c0 c1 HSZ;clear hC ex;have c0z:wr.cell? ad=some (.string x.f0):=by simpa [Addr.add] using c0
      have c1z:wr.cell? ⟨ad.block,ad.off+1,none⟩=some (.string x.f1):=by simpa [Addr.add] using c1
      clear c0 c1;have HBA:=Yu (o8 HB.o (.cells #[.string x.f0,.string x.f1] 68 (0,0)));have BK:=qG wr (.cells #[.string x.f0,.string x.f1] 68 (0,0));have aA:=BW.cell ((pq BK 0).trans rfl);have bA:=BW.cell ((pq BK 1).trans rfl);clear BK;cases h1:uo x.f0 with
      | false=>
        have HF:oZ (rF l=false):=⟨HBAD.o (DY (EX.o ▸ h1))⟩;have C1:=Yu (Ph.c x.f0 false h1 HSZ.o);clear h1
        go_wp2_with fail
        refine qL (by kernel_rfl) (by kernel_rfl) ?_
        repeat (any_goals (first | go_big_quiet_step (first|(go_at_call 99;refine qQ (C1.o _)))|quiet_step (first|(go_at_call 99;refine qQ (C1.o _)))))
        all_goals (refine fD ?_;intro _ hw';obtain⟨⟨w2,hb⟩,hw''⟩:=hw';subst hw'';have HB2:=Yu (o9 HBA.o hb);clear hb)
        go_wp2;go_ret;exact⟨by rw[HF.o];rfl,HB2.o⟩
      | true=>
        have C1:=Yu (Ph.c x.f0 true h1 HSZ.o);cases h2:tZ x.f1 with
        | false=>
          have HF:oZ (rF l=false):=⟨HBAD.o (BO (EX.o ▸ h2))⟩;have C2:=Yu (rvalue.c x.f1 false h2);clear h1 h2
          go_wp2_with fail
          refine qL (by kernel_rfl) (by kernel_rfl) ?_
          repeat (any_goals (first | go_big_quiet_step (first|(go_at_call 99;refine qQ (C1.o _))|(go_at_call 100;refine qQ (C2.o _)))|quiet_step (first|(go_at_call 99;refine qQ (C1.o _))|(go_at_call 100;refine qQ (C2.o _)))))
          all_goals (refine fD ?_;intro _ hw';obtain⟨⟨w2,hb⟩,hw''⟩:=hw';subst hw'';have HB2:=Yu (o9 HBA.o hb);clear hb)
          go_wp2;go_ret;exact⟨by rw[HF.o];rfl,HB2.o⟩
        | true=>
          have C2:=Yu (rvalue.c x.f1 true h2);have HG:=Yu (HS.o (Qv (EX.o ▸ h1) (EX.o ▸ h2)));clear h1 h2
          go_wp2_with fail
          refine qL (by kernel_rfl) (by kernel_rfl) ?_
          repeat (any_goals (first | go_big_quiet_step (first|(go_at_call 99;refine qQ (C1.o _))|(go_at_call 100;refine qQ (C2.o _)))|quiet_step (first|(go_at_call 99;refine qQ (C1.o _))|(go_at_call 100;refine qQ (C2.o _)))))
          all_goals (refine fD ?_;intro _ hw';obtain⟨⟨w2,hb⟩,hw''⟩:=hw';subst hw'';have HB2:=Yu (o9 HBA.o hb);clear hb)
          go_wp2
          go_roundw
          case rel=>exact⟨0+1,by omega,by go_num,HG,HB2⟩
          case measure=>simp[intOf]<;>omega
    | succ k=>
      obtain⟨ad_,ea,q0,q1⟩:=wu hC ((k:Nat):Int) (by omega) (by omega);obtain rfl:=bE ea;rw[bf] at q0 q1;obtain⟨x,ex⟩:∃ x,qM l ((k+1:Nat):Int)=x:=⟨_,rfl⟩;obtain⟨y,ey⟩:∃ y,qM l ((k:Nat):Int)=y:=⟨_,rfl⟩;have EY:=Yu ey;rw[ey] at q0 q1;have EX:=Yu ex;rw[ex] at c0 c1 HSZ;clear hC ex ey q1 ea;have HBA:=Yu (o8 HB.o (.cells #[.string x.f0,.string x.f1] 68 (0,0)));have BK:=qG wr (.cells #[.string x.f0,.string x.f1] 68 (0,0));have aA:=BW.cell ((pq BK 0).trans rfl);have bA:=BW.cell ((pq BK 1).trans rfl);clear BK;have pA:=BW.cell (xw (.cells #[.string x.f0,.string x.f1] 68 (0,0)) q0);rw[show ((k+1:Nat):Int)=(k:Int)+1 from by omega] at *;have g0:decide ((0:Int)<(k:Int)+1)=true:=aM (by omega);have hwk:IntKind.i64.wrap ((k:Int)+1-1)=(k:Int):=by rw[bI];omega
      have g1:(0:Int)≤(k:Int):=by omega
      have g2:(k:Int)<(l.length:Int):=by omega
      cases h1:uo x.f0 with
      | false=>
        have HF:oZ (rF l=false):=⟨HBAD.o (DY (EX.o ▸ h1))⟩;have C1:=Yu (Ph.c x.f0 false h1 HSZ.o);clear h1
        go_wp2_with fail
        refine qL (by kernel_rfl) (by kernel_rfl) ?_
        repeat (any_goals (first | go_big_quiet_step (first|(go_at_call 99;refine qQ (C1.o _)))|quiet_step (first|(go_at_call 99;refine qQ (C1.o _)))))
        all_goals (refine fD ?_;intro _ hw';obtain⟨⟨w2,hb⟩,hw''⟩:=hw';subst hw'';have HB2:=Yu (o9 HBA.o hb);clear hb)
        go_wp2;go_ret;exact⟨by rw[HF.o];rfl,HB2.o⟩
      | true=>
        have C1:=Yu (Ph.c x.f0 true h1 HSZ.o);cases h2:tZ x.f1 with
        | false=>
          have HF:oZ (rF l=false):=⟨HBAD.o (BO (EX.o ▸ h2))⟩;have C2:=Yu (rvalue.c x.f1 false h2);clear h1 h2
          go_wp2_with fail
          refine qL (by kernel_rfl) (by kernel_rfl) ?_
          repeat (any_goals (first | go_big_quiet_step (first|(go_at_call 99;refine qQ (C1.o _))|(go_at_call 100;refine qQ (C2.o _)))|quiet_step (first|(go_at_call 99;refine qQ (C1.o _))|(go_at_call 100;refine qQ (C2.o _)))))
          all_goals (refine fD ?_;intro _ hw';obtain⟨⟨w2,hb⟩,hw''⟩:=hw';subst hw'';have HB2:=Yu (o9 HBA.o hb);clear hb)
          go_wp2;go_ret;exact⟨by rw[HF.o];rfl,HB2.o⟩
        | true=>
          have C2:=Yu (rvalue.c x.f1 true h2);have HQ:=Tm (l:=l) (k:=k) (EX.o ▸ h1) (EX.o ▸ h2);rw[show ((k+1:Nat):Int)=(k:Int)+1 from by omega,EX.o,EY.o] at HQ;clear h1 h2;cases d1:Op.bytesLess y.f0.toList x.f0.toList with
          | false=>
            have HF:oZ (rF l=false):=⟨HBAD.o (by rw[HQ,d1])⟩;clear HQ
            go_wp2_with fail
            refine qL (by kernel_rfl) (by kernel_rfl) ?_
            repeat (any_goals (first | go_big_quiet_step (first|(go_at_call 99;refine qQ (C1.o _))|(go_at_call 100;refine qQ (C2.o _)))|quiet_step (first|(go_at_call 99;refine qQ (C1.o _))|(go_at_call 100;refine qQ (C2.o _)))))
            all_goals (refine fD ?_;intro _ hw';obtain⟨⟨w2,hb⟩,hw''⟩:=hw';subst hw'';have HB2:=Yu (o9 HBA.o hb);clear hb)
            go_wp2;go_ret;exact⟨by rw[HF.o];rfl,HB2.o⟩
          | true=>
            have HG:=Yu (HS.o (by rw[HQ,d1]));clear HQ
            go_wp2_with fail
            refine qL (by kernel_rfl) (by kernel_rfl) ?_
            repeat (any_goals (first | go_big_quiet_step (first|(go_at_call 99;refine qQ (C1.o _))|(go_at_call 100;refine qQ (C2.o _)))|quiet_step (first|(go_at_call 99;refine qQ (C1.o _))|(go_at_call 100;refine qQ (C2.o _)))))
            all_goals (refine fD ?_;intro _ hw';obtain⟨⟨w2,hb⟩,hw''⟩:=hw';subst hw'';have HB2:=Yu (o9 HBA.o hb);clear hb)
            go_wp2
            go_roundw
            case rel=>exact⟨k+1+1,by omega,by go_num,HG,HB2⟩
            case measure=>simp[intOf]<;>omega
   ·obtain rfl:k=l.length:=by omega
    have HF:oZ (rF l=true):=⟨OL HL.o.1 HL.o.2 HO.o⟩;go_wp2;go_ret;exact⟨by rw[HF.o];rfl,HB.o⟩
 ·have HF:oZ (rF l=false):=⟨Lh hlen⟩
  by_cases h0:(l.length:Int)<1
  ·have h1:decide ((l.length:Int)<1)=true:=aM h0;clear h0 hlen
   go_enter Tryz.func67,Tryz.ntmps67
   go_wp2;go_ret;exact⟨by rw[HF.o];rfl,bq _ _⟩
  ·have h1:decide ((l.length:Int)<1)=false:=aN h0;have h2:decide ((8:Int)<(l.length:Int))=true:=aM (by omega);clear h0 hlen
   go_enter Tryz.func67,Tryz.ntmps67
   go_wp2;go_ret;exact⟨by rw[HF.o];rfl,bq _ _⟩
end Go.Proofs.Y.PA
