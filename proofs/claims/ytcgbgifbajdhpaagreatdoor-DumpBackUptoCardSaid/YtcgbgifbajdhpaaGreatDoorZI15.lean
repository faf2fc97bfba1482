/- Of the law rZIQDumpBack. -/
import Derived.Test.YtcgbgifbajdhpaaGreatDoorZI7
set_option linter.unusedVariables false
set_option linter.unusedSimpArgs false
set_option maxHeartbeats 2000000
set_option maxRecDepth 512
namespace Go
abbrev mE:=@List.drop_length
end Go
namespace Go.Proofs.Y.PA
open Go.RowKit Go.Proofs.Y.G Go.Proofs.YW.o7 Go.Proofs.YW.pJ Go.Proofs.YW.pO
def zn (c:Int):Bool:=decide (c=95)||(decide (97≤Go.bits .or .u8 c 32)&&decide (Go.bits .or .u8 c 32≤122))
def EM (c:Int):Bool:=decide (48≤c)&&decide (c≤57)
def zF (c:Int):Bool := !zn c && !EM c
theorem zn.c (c:Int)(w:World):Calls Tryz.prog 136 #[.int .u8 c] w fun e w'=>e = .returned (.bool (zn c))∧w'=w:=by
 by_cases h1:c=95
 ·have HV:oZ (zn c=true):=⟨by rw[zn,aM h1];rfl⟩;have d1:(c==95)=true:=beq_iff_eq.2 h1;clear h1
  go_enter Tryz.func136,Tryz.ntmps136
  go_wp2;go_ret;exact⟨by rw[HV.o];rfl,rfl⟩
 ·have d1:(c==95)=false:=beq_eq_false_iff_ne.2 h1;have HV:oZ (zn c=(decide (97≤Go.bits .or .u8 c 32)&&decide (Go.bits .or .u8 c 32≤122))):=⟨by rw[zn,aN h1];rfl⟩;clear h1
  by_cases h2:97≤Go.bits .or .u8 c 32
  ·have HW:oZ (zn c=decide (Go.bits .or .u8 c 32≤122)):=⟨by rw[HV.o,aM h2];rfl⟩
   go_enter Tryz.func136,Tryz.ntmps136
   go_wp2;go_ret;exact⟨by rw[HW.o];rfl,rfl⟩
  ·have HW:oZ (zn c=false):=⟨by rw[HV.o,aN h2];rfl⟩
   go_enter Tryz.func136,Tryz.ntmps136
   go_wp2;go_ret;exact⟨by rw[HW.o];rfl,rfl⟩
theorem EM.c (c:Int)(w:World):Calls Tryz.prog 139 #[.int .u8 c] w fun e w'=>e = .returned (.bool (EM c))∧w'=w:=by
 by_cases h2:48≤c
 ·have HW:oZ (EM c=decide (c≤57)):=⟨by rw[EM,aM h2];rfl⟩
  go_enter Tryz.func139,Tryz.ntmps139
  go_wp2;go_ret;exact⟨by rw[HW.o];rfl,rfl⟩
 ·have HW:oZ (EM c=false):=⟨by rw[EM,aN h2];rfl⟩
  go_enter Tryz.func139,Tryz.ntmps139
  go_wp2;go_ret;exact⟨by rw[HW.o];rfl,rfl⟩
theorem zF.c (c:Int)(w:World):Calls Tryz.prog 138 #[.int .u8 c] w fun e w'=>e = .returned (.bool (zF c))∧w'=w:=by
 cases h1:zn c with
 | true=>
   have HL:oZ (∀ W,Calls Tryz.prog 136 #[.int .u8 c] W fun e w'=>e = .returned (.bool true)∧w'=W):=⟨fun W=>h1 ▸ zn.c c W⟩;have HV:oZ (zF c=false):=⟨by rw[zF,h1];rfl⟩;clear h1
   go_enter Tryz.func138,Tryz.ntmps138
   go_wp2_with (first|(go_at_call 136;(with_reducible refine (HL.o _).mono ?_);rintro e w1 ⟨rfl,rfl⟩))
   go_ret;exact⟨by rw[HV.o];rfl,rfl⟩
 | false=>
   have HL:oZ (∀ W,Calls Tryz.prog 136 #[.int .u8 c] W fun e w'=>e = .returned (.bool false)∧w'=W):=⟨fun W=>h1 ▸ zn.c c W⟩;have HD:oZ (∀ W,Calls Tryz.prog 139 #[.int .u8 c] W fun e w'=>e = .returned (.bool (EM c))∧w'=W):=⟨EM.c c⟩;have HV:oZ (zF c = !EM c):=⟨by rw[zF,h1];rfl⟩;clear h1
   go_enter Tryz.func138,Tryz.ntmps138
   go_wp2_with (first|(go_at_call 136;(with_reducible refine (HL.o _).mono ?_);rintro e w1 ⟨rfl,rfl⟩)|(go_at_call 139;(with_reducible refine (HD.o _).mono ?_);rintro e w1 ⟨rfl,rfl⟩))
   go_ret;exact⟨by rw[HV.o];rfl,rfl⟩
def wL:List Int→Nat→Int
 | [],_ => -1
 | a::r,k=>if zF a=true then (k:Int) else wL r (k+1)
theorem LY (l:List Int)(k:Nat)(hk:k<l.length):wL (l.drop k) k=if zF (rd l (k:Int))=true then (k:Int) else wL (l.drop (k+1)) (k+1):=by
 rw[Vk l k hk];rfl
theorem GK:∀ (l:List Int) (k:Nat),decide (0≤wL l k)=l.any zF
 | [],_=>rfl
 | a::r,k=>by
   rw[wL,List.any_cons];cases h:zF a with
   | true=>rw[ak rfl];simp
   | false=>rw[aK (by simp),GK r (k+1)];rfl
theorem wL.c (A0:Option Addr)(c0 n:Nat)(l:List Int)(w:World)(hn:l.length=n)(hr:Kd.C (Kd.int .u8) w A0 n l)(hlen:n≤1000000) :
 Calls Tryz.prog 154 #[.slice A0 n c0,.func (.func 138) #[] #[]] w fun e w'=>e = .returned (.int .i64 (wL l 0))∧Below w.heap.size w w':=by
 subst hn;have HR:=Yu hr;clear hr
 go_enter Tryz.func154,Tryz.ntmps154
 go_wp2
 go_loopw [8] (fun i wr=>∃ k:Nat,k≤l.length∧i = .int .i64 k∧oZ (wL l 0=wL (l.drop k) k)∧oZ (Below w.heap.size w wr)) (fun i _=>l.length-(intOf i).toNat)
 case atStart=>exact⟨0,bV _,rfl,⟨rfl⟩,⟨bq _ _⟩⟩
 case round=>
  obtain⟨k,hk,rfl,HE,HB⟩:=hrel
  by_cases hlt:k<l.length
  ·have hC:=Kd.pI HR.o HB.o;obtain⟨bd,cb,rfl,_,hKb,hcb⟩:=Kd.Bh hC (0:Int) (k:Int) (by omega) (by omega);have hb0:wr.cell? (bd.add k)=some (.int .u8 (rd l (k:Int))):=by
    have:=hcb 0 (.int .u8 (rd l (k:Int))) (by rw[show cb=[Value.int .u8 (rd l (k:Int))] from hKb];rfl)
    simpa [show (Kd.int .u8).sz=1 from rfl] using this
   have HST:=Yu (LY l k hlt);clear hcb hKb hC;generalize rd l (k:Int)=y at hb0 HST;cases hq:zF y with
   | true=>
     have HN:oZ (wL l 0=(k:Int)):=⟨by rw[HE.o,HST.o,ak hq]⟩;have HC:oZ (∀ W,Calls Tryz.prog 138 #[.int .u8 y] W fun e w'=>e = .returned (.bool true)∧w'=W):=⟨fun W=>hq ▸ zF.c y W⟩;clear hq
     go_wp2_with (first|(go_at_call 138;(with_reducible refine (HC.o _).mono ?_);rintro e w1 ⟨rfl,rfl⟩))
     go_ret;exact⟨by rw[HN.o];rfl,HB.o⟩
   | false=>
     have HN:oZ (wL l 0=wL (l.drop (k+1)) (k+1)):=⟨by rw[HE.o,HST.o,aK (by rw[hq];simp)]⟩;have HC:oZ (∀ W,Calls Tryz.prog 138 #[.int .u8 y] W fun e w'=>e = .returned (.bool false)∧w'=W):=⟨fun W=>hq ▸ zF.c y W⟩;clear hq
     go_wp2_with (first|(go_at_call 138;(with_reducible refine (HC.o _).mono ?_);rintro e w1 ⟨rfl,rfl⟩))
     go_roundw
     case rel=>exact⟨k+1,by omega,by go_num,HN,HB⟩
     case measure=>simp[intOf];omega
  ·obtain rfl:k=l.length:=by omega
   go_wp2;go_ret;exact⟨by rw[HE.o,mE];rfl,HB.o⟩
theorem Wt.c (A0:Option Addr)(c0 n:Nat)(l:List Int)(w:World)(hn:l.length=n)(hr:Kd.C (Kd.int .u8) w A0 n l)(hlen:n≤1000000) :
 Calls Tryz.prog 137 #[.slice A0 n c0,.func (.func 138) #[] #[]] w fun e w'=>e = .returned (.bool (l.any zF))∧Below w.heap.size w w':=by
 have HI:=Yu (wL.c A0 c0 n l w hn hr hlen);have HV:=Yu (GK l 0);clear hr hlen hn
 go_enter Tryz.func137,Tryz.ntmps137
 go_wp2_with (first|(go_at_call 154;(with_reducible refine HI.o.mono ?_);rintro e w1 ⟨rfl,hb⟩;have HB:=Yu hb;clear hb))
 go_ret;exact⟨TN HV.o,HB.o⟩
def uo (s:ByteArray):Bool:=decide (1≤s.size)&&decide (s.size≤24)&&zn (bt s 0) && !(bytesOf s).any zF
theorem Ue (s:ByteArray):s.toList.isEmpty=decide (s.size=0):=by
 have h:s.toList.length=s.size:=by rw[jd];simp
 generalize s.toList=l at h;rw[← h];cases l with
 | nil=>rfl
 | cons a l=>rw[aN (by simp)];rfl
theorem uo.c (s:ByteArray)(w:World):Calls Tryz.prog 121 #[.string s] w fun e w'=>e = .returned (.bool (uo s))∧Below w.heap.size w w':=by
 have he:=Ue s;have kb:=fun W=>Mx (P:=Tryz.prog) 9 24 5 Tryz.underlying9 Tryz.underlying24 Tryz.underlying5 s W
 by_cases h0:s.size=0
 ·rw[aM h0] at he;have HV:oZ (uo s=false):=⟨by rw[uo,aN (by omega)];rfl⟩;clear h0
  go_enter Tryz.func121,Tryz.ntmps121
  go_wp2;go_ret;exact⟨by rw[HV.o];rfl,bq _ _⟩
 ·rw[aN h0] at he
  by_cases h1:s.size≤24
  ·have hp:0<s.size:=by omega
   have hb:((s[0]'hp).toNat:Int)=bt s 0:=uV s 0 hp;cases h2:zn (bt s 0) with
   | false=>
     have HV:oZ (uo s=false):=⟨by rw[uo,h2];simp⟩;have HL:oZ (∀ W,Calls Tryz.prog 136 #[.int .u8 (bt s 0)] W fun e w'=>e = .returned (.bool false)∧w'=W):=⟨fun W=>h2 ▸ zn.c _ W⟩;clear h2
     go_enter Tryz.func121,Tryz.ntmps121
     go_wp2_with (first|(go_at_call 136;(with_reducible refine (HL.o _).mono ?_);rintro e w1 ⟨rfl,rfl⟩))
     go_ret;exact⟨by rw[HV.o];rfl,bq _ _⟩
   | true=>
     have HV:oZ (uo s = !(bytesOf s).any zF):=⟨by rw[uo,h2,aM (by omega),aM h1];rfl⟩;have HL:oZ (∀ W,Calls Tryz.prog 136 #[.int .u8 (bt s 0)] W fun e w'=>e = .returned (.bool true)∧w'=W):=⟨fun W=>h2 ▸ zn.c _ W⟩;have HC:oZ (∀ c,Calls Tryz.prog 137 #[.slice (some ⟨w.heap.size,0,none⟩) s.size c,.func (.func 138) #[] #[]] (Lib.bytesWorld w 5 s) fun e w'=>e = .returned (.bool ((bytesOf s).any zF))∧Below (Lib.bytesWorld w 5 s).heap.size (Lib.bytesWorld w 5 s) w'):=⟨fun c=>Wt.c _ c _ (bytesOf s) _ (bytesOf_length s) (Kd.FH (d:=(0:Int)) (h1:=fun _=>rfl) (Le w 5 s (by omega))) (by omega)⟩;have HB0:=Yu (Ld (bq w.heap.size w) (aD _) 5 s);clear h2
     go_enter Tryz.func121,Tryz.ntmps121
     go_wp2_with (first|(go_at_call 136;(with_reducible refine (HL.o _).mono ?_);rintro e w1 ⟨rfl,rfl⟩)|(go_at_call 137;(with_reducible refine (HC.o _).mono ?_);rintro e w1 ⟨rfl,hb⟩;have HB:=Yu (o9 HB0.o hb);clear hb))
     go_ret;exact⟨by rw[HV.o];rfl,HB.o⟩
  ·have HV:oZ (uo s=false):=⟨by rw[uo,aN h1];simp⟩
   go_enter Tryz.func121,Tryz.ntmps121
   go_wp2;go_ret;exact⟨by rw[HV.o];rfl,bq _ _⟩
end Go.Proofs.Y.PA
