/- Of the law rZIQDumpBack. -/
import Derived.Test.YtcgbgifbajdhpaaGreatDoorZI7
set_option linter.unusedVariables false
set_option linter.unusedSimpArgs false
set_option maxHeartbeats 8000000
set_option maxRecDepth 100000
namespace Go
abbrev eT:=@Nat.pow_le_pow_right
abbrev kG:=@List.foldl_append
end Go
namespace Go.Proofs.Y.PA
open Go.RowKit Go.Proofs.YW.o7 Go.Proofs.YW.pJ Go.Proofs.YW.pO
attribute [local go_sem] rZ r9 sU sV rX rY sN sO
mutual
def p9.j0:Nat→Int→Int→Bool→Option (Int)
 | 0,_,_,_=>none
 | k+1,x0,x3,x7=>if x7=true then (some (wrap64 ((wrap64 ((wrap64 (x3-1))-1))-1))) else (if x0≥(-2048) then (p9.j1 k x0 x3 (decide (x0<2048))) else (p9.j1 k x0 x3 false))
def p9.j1:Nat→Int→Int→Bool→Option (Int)
 | 0,_,_,_=>none
 | k+1,x0,x3,x14=>if x14=true then (some (wrap64 ((wrap64 (x3-1))-1))) else (if x0≥(-2147483648) then (if x0<2147483648 then (some (wrap64 (x3-1))) else (some x3)) else (some x3))
end
def p9.f (k:Nat)(a0:Int):Option (Int):=if a0=0 then (some 0) else (if a0≥(-64) then (p9.j0 k a0 4 (decide (a0<64))) else (p9.j0 k a0 4 false))
theorem p9.Td:∀ k,(∀ y0 y1 y2,zH (p9.j0 k y0 y1 y2) (p9.j0 (k+1) y0 y1 y2))∧(∀ y0 y1 y2,zH (p9.j1 k y0 y1 y2) (p9.j1 (k+1) y0 y1 y2))
 | 0=>⟨fun _ _ _ r h=>by simp[p9.j0] at h,fun _ _ _ r h=>by simp[p9.j1] at h⟩
 | k+1=>by
   obtain⟨ih0,ih1⟩:=p9.Td k;refine⟨?_,?_⟩
   ·intro y0 y1 y2;unfold p9.j0
    repeat' first
    | (with_reducible exact ih0 _ _ _)
    | (with_reducible exact ih1 _ _ _)
    | (with_reducible exact zH.refl _)
    | (with_reducible exact zH.none _)
    | (with_reducible refine zH.ite ?_ ?_)
    | (with_reducible refine zH.bind ?_ (fun _=>?_))
    | exact ih0 _ _ _
    | exact ih1 _ _ _
    | exact zH.none _
    | refine zH.ite ?_ ?_
    | refine zH.bind ?_ (fun _=>?_)
   ·intro y0 y1 y2;unfold p9.j1
    repeat' first
    | (with_reducible exact ih0 _ _ _)
    | (with_reducible exact ih1 _ _ _)
    | (with_reducible exact zH.refl _)
    | (with_reducible exact zH.none _)
    | (with_reducible refine zH.ite ?_ ?_)
    | (with_reducible refine zH.bind ?_ (fun _=>?_))
    | exact ih0 _ _ _
    | exact ih1 _ _ _
    | exact zH.none _
    | refine zH.ite ?_ ?_
    | refine zH.bind ?_ (fun _=>?_)
theorem p9.mono:∀ a0 k,zH (p9.f k a0) (p9.f (k+1) a0):=by
 intro a0 k;obtain⟨ih0,ih1⟩:=p9.Td k;unfold p9.f
 repeat' first
  | (with_reducible exact ih0 _ _ _)
  | (with_reducible exact ih1 _ _ _)
  | (with_reducible exact zH.refl _)
  | (with_reducible exact zH.none _)
  | (with_reducible refine zH.ite ?_ ?_)
  | (with_reducible refine zH.bind ?_ (fun _=>?_))
  | exact ih0 _ _ _
  | exact ih1 _ _ _
  | exact zH.none _
  | refine zH.ite ?_ ?_
  | refine zH.bind ?_ (fun _=>?_)
theorem p9.c (k:Nat)(a0:Int)(r:Int)(w:World)(h:p9.f k a0=some r) :
 Calls Tryz.prog 144 #[.int .i64 a0] w fun e w'=>e = .returned (.int .i64 r)∧pQ w w':=by
 have H:(if a0=0 then (some 0) else (if a0≥(-64) then (p9.j0 k a0 4 (decide (a0<64))) else (p9.j0 k a0 4 false)))=some r:=h;clear h
 by_cases c2:a0=0
 ·rw[ak c2] at H;have Z6:(a0==0)=true:=beq_iff_eq.mpr c2;have ac7:(a0 != 0)=false:=bne_eq_false_iff_eq.mpr c2;clear c2;obtain rfl:=bE H
  go_enter Tryz.func144,Tryz.ntmps144
  go_wp2;go_ret;exact⟨by first | rfl | (simp;done)|(simp[*];done)|(simp;decide +kernel),by repeat (first | exact pQ.refl _ | apply pQ.step)⟩
 ·rw[aK c2] at H;have Z6:(a0==0)=false:=beq_eq_false_iff_ne.mpr c2;have ac7:(a0 != 0)=true:=bne_iff_ne.mpr c2;have HC3:=Yu H;clear H
  go_enter Tryz.func144,Tryz.ntmps144
  go_upto_region 3 with (fail)
  go_cut [7] (fun v7 wc=>∃ (kq:Nat) (ZY:Bool),v7 = .bool ZY∧oZ (p9.j0 kq a0 4 ZY=some r)∧oZ (kq≤k)∧pQ w wc)
  case first=>
   have H:=HC3.o;clear HC3
   by_cases c4:a0≥(-64)
   ·rw[ak c4] at H;have aam:decide ((-64)≤a0)=true:=aM c4;clear c4
    (first | rw[aam] | (simp only[rH,tu];rw[aam])|skip)
    have H':=Yu H;clear H;go_wp2
    go_meet
    case rel=>exact⟨_,(decide (a0<64)),(by first | rfl | (simp;done)|(simp[*];done)),H',⟨by first | omega | exact aD _⟩,by repeat (first | exact pQ.refl _ | apply pQ.step)⟩
   ·rw[aK c4] at H;have aam:decide ((-64)≤a0)=false:=aN c4;clear c4
    (first | rw[aam] | (simp only[rH,tu];rw[aam])|skip)
    have H':=Yu H;clear H;go_wp2
    go_meet
    case rel=>exact⟨_,(false),(by first | rfl | (simp;done)|(simp[*];done)),H',⟨by first | omega | exact aD _⟩,by repeat (first | exact pQ.refl _ | apply pQ.step)⟩
  case rest=>
   clear HC3
   try clear c1
   try clear c2
   try clear Z6
   try clear ac7
   try clear p2
   try clear c4
   try clear aam
   obtain⟨kq,ZY,rfl,HA,HJ2,⟨mc2,rfl⟩⟩:=hcut;cases kq with
   | zero=>exact absurd HA.o (by simp[p9.j0])
   | succ kj2=>
     have H:=HA.o;clear HA;simp only[p9.j0] at H
     by_cases c5:ZY=true
     ·subst c5;have H1:(some (wrap64 ((wrap64 ((wrap64 (4-1))-1))-1)))=some r:=by rw[ak rfl] at H;exact H
      clear H;have H:=H1;clear H1;obtain rfl:=bE H;go_wp2;go_ret;exact⟨by first | rfl | (simp;done)|(simp[*];done)|(simp;decide +kernel),by repeat (first | exact pQ.refl _ | apply pQ.step)⟩
     ·replace c5:=Bool.eq_false_iff.mpr c5;subst c5;have H1:(if a0≥(-2048) then (p9.j1 kj2 a0 4 (decide (a0<2048))) else (p9.j1 kj2 a0 4 false))=some r:=by rw[aK (show ¬ (false=true) by decide)] at H;exact H
      clear H;have H:=H1;clear H1;have HC6:=Yu H;clear H
      go_upto_region 4 with (fail)
      go_cut [14] (fun v14 wc=>∃ (kq:Nat) (ady:Bool),v14 = .bool ady∧oZ (p9.j1 kq a0 4 ady=some r)∧oZ (kq≤kj2)∧pQ w wc)
      case first=>
       have H:=HC6.o;clear HC6
       by_cases c7:a0≥(-2048)
       ·rw[ak c7] at H;have Zi:decide ((-2048)≤a0)=true:=aM c7;clear c7
        (first | rw[Zi] | (simp only[rH,tu];rw[Zi])|skip)
        have H':=Yu H;clear H;go_wp2
        go_meet
        case rel=>exact⟨_,(decide (a0<2048)),(by first | rfl | (simp;done)|(simp[*];done)),H',⟨by have:=HJ2.o;first | omega | exact aD _⟩,by repeat (first | exact pQ.refl _ | apply pQ.step)⟩
       ·rw[aK c7] at H;have Zi:decide ((-2048)≤a0)=false:=aN c7;clear c7
        (first | rw[Zi] | (simp only[rH,tu];rw[Zi])|skip)
        have H':=Yu H;clear H;go_wp2
        go_meet
        case rel=>exact⟨_,(false),(by first | rfl | (simp;done)|(simp[*];done)),H',⟨by have:=HJ2.o;first | omega | exact aD _⟩,by repeat (first | exact pQ.refl _ | apply pQ.step)⟩
      case rest=>
       clear HC6
       try clear c1
       try clear c2
       try clear Z6
       try clear ac7
       try clear p2
       try clear c4
       try clear aam
       try clear c5
       try clear p6
       try clear c7
       try clear Zi
       try clear p2
       obtain⟨kq,ady,rfl,HA,HJ5,⟨mc5,rfl⟩⟩:=hcut;cases kq with
       | zero=>exact absurd HA.o (by simp[p9.j1])
       | succ kj5=>
         have H:=HA.o;clear HA;simp only[p9.j1] at H
         by_cases c8:ady=true
         ·subst c8;have H1:(some (wrap64 ((wrap64 (4-1))-1)))=some r:=by rw[ak rfl] at H;exact H
          clear H;have H:=H1;clear H1;obtain rfl:=bE H;go_wp2;go_ret;exact⟨by first | rfl | (simp;done)|(simp[*];done)|(simp;decide +kernel),by repeat (first | exact pQ.refl _ | apply pQ.step)⟩
         ·replace c8:=Bool.eq_false_iff.mpr c8;subst c8;have H1:(if a0≥(-2147483648) then (if a0<2147483648 then (some (wrap64 (4-1))) else (some 4)) else (some 4))=some r:=by rw[aK (show ¬ (false=true) by decide)] at H;exact H
          clear H;have H:=H1;clear H1
          by_cases c9:a0≥(-2147483648)
          ·rw[ak c9] at H;have aeb:decide ((-2147483648)≤a0)=true:=aM c9;clear c9
           by_cases c10:a0<2147483648
           ·rw[ak c10] at H;have adz:decide (a0<2147483648)=true:=aM c10;clear c10;obtain rfl:=bE H;go_wp2;go_ret;exact⟨by first | rfl | (simp;done)|(simp[*];done)|(simp;decide +kernel),by repeat (first | exact pQ.refl _ | apply pQ.step)⟩
           ·rw[aK c10] at H;have adz:decide (a0<2147483648)=false:=aN c10;clear c10;obtain rfl:=bE H;go_wp2;go_ret;exact⟨by first | rfl | (simp;done)|(simp[*];done)|(simp;decide +kernel),by repeat (first | exact pQ.refl _ | apply pQ.step)⟩
          ·rw[aK c9] at H;have aeb:decide ((-2147483648)≤a0)=false:=aN c9;clear c9;obtain rfl:=bE H;go_wp2;go_ret;exact⟨by first | rfl | (simp;done)|(simp[*];done)|(simp;decide +kernel),by repeat (first | exact pQ.refl _ | apply pQ.step)⟩
end Go.Proofs.Y.PA
namespace Go.Proofs.Y.G
open Go.RowKit Go.Proofs.YW.o7 Go.Proofs.YW.pJ Go.Proofs.YW.pO
def wz.f (l:List Int):Option (Int × Bool):=if okB l=true then (if 1≤l.length∧l.length≤8 then some ((yA 0 l:Nat),true) else some (0,false)) else none
theorem RQ (l:List Int)(k:Nat)(hk:k<l.length):yA 0 (l.take (k+1))=yA 0 (l.take k)*256+(rd l (k:Int)).toNat:=by
 have e:rd l (k:Int)=l[k]:=by simp[rd,bn,aQ hk]
 rw[cZ hk,e];unfold yA;rw[kG];rfl
theorem En {l:List Int}(hl:okB l=true)(k:Nat):yA 0 (l.take k)<256 ^ k:=by
 have h:=JX (l.take k) (fun x hx=>rT.1 hl x (dO hx)) 0 0 (by simp);refine d9 h (eT (by decide) ?_);rw[bG];omega
theorem wz.c (A0:Option Addr)(c0:Nat)(l0:List Int)(r1:Int)(r2:Bool)(w:World)(hr0:Kd.C (Kd.int .u8) w A0 l0.length l0)(hc0:l0.length≤c0)(h:wz.f l0=some (r1,r2)) :
 Calls Tryz.prog 63 #[.slice A0 l0.length c0] w fun e w'=>e = .returned (.tuple #[.int .u64 r1,.bool r2])∧pQ w w':=by
 have HR:=Yu hr0;clear hr0 hc0;unfold wz.f at h;split at h
 case isFalse=>cases h
 case isTrue hok=>
 by_cases hl:1≤l0.length∧l0.length≤8
 case neg=>
  rw[aK hl] at h;simp only[cO,dB] at h;obtain⟨rfl,rfl⟩:=h
  by_cases h0:l0.length=0
  ·have e0:((l0.length:Int)==0)=true:=beq_iff_eq.2 (by omega);clear hl h0
   go_enter Tryz.func63,Tryz.ntmps63
   go_wp2
   go_ret2
   exact⟨rfl,pQ.refl _⟩
  ·have e0:((l0.length:Int)==0)=false:=beq_eq_false_iff_ne.2 (by omega);have e1:decide ((8:Int)<(l0.length:Int))=true:=aM (by omega);clear hl h0
   go_enter Tryz.func63,Tryz.ntmps63
   go_wp2
   go_ret2
   exact⟨rfl,pQ.refl _⟩
 case pos=>
  rw[ak hl] at h;simp only[cO,dB] at h;obtain⟨rfl,rfl⟩:=h;have e0:((l0.length:Int)==0)=false:=beq_eq_false_iff_ne.2 (by omega);have e1:decide ((8:Int)<(l0.length:Int))=false:=aN (by omega)
  go_enter Tryz.func63,Tryz.ntmps63
  go_wp2
  go_loop [4,17] (fun n i=>∃ k:Nat,k≤l0.length∧i = .int .i64 k∧n = .int .u64 (yA 0 (l0.take k):Nat)) (fun _ i=>l0.length-(intOf i).toNat)
  case atStart=>exact⟨0,bV _,rfl,rfl⟩
  case round=>
   obtain⟨k,hk,rfl,rfl⟩:=hrel
   by_cases hlt:k<l0.length
   ·obtain⟨ad,rfl,hc⟩:=Kd.Du HR.o (k:Int) (by omega) (by omega);rw[bf] at hc;have hx:=rT.1 hok _ (Kz l0 k hlt);have HT:=Yu (RQ l0 k hlt);have hV:=En hok k;have h7:yA 0 (l0.take k)<256 ^ 7:=d9 hV (eT (by decide) (by omega));have HO:=Yu (Yq _ _ h7 hx.1 hx.2);have HV:=Yu h7;clear hV h7 hx;go_wp2
    go_round
    case rel=>exact⟨k+1,by omega,by go_num,by rw[HT.o,← HO.o]⟩
    case measure=>simp[intOf];omega
   ·obtain rfl:k=l0.length:=by omega
    go_wp2
    go_ret2
    exact⟨rfl,pQ.refl _⟩
attribute [local go_sem] rZ r9 sU sV
end Go.Proofs.Y.G
