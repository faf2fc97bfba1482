/- Of the law rZIQDumpBack. -/
import Derived.Test.YtcgbgifbajdhpaaGreatDoorZI8
import Derived.Test.YtcgbgifbajdhpaaGreatDoorZI18
set_option linter.unusedVariables false
set_option linter.unusedSimpArgs false
set_option maxHeartbeats 8000000
set_option maxRecDepth 100000
namespace Go.Proofs.Y.PA
open Go.RowKit Go.Proofs.YW.o7 Go.Proofs.YW.pJ Go.Proofs.YW.pO
attribute [local go_sem] rZ r9 sU sV rX rY sN sO
mutual
def pY.j0:Nat→Int→Bool→List Int→Int→Option (Int × Int × Int)
 | 0,_,_,_,_=>none
 | k+1,x1,x26,Zu,Zv=>if x26=true then (some (0,0,1)) else (pY.l0 k x1 0 Zu Zv)
def pY.j2:Nat→Int→Int→List Int→Int→Option (Int × Int × Int)
 | 0,_,_,_,_=>none
 | k+1,x1,x7,Zu,Zv=>(tJ.f x7).bind fun YQ=>((p8.f k Zu Zv x1 YQ).bind fun Zx=>(if Zx.2=0 then (if YQ>0 then (if 0≤(wrap64 (64-YQ)) then ((p9.f k (shr .i64 (wrap64 (shl .u64 Zx.1 (wrap64 (64-YQ)))) (wrap64 (64-YQ)))).bind fun Zy=>(if Zy=x7 then (some (shr .i64 (wrap64 (shl .u64 Zx.1 (wrap64 (64-YQ)))) (wrap64 (64-YQ)),wrap64 (x1+YQ),0)) else (some (0,0,5)))) else (none)) else ((p9.f k (wrap64 (Zx.1))).bind fun aak=>(if aak=x7 then (some (wrap64 (Zx.1),wrap64 (x1+YQ),0)) else (some (0,0,5))))) else (some (0,0,Zx.2))))
def pY.l0:Nat→Int→Int→List Int→Int→Option (Int × Int × Int)
 | 0,_,_,_,_=>none
 | k+1,x1,x7,Zu,Zv=>if x7<4 then ((p8.f k Zu Zv x1 1).bind fun aeH=>(if aeH.2=0 then (if aeH.1=0 then (pY.j2 k (wrap64 (x1+1)) x7 Zu Zv) else (pY.l0 k (wrap64 (x1+1)) (wrap64 (x7+1)) Zu Zv)) else (some (0,0,aeH.2)))) else (pY.j2 k x1 x7 Zu Zv)
end
def pY.f (k:Nat)(Yv:List Int)(Yw:Int)(a1:Int):Option (Int × Int × Int):=(qX.f Yv Yw).bind fun ad4=>(if ad4=true then (if a1<0 then (pY.j0 k a1 true Yv Yw) else (pY.j0 k a1 (decide (a1>Yw)) Yv Yw)) else (pY.j0 k a1 true Yv Yw))
theorem pY.c (k:Nat)(YB:Option Addr)(YC:Nat)(Yv:List Int)(Yw:Int)(a1:Int)(r1:Int)(r2:Int)(r3:Int)(w:World)(Zm:Kd.C (Kd.int .u8) w YB Yv.length Yv)(Zn:Yv.length≤YC)(h:pY.f k Yv Yw a1=some (r1,r2,r3)) :
 Calls Tryz.prog 157 #[.agg #[.slice YB Yv.length YC,.int .i64 Yw],.int .i64 a1] w fun e w'=>e = .returned (.tuple #[.int .i64 r1,.int .i64 r2,.int .i64 r3])∧Below w.heap.size w w':=by
 have afJ:=Tryz.underlying149;have YT:=Yu Zm;have Y3:=Yu Zn;clear Zm Zn;have HB:=Yu (bq w.heap.size w);have H:((qX.f Yv Yw).bind fun ad4=>(if ad4=true then (if a1<0 then (pY.j0 k a1 true Yv Yw) else (pY.j0 k a1 (decide (a1>Yw)) Yv Yw)) else (pY.j0 k a1 true Yv Yw)))=some (r1,r2,r3):=h;clear h;have HC3:=Yu H;clear H
 go_enter Tryz.func157,Tryz.ntmps157
 go_upto_region 1 with (first|((with_reducible refine qK (N:=2) rfl ?_);refine ru ?hg (N:=2) ?hd (cs := #[.slice YB Yv.length YC,.int .i64 Yw]) (t:=149) ?hr ?_;(case hd=>rfl);(case hg=>rfl);(case hr=>first|(go_simp;done)|(go_simp;rfl));intro YK hg w4 YI hb;have n0_:=Yu (o9 (by repeat (first|(with_reducible first | exact HB.o | apply o8 | apply pz | apply pF)|exact HB.o)) hb);have n1_:=Yu (YI);have n2_:=Yu ((by rw[hg];exact (pX (by repeat (first|(with_reducible first | exact HB.o | apply o8 | apply pz | apply pF)|exact HB.o))):w.heap.size≤YK));have n3_:=Yu ((by rw[hg];exact (pX (by repeat (first|(with_reducible first | exact HB.o | apply o8 | apply pz | apply pF)|exact HB.o))):w.heap.size≤YK));clear HB;have HB:=n0_;have YA:=n1_;have akd:=n2_;have YZ:=n3_;clear n0_ n1_ n2_ n3_;clear hb YI hg))
 (try simp only[Act.put,ah,aI,ay])
 go_cut [26] (fun v26 wc=>∃ (kq:Nat) (adV:Bool),v26 = .bool adV∧oZ (pY.j0 kq a1 adV Yv Yw=some (r1,r2,r3))∧oZ (kq≤k)∧oZ (wc.heap[YK]? = some (.cells #[(.slice YB Yv.length YC),.int .i64 Yw] 149 (0,0)))∧oZ (Below w.heap.size w wc))
 case first=>
  have H:=HC3.o;clear HC3;replace H:=Option.bind_eq_some_iff.mp H;obtain⟨ad4,A50,H⟩:=H;replace H:(if ad4=true then (if a1<0 then (pY.j0 k a1 true Yv Yw) else (pY.j0 k a1 (decide (a1>Yw)) Yv Yw)) else (pY.j0 k a1 true Yv Yw))=some (r1,r2,r3):=H;have A5:=Yu A50;clear A50
  by_cases c6:ad4=true
  ·subst c6;have H1:(if a1<0 then (pY.j0 k a1 true Yv Yw) else (pY.j0 k a1 (decide (a1>Yw)) Yv Yw))=some (r1,r2,r3):=by rw[ak rfl] at H;exact H
   clear H;have H:=H1;clear H1
   by_cases c7:a1<0
   ·rw[ak c7] at H;have Zi:decide (a1<0)=true:=aM c7;clear c7
    (first | rw[Zi] | (simp only[rH,tu];rw[Zi])|skip)
    have H':=Yu H;clear H;have adr:w4.cell? ⟨YK,0,none⟩=some (.slice YB Yv.length YC):=(pq YA.o 0).trans rfl;have ads:w4.cell? ⟨YK,1,none⟩=some (.int .i64 Yw):=(pq YA.o 1).trans rfl;have adt:=pE YA.o 0;have adu:=pE YA.o 1
    go_wp2_with (first|((with_reducible refine qW (f:=141) rfl ?_);refine uK (some 15) rfl rfl Tryz.func141 (by kernel_rfl) rfl #[.agg #[.slice YB Yv.length YC,.int .i64 Yw]] rfl (by (try simp only[dI,dJ,eD]);first | done | rfl | (simp only[bB,bG];rfl)) ?_;(with_reducible refine (qX.c _ _ Yv Yw true _ ?YG ?YH A5.o).mono ?_);(case YG=>repeat (first | exact (Kd.pI YT.o HB.o)|(with_reducible refine Kd.qN ?_ _)|(with_reducible refine Kd.C_drewN ?_ _)|(with_reducible refine Kd.rD ?_)));(case YH=>exact Y3.o);rintro e w9 ⟨rfl,hb⟩;refine⟨_,rfl,?_⟩;have n0_:=Yu (pG (g:=YK) (o := .cells #[.slice YB Yv.length YC,.int .i64 Yw] 149 (0,0)) (by (with_reducible repeat (first | refine qh ?_ _ | refine qg ?_ | refine pU ?_ _));exact YA.o) hb);have n1_:=Yu (o9 (by repeat (first|(with_reducible first | exact HB.o | apply o8 | apply pz | apply pF | refine pW ?_ YZ.o)|exact HB.o)) hb);clear YA;clear HB;have YA:=n0_;have HB:=n1_;clear n0_ n1_;(try clear hb);(try clear hb2);(try clear hk);(try clear hi)))
    go_meet
    case rel=>exact⟨_,(true),(by first | rfl | (simp;done)|(simp[*];done)),H',⟨by first | omega | exact aD _⟩,⟨by (with_reducible repeat (first | refine qh ?_ _ | refine qg ?_ | refine pU ?_ _));exact YA.o⟩,⟨by repeat (first|(with_reducible first | exact HB.o | apply o8 | apply pz | apply pF | refine pW ?_ YZ.o)|exact HB.o)⟩⟩
   ·rw[aK c7] at H;have Zi:decide (a1<0)=false:=aN c7;clear c7
    (first | rw[Zi] | (simp only[rH,tu];rw[Zi])|skip)
    have H':=Yu H;clear H;have ZK:w4.cell? ⟨YK,0,none⟩=some (.slice YB Yv.length YC):=(pq YA.o 0).trans rfl;have ZL:w4.cell? ⟨YK,1,none⟩=some (.int .i64 Yw):=(pq YA.o 1).trans rfl;have ZM:=pE YA.o 0;have ZN:=pE YA.o 1
    go_wp2_with (first|((with_reducible refine qW (f:=141) rfl ?_);refine uK (some 15) rfl rfl Tryz.func141 (by kernel_rfl) rfl #[.agg #[.slice YB Yv.length YC,.int .i64 Yw]] rfl (by (try simp only[dI,dJ,eD]);first | done | rfl | (simp only[bB,bG];rfl)) ?_;(with_reducible refine (qX.c _ _ Yv Yw true _ ?YG ?YH A5.o).mono ?_);(case YG=>repeat (first | exact (Kd.pI YT.o HB.o)|(with_reducible refine Kd.qN ?_ _)|(with_reducible refine Kd.C_drewN ?_ _)|(with_reducible refine Kd.rD ?_)));(case YH=>exact Y3.o);rintro e w11 ⟨rfl,hb⟩;refine⟨_,rfl,?_⟩;have n0_:=Yu (pG (g:=YK) (o := .cells #[.slice YB Yv.length YC,.int .i64 Yw] 149 (0,0)) (by (with_reducible repeat (first | refine qh ?_ _ | refine qg ?_ | refine pU ?_ _));exact YA.o) hb);have n1_:=Yu (o9 (by repeat (first|(with_reducible first | exact HB.o | apply o8 | apply pz | apply pF | refine pW ?_ YZ.o)|exact HB.o)) hb);clear YA;clear HB;have YA:=n0_;have HB:=n1_;clear n0_ n1_;(try clear hb);(try clear hb2);(try clear hk);(try clear hi);have ZU:w11.cell? ⟨YK,0,none⟩=some (.slice YB Yv.length YC):=(pq YA.o 0).trans rfl;have ZV:w11.cell? ⟨YK,1,none⟩=some (.int .i64 Yw):=(pq YA.o 1).trans rfl;have ZW:=pE YA.o 0;have ZX:=pE YA.o 1))
    go_meet
    case rel=>exact⟨_,(decide (a1>Yw)),(by first | rfl | (simp;done)|(simp[*];done)),H',⟨by first | omega | exact aD _⟩,⟨by (with_reducible repeat (first | refine qh ?_ _ | refine qg ?_ | refine pU ?_ _));exact YA.o⟩,⟨by repeat (first|(with_reducible first | exact HB.o | apply o8 | apply pz | apply pF | refine pW ?_ YZ.o)|exact HB.o)⟩⟩
  ·replace c6:=Bool.eq_false_iff.mpr c6;subst c6;have H1:(pY.j0 k a1 true Yv Yw)=some (r1,r2,r3):=by rw[aK (show ¬ (false=true) by decide)] at H;exact H
   clear H;have H:=H1;clear H1;have H':=Yu H;clear H;have ZO:w4.cell? ⟨YK,0,none⟩=some (.slice YB Yv.length YC):=(pq YA.o 0).trans rfl;have ZQ:w4.cell? ⟨YK,1,none⟩=some (.int .i64 Yw):=(pq YA.o 1).trans rfl;have ZR:=pE YA.o 0;have ZT:=pE YA.o 1
   go_wp2_with (first|((with_reducible refine qW (f:=141) rfl ?_);refine uK (some 15) rfl rfl Tryz.func141 (by kernel_rfl) rfl #[.agg #[.slice YB Yv.length YC,.int .i64 Yw]] rfl (by (try simp only[dI,dJ,eD]);first | done | rfl | (simp only[bB,bG];rfl)) ?_;(with_reducible refine (qX.c _ _ Yv Yw false _ ?YG ?YH A5.o).mono ?_);(case YG=>repeat (first | exact (Kd.pI YT.o HB.o)|(with_reducible refine Kd.qN ?_ _)|(with_reducible refine Kd.C_drewN ?_ _)|(with_reducible refine Kd.rD ?_)));(case YH=>exact Y3.o);rintro e w14 ⟨rfl,hb⟩;refine⟨_,rfl,?_⟩;have n0_:=Yu (pG (g:=YK) (o := .cells #[.slice YB Yv.length YC,.int .i64 Yw] 149 (0,0)) (by (with_reducible repeat (first | refine qh ?_ _ | refine qg ?_ | refine pU ?_ _));exact YA.o) hb);have n1_:=Yu (o9 (by repeat (first|(with_reducible first | exact HB.o | apply o8 | apply pz | apply pF | refine pW ?_ YZ.o)|exact HB.o)) hb);clear YA;clear HB;have YA:=n0_;have HB:=n1_;clear n0_ n1_;(try clear hb);(try clear hb2);(try clear hk);(try clear hi)))
   go_meet
   case rel=>exact⟨_,(true),(by first | rfl | (simp;done)|(simp[*];done)),H',⟨by first | omega | exact aD _⟩,⟨by (with_reducible repeat (first | refine qh ?_ _ | refine qg ?_ | refine pU ?_ _));exact YA.o⟩,⟨by repeat (first|(with_reducible first | exact HB.o | apply o8 | apply pz | apply pF | refine pW ?_ YZ.o)|exact HB.o)⟩⟩
 case rest=>
  clear HC3
  try clear c1
  try clear p2
  try clear c6
  try clear c7
  try clear Zi
  try clear c14
  try clear ZK
  try clear ZL
  try clear ZU
  try clear ZV
  try clear ZO
  try clear ZQ
  try clear adr
  try clear ads
  try clear ZM
  try clear ZN
  try clear ZW
  try clear ZX
  try clear ZR
  try clear ZT
  try clear adt
  try clear adu
  obtain⟨kq,adV,rfl,HA,HJ2,YA,HB⟩:=hcut;cases kq with
  | zero=>exact absurd HA.o (by simp[pY.j0])
  | succ kj2=>
    have H:=HA.o;clear HA;simp only[pY.j0] at H
    by_cases c15:adV=true
    ·subst c15;have H1:(some (0,0,1))=some (r1,r2,r3):=by rw[ak rfl] at H;exact H
     clear H;have H:=H1;clear H1;simp only[cO,dB] at H;obtain⟨rfl,rfl,rfl⟩:=H;go_wp2
     go_ret3
     exact⟨by first | rfl | (simp[qw,qx]<;>rfl)|(simp[*,qw,qx]<;>rfl),by repeat (first|(with_reducible first | exact HB.o | apply o8 | apply pz | apply pF | refine pW ?_ YZ.o)|exact HB.o)⟩
    ·replace c15:=Bool.eq_false_iff.mpr c15;subst c15;have H1:(pY.l0 kj2 a1 0 Yv Yw)=some (r1,r2,r3):=by rw[aK (show ¬ (false=true) by decide)] at H;exact H
     clear H;have H:=H1;clear H1;have agC:=Yu H;clear H
     go_upto_block 0 with (fail)
     go_cut [1,7] (fun v1 v7 wc=>∃ (kq:Nat) (Y9:Int) (YU:Int),v1 = .int .i64 Y9∧v7 = .int .i64 YU∧oZ (pY.j2 kq Y9 YU Yv Yw=some (r1,r2,r3))∧oZ (kq≤kj2)∧oZ (wc.heap[YK]? = some (.cells #[(.slice YB Yv.length YC),.int .i64 Yw] 149 (0,0)))∧oZ (Below w.heap.size w wc))
     case first=>
      have H:=agC.o;clear agC;have H':=Yu H;clear H;go_wp2
      go_loopg [1,7] kj2 (fun kq v1 v7 w'=>∃ (Y1:Int) (ZY:Int),v1 = .int .i64 Y1∧v7 = .int .i64 ZY∧oZ (pY.l0 kq Y1 ZY Yv Yw=some (r1,r2,r3))∧oZ (kq≤kj2)∧oZ (w'.heap[YK]? = some (.cells #[(.slice YB Yv.length YC),.int .i64 Yw] 149 (0,0)))∧oZ (Below w.heap.size w w'))
      case atStart=>exact⟨(a1),(0),(by first | rfl | (simp;done)|(simp[*];done)),(by first | rfl | (simp;done)|(simp[*];done)),H',⟨aD _⟩,⟨by (with_reducible repeat (first | refine qh ?_ _ | refine qg ?_ | refine pU ?_ _));exact YA.o⟩,⟨by repeat (first|(with_reducible first | exact HB.o | apply o8 | apply pz | apply pF | refine pW ?_ YZ.o)|exact HB.o)⟩⟩
      case round=>
       clear H'
       try clear c1
       try clear p2
       try clear c6
       try clear c7
       try clear Zi
       try clear c14
       try clear c15
       try clear ZK
       try clear ZL
       try clear ZU
       try clear ZV
       try clear ZO
       try clear ZQ
       try clear adr
       try clear ads
       try clear ZM
       try clear ZN
       try clear ZW
       try clear ZX
       try clear ZR
       try clear ZT
       try clear adt
       try clear adu
       try clear p2
       obtain⟨Y1,ZY,rfl,rfl,HA,HK2,YA,HB⟩:=hrel;cases gk with
       | zero=>exact absurd HA.o (by simp[pY.l0])
       | succ k2=>
         have H:=HA.o;clear HA;simp only[pY.l0] at H
         by_cases c17:ZY<4
         ·rw[ak c17] at H;have aao:decide (ZY<4)=true:=aM c17;clear c17
          (first | rw[aao] | (simp only[rH,tu];rw[aao])|skip)
          replace H:=Option.bind_eq_some_iff.mp H;obtain⟨⟨acV,acB⟩,ahC,H⟩:=H;replace H:(if acB=0 then (if acV=0 then (pY.j2 k2 (wrap64 (Y1+1)) ZY Yv Yw) else (pY.l0 k2 (wrap64 (Y1+1)) (wrap64 (ZY+1)) Yv Yw)) else (some (0,0,acB)))=some (r1,r2,r3):=H;have A18:=Yu ahC;clear ahC
          by_cases c19:acB=0
          ·rw[ak c19] at H;have adB:(acB==0)=true:=beq_iff_eq.mpr c19;have adC:(acB != 0)=false:=bne_eq_false_iff_eq.mpr c19;clear c19
           by_cases c20:acV=0
           ·rw[ak c20] at H;have adD:(acV==0)=true:=beq_iff_eq.mpr c20;have adE:(acV != 0)=false:=bne_eq_false_iff_eq.mpr c20;clear c20;have H':=Yu H;clear H;have aat:wr.cell? ⟨YK,0,none⟩=some (.slice YB Yv.length YC):=(pq YA.o 0).trans rfl;have aau:wr.cell? ⟨YK,1,none⟩=some (.int .i64 Yw):=(pq YA.o 1).trans rfl;have aav:=pE YA.o 0;have aaw:=pE YA.o 1
            go_wp2_with (first|((with_reducible refine qW (f:=156) rfl ?_);refine uK (some 32) rfl rfl Tryz.func156 (by kernel_rfl) rfl #[.agg #[.slice YB Yv.length YC,.int .i64 Yw],.int .i64 Y1,.int .i64 1] rfl (by (try simp only[dI,dJ,eD]);first | done | rfl | (simp only[bB,bG];rfl)) ?_;(with_reducible refine (p8.c k2 _ _ Yv Yw Y1 1 acV acB _ ?YG ?YH A18.o).mono ?_);(case YG=>repeat (first | exact (Kd.pI YT.o HB.o)|(with_reducible refine Kd.qN ?_ _)|(with_reducible refine Kd.C_drewN ?_ _)|(with_reducible refine Kd.rD ?_)));(case YH=>exact Y3.o);rintro e w22 ⟨rfl,hb⟩;refine⟨_,rfl,?_⟩;have n0_:=Yu (pG (g:=YK) (o := .cells #[.slice YB Yv.length YC,.int .i64 Yw] 149 (0,0)) (by (with_reducible repeat (first | refine qh ?_ _ | refine qg ?_ | refine pU ?_ _));exact YA.o) hb);have n1_:=Yu (o9 (by repeat (first|(with_reducible first | exact HB.o | apply o8 | apply pz | apply pF | refine pW ?_ YZ.o)|exact HB.o)) hb);clear YA;clear HB;have YA:=n0_;have HB:=n1_;clear n0_ n1_;(try clear hb);(try clear hb2);(try clear hk);(try clear hi)))
            go_meet
            case rel=>exact⟨_,(wrap64 (Y1+1)),(ZY),(by first | rfl | (simp;done)|(simp[*];done)),(by first | rfl | (simp;done)|(simp[*];done)),H',⟨by have:=HJ2.o;have:=HK2.o;first | omega | exact aD _⟩,⟨by (with_reducible repeat (first | refine qh ?_ _ | refine qg ?_ | refine pU ?_ _));exact YA.o⟩,⟨by repeat (first|(with_reducible first | exact HB.o | apply o8 | apply pz | apply pF | refine pW ?_ YZ.o)|exact HB.o)⟩⟩
           ·rw[aK c20] at H;have adD:(acV==0)=false:=beq_eq_false_iff_ne.mpr c20;have adE:(acV != 0)=true:=bne_iff_ne.mpr c20;have H':=Yu H;clear H;have afo:wr.cell? ⟨YK,0,none⟩=some (.slice YB Yv.length YC):=(pq YA.o 0).trans rfl;have afp:wr.cell? ⟨YK,1,none⟩=some (.int .i64 Yw):=(pq YA.o 1).trans rfl;have afq:=pE YA.o 0;have afr:=pE YA.o 1
            go_wp2_with (first|((with_reducible refine qW (f:=156) rfl ?_);refine uK (some 32) rfl rfl Tryz.func156 (by kernel_rfl) rfl #[.agg #[.slice YB Yv.length YC,.int .i64 Yw],.int .i64 Y1,.int .i64 1] rfl (by (try simp only[dI,dJ,eD]);first | done | rfl | (simp only[bB,bG];rfl)) ?_;(with_reducible refine (p8.c k2 _ _ Yv Yw Y1 1 acV acB _ ?YG ?YH A18.o).mono ?_);(case YG=>repeat (first | exact (Kd.pI YT.o HB.o)|(with_reducible refine Kd.qN ?_ _)|(with_reducible refine Kd.C_drewN ?_ _)|(with_reducible refine Kd.rD ?_)));(case YH=>exact Y3.o);rintro e w24 ⟨rfl,hb⟩;refine⟨_,rfl,?_⟩;have n0_:=Yu (pG (g:=YK) (o := .cells #[.slice YB Yv.length YC,.int .i64 Yw] 149 (0,0)) (by (with_reducible repeat (first | refine qh ?_ _ | refine qg ?_ | refine pU ?_ _));exact YA.o) hb);have n1_:=Yu (o9 (by repeat (first|(with_reducible first | exact HB.o | apply o8 | apply pz | apply pF | refine pW ?_ YZ.o)|exact HB.o)) hb);clear YA;clear HB;have YA:=n0_;have HB:=n1_;clear n0_ n1_;(try clear hb);(try clear hb2);(try clear hk);(try clear hi)))
            go_roundg k2
            case measure=>have:=HJ2.o;have:=HK2.o;omega
            case rel=>exact⟨(wrap64 (Y1+1)),(wrap64 (ZY+1)),(by first | rfl | (simp;done)|(simp[*];done)),(by first | rfl | (simp;done)|(simp[*];done)),H',⟨by have:=HJ2.o;have:=HK2.o;omega⟩,⟨by (with_reducible repeat (first | refine qh ?_ _ | refine qg ?_ | refine pU ?_ _));exact YA.o⟩,⟨by repeat (first|(with_reducible first | exact HB.o | apply o8 | apply pz | apply pF | refine pW ?_ YZ.o)|exact HB.o)⟩⟩
          ·rw[aK c19] at H;have adB:(acB==0)=false:=beq_eq_false_iff_ne.mpr c19;have adC:(acB != 0)=true:=bne_iff_ne.mpr c19;simp only[cO,dB] at H;obtain⟨rfl,rfl,rfl⟩:=H;have acO:wr.cell? ⟨YK,0,none⟩=some (.slice YB Yv.length YC):=(pq YA.o 0).trans rfl;have acP:wr.cell? ⟨YK,1,none⟩=some (.int .i64 Yw):=(pq YA.o 1).trans rfl;have acQ:=pE YA.o 0;have acR:=pE YA.o 1
           go_wp2_with (first|((with_reducible refine qW (f:=156) rfl ?_);refine uK (some 32) rfl rfl Tryz.func156 (by kernel_rfl) rfl #[.agg #[.slice YB Yv.length YC,.int .i64 Yw],.int .i64 Y1,.int .i64 1] rfl (by (try simp only[dI,dJ,eD]);first | done | rfl | (simp only[bB,bG];rfl)) ?_;(with_reducible refine (p8.c k2 _ _ Yv Yw Y1 1 acV acB _ ?YG ?YH A18.o).mono ?_);(case YG=>repeat (first | exact (Kd.pI YT.o HB.o)|(with_reducible refine Kd.qN ?_ _)|(with_reducible refine Kd.C_drewN ?_ _)|(with_reducible refine Kd.rD ?_)));(case YH=>exact Y3.o);rintro e w26 ⟨rfl,hb⟩;refine⟨_,rfl,?_⟩;have n0_:=Yu (pG (g:=YK) (o := .cells #[.slice YB Yv.length YC,.int .i64 Yw] 149 (0,0)) (by (with_reducible repeat (first | refine qh ?_ _ | refine qg ?_ | refine pU ?_ _));exact YA.o) hb);have n1_:=Yu (o9 (by repeat (first|(with_reducible first | exact HB.o | apply o8 | apply pz | apply pF | refine pW ?_ YZ.o)|exact HB.o)) hb);clear YA;clear HB;have YA:=n0_;have HB:=n1_;clear n0_ n1_;(try clear hb);(try clear hb2);(try clear hk);(try clear hi)))
           go_ret3
           exact⟨by first | rfl | (simp[qw,qx]<;>rfl)|(simp[*,qw,qx]<;>rfl),by repeat (first|(with_reducible first | exact HB.o | apply o8 | apply pz | apply pF | refine pW ?_ YZ.o)|exact HB.o)⟩
         ·rw[aK c17] at H;have aao:decide (ZY<4)=false:=aN c17;clear c17
          (first | rw[aao] | (simp only[rH,tu];rw[aao])|skip)
          have H':=Yu H;clear H;go_wp2
          go_meet
          case rel=>exact⟨_,(Y1),(ZY),(by first | rfl | (simp;done)|(simp[*];done)),(by first | rfl | (simp;done)|(simp[*];done)),H',⟨by have:=HJ2.o;have:=HK2.o;first | omega | exact aD _⟩,⟨by (with_reducible repeat (first | refine qh ?_ _ | refine qg ?_ | refine pU ?_ _));exact YA.o⟩,⟨by repeat (first|(with_reducible first | exact HB.o | apply o8 | apply pz | apply pF | refine pW ?_ YZ.o)|exact HB.o)⟩⟩
     case rest=>
      clear agC
      try clear c1
      try clear c2
      try clear p2
      try clear c6
      try clear p6
      try clear c7
      try clear Zi
      try clear c14
      try clear c15
      try clear c17
      try clear aao
      try clear c19
      try clear adB
      try clear adC
      try clear c20
      try clear adD
      try clear adE
      try clear ZK
      try clear ZL
      try clear ZU
      try clear ZV
      try clear ZO
      try clear ZQ
      try clear aat
      try clear aau
      try clear afo
      try clear afp
      try clear acO
      try clear acP
      try clear adr
      try clear ads
      try clear ZM
      try clear ZN
      try clear ZW
      try clear ZX
      try clear ZR
      try clear ZT
      try clear aav
      try clear aaw
      try clear afq
      try clear afr
      try clear acQ
      try clear acR
      try clear adt
      try clear adu
      try clear p2
      obtain⟨kq,Y9,YU,rfl,rfl,HA,akz,YA,HB⟩:=hcut;cases kq with
      | zero=>exact absurd HA.o (by simp[pY.j2])
      | succ ZJ=>
        have H:=HA.o;clear HA;simp only[pY.j2] at H;replace H:=Option.bind_eq_some_iff.mp H;obtain⟨YQ,ahD,H⟩:=H;replace H:((p8.f ZJ Yv Yw Y9 YQ).bind fun Zx=>(if Zx.2=0 then (if YQ>0 then (if 0≤(wrap64 (64-YQ)) then ((p9.f ZJ (shr .i64 (wrap64 (shl .u64 Zx.1 (wrap64 (64-YQ)))) (wrap64 (64-YQ)))).bind fun Zy=>(if Zy=YU then (some (shr .i64 (wrap64 (shl .u64 Zx.1 (wrap64 (64-YQ)))) (wrap64 (64-YQ)),wrap64 (Y9+YQ),0)) else (some (0,0,5)))) else (none)) else ((p9.f ZJ (wrap64 (Zx.1))).bind fun aak=>(if aak=YU then (some (wrap64 (Zx.1),wrap64 (Y9+YQ),0)) else (some (0,0,5))))) else (some (0,0,Zx.2))))=some (r1,r2,r3):=H;have A27:=Yu ahD;clear ahD;replace H:=Option.bind_eq_some_iff.mp H;obtain⟨⟨ZB,aar⟩,ahE,H⟩:=H;replace H:(if aar=0 then (if YQ>0 then (if 0≤(wrap64 (64-YQ)) then ((p9.f ZJ (shr .i64 (wrap64 (shl .u64 ZB (wrap64 (64-YQ)))) (wrap64 (64-YQ)))).bind fun Zy=>(if Zy=YU then (some (shr .i64 (wrap64 (shl .u64 ZB (wrap64 (64-YQ)))) (wrap64 (64-YQ)),wrap64 (Y9+YQ),0)) else (some (0,0,5)))) else (none)) else ((p9.f ZJ (wrap64 (ZB))).bind fun aak=>(if aak=YU then (some (wrap64 (ZB),wrap64 (Y9+YQ),0)) else (some (0,0,5))))) else (some (0,0,aar)))=some (r1,r2,r3):=H;have A28:=Yu ahE;clear ahE
        by_cases c29:aar=0
        ·rw[ak c29] at H;have ahF:(aar==0)=true:=beq_iff_eq.mpr c29;have ahG:(aar != 0)=false:=bne_eq_false_iff_eq.mpr c29;clear c29
         by_cases c30:YQ>0
         ·rw[ak c30] at H;have ahH:decide (0<YQ)=true:=aM c30;clear c30;obtain⟨ZC,aaJ⟩:∃ j_:Int,(wrap64 (64-YQ))=j_:=⟨_,rfl⟩;replace H:(if 0≤(ZC) then ((p9.f ZJ (shr .i64 (wrap64 (shl .u64 ZB (ZC))) (ZC))).bind fun Zy=>(if Zy=YU then (some (shr .i64 (wrap64 (shl .u64 ZB (ZC))) (ZC),wrap64 (Y9+YQ),0)) else (some (0,0,5)))) else (none))=some (r1,r2,r3):=by first|(rw[aaJ] at H;exact H)|(simp only[aaJ] at H ⊢;exact H)
          (try rw[aaJ] at A27)
          (try rw[aaJ] at A28)
          have ajh:(IntKind.i64.wrap (64-YQ))=ZC:=(rH _).trans aaJ
          by_cases c32:0≤(ZC)
          ·rw[ak c32] at H;have aha:=bR c32;have ake:decide (0≤(ZC))=true:=aM c32;clear c32;obtain⟨ZG,ZE⟩:∃ j_:Int,(shl .u64 ZB (ZC))=j_:=⟨_,rfl⟩;replace H:((p9.f ZJ (shr .i64 (wrap64 (ZG)) (ZC))).bind fun Zy=>(if Zy=YU then (some (shr .i64 (wrap64 (ZG)) (ZC),wrap64 (Y9+YQ),0)) else (some (0,0,5))))=some (r1,r2,r3):=by first|(rw[ZE] at H;exact H)|(simp only[ZE] at H ⊢;exact H)
           (try rw[ZE] at A27)
           (try rw[ZE] at A28)
           have aji:(IntKind.u64.wrap (ZB*2 ^ min (ZC).toNat 64))=ZG:=ZE;have ajj:(ZC)≤64→(IntKind.u64.wrap (ZB*2 ^ (ZC).toNat))=ZG:=wO ZE;have ahb:=bR (aV (by assumption):0≤(ZC));obtain⟨Z8,Zh⟩:∃ j_:Int,(shr .i64 (wrap64 (ZG)) (ZC))=j_:=⟨_,rfl⟩;replace H:((p9.f ZJ (Z8)).bind fun Zy=>(if Zy=YU then (some (Z8,wrap64 (Y9+YQ),0)) else (some (0,0,5))))=some (r1,r2,r3):=by first|(rw[Zh] at H;exact H)|(simp only[Zh] at H ⊢;exact H)
           (try rw[Zh] at A27)
           (try rw[Zh] at A28)
           have agh:((wrap64 (ZG)) / 2 ^ min (ZC).toNat 64)=Z8:=Zh;have agi:(ZC)≤64→((wrap64 (ZG)) / 2 ^ (ZC).toNat)=Z8:=Ed Zh;replace H:=Option.bind_eq_some_iff.mp H;obtain⟨Zy,ahI,H⟩:=H;replace H:(if Zy=YU then (some (Z8,wrap64 (Y9+YQ),0)) else (some (0,0,5)))=some (r1,r2,r3):=H;have A36:=Yu ahI;clear ahI
           by_cases c37:Zy=YU
           ·rw[ak c37] at H;have ahJ:(Zy==YU)=true:=beq_iff_eq.mpr c37;have ahK:(Zy != YU)=false:=bne_eq_false_iff_eq.mpr c37;clear c37;simp only[cO,dB] at H;obtain⟨rfl,rfl,rfl⟩:=H
            go_wp2_with (first|((with_reducible refine qW (f:=145) rfl ?_);refine uK (some 45) rfl rfl Tryz.func145 (by kernel_rfl) rfl #[.int .i64 YU] rfl (by (try simp only[dI,dJ,eD]);first | done | rfl | (simp only[bB,bG];rfl)) ?_;(with_reducible refine (tJ.c YU YQ _ A27.o).mono ?_);rintro e w' ⟨rfl,⟨nd,rfl⟩⟩;refine⟨_,rfl,?_⟩;have afh:wc.cell? ⟨YK,0,none⟩=some (.slice YB Yv.length YC):=(pq YA.o 0).trans rfl;have afi:wc.cell? ⟨YK,1,none⟩=some (.int .i64 Yw):=(pq YA.o 1).trans rfl;have afj:=pE YA.o 0;have afk:=pE YA.o 1)|((with_reducible refine qW (f:=156) rfl ?_);refine uK (some 50) rfl rfl Tryz.func156 (by kernel_rfl) rfl #[.agg #[.slice YB Yv.length YC,.int .i64 Yw],.int .i64 Y9,.int .i64 YQ] rfl (by (try simp only[dI,dJ,eD]);first | done | rfl | (simp only[bB,bG];rfl)) ?_;(with_reducible refine (p8.c ZJ _ _ Yv Yw Y9 YQ ZB aar _ ?YG ?YH A28.o).mono ?_);(case YG=>repeat (first | exact (Kd.pI YT.o (by repeat (first|(with_reducible first | exact HB.o | apply o8 | apply pz | apply pF | refine pW ?_ YZ.o)|exact HB.o)))|(with_reducible refine Kd.qN ?_ _)|(with_reducible refine Kd.C_drewN ?_ _)|(with_reducible refine Kd.rD ?_)));(case YH=>exact Y3.o);rintro e w39 ⟨rfl,hb⟩;refine⟨_,rfl,?_⟩;have n0_:=Yu (pG (g:=YK) (o := .cells #[.slice YB Yv.length YC,.int .i64 Yw] 149 (0,0)) (by (with_reducible repeat (first | refine qh ?_ _ | refine qg ?_ | refine pU ?_ _));exact YA.o) hb);have n1_:=Yu (o9 (by repeat (first|(with_reducible first | exact HB.o | apply o8 | apply pz | apply pF | refine pW ?_ YZ.o)|exact HB.o)) hb);clear YA;clear HB;have YA:=n0_;have HB:=n1_;clear n0_ n1_;(try clear hb);(try clear hb2);(try clear hk);(try clear hi))|((with_reducible refine qW (f:=144) rfl ?_);refine uK (some 69) rfl rfl Tryz.func144 (by kernel_rfl) rfl #[.int .i64 Z8] rfl (by (try simp only[dI,dJ,eD]);first | done | (simp only[Zh];rfl)|rfl | (simp only[bB,bG];rfl)) ?_;(with_reducible refine (p9.c ZJ Z8 Zy _ A36.o).mono ?_);rintro e w' ⟨rfl,⟨nd,rfl⟩⟩;refine⟨_,rfl,?_⟩))
            go_ret3
            exact⟨by first | rfl | (simp[qw,qx]<;>rfl)|(simp only[← aaJ,← ZE,← Zh];first | rfl | (simp[qw,qx]<;>rfl))|(simp[*,qw,qx]<;>rfl),by repeat (first|(with_reducible first | exact HB.o | apply o8 | apply pz | apply pF | refine pW ?_ YZ.o)|exact HB.o)⟩
           ·rw[aK c37] at H;have ahJ:(Zy==YU)=false:=beq_eq_false_iff_ne.mpr c37;have ahK:(Zy != YU)=true:=bne_iff_ne.mpr c37;simp only[cO,dB] at H;obtain⟨rfl,rfl,rfl⟩:=H
            go_wp2_with (first|((with_reducible refine qW (f:=145) rfl ?_);refine uK (some 45) rfl rfl Tryz.func145 (by kernel_rfl) rfl #[.int .i64 YU] rfl (by (try simp only[dI,dJ,eD]);first | done | rfl | (simp only[bB,bG];rfl)) ?_;(with_reducible refine (tJ.c YU YQ _ A27.o).mono ?_);rintro e w' ⟨rfl,⟨nd,rfl⟩⟩;refine⟨_,rfl,?_⟩;have aij:wc.cell? ⟨YK,0,none⟩=some (.slice YB Yv.length YC):=(pq YA.o 0).trans rfl;have aik:wc.cell? ⟨YK,1,none⟩=some (.int .i64 Yw):=(pq YA.o 1).trans rfl;have ail:=pE YA.o 0;have ain:=pE YA.o 1)|((with_reducible refine qW (f:=156) rfl ?_);refine uK (some 50) rfl rfl Tryz.func156 (by kernel_rfl) rfl #[.agg #[.slice YB Yv.length YC,.int .i64 Yw],.int .i64 Y9,.int .i64 YQ] rfl (by (try simp only[dI,dJ,eD]);first | done | rfl | (simp only[bB,bG];rfl)) ?_;(with_reducible refine (p8.c ZJ _ _ Yv Yw Y9 YQ ZB aar _ ?YG ?YH A28.o).mono ?_);(case YG=>repeat (first | exact (Kd.pI YT.o (by repeat (first|(with_reducible first | exact HB.o | apply o8 | apply pz | apply pF | refine pW ?_ YZ.o)|exact HB.o)))|(with_reducible refine Kd.qN ?_ _)|(with_reducible refine Kd.C_drewN ?_ _)|(with_reducible refine Kd.rD ?_)));(case YH=>exact Y3.o);rintro e w41 ⟨rfl,hb⟩;refine⟨_,rfl,?_⟩;have n0_:=Yu (pG (g:=YK) (o := .cells #[.slice YB Yv.length YC,.int .i64 Yw] 149 (0,0)) (by (with_reducible repeat (first | refine qh ?_ _ | refine qg ?_ | refine pU ?_ _));exact YA.o) hb);have n1_:=Yu (o9 (by repeat (first|(with_reducible first | exact HB.o | apply o8 | apply pz | apply pF | refine pW ?_ YZ.o)|exact HB.o)) hb);clear YA;clear HB;have YA:=n0_;have HB:=n1_;clear n0_ n1_;(try clear hb);(try clear hb2);(try clear hk);(try clear hi))|((with_reducible refine qW (f:=144) rfl ?_);refine uK (some 69) rfl rfl Tryz.func144 (by kernel_rfl) rfl #[.int .i64 Z8] rfl (by (try simp only[dI,dJ,eD]);first | done | (simp only[Zh];rfl)|rfl | (simp only[bB,bG];rfl)) ?_;(with_reducible refine (p9.c ZJ Z8 Zy _ A36.o).mono ?_);rintro e w' ⟨rfl,⟨nd,rfl⟩⟩;refine⟨_,rfl,?_⟩))
            go_ret3
            exact⟨by first | rfl | (simp[qw,qx]<;>rfl)|(simp only[← aaJ,← ZE,← Zh];first | rfl | (simp[qw,qx]<;>rfl))|(simp[*,qw,qx]<;>rfl),by repeat (first|(with_reducible first | exact HB.o | apply o8 | apply pz | apply pF | refine pW ?_ YZ.o)|exact HB.o)⟩
          ·rw[aK c32] at H;exact absurd H (by simp)
         ·rw[aK c30] at H;have ahH:decide (0<YQ)=false:=aN c30;clear c30;replace H:=Option.bind_eq_some_iff.mp H;obtain⟨aak,ahL,H⟩:=H;replace H:(if aak=YU then (some (wrap64 (ZB),wrap64 (Y9+YQ),0)) else (some (0,0,5)))=some (r1,r2,r3):=H;have A42:=Yu ahL;clear ahL
          by_cases c43:aak=YU
          ·rw[ak c43] at H;have ahM:(aak==YU)=true:=beq_iff_eq.mpr c43;have ahN:(aak != YU)=false:=bne_eq_false_iff_eq.mpr c43;clear c43;simp only[cO,dB] at H;obtain⟨rfl,rfl,rfl⟩:=H
           go_wp2_with (first|((with_reducible refine qW (f:=145) rfl ?_);refine uK (some 45) rfl rfl Tryz.func145 (by kernel_rfl) rfl #[.int .i64 YU] rfl (by (try simp only[dI,dJ,eD]);first | done | rfl | (simp only[bB,bG];rfl)) ?_;(with_reducible refine (tJ.c YU YQ _ A27.o).mono ?_);rintro e w' ⟨rfl,⟨nd,rfl⟩⟩;refine⟨_,rfl,?_⟩;have aio:wc.cell? ⟨YK,0,none⟩=some (.slice YB Yv.length YC):=(pq YA.o 0).trans rfl;have aip:wc.cell? ⟨YK,1,none⟩=some (.int .i64 Yw):=(pq YA.o 1).trans rfl;have aiq:=pE YA.o 0;have air:=pE YA.o 1)|((with_reducible refine qW (f:=156) rfl ?_);refine uK (some 50) rfl rfl Tryz.func156 (by kernel_rfl) rfl #[.agg #[.slice YB Yv.length YC,.int .i64 Yw],.int .i64 Y9,.int .i64 YQ] rfl (by (try simp only[dI,dJ,eD]);first | done | rfl | (simp only[bB,bG];rfl)) ?_;(with_reducible refine (p8.c ZJ _ _ Yv Yw Y9 YQ ZB aar _ ?YG ?YH A28.o).mono ?_);(case YG=>repeat (first | exact (Kd.pI YT.o (by repeat (first|(with_reducible first | exact HB.o | apply o8 | apply pz | apply pF | refine pW ?_ YZ.o)|exact HB.o)))|(with_reducible refine Kd.qN ?_ _)|(with_reducible refine Kd.C_drewN ?_ _)|(with_reducible refine Kd.rD ?_)));(case YH=>exact Y3.o);rintro e w45 ⟨rfl,hb⟩;refine⟨_,rfl,?_⟩;have n0_:=Yu (pG (g:=YK) (o := .cells #[.slice YB Yv.length YC,.int .i64 Yw] 149 (0,0)) (by (with_reducible repeat (first | refine qh ?_ _ | refine qg ?_ | refine pU ?_ _));exact YA.o) hb);have n1_:=Yu (o9 (by repeat (first|(with_reducible first | exact HB.o | apply o8 | apply pz | apply pF | refine pW ?_ YZ.o)|exact HB.o)) hb);clear YA;clear HB;have YA:=n0_;have HB:=n1_;clear n0_ n1_;(try clear hb);(try clear hb2);(try clear hk);(try clear hi))|((with_reducible refine qW (f:=144) rfl ?_);refine uK (some 69) rfl rfl Tryz.func144 (by kernel_rfl) rfl #[.int .i64 (wrap64 (ZB))] rfl (by (try simp only[dI,dJ,eD]);first | done | rfl | (simp only[bB,bG];rfl)) ?_;(with_reducible refine (p9.c ZJ (wrap64 (ZB)) aak _ A42.o).mono ?_);rintro e w' ⟨rfl,⟨nd,rfl⟩⟩;refine⟨_,rfl,?_⟩))
           go_ret3
           exact⟨by first | rfl | (simp[qw,qx]<;>rfl)|(simp[*,qw,qx]<;>rfl),by repeat (first|(with_reducible first | exact HB.o | apply o8 | apply pz | apply pF | refine pW ?_ YZ.o)|exact HB.o)⟩
          ·rw[aK c43] at H;have ahM:(aak==YU)=false:=beq_eq_false_iff_ne.mpr c43;have ahN:(aak != YU)=true:=bne_iff_ne.mpr c43;simp only[cO,dB] at H;obtain⟨rfl,rfl,rfl⟩:=H
           go_wp2_with (first|((with_reducible refine qW (f:=145) rfl ?_);refine uK (some 45) rfl rfl Tryz.func145 (by kernel_rfl) rfl #[.int .i64 YU] rfl (by (try simp only[dI,dJ,eD]);first | done | rfl | (simp only[bB,bG];rfl)) ?_;(with_reducible refine (tJ.c YU YQ _ A27.o).mono ?_);rintro e w' ⟨rfl,⟨nd,rfl⟩⟩;refine⟨_,rfl,?_⟩;have ais:wc.cell? ⟨YK,0,none⟩=some (.slice YB Yv.length YC):=(pq YA.o 0).trans rfl;have ait:wc.cell? ⟨YK,1,none⟩=some (.int .i64 Yw):=(pq YA.o 1).trans rfl;have aiu:=pE YA.o 0;have aiv:=pE YA.o 1)|((with_reducible refine qW (f:=156) rfl ?_);refine uK (some 50) rfl rfl Tryz.func156 (by kernel_rfl) rfl #[.agg #[.slice YB Yv.length YC,.int .i64 Yw],.int .i64 Y9,.int .i64 YQ] rfl (by (try simp only[dI,dJ,eD]);first | done | rfl | (simp only[bB,bG];rfl)) ?_;(with_reducible refine (p8.c ZJ _ _ Yv Yw Y9 YQ ZB aar _ ?YG ?YH A28.o).mono ?_);(case YG=>repeat (first | exact (Kd.pI YT.o (by repeat (first|(with_reducible first | exact HB.o | apply o8 | apply pz | apply pF | refine pW ?_ YZ.o)|exact HB.o)))|(with_reducible refine Kd.qN ?_ _)|(with_reducible refine Kd.C_drewN ?_ _)|(with_reducible refine Kd.rD ?_)));(case YH=>exact Y3.o);rintro e w47 ⟨rfl,hb⟩;refine⟨_,rfl,?_⟩;have n0_:=Yu (pG (g:=YK) (o := .cells #[.slice YB Yv.length YC,.int .i64 Yw] 149 (0,0)) (by (with_reducible repeat (first | refine qh ?_ _ | refine qg ?_ | refine pU ?_ _));exact YA.o) hb);have n1_:=Yu (o9 (by repeat (first|(with_reducible first | exact HB.o | apply o8 | apply pz | apply pF | refine pW ?_ YZ.o)|exact HB.o)) hb);clear YA;clear HB;have YA:=n0_;have HB:=n1_;clear n0_ n1_;(try clear hb);(try clear hb2);(try clear hk);(try clear hi))|((with_reducible refine qW (f:=144) rfl ?_);refine uK (some 69) rfl rfl Tryz.func144 (by kernel_rfl) rfl #[.int .i64 (wrap64 (ZB))] rfl (by (try simp only[dI,dJ,eD]);first | done | rfl | (simp only[bB,bG];rfl)) ?_;(with_reducible refine (p9.c ZJ (wrap64 (ZB)) aak _ A42.o).mono ?_);rintro e w' ⟨rfl,⟨nd,rfl⟩⟩;refine⟨_,rfl,?_⟩))
           go_ret3
           exact⟨by first | rfl | (simp[qw,qx]<;>rfl)|(simp[*,qw,qx]<;>rfl),by repeat (first|(with_reducible first | exact HB.o | apply o8 | apply pz | apply pF | refine pW ?_ YZ.o)|exact HB.o)⟩
        ·rw[aK c29] at H;have ahF:(aar==0)=false:=beq_eq_false_iff_ne.mpr c29;have ahG:(aar != 0)=true:=bne_iff_ne.mpr c29;simp only[cO,dB] at H;obtain⟨rfl,rfl,rfl⟩:=H
         go_wp2_with (first|((with_reducible refine qW (f:=145) rfl ?_);refine uK (some 45) rfl rfl Tryz.func145 (by kernel_rfl) rfl #[.int .i64 YU] rfl (by (try simp only[dI,dJ,eD]);first | done | rfl | (simp only[bB,bG];rfl)) ?_;(with_reducible refine (tJ.c YU YQ _ A27.o).mono ?_);rintro e w' ⟨rfl,⟨nd,rfl⟩⟩;refine⟨_,rfl,?_⟩;have aiw:wc.cell? ⟨YK,0,none⟩=some (.slice YB Yv.length YC):=(pq YA.o 0).trans rfl;have aix:wc.cell? ⟨YK,1,none⟩=some (.int .i64 Yw):=(pq YA.o 1).trans rfl;have aiy:=pE YA.o 0;have aiz:=pE YA.o 1)|((with_reducible refine qW (f:=156) rfl ?_);refine uK (some 50) rfl rfl Tryz.func156 (by kernel_rfl) rfl #[.agg #[.slice YB Yv.length YC,.int .i64 Yw],.int .i64 Y9,.int .i64 YQ] rfl (by (try simp only[dI,dJ,eD]);first | done | rfl | (simp only[bB,bG];rfl)) ?_;(with_reducible refine (p8.c ZJ _ _ Yv Yw Y9 YQ ZB aar _ ?YG ?YH A28.o).mono ?_);(case YG=>repeat (first | exact (Kd.pI YT.o (by repeat (first|(with_reducible first | exact HB.o | apply o8 | apply pz | apply pF | refine pW ?_ YZ.o)|exact HB.o)))|(with_reducible refine Kd.qN ?_ _)|(with_reducible refine Kd.C_drewN ?_ _)|(with_reducible refine Kd.rD ?_)));(case YH=>exact Y3.o);rintro e w49 ⟨rfl,hb⟩;refine⟨_,rfl,?_⟩;have n0_:=Yu (pG (g:=YK) (o := .cells #[.slice YB Yv.length YC,.int .i64 Yw] 149 (0,0)) (by (with_reducible repeat (first | refine qh ?_ _ | refine qg ?_ | refine pU ?_ _));exact YA.o) hb);have n1_:=Yu (o9 (by repeat (first|(with_reducible first | exact HB.o | apply o8 | apply pz | apply pF | refine pW ?_ YZ.o)|exact HB.o)) hb);clear YA;clear HB;have YA:=n0_;have HB:=n1_;clear n0_ n1_;(try clear hb);(try clear hb2);(try clear hk);(try clear hi)))
         go_ret3
         exact⟨by first | rfl | (simp[qw,qx]<;>rfl)|(simp[*,qw,qx]<;>rfl),by repeat (first|(with_reducible first | exact HB.o | apply o8 | apply pz | apply pF | refine pW ?_ YZ.o)|exact HB.o)⟩
end Go.Proofs.Y.PA
