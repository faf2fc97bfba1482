/- Of the law ZHQDumpReads. -/
import Derived.Test.YtcgbgifbajdhpaaGreatDoorZH11
set_option linter.unusedVariables false
set_option linter.unusedSimpArgs false
set_option maxHeartbeats 8000000
set_option maxRecDepth 100000
namespace Go
abbrev dU:=@Go.wpQuiet_nil
end Go
namespace Go.Proofs.Y.PA
open Go.RowKit Go.Proofs.YW.oO Go.Proofs.YW.pq Go.Proofs.YW.pz
attribute [local go_sem] sV sZ uE uF sW tq uj um
mutual
def pU.j0:Nat→Int→Bool→List Int→Int→Option (Int × Int × Int)
 | 0,_,_,_,_=>none
 | k+1,x1,x26,Z7,Z8=>if x26=true then (some (0,0,1)) else (pU.l0 k x1 0 Z7 Z8)
def pU.j2:Nat→Int→Int→List Int→Int→Option (Int × Int × Int)
 | 0,_,_,_,_=>none
 | k+1,x1,x7,Z7,Z8=>(uH.f x7).bind fun Zu=>((pV.f k Z7 Z8 x1 Zu).bind fun aag=>(if aag.2=0 then (if Zu>0 then (if 0≤(wrap64 (64-Zu)) then ((qb.f k (shr .i64 (wrap64 (shl .u64 aag.1 (wrap64 (64-Zu)))) (wrap64 (64-Zu)))).bind fun aah=>(if aah=x7 then (some (shr .i64 (wrap64 (shl .u64 aag.1 (wrap64 (64-Zu)))) (wrap64 (64-Zu)),wrap64 (x1+Zu),0)) else (some (0,0,5)))) else (none)) else ((qb.f k (wrap64 (aag.1))).bind fun aa1=>(if aa1=x7 then (some (wrap64 (aag.1),wrap64 (x1+Zu),0)) else (some (0,0,5))))) else (some (0,0,aag.2))))
def pU.l0:Nat→Int→Int→List Int→Int→Option (Int × Int × Int)
 | 0,_,_,_,_=>none
 | k+1,x1,x7,Z7,Z8=>if x7<4 then ((pV.f k Z7 Z8 x1 1).bind fun agq=>(if agq.2=0 then (if agq.1=0 then (pU.j2 k (wrap64 (x1+1)) x7 Z7 Z8) else (pU.l0 k (wrap64 (x1+1)) (wrap64 (x7+1)) Z7 Z8)) else (some (0,0,agq.2)))) else (pU.j2 k x1 x7 Z7 Z8)
end
def pU.f (k:Nat)(Y9:List Int)(Za:Int)(a1:Int):Option (Int × Int × Int):=(qZ.f Y9 Za).bind fun afs=>(if afs=true then (if a1<0 then (pU.j0 k a1 true Y9 Za) else (pU.j0 k a1 (decide (a1>Za)) Y9 Za)) else (pU.j0 k a1 true Y9 Za))
theorem pU.c (k:Nat)(Zf:Option Addr)(Zg:Nat)(Y9:List Int)(Za:Int)(a1:Int)(r1:Int)(r2:Int)(r3:Int)(w:World)(Z4:Kd.C (Kd.int .u8) w Zf Y9.length Y9)(Z5:Y9.length≤Zg)(h:pU.f k Y9 Za a1=some (r1,r2,r3)) :
 Calls Tryz.prog 157 #[.agg #[.slice Zf Y9.length Zg,.int .i64 Za],.int .i64 a1] w fun e w'=>e = .returned (.tuple #[.int .i64 r1,.int .i64 r2,.int .i64 r3])∧Below w.heap.size w w':=by
 have ahK:=Tryz.underlying149;have Zv:=Y7 Z4;have ZB:=Y7 Z5;clear Z4 Z5;have HB:=Y7 (aU w.heap.size w);have H:((qZ.f Y9 Za).bind fun afs=>(if afs=true then (if a1<0 then (pU.j0 k a1 true Y9 Za) else (pU.j0 k a1 (decide (a1>Za)) Y9 Za)) else (pU.j0 k a1 true Y9 Za)))=some (r1,r2,r3):=h;clear h;have HC3:=Y7 H;clear H
 go_enter Tryz.func157,Tryz.ntmps157
 go_upto_region 1 with (first|((with_reducible refine qm (N:=2) rfl ?_);refine rF ?hg (N:=2) ?hd (cs := #[.slice Zf Y9.length Zg,.int .i64 Za]) (t:=149) ?hr ?_;(case hd=>rfl);(case hg=>rfl);(case hr=>first|(go_simp;done)|(go_simp;rfl));intro Zt hg w4 Zo hb;have n0_:=Y7 (oP (by repeat (first|(with_reducible first | exact HB.o | apply oN | apply oU | apply oV)|exact HB.o)) hb);have n1_:=Y7 (Zo);have n2_:=Y7 ((by rw[hg];exact (qh (by repeat (first|(with_reducible first | exact HB.o | apply oN | apply oU | apply oV)|exact HB.o))):w.heap.size≤Zt));have n3_:=Y7 ((by rw[hg];exact (qh (by repeat (first|(with_reducible first | exact HB.o | apply oN | apply oU | apply oV)|exact HB.o))):w.heap.size≤Zt));clear HB;have HB:=n0_;have Ze:=n1_;have an9:=n2_;have Zx:=n3_;clear n0_ n1_ n2_ n3_;clear hb Zo hg))
 (try simp only[Act.put,ah,ak,aj])
 go_cut [26] (fun v26 wc=>∃ (kq:Nat) (afj:Bool),v26 = .bool afj∧oM (pU.j0 kq a1 afj Y9 Za=some (r1,r2,r3))∧oM (kq≤k)∧oM (wc.heap[Zt]? = some (.cells #[(.slice Zf Y9.length Zg),.int .i64 Za] 149 (0,0)))∧oM (Below w.heap.size w wc))
 case first=>
  have H:=HC3.o;clear HC3;replace H:=Option.bind_eq_some_iff.mp H;obtain⟨afs,A50,H⟩:=H;replace H:(if afs=true then (if a1<0 then (pU.j0 k a1 true Y9 Za) else (pU.j0 k a1 (decide (a1>Za)) Y9 Za)) else (pU.j0 k a1 true Y9 Za))=some (r1,r2,r3):=H;have A5:=Y7 A50;clear A50
  by_cases c6:afs=true
  ·subst c6;have H1:(if a1<0 then (pU.j0 k a1 true Y9 Za) else (pU.j0 k a1 (decide (a1>Za)) Y9 Za))=some (r1,r2,r3):=by rw[au rfl] at H;exact H
   clear H;have H:=H1;clear H1
   by_cases c7:a1<0
   ·rw[au c7] at H;have ZV:decide (a1<0)=true:=aC c7;clear c7
    (first | rw[ZV] | (simp only[q8,xE];rw[ZV])|skip)
    have H':=Y7 H;clear H;have aeM:w4.cell? ⟨Zt,0,none⟩=some (.slice Zf Y9.length Zg):=(oQ Ze.o 0).trans rfl;have aeN:w4.cell? ⟨Zt,1,none⟩=some (.int .i64 Za):=(oQ Ze.o 1).trans rfl;have aeO:=oW Ze.o 0;have aeP:=oW Ze.o 1
    go_wp2_with (first|((with_reducible refine qp (f:=141) rfl ?_);refine rZ (some 15) rfl rfl Tryz.func141 (by kernel_rfl) rfl #[.agg #[.slice Zf Y9.length Zg,.int .i64 Za]] rfl (by (try simp only[bR,bS,bZ]);first | done | rfl | (simp only[aX,aW];rfl)) ?_;(with_reducible refine (qZ.c _ _ Y9 Za true _ ?Zc ?Zd A5.o).mono ?_);(case Zc=>repeat (first | exact (Kd.o9 Zv.o HB.o)|(with_reducible refine Kd.rP ?_ _)|(with_reducible refine Kd.C_drewN ?_ _)|(with_reducible refine Kd.sH ?_)));(case Zd=>exact ZB.o);rintro e w9 ⟨rfl,hb⟩;refine⟨_,rfl,?_⟩;have n0_:=Y7 (o7 (g:=Zt) (o := .cells #[.slice Zf Y9.length Zg,.int .i64 Za] 149 (0,0)) (by (with_reducible repeat (first | refine qd ?_ _ | refine pX ?_ | refine pK ?_ _));exact Ze.o) hb);have n1_:=Y7 (oP (by repeat (first|(with_reducible first | exact HB.o | apply oN | apply oU | apply oV | refine pF ?_ Zx.o)|exact HB.o)) hb);clear Ze;clear HB;have Ze:=n0_;have HB:=n1_;clear n0_ n1_;(try clear hb);(try clear hb2);(try clear hk);(try clear hi)))
    go_meet
    case rel=>exact⟨_,(true),(by first | rfl | (simp;done)|(simp[*];done)),H',⟨by first | omega | exact ay _⟩,⟨by (with_reducible repeat (first | refine qd ?_ _ | refine pX ?_ | refine pK ?_ _));exact Ze.o⟩,⟨by repeat (first|(with_reducible first | exact HB.o | apply oN | apply oU | apply oV | refine pF ?_ Zx.o)|exact HB.o)⟩⟩
   ·rw[av c7] at H;have ZV:decide (a1<0)=false:=aD c7;clear c7
    (first | rw[ZV] | (simp only[q8,xE];rw[ZV])|skip)
    have H':=Y7 H;clear H;have aaE:w4.cell? ⟨Zt,0,none⟩=some (.slice Zf Y9.length Zg):=(oQ Ze.o 0).trans rfl;have aaF:w4.cell? ⟨Zt,1,none⟩=some (.int .i64 Za):=(oQ Ze.o 1).trans rfl;have aaG:=oW Ze.o 0;have aaH:=oW Ze.o 1
    go_wp2_with (first|((with_reducible refine qp (f:=141) rfl ?_);refine rZ (some 15) rfl rfl Tryz.func141 (by kernel_rfl) rfl #[.agg #[.slice Zf Y9.length Zg,.int .i64 Za]] rfl (by (try simp only[bR,bS,bZ]);first | done | rfl | (simp only[aX,aW];rfl)) ?_;(with_reducible refine (qZ.c _ _ Y9 Za true _ ?Zc ?Zd A5.o).mono ?_);(case Zc=>repeat (first | exact (Kd.o9 Zv.o HB.o)|(with_reducible refine Kd.rP ?_ _)|(with_reducible refine Kd.C_drewN ?_ _)|(with_reducible refine Kd.sH ?_)));(case Zd=>exact ZB.o);rintro e w11 ⟨rfl,hb⟩;refine⟨_,rfl,?_⟩;have n0_:=Y7 (o7 (g:=Zt) (o := .cells #[.slice Zf Y9.length Zg,.int .i64 Za] 149 (0,0)) (by (with_reducible repeat (first | refine qd ?_ _ | refine pX ?_ | refine pK ?_ _));exact Ze.o) hb);have n1_:=Y7 (oP (by repeat (first|(with_reducible first | exact HB.o | apply oN | apply oU | apply oV | refine pF ?_ Zx.o)|exact HB.o)) hb);clear Ze;clear HB;have Ze:=n0_;have HB:=n1_;clear n0_ n1_;(try clear hb);(try clear hb2);(try clear hk);(try clear hi);have aai:w11.cell? ⟨Zt,0,none⟩=some (.slice Zf Y9.length Zg):=(oQ Ze.o 0).trans rfl;have aaj:w11.cell? ⟨Zt,1,none⟩=some (.int .i64 Za):=(oQ Ze.o 1).trans rfl;have aaJ:=oW Ze.o 0;have aak:=oW Ze.o 1))
    go_meet
    case rel=>exact⟨_,(decide (a1>Za)),(by first | rfl | (simp;done)|(simp[*];done)),H',⟨by first | omega | exact ay _⟩,⟨by (with_reducible repeat (first | refine qd ?_ _ | refine pX ?_ | refine pK ?_ _));exact Ze.o⟩,⟨by repeat (first|(with_reducible first | exact HB.o | apply oN | apply oU | apply oV | refine pF ?_ Zx.o)|exact HB.o)⟩⟩
  ·replace c6:=Bool.eq_false_iff.mpr c6;subst c6;have H1:(pU.j0 k a1 true Y9 Za)=some (r1,r2,r3):=by rw[av (show ¬ (false=true) by decide)] at H;exact H
   clear H;have H:=H1;clear H1;have H':=Y7 H;clear H;have aal:w4.cell? ⟨Zt,0,none⟩=some (.slice Zf Y9.length Zg):=(oQ Ze.o 0).trans rfl;have aam:w4.cell? ⟨Zt,1,none⟩=some (.int .i64 Za):=(oQ Ze.o 1).trans rfl;have aaI:=oW Ze.o 0;have aan:=oW Ze.o 1
   go_wp2_with (first|((with_reducible refine qp (f:=141) rfl ?_);refine rZ (some 15) rfl rfl Tryz.func141 (by kernel_rfl) rfl #[.agg #[.slice Zf Y9.length Zg,.int .i64 Za]] rfl (by (try simp only[bR,bS,bZ]);first | done | rfl | (simp only[aX,aW];rfl)) ?_;(with_reducible refine (qZ.c _ _ Y9 Za false _ ?Zc ?Zd A5.o).mono ?_);(case Zc=>repeat (first | exact (Kd.o9 Zv.o HB.o)|(with_reducible refine Kd.rP ?_ _)|(with_reducible refine Kd.C_drewN ?_ _)|(with_reducible refine Kd.sH ?_)));(case Zd=>exact ZB.o);rintro e w14 ⟨rfl,hb⟩;refine⟨_,rfl,?_⟩;have n0_:=Y7 (o7 (g:=Zt) (o := .cells #[.slice Zf Y9.length Zg,.int .i64 Za] 149 (0,0)) (by (with_reducible repeat (first | refine qd ?_ _ | refine pX ?_ | refine pK ?_ _));exact Ze.o) hb);have n1_:=Y7 (oP (by repeat (first|(with_reducible first | exact HB.o | apply oN | apply oU | apply oV | refine pF ?_ Zx.o)|exact HB.o)) hb);clear Ze;clear HB;have Ze:=n0_;have HB:=n1_;clear n0_ n1_;(try clear hb);(try clear hb2);(try clear hk);(try clear hi)))
   go_meet
   case rel=>exact⟨_,(true),(by first | rfl | (simp;done)|(simp[*];done)),H',⟨by first | omega | exact ay _⟩,⟨by (with_reducible repeat (first | refine qd ?_ _ | refine pX ?_ | refine pK ?_ _));exact Ze.o⟩,⟨by repeat (first|(with_reducible first | exact HB.o | apply oN | apply oU | apply oV | refine pF ?_ Zx.o)|exact HB.o)⟩⟩
 case rest=>
  clear HC3
  try clear c1
  try clear p2
  try clear c6
  try clear c7
  try clear ZV
  try clear c14
  try clear aaE
  try clear aaF
  try clear aai
  try clear aaj
  try clear aal
  try clear aam
  try clear aeM
  try clear aeN
  try clear aaG
  try clear aaH
  try clear aaJ
  try clear aak
  try clear aaI
  try clear aan
  try clear aeO
  try clear aeP
  obtain⟨kq,afj,rfl,HA,HJ2,Ze,HB⟩:=hcut;cases kq with
  | zero=>exact absurd HA.o (by simp[pU.j0])
  | succ kj2=>
    have H:=HA.o;clear HA;simp only[pU.j0] at H
    by_cases c15:afj=true
    ·subst c15;have H1:(some (0,0,1))=some (r1,r2,r3):=by rw[au rfl] at H;exact H
     clear H;have H:=H1;clear H1;simp only[bF,bG] at H;obtain⟨rfl,rfl,rfl⟩:=H;go_wp2
     go_ret3
     exact⟨by first | rfl | (simp[pQ,pR]<;>rfl)|(simp[*,pQ,pR]<;>rfl),by repeat (first|(with_reducible first | exact HB.o | apply oN | apply oU | apply oV | refine pF ?_ Zx.o)|exact HB.o)⟩
    ·replace c15:=Bool.eq_false_iff.mpr c15;subst c15;have H1:(pU.l0 kj2 a1 0 Y9 Za)=some (r1,r2,r3):=by rw[av (show ¬ (false=true) by decide)] at H;exact H
     clear H;have H:=H1;clear H1;have aiG:=Y7 H;clear H
     go_upto_block 0 with (fail)
     go_cut [1,7] (fun v1 v7 wc=>∃ (kq:Nat) (ZK:Int) (Zw:Int),v1 = .int .i64 ZK∧v7 = .int .i64 Zw∧oM (pU.j2 kq ZK Zw Y9 Za=some (r1,r2,r3))∧oM (kq≤kj2)∧oM (wc.heap[Zt]? = some (.cells #[(.slice Zf Y9.length Zg),.int .i64 Za] 149 (0,0)))∧oM (Below w.heap.size w wc))
     case first=>
      have H:=aiG.o;clear aiG;have H':=Y7 H;clear H;go_wp2
      go_loopg [1,7] kj2 (fun kq v1 v7 w'=>∃ (Zz:Int) (aaK:Int),v1 = .int .i64 Zz∧v7 = .int .i64 aaK∧oM (pU.l0 kq Zz aaK Y9 Za=some (r1,r2,r3))∧oM (kq≤kj2)∧oM (w'.heap[Zt]? = some (.cells #[(.slice Zf Y9.length Zg),.int .i64 Za] 149 (0,0)))∧oM (Below w.heap.size w w'))
      case atStart=>exact⟨(a1),(0),(by first | rfl | (simp;done)|(simp[*];done)),(by first | rfl | (simp;done)|(simp[*];done)),H',⟨ay _⟩,⟨by (with_reducible repeat (first | refine qd ?_ _ | refine pX ?_ | refine pK ?_ _));exact Ze.o⟩,⟨by repeat (first|(with_reducible first | exact HB.o | apply oN | apply oU | apply oV | refine pF ?_ Zx.o)|exact HB.o)⟩⟩
      case round=>
       clear H'
       try clear c1
       try clear p2
       try clear c6
       try clear c7
       try clear ZV
       try clear c14
       try clear c15
       try clear aaE
       try clear aaF
       try clear aai
       try clear aaj
       try clear aal
       try clear aam
       try clear aeM
       try clear aeN
       try clear aaG
       try clear aaH
       try clear aaJ
       try clear aak
       try clear aaI
       try clear aan
       try clear aeO
       try clear aeP
       try clear p2
       obtain⟨Zz,aaK,rfl,rfl,HA,HK2,Ze,HB⟩:=hrel;cases gk with
       | zero=>exact absurd HA.o (by simp[pU.l0])
       | succ k2=>
         have H:=HA.o;clear HA;simp only[pU.l0] at H
         by_cases c17:aaK<4
         ·rw[au c17] at H;have abd:decide (aaK<4)=true:=aC c17;clear c17
          (first | rw[abd] | (simp only[q8,xE];rw[abd])|skip)
          replace H:=Option.bind_eq_some_iff.mp H;obtain⟨⟨adT,adz⟩,ajC,H⟩:=H;replace H:(if adz=0 then (if adT=0 then (pU.j2 k2 (wrap64 (Zz+1)) aaK Y9 Za) else (pU.l0 k2 (wrap64 (Zz+1)) (wrap64 (aaK+1)) Y9 Za)) else (some (0,0,adz)))=some (r1,r2,r3):=H;have A18:=Y7 ajC;clear ajC
          by_cases c19:adz=0
          ·rw[au c19] at H;have ae1:(adz==0)=true:=beq_iff_eq.mpr c19;have ae2:(adz != 0)=false:=bne_eq_false_iff_eq.mpr c19;clear c19
           by_cases c20:adT=0
           ·rw[au c20] at H;have ae3:(adT==0)=true:=beq_iff_eq.mpr c20;have ae4:(adT != 0)=false:=bne_eq_false_iff_eq.mpr c20;clear c20;have H':=Y7 H;clear H;have abn:wr.cell? ⟨Zt,0,none⟩=some (.slice Zf Y9.length Zg):=(oQ Ze.o 0).trans rfl;have abo:wr.cell? ⟨Zt,1,none⟩=some (.int .i64 Za):=(oQ Ze.o 1).trans rfl;have abp:=oW Ze.o 0;have abq:=oW Ze.o 1
            go_wp2_with (first|((with_reducible refine qp (f:=156) rfl ?_);refine rZ (some 32) rfl rfl Tryz.func156 (by kernel_rfl) rfl #[.agg #[.slice Zf Y9.length Zg,.int .i64 Za],.int .i64 Zz,.int .i64 1] rfl (by (try simp only[bR,bS,bZ]);first | done | rfl | (simp only[aX,aW];rfl)) ?_;(with_reducible refine (pV.c k2 _ _ Y9 Za Zz 1 adT adz _ ?Zc ?Zd A18.o).mono ?_);(case Zc=>repeat (first | exact (Kd.o9 Zv.o HB.o)|(with_reducible refine Kd.rP ?_ _)|(with_reducible refine Kd.C_drewN ?_ _)|(with_reducible refine Kd.sH ?_)));(case Zd=>exact ZB.o);rintro e w22 ⟨rfl,hb⟩;refine⟨_,rfl,?_⟩;have n0_:=Y7 (o7 (g:=Zt) (o := .cells #[.slice Zf Y9.length Zg,.int .i64 Za] 149 (0,0)) (by (with_reducible repeat (first | refine qd ?_ _ | refine pX ?_ | refine pK ?_ _));exact Ze.o) hb);have n1_:=Y7 (oP (by repeat (first|(with_reducible first | exact HB.o | apply oN | apply oU | apply oV | refine pF ?_ Zx.o)|exact HB.o)) hb);clear Ze;clear HB;have Ze:=n0_;have HB:=n1_;clear n0_ n1_;(try clear hb);(try clear hb2);(try clear hk);(try clear hi)))
            go_meet
            case rel=>exact⟨_,(wrap64 (Zz+1)),(aaK),(by first | rfl | (simp;done)|(simp[*];done)),(by first | rfl | (simp;done)|(simp[*];done)),H',⟨by have:=HJ2.o;have:=HK2.o;first | omega | exact ay _⟩,⟨by (with_reducible repeat (first | refine qd ?_ _ | refine pX ?_ | refine pK ?_ _));exact Ze.o⟩,⟨by repeat (first|(with_reducible first | exact HB.o | apply oN | apply oU | apply oV | refine pF ?_ Zx.o)|exact HB.o)⟩⟩
           ·rw[av c20] at H;have ae3:(adT==0)=false:=beq_eq_false_iff_ne.mpr c20;have ae4:(adT != 0)=true:=bne_iff_ne.mpr c20;have H':=Y7 H;clear H;have ahn:wr.cell? ⟨Zt,0,none⟩=some (.slice Zf Y9.length Zg):=(oQ Ze.o 0).trans rfl;have aho:wr.cell? ⟨Zt,1,none⟩=some (.int .i64 Za):=(oQ Ze.o 1).trans rfl;have ahp:=oW Ze.o 0;have ahq:=oW Ze.o 1
            go_wp2_with (first|((with_reducible refine qp (f:=156) rfl ?_);refine rZ (some 32) rfl rfl Tryz.func156 (by kernel_rfl) rfl #[.agg #[.slice Zf Y9.length Zg,.int .i64 Za],.int .i64 Zz,.int .i64 1] rfl (by (try simp only[bR,bS,bZ]);first | done | rfl | (simp only[aX,aW];rfl)) ?_;(with_reducible refine (pV.c k2 _ _ Y9 Za Zz 1 adT adz _ ?Zc ?Zd A18.o).mono ?_);(case Zc=>repeat (first | exact (Kd.o9 Zv.o HB.o)|(with_reducible refine Kd.rP ?_ _)|(with_reducible refine Kd.C_drewN ?_ _)|(with_reducible refine Kd.sH ?_)));(case Zd=>exact ZB.o);rintro e w24 ⟨rfl,hb⟩;refine⟨_,rfl,?_⟩;have n0_:=Y7 (o7 (g:=Zt) (o := .cells #[.slice Zf Y9.length Zg,.int .i64 Za] 149 (0,0)) (by (with_reducible repeat (first | refine qd ?_ _ | refine pX ?_ | refine pK ?_ _));exact Ze.o) hb);have n1_:=Y7 (oP (by repeat (first|(with_reducible first | exact HB.o | apply oN | apply oU | apply oV | refine pF ?_ Zx.o)|exact HB.o)) hb);clear Ze;clear HB;have Ze:=n0_;have HB:=n1_;clear n0_ n1_;(try clear hb);(try clear hb2);(try clear hk);(try clear hi)))
            go_roundg k2
            case measure=>have:=HJ2.o;have:=HK2.o;omega
            case rel=>exact⟨(wrap64 (Zz+1)),(wrap64 (aaK+1)),(by first | rfl | (simp;done)|(simp[*];done)),(by first | rfl | (simp;done)|(simp[*];done)),H',⟨by have:=HJ2.o;have:=HK2.o;omega⟩,⟨by (with_reducible repeat (first | refine qd ?_ _ | refine pX ?_ | refine pK ?_ _));exact Ze.o⟩,⟨by repeat (first|(with_reducible first | exact HB.o | apply oN | apply oU | apply oV | refine pF ?_ Zx.o)|exact HB.o)⟩⟩
          ·rw[av c19] at H;have ae1:(adz==0)=false:=beq_eq_false_iff_ne.mpr c19;have ae2:(adz != 0)=true:=bne_iff_ne.mpr c19;simp only[bF,bG] at H;obtain⟨rfl,rfl,rfl⟩:=H;have adM:wr.cell? ⟨Zt,0,none⟩=some (.slice Zf Y9.length Zg):=(oQ Ze.o 0).trans rfl;have adN:wr.cell? ⟨Zt,1,none⟩=some (.int .i64 Za):=(oQ Ze.o 1).trans rfl;have adO:=oW Ze.o 0;have adP:=oW Ze.o 1
           go_wp2_with (first|((with_reducible refine qp (f:=156) rfl ?_);refine rZ (some 32) rfl rfl Tryz.func156 (by kernel_rfl) rfl #[.agg #[.slice Zf Y9.length Zg,.int .i64 Za],.int .i64 Zz,.int .i64 1] rfl (by (try simp only[bR,bS,bZ]);first | done | rfl | (simp only[aX,aW];rfl)) ?_;(with_reducible refine (pV.c k2 _ _ Y9 Za Zz 1 adT adz _ ?Zc ?Zd A18.o).mono ?_);(case Zc=>repeat (first | exact (Kd.o9 Zv.o HB.o)|(with_reducible refine Kd.rP ?_ _)|(with_reducible refine Kd.C_drewN ?_ _)|(with_reducible refine Kd.sH ?_)));(case Zd=>exact ZB.o);rintro e w26 ⟨rfl,hb⟩;refine⟨_,rfl,?_⟩;have n0_:=Y7 (o7 (g:=Zt) (o := .cells #[.slice Zf Y9.length Zg,.int .i64 Za] 149 (0,0)) (by (with_reducible repeat (first | refine qd ?_ _ | refine pX ?_ | refine pK ?_ _));exact Ze.o) hb);have n1_:=Y7 (oP (by repeat (first|(with_reducible first | exact HB.o | apply oN | apply oU | apply oV | refine pF ?_ Zx.o)|exact HB.o)) hb);clear Ze;clear HB;have Ze:=n0_;have HB:=n1_;clear n0_ n1_;(try clear hb);(try clear hb2);(try clear hk);(try clear hi)))
           go_ret3
           exact⟨by first | rfl | (simp[pQ,pR]<;>rfl)|(simp[*,pQ,pR]<;>rfl),by repeat (first|(with_reducible first | exact HB.o | apply oN | apply oU | apply oV | refine pF ?_ Zx.o)|exact HB.o)⟩
         ·rw[av c17] at H;have abd:decide (aaK<4)=false:=aD c17;clear c17
          (first | rw[abd] | (simp only[q8,xE];rw[abd])|skip)
          have H':=Y7 H;clear H;go_wp2
          go_meet
          case rel=>exact⟨_,(Zz),(aaK),(by first | rfl | (simp;done)|(simp[*];done)),(by first | rfl | (simp;done)|(simp[*];done)),H',⟨by have:=HJ2.o;have:=HK2.o;first | omega | exact ay _⟩,⟨by (with_reducible repeat (first | refine qd ?_ _ | refine pX ?_ | refine pK ?_ _));exact Ze.o⟩,⟨by repeat (first|(with_reducible first | exact HB.o | apply oN | apply oU | apply oV | refine pF ?_ Zx.o)|exact HB.o)⟩⟩
     case rest=>
      clear aiG
      try clear c1
      try clear c2
      try clear p2
      try clear c6
      try clear p6
      try clear c7
      try clear ZV
      try clear c14
      try clear c15
      try clear c17
      try clear abd
      try clear c19
      try clear ae1
      try clear ae2
      try clear c20
      try clear ae3
      try clear ae4
      try clear aaE
      try clear aaF
      try clear aai
      try clear aaj
      try clear aal
      try clear aam
      try clear abn
      try clear abo
      try clear ahn
      try clear aho
      try clear adM
      try clear adN
      try clear aeM
      try clear aeN
      try clear aaG
      try clear aaH
      try clear aaJ
      try clear aak
      try clear aaI
      try clear aan
      try clear abp
      try clear abq
      try clear ahp
      try clear ahq
      try clear adO
      try clear adP
      try clear aeO
      try clear aeP
      try clear p2
      obtain⟨kq,ZK,Zw,rfl,rfl,HA,aoF,Ze,HB⟩:=hcut;cases kq with
      | zero=>exact absurd HA.o (by simp[pU.j2])
      | succ aaC=>
        have H:=HA.o;clear HA;simp only[pU.j2] at H;replace H:=Option.bind_eq_some_iff.mp H;obtain⟨Zu,ajD,H⟩:=H;replace H:((pV.f aaC Y9 Za ZK Zu).bind fun aag=>(if aag.2=0 then (if Zu>0 then (if 0≤(wrap64 (64-Zu)) then ((qb.f aaC (shr .i64 (wrap64 (shl .u64 aag.1 (wrap64 (64-Zu)))) (wrap64 (64-Zu)))).bind fun aah=>(if aah=Zw then (some (shr .i64 (wrap64 (shl .u64 aag.1 (wrap64 (64-Zu)))) (wrap64 (64-Zu)),wrap64 (ZK+Zu),0)) else (some (0,0,5)))) else (none)) else ((qb.f aaC (wrap64 (aag.1))).bind fun aa1=>(if aa1=Zw then (some (wrap64 (aag.1),wrap64 (ZK+Zu),0)) else (some (0,0,5))))) else (some (0,0,aag.2))))=some (r1,r2,r3):=H;have A27:=Y7 ajD;clear ajD;replace H:=Option.bind_eq_some_iff.mp H;obtain⟨⟨aaq,abk⟩,ajE,H⟩:=H;replace H:(if abk=0 then (if Zu>0 then (if 0≤(wrap64 (64-Zu)) then ((qb.f aaC (shr .i64 (wrap64 (shl .u64 aaq (wrap64 (64-Zu)))) (wrap64 (64-Zu)))).bind fun aah=>(if aah=Zw then (some (shr .i64 (wrap64 (shl .u64 aaq (wrap64 (64-Zu)))) (wrap64 (64-Zu)),wrap64 (ZK+Zu),0)) else (some (0,0,5)))) else (none)) else ((qb.f aaC (wrap64 (aaq))).bind fun aa1=>(if aa1=Zw then (some (wrap64 (aaq),wrap64 (ZK+Zu),0)) else (some (0,0,5))))) else (some (0,0,abk)))=some (r1,r2,r3):=H;have A28:=Y7 ajE;clear ajE
        by_cases c29:abk=0
        ·rw[au c29] at H;have ajF:(abk==0)=true:=beq_iff_eq.mpr c29;have ajG:(abk != 0)=false:=bne_eq_false_iff_eq.mpr c29;clear c29
         by_cases c30:Zu>0
         ·rw[au c30] at H;have ajH:decide (0<Zu)=true:=aC c30;clear c30;obtain⟨aar,ads⟩:∃ j_:Int,(wrap64 (64-Zu))=j_:=⟨_,rfl⟩;replace H:(if 0≤(aar) then ((qb.f aaC (shr .i64 (wrap64 (shl .u64 aaq (aar))) (aar))).bind fun aah=>(if aah=Zw then (some (shr .i64 (wrap64 (shl .u64 aaq (aar))) (aar),wrap64 (ZK+Zu),0)) else (some (0,0,5)))) else (none))=some (r1,r2,r3):=by first|(rw[ads] at H;exact H)|(simp only[ads] at H ⊢;exact H)
          (try rw[ads] at A27)
          (try rw[ads] at A28)
          have al8:(IntKind.i64.wrap (64-Zu))=aar:=(q8 _).trans ads
          by_cases c32:0≤(aar)
          ·rw[au c32] at H;have ajv:=bL c32;have aoa:decide (0≤(aar))=true:=aC c32;clear c32;obtain⟨aaz,aat⟩:∃ j_:Int,(shl .u64 aaq (aar))=j_:=⟨_,rfl⟩;replace H:((qb.f aaC (shr .i64 (wrap64 (aaz)) (aar))).bind fun aah=>(if aah=Zw then (some (shr .i64 (wrap64 (aaz)) (aar),wrap64 (ZK+Zu),0)) else (some (0,0,5))))=some (r1,r2,r3):=by first|(rw[aat] at H;exact H)|(simp only[aat] at H ⊢;exact H)
           (try rw[aat] at A27)
           (try rw[aat] at A28)
           have al9:(IntKind.u64.wrap (aaq*2 ^ min (aar).toNat 64))=aaz:=aat;have ama:(aar)≤64→(IntKind.u64.wrap (aaq*2 ^ (aar).toNat))=aaz:=uW aat;have ajw:=bL (aN (by assumption):0≤(aar));obtain⟨aaR,ZU⟩:∃ j_:Int,(shr .i64 (wrap64 (aaz)) (aar))=j_:=⟨_,rfl⟩;replace H:((qb.f aaC (aaR)).bind fun aah=>(if aah=Zw then (some (aaR,wrap64 (ZK+Zu),0)) else (some (0,0,5))))=some (r1,r2,r3):=by first|(rw[ZU] at H;exact H)|(simp only[ZU] at H ⊢;exact H)
           (try rw[ZU] at A27)
           (try rw[ZU] at A28)
           have ais:((wrap64 (aaz)) / 2 ^ min (aar).toNat 64)=aaR:=ZU;have ait:(aar)≤64→((wrap64 (aaz)) / 2 ^ (aar).toNat)=aaR:=Cz ZU;replace H:=Option.bind_eq_some_iff.mp H;obtain⟨aah,ajI,H⟩:=H;replace H:(if aah=Zw then (some (aaR,wrap64 (ZK+Zu),0)) else (some (0,0,5)))=some (r1,r2,r3):=H;have A36:=Y7 ajI;clear ajI
           by_cases c37:aah=Zw
           ·rw[au c37] at H;have ahR:(aah==Zw)=true:=beq_iff_eq.mpr c37;have ajJ:(aah != Zw)=false:=bne_eq_false_iff_eq.mpr c37;clear c37;simp only[bF,bG] at H;obtain⟨rfl,rfl,rfl⟩:=H
            go_wp2_with (first|((with_reducible refine qp (f:=145) rfl ?_);refine rZ (some 45) rfl rfl Tryz.func145 (by kernel_rfl) rfl #[.int .i64 Zw] rfl (by (try simp only[bR,bS,bZ]);first | done | rfl | (simp only[aX,aW];rfl)) ?_;(with_reducible refine (uH.c Zw Zu _ A27.o).mono ?_);rintro e w' ⟨rfl,⟨nd,rfl⟩⟩;refine⟨_,rfl,?_⟩;have ahh:wc.cell? ⟨Zt,0,none⟩=some (.slice Zf Y9.length Zg):=(oQ Ze.o 0).trans rfl;have ahi:wc.cell? ⟨Zt,1,none⟩=some (.int .i64 Za):=(oQ Ze.o 1).trans rfl;have ahj:=oW Ze.o 0;have ahk:=oW Ze.o 1)|((with_reducible refine qp (f:=156) rfl ?_);refine rZ (some 50) rfl rfl Tryz.func156 (by kernel_rfl) rfl #[.agg #[.slice Zf Y9.length Zg,.int .i64 Za],.int .i64 ZK,.int .i64 Zu] rfl (by (try simp only[bR,bS,bZ]);first | done | rfl | (simp only[aX,aW];rfl)) ?_;(with_reducible refine (pV.c aaC _ _ Y9 Za ZK Zu aaq abk _ ?Zc ?Zd A28.o).mono ?_);(case Zc=>repeat (first | exact (Kd.o9 Zv.o (by repeat (first|(with_reducible first | exact HB.o | apply oN | apply oU | apply oV | refine pF ?_ Zx.o)|exact HB.o)))|(with_reducible refine Kd.rP ?_ _)|(with_reducible refine Kd.C_drewN ?_ _)|(with_reducible refine Kd.sH ?_)));(case Zd=>exact ZB.o);rintro e w39 ⟨rfl,hb⟩;refine⟨_,rfl,?_⟩;have n0_:=Y7 (o7 (g:=Zt) (o := .cells #[.slice Zf Y9.length Zg,.int .i64 Za] 149 (0,0)) (by (with_reducible repeat (first | refine qd ?_ _ | refine pX ?_ | refine pK ?_ _));exact Ze.o) hb);have n1_:=Y7 (oP (by repeat (first|(with_reducible first | exact HB.o | apply oN | apply oU | apply oV | refine pF ?_ Zx.o)|exact HB.o)) hb);clear Ze;clear HB;have Ze:=n0_;have HB:=n1_;clear n0_ n1_;(try clear hb);(try clear hb2);(try clear hk);(try clear hi))|((with_reducible refine qp (f:=144) rfl ?_);refine rZ (some 69) rfl rfl Tryz.func144 (by kernel_rfl) rfl #[.int .i64 aaR] rfl (by (try simp only[bR,bS,bZ]);first | done | (simp only[ZU];rfl)|rfl | (simp only[aX,aW];rfl)) ?_;(with_reducible refine (qb.c aaC aaR aah _ A36.o).mono ?_);rintro e w' ⟨rfl,⟨nd,rfl⟩⟩;refine⟨_,rfl,?_⟩))
            go_ret3
            exact⟨by first | rfl | (simp[pQ,pR]<;>rfl)|(simp only[← ads,← aat,← ZU];first | rfl | (simp[pQ,pR]<;>rfl))|(simp[*,pQ,pR]<;>rfl),by repeat (first|(with_reducible first | exact HB.o | apply oN | apply oU | apply oV | refine pF ?_ Zx.o)|exact HB.o)⟩
           ·rw[av c37] at H;have ahR:(aah==Zw)=false:=beq_eq_false_iff_ne.mpr c37;have ajJ:(aah != Zw)=true:=bne_iff_ne.mpr c37;simp only[bF,bG] at H;obtain⟨rfl,rfl,rfl⟩:=H
            go_wp2_with (first|((with_reducible refine qp (f:=145) rfl ?_);refine rZ (some 45) rfl rfl Tryz.func145 (by kernel_rfl) rfl #[.int .i64 Zw] rfl (by (try simp only[bR,bS,bZ]);first | done | rfl | (simp only[aX,aW];rfl)) ?_;(with_reducible refine (uH.c Zw Zu _ A27.o).mono ?_);rintro e w' ⟨rfl,⟨nd,rfl⟩⟩;refine⟨_,rfl,?_⟩;have akT:wc.cell? ⟨Zt,0,none⟩=some (.slice Zf Y9.length Zg):=(oQ Ze.o 0).trans rfl;have akU:wc.cell? ⟨Zt,1,none⟩=some (.int .i64 Za):=(oQ Ze.o 1).trans rfl;have akV:=oW Ze.o 0;have akW:=oW Ze.o 1)|((with_reducible refine qp (f:=156) rfl ?_);refine rZ (some 50) rfl rfl Tryz.func156 (by kernel_rfl) rfl #[.agg #[.slice Zf Y9.length Zg,.int .i64 Za],.int .i64 ZK,.int .i64 Zu] rfl (by (try simp only[bR,bS,bZ]);first | done | rfl | (simp only[aX,aW];rfl)) ?_;(with_reducible refine (pV.c aaC _ _ Y9 Za ZK Zu aaq abk _ ?Zc ?Zd A28.o).mono ?_);(case Zc=>repeat (first | exact (Kd.o9 Zv.o (by repeat (first|(with_reducible first | exact HB.o | apply oN | apply oU | apply oV | refine pF ?_ Zx.o)|exact HB.o)))|(with_reducible refine Kd.rP ?_ _)|(with_reducible refine Kd.C_drewN ?_ _)|(with_reducible refine Kd.sH ?_)));(case Zd=>exact ZB.o);rintro e w41 ⟨rfl,hb⟩;refine⟨_,rfl,?_⟩;have n0_:=Y7 (o7 (g:=Zt) (o := .cells #[.slice Zf Y9.length Zg,.int .i64 Za] 149 (0,0)) (by (with_reducible repeat (first | refine qd ?_ _ | refine pX ?_ | refine pK ?_ _));exact Ze.o) hb);have n1_:=Y7 (oP (by repeat (first|(with_reducible first | exact HB.o | apply oN | apply oU | apply oV | refine pF ?_ Zx.o)|exact HB.o)) hb);clear Ze;clear HB;have Ze:=n0_;have HB:=n1_;clear n0_ n1_;(try clear hb);(try clear hb2);(try clear hk);(try clear hi))|((with_reducible refine qp (f:=144) rfl ?_);refine rZ (some 69) rfl rfl Tryz.func144 (by kernel_rfl) rfl #[.int .i64 aaR] rfl (by (try simp only[bR,bS,bZ]);first | done | (simp only[ZU];rfl)|rfl | (simp only[aX,aW];rfl)) ?_;(with_reducible refine (qb.c aaC aaR aah _ A36.o).mono ?_);rintro e w' ⟨rfl,⟨nd,rfl⟩⟩;refine⟨_,rfl,?_⟩))
            go_ret3
            exact⟨by first | rfl | (simp[pQ,pR]<;>rfl)|(simp only[← ads,← aat,← ZU];first | rfl | (simp[pQ,pR]<;>rfl))|(simp[*,pQ,pR]<;>rfl),by repeat (first|(with_reducible first | exact HB.o | apply oN | apply oU | apply oV | refine pF ?_ Zx.o)|exact HB.o)⟩
          ·rw[av c32] at H;exact absurd H (by simp)
         ·rw[av c30] at H;have ajH:decide (0<Zu)=false:=aD c30;clear c30;replace H:=Option.bind_eq_some_iff.mp H;obtain⟨aa1,ajK,H⟩:=H;replace H:(if aa1=Zw then (some (wrap64 (aaq),wrap64 (ZK+Zu),0)) else (some (0,0,5)))=some (r1,r2,r3):=H;have A42:=Y7 ajK;clear ajK
          by_cases c43:aa1=Zw
          ·rw[au c43] at H;have ahS:(aa1==Zw)=true:=beq_iff_eq.mpr c43;have ahT:(aa1 != Zw)=false:=bne_eq_false_iff_eq.mpr c43;clear c43;simp only[bF,bG] at H;obtain⟨rfl,rfl,rfl⟩:=H
           go_wp2_with (first|((with_reducible refine qp (f:=145) rfl ?_);refine rZ (some 45) rfl rfl Tryz.func145 (by kernel_rfl) rfl #[.int .i64 Zw] rfl (by (try simp only[bR,bS,bZ]);first | done | rfl | (simp only[aX,aW];rfl)) ?_;(with_reducible refine (uH.c Zw Zu _ A27.o).mono ?_);rintro e w' ⟨rfl,⟨nd,rfl⟩⟩;refine⟨_,rfl,?_⟩;have akX:wc.cell? ⟨Zt,0,none⟩=some (.slice Zf Y9.length Zg):=(oQ Ze.o 0).trans rfl;have akY:wc.cell? ⟨Zt,1,none⟩=some (.int .i64 Za):=(oQ Ze.o 1).trans rfl;have akZ:=oW Ze.o 0;have ak0:=oW Ze.o 1)|((with_reducible refine qp (f:=156) rfl ?_);refine rZ (some 50) rfl rfl Tryz.func156 (by kernel_rfl) rfl #[.agg #[.slice Zf Y9.length Zg,.int .i64 Za],.int .i64 ZK,.int .i64 Zu] rfl (by (try simp only[bR,bS,bZ]);first | done | rfl | (simp only[aX,aW];rfl)) ?_;(with_reducible refine (pV.c aaC _ _ Y9 Za ZK Zu aaq abk _ ?Zc ?Zd A28.o).mono ?_);(case Zc=>repeat (first | exact (Kd.o9 Zv.o (by repeat (first|(with_reducible first | exact HB.o | apply oN | apply oU | apply oV | refine pF ?_ Zx.o)|exact HB.o)))|(with_reducible refine Kd.rP ?_ _)|(with_reducible refine Kd.C_drewN ?_ _)|(with_reducible refine Kd.sH ?_)));(case Zd=>exact ZB.o);rintro e w45 ⟨rfl,hb⟩;refine⟨_,rfl,?_⟩;have n0_:=Y7 (o7 (g:=Zt) (o := .cells #[.slice Zf Y9.length Zg,.int .i64 Za] 149 (0,0)) (by (with_reducible repeat (first | refine qd ?_ _ | refine pX ?_ | refine pK ?_ _));exact Ze.o) hb);have n1_:=Y7 (oP (by repeat (first|(with_reducible first | exact HB.o | apply oN | apply oU | apply oV | refine pF ?_ Zx.o)|exact HB.o)) hb);clear Ze;clear HB;have Ze:=n0_;have HB:=n1_;clear n0_ n1_;(try clear hb);(try clear hb2);(try clear hk);(try clear hi))|((with_reducible refine qp (f:=144) rfl ?_);refine rZ (some 69) rfl rfl Tryz.func144 (by kernel_rfl) rfl #[.int .i64 (wrap64 (aaq))] rfl (by (try simp only[bR,bS,bZ]);first | done | rfl | (simp only[aX,aW];rfl)) ?_;(with_reducible refine (qb.c aaC (wrap64 (aaq)) aa1 _ A42.o).mono ?_);rintro e w' ⟨rfl,⟨nd,rfl⟩⟩;refine⟨_,rfl,?_⟩))
           go_ret3
           exact⟨by first | rfl | (simp[pQ,pR]<;>rfl)|(simp[*,pQ,pR]<;>rfl),by repeat (first|(with_reducible first | exact HB.o | apply oN | apply oU | apply oV | refine pF ?_ Zx.o)|exact HB.o)⟩
          ·rw[av c43] at H;have ahS:(aa1==Zw)=false:=beq_eq_false_iff_ne.mpr c43;have ahT:(aa1 != Zw)=true:=bne_iff_ne.mpr c43;simp only[bF,bG] at H;obtain⟨rfl,rfl,rfl⟩:=H
           go_wp2_with (first|((with_reducible refine qp (f:=145) rfl ?_);refine rZ (some 45) rfl rfl Tryz.func145 (by kernel_rfl) rfl #[.int .i64 Zw] rfl (by (try simp only[bR,bS,bZ]);first | done | rfl | (simp only[aX,aW];rfl)) ?_;(with_reducible refine (uH.c Zw Zu _ A27.o).mono ?_);rintro e w' ⟨rfl,⟨nd,rfl⟩⟩;refine⟨_,rfl,?_⟩;have ak1:wc.cell? ⟨Zt,0,none⟩=some (.slice Zf Y9.length Zg):=(oQ Ze.o 0).trans rfl;have ak2:wc.cell? ⟨Zt,1,none⟩=some (.int .i64 Za):=(oQ Ze.o 1).trans rfl;have ak3:=oW Ze.o 0;have ak4:=oW Ze.o 1)|((with_reducible refine qp (f:=156) rfl ?_);refine rZ (some 50) rfl rfl Tryz.func156 (by kernel_rfl) rfl #[.agg #[.slice Zf Y9.length Zg,.int .i64 Za],.int .i64 ZK,.int .i64 Zu] rfl (by (try simp only[bR,bS,bZ]);first | done | rfl | (simp only[aX,aW];rfl)) ?_;(with_reducible refine (pV.c aaC _ _ Y9 Za ZK Zu aaq abk _ ?Zc ?Zd A28.o).mono ?_);(case Zc=>repeat (first | exact (Kd.o9 Zv.o (by repeat (first|(with_reducible first | exact HB.o | apply oN | apply oU | apply oV | refine pF ?_ Zx.o)|exact HB.o)))|(with_reducible refine Kd.rP ?_ _)|(with_reducible refine Kd.C_drewN ?_ _)|(with_reducible refine Kd.sH ?_)));(case Zd=>exact ZB.o);rintro e w47 ⟨rfl,hb⟩;refine⟨_,rfl,?_⟩;have n0_:=Y7 (o7 (g:=Zt) (o := .cells #[.slice Zf Y9.length Zg,.int .i64 Za] 149 (0,0)) (by (with_reducible repeat (first | refine qd ?_ _ | refine pX ?_ | refine pK ?_ _));exact Ze.o) hb);have n1_:=Y7 (oP (by repeat (first|(with_reducible first | exact HB.o | apply oN | apply oU | apply oV | refine pF ?_ Zx.o)|exact HB.o)) hb);clear Ze;clear HB;have Ze:=n0_;have HB:=n1_;clear n0_ n1_;(try clear hb);(try clear hb2);(try clear hk);(try clear hi))|((with_reducible refine qp (f:=144) rfl ?_);refine rZ (some 69) rfl rfl Tryz.func144 (by kernel_rfl) rfl #[.int .i64 (wrap64 (aaq))] rfl (by (try simp only[bR,bS,bZ]);first | done | rfl | (simp only[aX,aW];rfl)) ?_;(with_reducible refine (qb.c aaC (wrap64 (aaq)) aa1 _ A42.o).mono ?_);rintro e w' ⟨rfl,⟨nd,rfl⟩⟩;refine⟨_,rfl,?_⟩))
           go_ret3
           exact⟨by first | rfl | (simp[pQ,pR]<;>rfl)|(simp[*,pQ,pR]<;>rfl),by repeat (first|(with_reducible first | exact HB.o | apply oN | apply oU | apply oV | refine pF ?_ Zx.o)|exact HB.o)⟩
        ·rw[av c29] at H;have ajF:(abk==0)=false:=beq_eq_false_iff_ne.mpr c29;have ajG:(abk != 0)=true:=bne_iff_ne.mpr c29;simp only[bF,bG] at H;obtain⟨rfl,rfl,rfl⟩:=H
         go_wp2_with (first|((with_reducible refine qp (f:=145) rfl ?_);refine rZ (some 45) rfl rfl Tryz.func145 (by kernel_rfl) rfl #[.int .i64 Zw] rfl (by (try simp only[bR,bS,bZ]);first | done | rfl | (simp only[aX,aW];rfl)) ?_;(with_reducible refine (uH.c Zw Zu _ A27.o).mono ?_);rintro e w' ⟨rfl,⟨nd,rfl⟩⟩;refine⟨_,rfl,?_⟩;have ak5:wc.cell? ⟨Zt,0,none⟩=some (.slice Zf Y9.length Zg):=(oQ Ze.o 0).trans rfl;have ak6:wc.cell? ⟨Zt,1,none⟩=some (.int .i64 Za):=(oQ Ze.o 1).trans rfl;have ak7:=oW Ze.o 0;have ak8:=oW Ze.o 1)|((with_reducible refine qp (f:=156) rfl ?_);refine rZ (some 50) rfl rfl Tryz.func156 (by kernel_rfl) rfl #[.agg #[.slice Zf Y9.length Zg,.int .i64 Za],.int .i64 ZK,.int .i64 Zu] rfl (by (try simp only[bR,bS,bZ]);first | done | rfl | (simp only[aX,aW];rfl)) ?_;(with_reducible refine (pV.c aaC _ _ Y9 Za ZK Zu aaq abk _ ?Zc ?Zd A28.o).mono ?_);(case Zc=>repeat (first | exact (Kd.o9 Zv.o (by repeat (first|(with_reducible first | exact HB.o | apply oN | apply oU | apply oV | refine pF ?_ Zx.o)|exact HB.o)))|(with_reducible refine Kd.rP ?_ _)|(with_reducible refine Kd.C_drewN ?_ _)|(with_reducible refine Kd.sH ?_)));(case Zd=>exact ZB.o);rintro e w49 ⟨rfl,hb⟩;refine⟨_,rfl,?_⟩;have n0_:=Y7 (o7 (g:=Zt) (o := .cells #[.slice Zf Y9.length Zg,.int .i64 Za] 149 (0,0)) (by (with_reducible repeat (first | refine qd ?_ _ | refine pX ?_ | refine pK ?_ _));exact Ze.o) hb);have n1_:=Y7 (oP (by repeat (first|(with_reducible first | exact HB.o | apply oN | apply oU | apply oV | refine pF ?_ Zx.o)|exact HB.o)) hb);clear Ze;clear HB;have Ze:=n0_;have HB:=n1_;clear n0_ n1_;(try clear hb);(try clear hb2);(try clear hk);(try clear hi)))
         go_ret3
         exact⟨by first | rfl | (simp[pQ,pR]<;>rfl)|(simp[*,pQ,pR]<;>rfl),by repeat (first|(with_reducible first | exact HB.o | apply oN | apply oU | apply oV | refine pF ?_ Zx.o)|exact HB.o)⟩
end Go.Proofs.Y.PA
namespace Go.Proofs.Y.PA
open Go.RowKit Go.Proofs.Y.G Go.Proofs.YW.oO Go.Proofs.YW.pq Go.Proofs.YW.pz
theorem UN (s:ByteArray):vg.f s=some (uU s):=by
 unfold vg.f uU uD.f
 by_cases h1:1≤s.size
 ·rw[au (by omega),aC h1]
  by_cases h2:s.size≤40
  ·rw[au (by omega),aC h2];rfl
  ·rw[av (by omega),aD h2];rfl
 ·rw[av (by omega),aD h1];rfl
theorem rvalue.c (s:ByteArray)(b:Bool)(h:uU s=b)(w:World):Calls Tryz.prog 100 #[.string s] w fun e w'=>e = .returned (.bool b)∧Below w.heap.size w w' :=
 vg.c s b w (by rw[UN,h])
def OB (l:List tQ):Prop:=∀ x∈l,x.f0.size≤140737488355328∧x.f1.size≤140737488355328
theorem VZ (l:List tQ)(k:Nat)(h:k<l.length):qN l (k:Int)∈l:=by
 have e:qN l (k:Int)=l[k]:=by simp[qN,aV,aR h]
 rw[e];exact dL h
theorem yG {w:World}{a:Addr}{v:Value}(o:Obj)(h:w.cell? a=some v):(w.alloc o).cell? a=some v:=pW (oN (aU _ _) o) h
theorem Ew.c (A:Option Addr)(c n:Nat)(l:List tQ)(w:World)(hn:l.length=n)(hr:Kd.C xU w A n l)(hc:n≤c)(hok:OB l) :
 Calls Tryz.prog 67 #[.slice A n c] w fun e w'=>e = .returned (.bool (sI l))∧Below w.heap.size w w':=by
 subst hn
 by_cases hlen:1≤l.length∧l.length≤8
 ·have h0:decide ((l.length:Int)<1)=false:=aD (by omega);have h8:decide ((8:Int)<(l.length:Int))=false:=aD (by omega);have HR:=Y7 hr;have HL:=Y7 hlen;have HK:=Y7 hok;have hl8:=hlen.2;clear hr hc hlen hok
  go_enter Tryz.func67,Tryz.ntmps67
  go_wp2
  go_loopw [15] (fun i wr=>∃ (k:Nat),k≤l.length∧i = .int .i64 k∧oM (∀ j,j<k→zh l j=true)∧oM (Below w.heap.size w wr)) (fun i _=>l.length-(intOf i).toNat)
  case atStart=>exact⟨0,bP _,rfl,⟨fun j hj=>by omega⟩,⟨aU _ _⟩⟩
  case round=>
   obtain⟨k,hk,rfl,HO,HB⟩:=hrel
   by_cases hlt:k<l.length
   ·have hC:=Kd.o9 HR.o HB.o;obtain⟨ad,rfl,c0,c1⟩:=xu hC (k:Int) (by omega) (by omega);rw[aG] at c0 c1;have HBAD:=Y7 (fun h=>Me (l:=l) (k:=k) hlt h);have HS:=Y7 (fun h=>J5 (l:=l) (k:=k) HO.o h);have HSZ:=Y7 (HK.o _ (VZ l k hlt)).1;cases k with
    | zero=>
      obtain⟨x,ex⟩:∃ x,qN l ((0:Nat):Int)=x:=⟨_,rfl⟩;have EX:=Y7 ex;rw[ex] at c0 c1 HSZ;clear hC ex;have c0z:wr.cell? ad=some (.string x.f0):=by simpa [Addr.add] using c0
      have c1z:wr.cell? ⟨ad.block,ad.off+1,none⟩=some (.string x.f1):=by simpa [Addr.add] using c1
      clear c0 c1;have HBA:=Y7 (oN HB.o (.cells #[.string x.f0,.string x.f1] 68 (0,0)));have BK:=qx wr (.cells #[.string x.f0,.string x.f1] 68 (0,0));have aA:=BW.cell ((oQ BK 0).trans rfl);have bA:=BW.cell ((oQ BK 1).trans rfl);clear BK;cases h1:vk x.f0 with
      | false=>
        have HF:oM (sI l=false):=⟨HBAD.o (Fg (EX.o ▸ h1))⟩;have C1:=Y7 (Qf.c x.f0 false h1 HSZ.o);clear h1
        go_wp2_with fail
        refine qD (by kernel_rfl) (by kernel_rfl) ?_
        repeat (any_goals (first | go_big_quiet_step (first|(go_at_call 99;refine qU (C1.o _)))|quiet_step (first|(go_at_call 99;refine qU (C1.o _)))))
        all_goals (refine dU ?_;intro _ hw';obtain⟨⟨w2,hb⟩,hw''⟩:=hw';subst hw'';have HB2:=Y7 (oP HBA.o hb);clear hb)
        go_wp2;go_ret;exact⟨by rw[HF.o];rfl,HB2.o⟩
      | true=>
        have C1:=Y7 (Qf.c x.f0 true h1 HSZ.o);cases h2:uU x.f1 with
        | false=>
          have HF:oM (sI l=false):=⟨HBAD.o (DC (EX.o ▸ h2))⟩;have C2:=Y7 (rvalue.c x.f1 false h2);clear h1 h2
          go_wp2_with fail
          refine qD (by kernel_rfl) (by kernel_rfl) ?_
          repeat (any_goals (first | go_big_quiet_step (first|(go_at_call 99;refine qU (C1.o _))|(go_at_call 100;refine qU (C2.o _)))|quiet_step (first|(go_at_call 99;refine qU (C1.o _))|(go_at_call 100;refine qU (C2.o _)))))
          all_goals (refine dU ?_;intro _ hw';obtain⟨⟨w2,hb⟩,hw''⟩:=hw';subst hw'';have HB2:=Y7 (oP HBA.o hb);clear hb)
          go_wp2;go_ret;exact⟨by rw[HF.o];rfl,HB2.o⟩
        | true=>
          have C2:=Y7 (rvalue.c x.f1 true h2);have HG:=Y7 (HS.o (Q9 (EX.o ▸ h1) (EX.o ▸ h2)));clear h1 h2
          go_wp2_with fail
          refine qD (by kernel_rfl) (by kernel_rfl) ?_
          repeat (any_goals (first | go_big_quiet_step (first|(go_at_call 99;refine qU (C1.o _))|(go_at_call 100;refine qU (C2.o _)))|quiet_step (first|(go_at_call 99;refine qU (C1.o _))|(go_at_call 100;refine qU (C2.o _)))))
          all_goals (refine dU ?_;intro _ hw';obtain⟨⟨w2,hb⟩,hw''⟩:=hw';subst hw'';have HB2:=Y7 (oP HBA.o hb);clear hb)
          go_wp2
          go_roundw
          case rel=>exact⟨0+1,by omega,by go_num,HG,HB2⟩
          case measure=>simp[intOf]<;>omega
    | succ k=>
      obtain⟨ad_,ea,q0,q1⟩:=xu hC ((k:Nat):Int) (by omega) (by omega);obtain rfl:=bB ea;rw[aG] at q0 q1;obtain⟨x,ex⟩:∃ x,qN l ((k+1:Nat):Int)=x:=⟨_,rfl⟩;obtain⟨y,ey⟩:∃ y,qN l ((k:Nat):Int)=y:=⟨_,rfl⟩;have EY:=Y7 ey;rw[ey] at q0 q1;have EX:=Y7 ex;rw[ex] at c0 c1 HSZ;clear hC ex ey q1 ea;have HBA:=Y7 (oN HB.o (.cells #[.string x.f0,.string x.f1] 68 (0,0)));have BK:=qx wr (.cells #[.string x.f0,.string x.f1] 68 (0,0));have aA:=BW.cell ((oQ BK 0).trans rfl);have bA:=BW.cell ((oQ BK 1).trans rfl);clear BK;have pA:=BW.cell (yG (.cells #[.string x.f0,.string x.f1] 68 (0,0)) q0);rw[show ((k+1:Nat):Int)=(k:Int)+1 from by omega] at *;have g0:decide ((0:Int)<(k:Int)+1)=true:=aC (by omega);have hwk:IntKind.i64.wrap ((k:Int)+1-1)=(k:Int):=by rw[bD];omega
      have g1:(0:Int)≤(k:Int):=by omega
      have g2:(k:Int)<(l.length:Int):=by omega
      cases h1:vk x.f0 with
      | false=>
        have HF:oM (sI l=false):=⟨HBAD.o (Fg (EX.o ▸ h1))⟩;have C1:=Y7 (Qf.c x.f0 false h1 HSZ.o);clear h1
        go_wp2_with fail
        refine qD (by kernel_rfl) (by kernel_rfl) ?_
        repeat (any_goals (first | go_big_quiet_step (first|(go_at_call 99;refine qU (C1.o _)))|quiet_step (first|(go_at_call 99;refine qU (C1.o _)))))
        all_goals (refine dU ?_;intro _ hw';obtain⟨⟨w2,hb⟩,hw''⟩:=hw';subst hw'';have HB2:=Y7 (oP HBA.o hb);clear hb)
        go_wp2;go_ret;exact⟨by rw[HF.o];rfl,HB2.o⟩
      | true=>
        have C1:=Y7 (Qf.c x.f0 true h1 HSZ.o);cases h2:uU x.f1 with
        | false=>
          have HF:oM (sI l=false):=⟨HBAD.o (DC (EX.o ▸ h2))⟩;have C2:=Y7 (rvalue.c x.f1 false h2);clear h1 h2
          go_wp2_with fail
          refine qD (by kernel_rfl) (by kernel_rfl) ?_
          repeat (any_goals (first | go_big_quiet_step (first|(go_at_call 99;refine qU (C1.o _))|(go_at_call 100;refine qU (C2.o _)))|quiet_step (first|(go_at_call 99;refine qU (C1.o _))|(go_at_call 100;refine qU (C2.o _)))))
          all_goals (refine dU ?_;intro _ hw';obtain⟨⟨w2,hb⟩,hw''⟩:=hw';subst hw'';have HB2:=Y7 (oP HBA.o hb);clear hb)
          go_wp2;go_ret;exact⟨by rw[HF.o];rfl,HB2.o⟩
        | true=>
          have C2:=Y7 (rvalue.c x.f1 true h2);have HQ:=Ud (l:=l) (k:=k) (EX.o ▸ h1) (EX.o ▸ h2);rw[show ((k+1:Nat):Int)=(k:Int)+1 from by omega,EX.o,EY.o] at HQ;clear h1 h2;cases d1:Op.bytesLess y.f0.toList x.f0.toList with
          | false=>
            have HF:oM (sI l=false):=⟨HBAD.o (by rw[HQ,d1])⟩;clear HQ
            go_wp2_with fail
            refine qD (by kernel_rfl) (by kernel_rfl) ?_
            repeat (any_goals (first | go_big_quiet_step (first|(go_at_call 99;refine qU (C1.o _))|(go_at_call 100;refine qU (C2.o _)))|quiet_step (first|(go_at_call 99;refine qU (C1.o _))|(go_at_call 100;refine qU (C2.o _)))))
            all_goals (refine dU ?_;intro _ hw';obtain⟨⟨w2,hb⟩,hw''⟩:=hw';subst hw'';have HB2:=Y7 (oP HBA.o hb);clear hb)
            go_wp2;go_ret;exact⟨by rw[HF.o];rfl,HB2.o⟩
          | true=>
            have HG:=Y7 (HS.o (by rw[HQ,d1]));clear HQ
            go_wp2_with fail
            refine qD (by kernel_rfl) (by kernel_rfl) ?_
            repeat (any_goals (first | go_big_quiet_step (first|(go_at_call 99;refine qU (C1.o _))|(go_at_call 100;refine qU (C2.o _)))|quiet_step (first|(go_at_call 99;refine qU (C1.o _))|(go_at_call 100;refine qU (C2.o _)))))
            all_goals (refine dU ?_;intro _ hw';obtain⟨⟨w2,hb⟩,hw''⟩:=hw';subst hw'';have HB2:=Y7 (oP HBA.o hb);clear hb)
            go_wp2
            go_roundw
            case rel=>exact⟨k+1+1,by omega,by go_num,HG,HB2⟩
            case measure=>simp[intOf]<;>omega
   ·obtain rfl:k=l.length:=by omega
    have HF:oM (sI l=true):=⟨PD HL.o.1 HL.o.2 HO.o⟩;go_wp2;go_ret;exact⟨by rw[HF.o];rfl,HB.o⟩
 ·have HF:oM (sI l=false):=⟨Mf hlen⟩
  by_cases h0:(l.length:Int)<1
  ·have h1:decide ((l.length:Int)<1)=true:=aC h0;clear h0 hlen
   go_enter Tryz.func67,Tryz.ntmps67
   go_wp2;go_ret;exact⟨by rw[HF.o];rfl,aU _ _⟩
  ·have h1:decide ((l.length:Int)<1)=false:=aD h0;have h2:decide ((8:Int)<(l.length:Int))=true:=aC (by omega);clear h0 hlen
   go_enter Tryz.func67,Tryz.ntmps67
   go_wp2;go_ret;exact⟨by rw[HF.o];rfl,aU _ _⟩
theorem XJ.c (A:Option Addr)(c n:Nat)(l:List tQ)(w:World)(hn:l.length=n)(hr:Kd.C xU w A n l)(hc:n≤c)(hok:OB l)(h:sI l=true) :
 Calls Tryz.prog 47 #[.slice A n c] w fun e w'=>∃ v:Value,e = .returned (.tuple #[v,.int .i64 0])∧Kd.R (Kd.int .u8) 5 w' w.heap.size (fun _=>True) v (vQ l)∧Below w.heap.size w w':=by
 subst hn;have hp:=vB h;have HR:=Y7 hr;have HP:=Y7 hp;have HL:=Y7 (Bq h);have HC:oM (Calls Tryz.prog 67 #[.slice A l.length c] w fun e w'=>e = .returned (.bool true)∧Below w.heap.size w w'):=⟨h ▸ Ew.c A c l.length l w rfl hr hc hok⟩;have hl8:=hp.2.1;clear hr hc hp h hok
 go_enter Tryz.func47,Tryz.ntmps47
 go_wp2_with (first|(go_at_call 67;(with_reducible refine HC.o.mono ?_);rintro e w1 ⟨rfl,hb⟩;have HB1:=Y7 hb;clear hb))
 have HR0:oM (Kd.R (Kd.int .u8) 5 (w1.alloc (.cells #[.int .u8 (l.length:Int)] 5)) w.heap.size (fun _=>True) (.slice (some ⟨w1.heap.size,0,none⟩) 1 1) (Ea l 0)):=⟨Kd.y8 (K4 w1 w.heap.size 5 .u8 [(l.length:Int)] HB1.o.size (by simp)) (fun _ _=>bE)⟩;have HB0:=Y7 (oN HB1.o (.cells #[.int .u8 (l.length:Int)] 5))
 go_loopw [4,16] (fun v i wr=>∃ k:Nat,k≤l.length∧i = .int .i64 k∧oM (Kd.R (Kd.int .u8) 5 wr w.heap.size (fun _=>True) v (Ea l k))∧oM (Below w.heap.size w wr)) (fun _ i _=>l.length-(intOf i).toNat)
 case atStart=>exact⟨0,bP _,rfl,HR0,HB0⟩
 case round=>
  clear HR0 HB0;obtain⟨k,hk,rfl,HV,HB⟩:=hrel
  by_cases hlt:k<l.length
  ·obtain⟨ad,rfl,c0,c1⟩:=xu (Kd.o9 HR.o HB.o) (k:Int) (by omega) (by omega);rw[aG] at c0 c1;have hsz:=Au (HP.o.2.2 k hlt);have HST:=Y7 (EW l k hlt);have HKL:oM ((Ea l k).length≤600):=⟨by have:=HL.o k hk;omega⟩;generalize qN l (k:Int)=x at *;obtain⟨hz0,hz1⟩:=hsz;have HB0:=Y7 (oN HB.o (.cells #[.string x.f0,.string x.f1] 68 (0,0)));have HBK:=Y7 (qx wr (.cells #[.string x.f0,.string x.f1] 68 (0,0)));have HV0:=Y7 (Kd.qo HV.o (oN (aU _ _) (.cells #[.string x.f0,.string x.f1] 68 (0,0))));have cI1:=(oQ HBK.o 0).trans rfl;have h8a:=YK (n:=x.f0.size) (by omega);have h8b:=YK (n:=x.f1.size) (by omega);clear HV
   go_wp2_with fail
   go_region_held3 (fun W=>W.cell? ⟨wr.heap.size,0,none⟩=some (.string x.f0)) (first | exact cI1 | exact ca1 | exact cb1 | go_keep) (first|(refine G7 (w0:=w) (W0:=wr.alloc (.cells #[.string x.f0,.string x.f1] 68 (0,0))) (by repeat (first | exact aU _ _ | apply oN | apply oV)) (by rfl) (.tmp 20) (.tmp 25) 24 5 68 wr.heap.size _ (by rfl) Tryz.underlying24 rW _ _ _ ((x.f0.size:Nat):Int) (by rfl) (by rfl) HV0.o HB0.o HBK.o (by decide) (have hk_:=HKL.o;by (try simp only[aT,bq,eD,bytesOf_length]);omega) (by first|(go_simp;done)|simp) ?_;intro va1 wa1 hr hb hk;have aiy:=Y7 hr;have ahl:=Y7 hb;have amb:=Y7 hk;have ca1:=(oQ hk 0).trans rfl;clear hr hb hk)|(refine JX (w0:=w) (W0:=wa1) (by repeat (first | exact aU _ _ | apply oN | apply oV)) (by rfl) (.tmp 26) (.tmp 28) 24 9 5 68 wr.heap.size _ (by rfl) Tryz.underlying24 Tryz.underlying9 rW _ _ x.f0 (by rfl) (by rfl) aiy.o ahl.o amb.o (by decide) (have hk_:=HKL.o;by (try simp only[aT,bq,eD,bytesOf_length]);omega) ?_;intro vb1 wb1 hr hb hk;have aiz:=Y7 hr;have afr:=Y7 hb;have ajL:=Y7 hk;have cb1:=(oQ hk 0).trans rfl;clear hr hb hk))
   have cI2:=(oQ ajL.o 1).trans rfl;clear cI1 ca1 cb1
   go_wp2_with fail
   go_region_held3 (fun W=>W.cell? ⟨wr.heap.size,1,none⟩=some (.string x.f1)) (first | exact cI2 | exact ca2 | exact cb2 | go_keep) (first|(refine G7 (w0:=w) (W0:=wb1) (by repeat (first | exact aU _ _ | apply oN | apply oV)) (by rfl) (.tmp 30) (.tmp 35) 24 5 68 wr.heap.size _ (by rfl) Tryz.underlying24 rW _ _ _ ((x.f1.size:Nat):Int) (by rfl) (by rfl) aiz.o afr.o ajL.o (by decide) (have hk_:=HKL.o;by (try simp only[aT,bq,eD,bytesOf_length]);omega) (by first|(go_simp;done)|simp) ?_;intro va2 wa2 hr hb hk;have aiA:=Y7 hr;have ahm:=Y7 hb;have amc:=Y7 hk;have ca2:=(oQ hk 1).trans rfl;clear hr hb hk)|(refine JX (w0:=w) (W0:=wa2) (by repeat (first | exact aU _ _ | apply oN | apply oV)) (by rfl) (.tmp 36) (.tmp 38) 24 9 5 68 wr.heap.size _ (by rfl) Tryz.underlying24 Tryz.underlying9 rW _ _ x.f1 (by rfl) (by rfl) aiA.o ahm.o amc.o (by decide) (have hk_:=HKL.o;by (try simp only[aT,bq,eD,bytesOf_length]);omega) ?_;intro vb2 wb2 hr hb hk;have aiB:=Y7 hr;have af6:=Y7 hb;have aoG:=Y7 hk;have cb2:=(oQ hk 1).trans rfl;clear hr hb hk))
   go_wp2
   go_roundw
   case rel=>exact⟨k+1,by omega,by go_num,⟨by have h_:=aiB.o;rw[HST.o];simpa [Jd,KE] using h_⟩,af6⟩
   case measure=>simp[intOf];omega
  ·obtain rfl:k=l.length:=by omega
   rw[Eb] at HV;go_wp2;refine aZ (dD rfl _ _ _) rfl ?_;exact⟨_,rfl,HV.o,HB.o⟩
end Go.Proofs.Y.PA
