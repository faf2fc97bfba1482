/- Lemmas and contracts that the law DumpRows leans on (packed by a program of this session out of its texts and the print's words). -/
import Derived.Test.YtcgbgifbajdhpaaGreatDoorZE3
import Derived.Shelf.Spec.TrailingZeros
import Derived.Lib.Strings
import Derived.Lib.Slices
import Derived.Lib.Small
import Derived.Lib.Walk
import Derived.Lib.BitFns
set_option linter.unusedVariables false
set_option linter.unusedSimpArgs false
set_option maxHeartbeats 8000000
set_option maxRecDepth 100000
namespace Go.Proofs.YtcgbgifbajdhpaaGreatDoor.PA
open Go.RowKit Go.Proofs.YtcgbgifbajdhpaaGreatDoorW.au Go.Proofs.YtcgbgifbajdhpaaGreatDoorW.aI Go.Proofs.YtcgbgifbajdhpaaGreatDoorW.aJ
attribute [local go_sem] eG eH gq gu eT eU fU fV   -- for this text's walks alone
mutual
def aQ.j0:Nat→Int→Int→Bool→List Int→Int→Option (Int × Int)
 | 0,_,_,_,_,_=>none
 | k+1,x1,x2,x11,x559000,x559001=>if x11=true then (some (0,1)) else (if (wrap64 (x559001-x1))<x2 then (some (0,3)) else (aQ.l0 k x1 x2 0 x559000 x559001))
def aQ.l0:Nat→Int→Int→Int→List Int→Int→Option (Int × Int)
 | 0,_,_,_,_,_=>none
 | k+1,x1,x2,x8,x559000,x559001=>if x2>0 then (if 0≤(mn (wrap64 (8-(Int.tmod x1 8))) x2) then (if 0≤(wrap64 (Int.tdiv x1 8)) then (if (wrap64 (Int.tdiv x1 8))<(x559000.length:Int) then (if 0≤(wrap64 ((wrap64 (8-(Int.tmod x1 8)))-(mn (wrap64 (8-(Int.tmod x1 8))) x2))) then (aQ.l0 k (wrap64 (x1+(mn (wrap64 (8-(Int.tmod x1 8))) x2))) (wrap64 (x2-(mn (wrap64 (8-(Int.tmod x1 8))) x2))) (Go.bits .or .u64 (shl .u64 x8 (mn (wrap64 (8-(Int.tmod x1 8))) x2)) (IntKind.u64.wrap (Go.bits .and .u8 (shr .u8 (rd x559000 (wrap64 (Int.tdiv x1 8))) (wrap64 ((wrap64 (8-(Int.tmod x1 8)))-(mn (wrap64 (8-(Int.tmod x1 8))) x2)))) (((shl .u8 1 (mn (wrap64 (8-(Int.tmod x1 8))) x2))-1) % 256)))) x559000 x559001) else (none)) else (none)) else (none)) else (none)) else (some (x8,0))
end
def aQ.f (k:Nat) (l0_0:List Int) (a0_1:Int) (a1:Int) (a2:Int):Option (Int × Int):=(bZ.f l0_0 a0_1).bind fun t559=>(if t559=true then (if a2<0 then (aQ.j0 k a1 a2 true l0_0 a0_1) else (if a2>64 then (aQ.j0 k a1 a2 true l0_0 a0_1) else (if a1<0 then (aQ.j0 k a1 a2 true l0_0 a0_1) else (aQ.j0 k a1 a2 (decide (a1>a0_1)) l0_0 a0_1)))) else (aQ.j0 k a1 a2 true l0_0 a0_1))
theorem aQ.fA:∀ k,(∀ y0 y1 y2 y3 y4,bV (aQ.j0 k y0 y1 y2 y3 y4) (aQ.j0 (k+1) y0 y1 y2 y3 y4))∧(∀ y0 y1 y2 y3 y4,bV (aQ.l0 k y0 y1 y2 y3 y4) (aQ.l0 (k+1) y0 y1 y2 y3 y4))
 | 0=>⟨fun _ _ _ _ _ r h=>by simp[aQ.j0] at h,fun _ _ _ _ _ r h=>by simp[aQ.l0] at h⟩
 | k+1=>by
   obtain⟨ih0,ih1⟩:=aQ.fA k
   refine⟨?_,?_⟩
   ·intro y0 y1 y2 y3 y4
    unfold aQ.j0
    repeat' first
    | (with_reducible exact ih0 _ _ _ _ _)
    | (with_reducible exact ih1 _ _ _ _ _)
    | (with_reducible exact bV.refl _)
    | (with_reducible exact bV.none _)
    | (with_reducible refine bV.ite ?_ ?_)
    | (with_reducible refine bV.bind ?_ (fun _=>?_))
    | exact ih0 _ _ _ _ _
    | exact ih1 _ _ _ _ _
    | exact bV.none _
    | refine bV.ite ?_ ?_
    | refine bV.bind ?_ (fun _=>?_)
   ·intro y0 y1 y2 y3 y4
    unfold aQ.l0
    repeat' first
    | (with_reducible exact ih0 _ _ _ _ _)
    | (with_reducible exact ih1 _ _ _ _ _)
    | (with_reducible exact bV.refl _)
    | (with_reducible exact bV.none _)
    | (with_reducible refine bV.ite ?_ ?_)
    | (with_reducible refine bV.bind ?_ (fun _=>?_))
    | exact ih0 _ _ _ _ _
    | exact ih1 _ _ _ _ _
    | exact bV.none _
    | refine bV.ite ?_ ?_
    | refine bV.bind ?_ (fun _=>?_)
theorem aQ.mono:∀ a0 a1 a2 a3 k,bV (aQ.f k a0 a1 a2 a3) (aQ.f (k+1) a0 a1 a2 a3):=by
 intro a0 a1 a2 a3 k
 obtain⟨ih0,ih1⟩:=aQ.fA k
 unfold aQ.f
 repeat' first
  | (with_reducible exact ih0 _ _ _ _ _)
  | (with_reducible exact ih1 _ _ _ _ _)
  | (with_reducible exact bV.refl _)
  | (with_reducible exact bV.none _)
  | (with_reducible refine bV.ite ?_ ?_)
  | (with_reducible refine bV.bind ?_ (fun _=>?_))
  | exact ih0 _ _ _ _ _
  | exact ih1 _ _ _ _ _
  | exact bV.none _
  | refine bV.ite ?_ ?_
  | refine bV.bind ?_ (fun _=>?_)
theorem aQ.calls (k:Nat) (A0_0:Option Addr) (c0_0:Nat) (l0_0:List Int) (a0_1:Int) (a1:Int) (a2:Int) (r1:Int) (r2:Int) (w:World) (hr0_0:Kd.C (Kd.int .u8) w A0_0 l0_0.length l0_0) (hc0_0:l0_0.length≤c0_0) (h:aQ.f k l0_0 a0_1 a1 a2=some (r1,r2)) :
 Calls Tryz.prog 156 #[.agg #[.slice A0_0 l0_0.length c0_0,.int .i64 a0_1],.int .i64 a1,.int .i64 a2] w fun e w'=>e = .returned (.tuple #[.int .u64 r1,.int .i64 r2])∧Below w.heap.size w w':=by
 have hu149:=Tryz.underlying149
 have HR0_0:=ah.mk hr0_0
 have HC0_0:=ah.mk hc0_0
 clear hr0_0 hc0_0
 have HB:=ah.mk (Below.refl w.heap.size w)
 have H:((bZ.f l0_0 a0_1).bind fun t559=>(if t559=true then (if a2<0 then (aQ.j0 k a1 a2 true l0_0 a0_1) else (if a2>64 then (aQ.j0 k a1 a2 true l0_0 a0_1) else (if a1<0 then (aQ.j0 k a1 a2 true l0_0 a0_1) else (aQ.j0 k a1 a2 (decide (a1>a0_1)) l0_0 a0_1)))) else (aQ.j0 k a1 a2 true l0_0 a0_1)))=some (r1,r2):=h
 clear h
 have HC4:=ah.mk H
 clear H
 go_enter Tryz.func156,Tryz.ntmps156
 go_upto_region 1 with (first|((with_reducible refine bM (N:=3) rfl ?_);refine cZ ?hg (N:=3) ?hd (cs := #[.slice A0_0 l0_0.length c0_0,.int .i64 a0_1]) (t:=149) ?hr ?_;(case hd=>rfl);(case hg=>rfl);(case hr=>first|(go_simp;done)|(go_simp;rfl));intro gb558 hg w5 hbox hb;have n0_:=ah.mk (ak (by repeat (first|(with_reducible first | exact HB.o | apply aj | apply ay | apply aD)|exact HB.o)) hb);have n1_:=ah.mk (hbox);have n2_:=ah.mk ((by rw[hg];exact (aZ (by repeat (first|(with_reducible first | exact HB.o | apply aj | apply ay | apply aD)|exact HB.o))):w.heap.size≤gb558));have n3_:=ah.mk ((by rw[hg];exact (aZ (by repeat (first|(with_reducible first | exact HB.o | apply aj | apply ay | apply aD)|exact HB.o))):w.heap.size≤gb558));clear HB;have HB:=n0_;have BK558:=n1_;have GW558:=n2_;have GE558:=n3_;clear n0_ n1_ n2_ n3_;clear hb hbox hg))
 repeat (go_quiet (first|((with_reducible refine bM (N:=3) rfl ?_);refine cZ ?hg (N:=3) ?hd (cs := #[.slice A0_0 l0_0.length c0_0,.int .i64 a0_1]) (t:=149) ?hr ?_;(case hd=>rfl);(case hg=>rfl);(case hr=>first|(go_simp;done)|(go_simp;rfl));intro gb558 hg w5 hbox hb;have n0_:=ah.mk (ak (by repeat (first|(with_reducible first | exact HB.o | apply aj | apply ay | apply aD)|exact HB.o)) hb);have n1_:=ah.mk (hbox);have n2_:=ah.mk ((by rw[hg];exact (aZ (by repeat (first|(with_reducible first | exact HB.o | apply aj | apply ay | apply aD)|exact HB.o))):w.heap.size≤gb558));have n3_:=ah.mk ((by rw[hg];exact (aZ (by repeat (first|(with_reducible first | exact HB.o | apply aj | apply ay | apply aD)|exact HB.o))):w.heap.size≤gb558));clear HB;have HB:=n0_;have BK558:=n1_;have GW558:=n2_;have GE558:=n3_;clear n0_ n1_ n2_ n3_;clear hb hbox hg));go_upto_region 1 with (first|((with_reducible refine bM (N:=3) rfl ?_);refine cZ ?hg (N:=3) ?hd (cs := #[.slice A0_0 l0_0.length c0_0,.int .i64 a0_1]) (t:=149) ?hr ?_;(case hd=>rfl);(case hg=>rfl);(case hr=>first|(go_simp;done)|(go_simp;rfl));intro gb558 hg w5 hbox hb;have n0_:=ah.mk (ak (by repeat (first|(with_reducible first | exact HB.o | apply aj | apply ay | apply aD)|exact HB.o)) hb);have n1_:=ah.mk (hbox);have n2_:=ah.mk ((by rw[hg];exact (aZ (by repeat (first|(with_reducible first | exact HB.o | apply aj | apply ay | apply aD)|exact HB.o))):w.heap.size≤gb558));have n3_:=ah.mk ((by rw[hg];exact (aZ (by repeat (first|(with_reducible first | exact HB.o | apply aj | apply ay | apply aD)|exact HB.o))):w.heap.size≤gb558));clear HB;have HB:=n0_;have BK558:=n1_;have GW558:=n2_;have GE558:=n3_;clear n0_ n1_ n2_ n3_;clear hb hbox hg)))
 (try simp only[Act.put,List.setIfInBounds_toArray,List.set_cons_zero,List.set_cons_succ])
 go_cut [11] (fun v11 wc=>∃ (kq:Nat) (x11_3:Bool),v11 = .bool x11_3∧ah (aQ.j0 kq a1 a2 x11_3 l0_0 a0_1=some (r1,r2))∧ah (kq≤k)∧ah (wc.heap[gb558]? = some (.cells #[(.slice A0_0 l0_0.length c0_0),.int .i64 a0_1] 149 (0,0)))∧ah (Below w.heap.size w wc))
 case first=>
  have H:=HC4.o
  clear HC4
  replace H:=Option.bind_eq_some_iff.mp H
  obtain⟨t559,A60,H⟩:=H
  replace H:(if t559=true then (if a2<0 then (aQ.j0 k a1 a2 true l0_0 a0_1) else (if a2>64 then (aQ.j0 k a1 a2 true l0_0 a0_1) else (if a1<0 then (aQ.j0 k a1 a2 true l0_0 a0_1) else (aQ.j0 k a1 a2 (decide (a1>a0_1)) l0_0 a0_1)))) else (aQ.j0 k a1 a2 true l0_0 a0_1))=some (r1,r2):=H
  have A6:=ah.mk A60
  clear A60
  by_cases c7:t559=true
  ·subst c7
   have H1:(if a2<0 then (aQ.j0 k a1 a2 true l0_0 a0_1) else (if a2>64 then (aQ.j0 k a1 a2 true l0_0 a0_1) else (if a1<0 then (aQ.j0 k a1 a2 true l0_0 a0_1) else (aQ.j0 k a1 a2 (decide (a1>a0_1)) l0_0 a0_1))))=some (r1,r2):=by rw[if_pos rfl] at H;exact H
   clear H
   have H:=H1
   clear H1
   by_cases c8:a2<0
   ·rw[if_pos c8] at H
    have c8b0:decide (a2<0)=true:=decide_eq_true c8
    clear c8
    (first | rw[c8b0] | (simp only[dw,fu];rw[c8b0])|skip)
    have H':=ah.mk H
    clear H
    have hcz9_0:w5.cell? ⟨gb558,0,none⟩=some (.slice A0_0 l0_0.length c0_0):=(av BK558.o 0).trans rfl
    have hcz9_1:w5.cell? ⟨gb558,1,none⟩=some (.int .i64 a0_1):=(av BK558.o 1).trans rfl
    have hfz9_0:=aC BK558.o 0
    have hfz9_1:=aC BK558.o 1
    go_wp2_with (first|(go_at_call 141;(with_reducible refine (bZ.calls _ _ l0_0 a0_1 true _ ?side1 ?side2 A6.o).mono ?_);(case side1=>repeat (first | exact (Kd.aH HR0_0.o HB.o)|(with_reducible refine Kd.bW ?_ _)|(with_reducible refine Kd.dA ?_ _)|(with_reducible refine Kd.dF ?_)));(case side2=>exact HC0_0.o);rintro e w10 ⟨rfl,hb⟩;have n0_:=ah.mk (aG (g:=gb558) (o := .cells #[.slice A0_0 l0_0.length c0_0,.int .i64 a0_1] 149 (0,0)) (by (with_reducible repeat (first | refine bC ?_ _ | refine bg ?_ | refine aU ?_ _));exact BK558.o) hb);have n1_:=ah.mk (ak (by repeat (first|(with_reducible first | exact HB.o | apply aj | apply ay | apply aD | refine bf ?_ GE558.o)|exact HB.o)) hb);clear BK558;clear HB;have BK558:=n0_;have HB:=n1_;clear n0_ n1_;(try clear hb);(try clear hb2);(try clear hk);(try clear hi)))
    repeat (go_quiet (first|(go_at_call 141;(with_reducible refine (bZ.calls _ _ l0_0 a0_1 true _ ?side1 ?side2 A6.o).mono ?_);(case side1=>repeat (first | exact (Kd.aH HR0_0.o HB.o)|(with_reducible refine Kd.bW ?_ _)|(with_reducible refine Kd.dA ?_ _)|(with_reducible refine Kd.dF ?_)));(case side2=>exact HC0_0.o);rintro e w10 ⟨rfl,hb⟩;have n0_:=ah.mk (aG (g:=gb558) (o := .cells #[.slice A0_0 l0_0.length c0_0,.int .i64 a0_1] 149 (0,0)) (by (with_reducible repeat (first | refine bC ?_ _ | refine bg ?_ | refine aU ?_ _));exact BK558.o) hb);have n1_:=ah.mk (ak (by repeat (first|(with_reducible first | exact HB.o | apply aj | apply ay | apply aD | refine bf ?_ GE558.o)|exact HB.o)) hb);clear BK558;clear HB;have BK558:=n0_;have HB:=n1_;clear n0_ n1_;(try clear hb);(try clear hb2);(try clear hk);(try clear hi)));try go_wp2_with (first|(go_at_call 141;(with_reducible refine (bZ.calls _ _ l0_0 a0_1 true _ ?side1 ?side2 A6.o).mono ?_);(case side1=>repeat (first | exact (Kd.aH HR0_0.o HB.o)|(with_reducible refine Kd.bW ?_ _)|(with_reducible refine Kd.dA ?_ _)|(with_reducible refine Kd.dF ?_)));(case side2=>exact HC0_0.o);rintro e w10 ⟨rfl,hb⟩;have n0_:=ah.mk (aG (g:=gb558) (o := .cells #[.slice A0_0 l0_0.length c0_0,.int .i64 a0_1] 149 (0,0)) (by (with_reducible repeat (first | refine bC ?_ _ | refine bg ?_ | refine aU ?_ _));exact BK558.o) hb);have n1_:=ah.mk (ak (by repeat (first|(with_reducible first | exact HB.o | apply aj | apply ay | apply aD | refine bf ?_ GE558.o)|exact HB.o)) hb);clear BK558;clear HB;have BK558:=n0_;have HB:=n1_;clear n0_ n1_;(try clear hb);(try clear hb2);(try clear hk);(try clear hi))))
    go_meet
    case rel=>exact⟨_,(true),(by first | rfl | (simp;done)|(simp[*];done)),H',⟨by first | omega | exact Nat.le_refl _⟩,⟨by (with_reducible repeat (first | refine bC ?_ _ | refine bg ?_ | refine aU ?_ _));exact BK558.o⟩,⟨by repeat (first|(with_reducible first | exact HB.o | apply aj | apply ay | apply aD | refine bf ?_ GE558.o)|exact HB.o)⟩⟩
   ·rw[if_neg c8] at H
    have c8b0:decide (a2<0)=false:=decide_eq_false c8
    clear c8
    (first | rw[c8b0] | (simp only[dw,fu];rw[c8b0])|skip)
    by_cases c11:a2>64
    ·rw[if_pos c11] at H
     have c11b0:decide (64<a2)=true:=decide_eq_true c11
     clear c11
     have H':=ah.mk H
     clear H
     have hcz12_0:w5.cell? ⟨gb558,0,none⟩=some (.slice A0_0 l0_0.length c0_0):=(av BK558.o 0).trans rfl
     have hcz12_1:w5.cell? ⟨gb558,1,none⟩=some (.int .i64 a0_1):=(av BK558.o 1).trans rfl
     have hfz12_0:=aC BK558.o 0
     have hfz12_1:=aC BK558.o 1
     go_wp2_with (first|(go_at_call 141;(with_reducible refine (bZ.calls _ _ l0_0 a0_1 true _ ?side1 ?side2 A6.o).mono ?_);(case side1=>repeat (first | exact (Kd.aH HR0_0.o HB.o)|(with_reducible refine Kd.bW ?_ _)|(with_reducible refine Kd.dA ?_ _)|(with_reducible refine Kd.dF ?_)));(case side2=>exact HC0_0.o);rintro e w13 ⟨rfl,hb⟩;have n0_:=ah.mk (aG (g:=gb558) (o := .cells #[.slice A0_0 l0_0.length c0_0,.int .i64 a0_1] 149 (0,0)) (by (with_reducible repeat (first | refine bC ?_ _ | refine bg ?_ | refine aU ?_ _));exact BK558.o) hb);have n1_:=ah.mk (ak (by repeat (first|(with_reducible first | exact HB.o | apply aj | apply ay | apply aD | refine bf ?_ GE558.o)|exact HB.o)) hb);clear BK558;clear HB;have BK558:=n0_;have HB:=n1_;clear n0_ n1_;(try clear hb);(try clear hb2);(try clear hk);(try clear hi)))
     repeat (go_quiet (first|(go_at_call 141;(with_reducible refine (bZ.calls _ _ l0_0 a0_1 true _ ?side1 ?side2 A6.o).mono ?_);(case side1=>repeat (first | exact (Kd.aH HR0_0.o HB.o)|(with_reducible refine Kd.bW ?_ _)|(with_reducible refine Kd.dA ?_ _)|(with_reducible refine Kd.dF ?_)));(case side2=>exact HC0_0.o);rintro e w13 ⟨rfl,hb⟩;have n0_:=ah.mk (aG (g:=gb558) (o := .cells #[.slice A0_0 l0_0.length c0_0,.int .i64 a0_1] 149 (0,0)) (by (with_reducible repeat (first | refine bC ?_ _ | refine bg ?_ | refine aU ?_ _));exact BK558.o) hb);have n1_:=ah.mk (ak (by repeat (first|(with_reducible first | exact HB.o | apply aj | apply ay | apply aD | refine bf ?_ GE558.o)|exact HB.o)) hb);clear BK558;clear HB;have BK558:=n0_;have HB:=n1_;clear n0_ n1_;(try clear hb);(try clear hb2);(try clear hk);(try clear hi)));try go_wp2_with (first|(go_at_call 141;(with_reducible refine (bZ.calls _ _ l0_0 a0_1 true _ ?side1 ?side2 A6.o).mono ?_);(case side1=>repeat (first | exact (Kd.aH HR0_0.o HB.o)|(with_reducible refine Kd.bW ?_ _)|(with_reducible refine Kd.dA ?_ _)|(with_reducible refine Kd.dF ?_)));(case side2=>exact HC0_0.o);rintro e w13 ⟨rfl,hb⟩;have n0_:=ah.mk (aG (g:=gb558) (o := .cells #[.slice A0_0 l0_0.length c0_0,.int .i64 a0_1] 149 (0,0)) (by (with_reducible repeat (first | refine bC ?_ _ | refine bg ?_ | refine aU ?_ _));exact BK558.o) hb);have n1_:=ah.mk (ak (by repeat (first|(with_reducible first | exact HB.o | apply aj | apply ay | apply aD | refine bf ?_ GE558.o)|exact HB.o)) hb);clear BK558;clear HB;have BK558:=n0_;have HB:=n1_;clear n0_ n1_;(try clear hb);(try clear hb2);(try clear hk);(try clear hi))))
     go_meet
     case rel=>exact⟨_,(true),(by first | rfl | (simp;done)|(simp[*];done)),H',⟨by first | omega | exact Nat.le_refl _⟩,⟨by (with_reducible repeat (first | refine bC ?_ _ | refine bg ?_ | refine aU ?_ _));exact BK558.o⟩,⟨by repeat (first|(with_reducible first | exact HB.o | apply aj | apply ay | apply aD | refine bf ?_ GE558.o)|exact HB.o)⟩⟩
    ·rw[if_neg c11] at H
     have c11b0:decide (64<a2)=false:=decide_eq_false c11
     clear c11
     by_cases c14:a1<0
     ·rw[if_pos c14] at H
      have c14b0:decide (a1<0)=true:=decide_eq_true c14
      clear c14
      have H':=ah.mk H
      clear H
      have hcz15_0:w5.cell? ⟨gb558,0,none⟩=some (.slice A0_0 l0_0.length c0_0):=(av BK558.o 0).trans rfl
      have hcz15_1:w5.cell? ⟨gb558,1,none⟩=some (.int .i64 a0_1):=(av BK558.o 1).trans rfl
      have hfz15_0:=aC BK558.o 0
      have hfz15_1:=aC BK558.o 1
      go_wp2_with (first|(go_at_call 141;(with_reducible refine (bZ.calls _ _ l0_0 a0_1 true _ ?side1 ?side2 A6.o).mono ?_);(case side1=>repeat (first | exact (Kd.aH HR0_0.o HB.o)|(with_reducible refine Kd.bW ?_ _)|(with_reducible refine Kd.dA ?_ _)|(with_reducible refine Kd.dF ?_)));(case side2=>exact HC0_0.o);rintro e w16 ⟨rfl,hb⟩;have n0_:=ah.mk (aG (g:=gb558) (o := .cells #[.slice A0_0 l0_0.length c0_0,.int .i64 a0_1] 149 (0,0)) (by (with_reducible repeat (first | refine bC ?_ _ | refine bg ?_ | refine aU ?_ _));exact BK558.o) hb);have n1_:=ah.mk (ak (by repeat (first|(with_reducible first | exact HB.o | apply aj | apply ay | apply aD | refine bf ?_ GE558.o)|exact HB.o)) hb);clear BK558;clear HB;have BK558:=n0_;have HB:=n1_;clear n0_ n1_;(try clear hb);(try clear hb2);(try clear hk);(try clear hi)))
      repeat (go_quiet (first|(go_at_call 141;(with_reducible refine (bZ.calls _ _ l0_0 a0_1 true _ ?side1 ?side2 A6.o).mono ?_);(case side1=>repeat (first | exact (Kd.aH HR0_0.o HB.o)|(with_reducible refine Kd.bW ?_ _)|(with_reducible refine Kd.dA ?_ _)|(with_reducible refine Kd.dF ?_)));(case side2=>exact HC0_0.o);rintro e w16 ⟨rfl,hb⟩;have n0_:=ah.mk (aG (g:=gb558) (o := .cells #[.slice A0_0 l0_0.length c0_0,.int .i64 a0_1] 149 (0,0)) (by (with_reducible repeat (first | refine bC ?_ _ | refine bg ?_ | refine aU ?_ _));exact BK558.o) hb);have n1_:=ah.mk (ak (by repeat (first|(with_reducible first | exact HB.o | apply aj | apply ay | apply aD | refine bf ?_ GE558.o)|exact HB.o)) hb);clear BK558;clear HB;have BK558:=n0_;have HB:=n1_;clear n0_ n1_;(try clear hb);(try clear hb2);(try clear hk);(try clear hi)));try go_wp2_with (first|(go_at_call 141;(with_reducible refine (bZ.calls _ _ l0_0 a0_1 true _ ?side1 ?side2 A6.o).mono ?_);(case side1=>repeat (first | exact (Kd.aH HR0_0.o HB.o)|(with_reducible refine Kd.bW ?_ _)|(with_reducible refine Kd.dA ?_ _)|(with_reducible refine Kd.dF ?_)));(case side2=>exact HC0_0.o);rintro e w16 ⟨rfl,hb⟩;have n0_:=ah.mk (aG (g:=gb558) (o := .cells #[.slice A0_0 l0_0.length c0_0,.int .i64 a0_1] 149 (0,0)) (by (with_reducible repeat (first | refine bC ?_ _ | refine bg ?_ | refine aU ?_ _));exact BK558.o) hb);have n1_:=ah.mk (ak (by repeat (first|(with_reducible first | exact HB.o | apply aj | apply ay | apply aD | refine bf ?_ GE558.o)|exact HB.o)) hb);clear BK558;clear HB;have BK558:=n0_;have HB:=n1_;clear n0_ n1_;(try clear hb);(try clear hb2);(try clear hk);(try clear hi))))
      go_meet
      case rel=>exact⟨_,(true),(by first | rfl | (simp;done)|(simp[*];done)),H',⟨by first | omega | exact Nat.le_refl _⟩,⟨by (with_reducible repeat (first | refine bC ?_ _ | refine bg ?_ | refine aU ?_ _));exact BK558.o⟩,⟨by repeat (first|(with_reducible first | exact HB.o | apply aj | apply ay | apply aD | refine bf ?_ GE558.o)|exact HB.o)⟩⟩
     ·rw[if_neg c14] at H
      have c14b0:decide (a1<0)=false:=decide_eq_false c14
      clear c14
      have H':=ah.mk H
      clear H
      have hcz17_0:w5.cell? ⟨gb558,0,none⟩=some (.slice A0_0 l0_0.length c0_0):=(av BK558.o 0).trans rfl
      have hcz17_1:w5.cell? ⟨gb558,1,none⟩=some (.int .i64 a0_1):=(av BK558.o 1).trans rfl
      have hfz17_0:=aC BK558.o 0
      have hfz17_1:=aC BK558.o 1
      go_wp2_with (first|(go_at_call 141;(with_reducible refine (bZ.calls _ _ l0_0 a0_1 true _ ?side1 ?side2 A6.o).mono ?_);(case side1=>repeat (first | exact (Kd.aH HR0_0.o HB.o)|(with_reducible refine Kd.bW ?_ _)|(with_reducible refine Kd.dA ?_ _)|(with_reducible refine Kd.dF ?_)));(case side2=>exact HC0_0.o);rintro e w18 ⟨rfl,hb⟩;have n0_:=ah.mk (aG (g:=gb558) (o := .cells #[.slice A0_0 l0_0.length c0_0,.int .i64 a0_1] 149 (0,0)) (by (with_reducible repeat (first | refine bC ?_ _ | refine bg ?_ | refine aU ?_ _));exact BK558.o) hb);have n1_:=ah.mk (ak (by repeat (first|(with_reducible first | exact HB.o | apply aj | apply ay | apply aD | refine bf ?_ GE558.o)|exact HB.o)) hb);clear BK558;clear HB;have BK558:=n0_;have HB:=n1_;clear n0_ n1_;(try clear hb);(try clear hb2);(try clear hk);(try clear hi);have hcz19_0:w18.cell? ⟨gb558,0,none⟩=some (.slice A0_0 l0_0.length c0_0):=(av BK558.o 0).trans rfl;have hcz19_1:w18.cell? ⟨gb558,1,none⟩=some (.int .i64 a0_1):=(av BK558.o 1).trans rfl;have hfz19_0:=aC BK558.o 0;have hfz19_1:=aC BK558.o 1))
      repeat (go_quiet (first|(go_at_call 141;(with_reducible refine (bZ.calls _ _ l0_0 a0_1 true _ ?side1 ?side2 A6.o).mono ?_);(case side1=>repeat (first | exact (Kd.aH HR0_0.o HB.o)|(with_reducible refine Kd.bW ?_ _)|(with_reducible refine Kd.dA ?_ _)|(with_reducible refine Kd.dF ?_)));(case side2=>exact HC0_0.o);rintro e w18 ⟨rfl,hb⟩;have n0_:=ah.mk (aG (g:=gb558) (o := .cells #[.slice A0_0 l0_0.length c0_0,.int .i64 a0_1] 149 (0,0)) (by (with_reducible repeat (first | refine bC ?_ _ | refine bg ?_ | refine aU ?_ _));exact BK558.o) hb);have n1_:=ah.mk (ak (by repeat (first|(with_reducible first | exact HB.o | apply aj | apply ay | apply aD | refine bf ?_ GE558.o)|exact HB.o)) hb);clear BK558;clear HB;have BK558:=n0_;have HB:=n1_;clear n0_ n1_;(try clear hb);(try clear hb2);(try clear hk);(try clear hi);have hcz19_0:w18.cell? ⟨gb558,0,none⟩=some (.slice A0_0 l0_0.length c0_0):=(av BK558.o 0).trans rfl;have hcz19_1:w18.cell? ⟨gb558,1,none⟩=some (.int .i64 a0_1):=(av BK558.o 1).trans rfl;have hfz19_0:=aC BK558.o 0;have hfz19_1:=aC BK558.o 1));try go_wp2_with (first|(go_at_call 141;(with_reducible refine (bZ.calls _ _ l0_0 a0_1 true _ ?side1 ?side2 A6.o).mono ?_);(case side1=>repeat (first | exact (Kd.aH HR0_0.o HB.o)|(with_reducible refine Kd.bW ?_ _)|(with_reducible refine Kd.dA ?_ _)|(with_reducible refine Kd.dF ?_)));(case side2=>exact HC0_0.o);rintro e w18 ⟨rfl,hb⟩;have n0_:=ah.mk (aG (g:=gb558) (o := .cells #[.slice A0_0 l0_0.length c0_0,.int .i64 a0_1] 149 (0,0)) (by (with_reducible repeat (first | refine bC ?_ _ | refine bg ?_ | refine aU ?_ _));exact BK558.o) hb);have n1_:=ah.mk (ak (by repeat (first|(with_reducible first | exact HB.o | apply aj | apply ay | apply aD | refine bf ?_ GE558.o)|exact HB.o)) hb);clear BK558;clear HB;have BK558:=n0_;have HB:=n1_;clear n0_ n1_;(try clear hb);(try clear hb2);(try clear hk);(try clear hi);have hcz19_0:w18.cell? ⟨gb558,0,none⟩=some (.slice A0_0 l0_0.length c0_0):=(av BK558.o 0).trans rfl;have hcz19_1:w18.cell? ⟨gb558,1,none⟩=some (.int .i64 a0_1):=(av BK558.o 1).trans rfl;have hfz19_0:=aC BK558.o 0;have hfz19_1:=aC BK558.o 1)))
      go_meet
      case rel=>exact⟨_,(decide (a1>a0_1)),(by first | rfl | (simp;done)|(simp[*];done)),H',⟨by first | omega | exact Nat.le_refl _⟩,⟨by (with_reducible repeat (first | refine bC ?_ _ | refine bg ?_ | refine aU ?_ _));exact BK558.o⟩,⟨by repeat (first|(with_reducible first | exact HB.o | apply aj | apply ay | apply aD | refine bf ?_ GE558.o)|exact HB.o)⟩⟩
  ·replace c7:=Bool.eq_false_iff.mpr c7
   subst c7
   have H1:(aQ.j0 k a1 a2 true l0_0 a0_1)=some (r1,r2):=by rw[if_neg (show ¬ (false=true) by decide)] at H;exact H
   clear H
   have H:=H1
   clear H1
   have H':=ah.mk H
   clear H
   have hcz20_0:w5.cell? ⟨gb558,0,none⟩=some (.slice A0_0 l0_0.length c0_0):=(av BK558.o 0).trans rfl
   have hcz20_1:w5.cell? ⟨gb558,1,none⟩=some (.int .i64 a0_1):=(av BK558.o 1).trans rfl
   have hfz20_0:=aC BK558.o 0
   have hfz20_1:=aC BK558.o 1
   go_wp2_with (first|(go_at_call 141;(with_reducible refine (bZ.calls _ _ l0_0 a0_1 false _ ?side1 ?side2 A6.o).mono ?_);(case side1=>repeat (first | exact (Kd.aH HR0_0.o HB.o)|(with_reducible refine Kd.bW ?_ _)|(with_reducible refine Kd.dA ?_ _)|(with_reducible refine Kd.dF ?_)));(case side2=>exact HC0_0.o);rintro e w21 ⟨rfl,hb⟩;have n0_:=ah.mk (aG (g:=gb558) (o := .cells #[.slice A0_0 l0_0.length c0_0,.int .i64 a0_1] 149 (0,0)) (by (with_reducible repeat (first | refine bC ?_ _ | refine bg ?_ | refine aU ?_ _));exact BK558.o) hb);have n1_:=ah.mk (ak (by repeat (first|(with_reducible first | exact HB.o | apply aj | apply ay | apply aD | refine bf ?_ GE558.o)|exact HB.o)) hb);clear BK558;clear HB;have BK558:=n0_;have HB:=n1_;clear n0_ n1_;(try clear hb);(try clear hb2);(try clear hk);(try clear hi)))
   repeat (go_quiet (first|(go_at_call 141;(with_reducible refine (bZ.calls _ _ l0_0 a0_1 false _ ?side1 ?side2 A6.o).mono ?_);(case side1=>repeat (first | exact (Kd.aH HR0_0.o HB.o)|(with_reducible refine Kd.bW ?_ _)|(with_reducible refine Kd.dA ?_ _)|(with_reducible refine Kd.dF ?_)));(case side2=>exact HC0_0.o);rintro e w21 ⟨rfl,hb⟩;have n0_:=ah.mk (aG (g:=gb558) (o := .cells #[.slice A0_0 l0_0.length c0_0,.int .i64 a0_1] 149 (0,0)) (by (with_reducible repeat (first | refine bC ?_ _ | refine bg ?_ | refine aU ?_ _));exact BK558.o) hb);have n1_:=ah.mk (ak (by repeat (first|(with_reducible first | exact HB.o | apply aj | apply ay | apply aD | refine bf ?_ GE558.o)|exact HB.o)) hb);clear BK558;clear HB;have BK558:=n0_;have HB:=n1_;clear n0_ n1_;(try clear hb);(try clear hb2);(try clear hk);(try clear hi)));try go_wp2_with (first|(go_at_call 141;(with_reducible refine (bZ.calls _ _ l0_0 a0_1 false _ ?side1 ?side2 A6.o).mono ?_);(case side1=>repeat (first | exact (Kd.aH HR0_0.o HB.o)|(with_reducible refine Kd.bW ?_ _)|(with_reducible refine Kd.dA ?_ _)|(with_reducible refine Kd.dF ?_)));(case side2=>exact HC0_0.o);rintro e w21 ⟨rfl,hb⟩;have n0_:=ah.mk (aG (g:=gb558) (o := .cells #[.slice A0_0 l0_0.length c0_0,.int .i64 a0_1] 149 (0,0)) (by (with_reducible repeat (first | refine bC ?_ _ | refine bg ?_ | refine aU ?_ _));exact BK558.o) hb);have n1_:=ah.mk (ak (by repeat (first|(with_reducible first | exact HB.o | apply aj | apply ay | apply aD | refine bf ?_ GE558.o)|exact HB.o)) hb);clear BK558;clear HB;have BK558:=n0_;have HB:=n1_;clear n0_ n1_;(try clear hb);(try clear hb2);(try clear hk);(try clear hi))))
   go_meet
   case rel=>exact⟨_,(true),(by first | rfl | (simp;done)|(simp[*];done)),H',⟨by first | omega | exact Nat.le_refl _⟩,⟨by (with_reducible repeat (first | refine bC ?_ _ | refine bg ?_ | refine aU ?_ _));exact BK558.o⟩,⟨by repeat (first|(with_reducible first | exact HB.o | apply aj | apply ay | apply aD | refine bf ?_ GE558.o)|exact HB.o)⟩⟩
 case rest=>
  clear HC4
  try clear c1
  try clear p2
  try clear c7
  try clear c8
  try clear c8b0
  try clear c11
  try clear c11b0
  try clear c14
  try clear c14b0
  try clear c15
  try clear hcz12_0
  try clear hcz12_1
  try clear hcz15_0
  try clear hcz15_1
  try clear hcz17_0
  try clear hcz17_1
  try clear hcz19_0
  try clear hcz19_1
  try clear hcz20_0
  try clear hcz20_1
  try clear hcz9_0
  try clear hcz9_1
  try clear hfz12_0
  try clear hfz12_1
  try clear hfz15_0
  try clear hfz15_1
  try clear hfz17_0
  try clear hfz17_1
  try clear hfz19_0
  try clear hfz19_1
  try clear hfz20_0
  try clear hfz20_1
  try clear hfz9_0
  try clear hfz9_1
  obtain⟨kq,x11_3,rfl,HA,HJ3,BK558,HB⟩:=hcut
  cases kq with
  | zero=>exact absurd HA.o (by simp[aQ.j0])
  | succ kj3=>
    have H:=HA.o
    clear HA
    simp only[aQ.j0] at H
    by_cases c22:x11_3=true
    ·subst c22
     have H1:(some (0,1))=some (r1,r2):=by rw[if_pos rfl] at H;exact H
     clear H
     have H:=H1
     clear H1
     simp only[Option.some.injEq,Prod.mk.injEq] at H
     obtain⟨rfl,rfl⟩:=H
     go_wp2
     repeat (go_quiet (fail);try go_wp2)
     go_ret2
     exact⟨by first | rfl | (simp[bF,bG]<;>rfl)|(simp[*,bF,bG]<;>rfl),by repeat (first|(with_reducible first | exact HB.o | apply aj | apply ay | apply aD | refine bf ?_ GE558.o)|exact HB.o)⟩
    ·replace c22:=Bool.eq_false_iff.mpr c22
     subst c22
     have H1:(if (wrap64 (a0_1-a1))<a2 then (some (0,3)) else (aQ.l0 kj3 a1 a2 0 l0_0 a0_1))=some (r1,r2):=by rw[if_neg (show ¬ (false=true) by decide)] at H;exact H
     clear H
     have H:=H1
     clear H1
     by_cases c23:(wrap64 (a0_1-a1))<a2
     ·rw[if_pos c23] at H
      have c23b0:decide ((wrap64 (a0_1-a1))<a2)=true:=decide_eq_true c23
      clear c23
      simp only[Option.some.injEq,Prod.mk.injEq] at H
      obtain⟨rfl,rfl⟩:=H
      have hcz24_0:wc.cell? ⟨gb558,0,none⟩=some (.slice A0_0 l0_0.length c0_0):=(av BK558.o 0).trans rfl
      have hcz24_1:wc.cell? ⟨gb558,1,none⟩=some (.int .i64 a0_1):=(av BK558.o 1).trans rfl
      have hfz24_0:=aC BK558.o 0
      have hfz24_1:=aC BK558.o 1
      go_wp2
      repeat (go_quiet (fail);try go_wp2)
      go_ret2
      exact⟨by first | rfl | (simp[bF,bG]<;>rfl)|(simp[*,bF,bG]<;>rfl),by repeat (first|(with_reducible first | exact HB.o | apply aj | apply ay | apply aD | refine bf ?_ GE558.o)|exact HB.o)⟩
     ·rw[if_neg c23] at H
      have c23b0:decide ((wrap64 (a0_1-a1))<a2)=false:=decide_eq_false c23
      clear c23
      have H':=ah.mk H
      clear H
      have hcz25_0:wc.cell? ⟨gb558,0,none⟩=some (.slice A0_0 l0_0.length c0_0):=(av BK558.o 0).trans rfl
      have hcz25_1:wc.cell? ⟨gb558,1,none⟩=some (.int .i64 a0_1):=(av BK558.o 1).trans rfl
      have hfz25_0:=aC BK558.o 0
      have hfz25_1:=aC BK558.o 1
      go_wp2
      repeat (go_quiet (fail);try go_wp2)
      go_loopg [1,2,8] kj3 (fun kq v1 v2 v8 w'=>∃ (x1_2:Int) (x2_2:Int) (x8_2:Int),v1 = .int .i64 x1_2∧v2 = .int .i64 x2_2∧v8 = .int .u64 x8_2∧ah (aQ.l0 kq x1_2 x2_2 x8_2 l0_0 a0_1=some (r1,r2))∧ah (kq≤kj3)∧ah (w'.heap[gb558]? = some (.cells #[(.slice A0_0 l0_0.length c0_0),.int .i64 a0_1] 149 (0,0)))∧ah (Below w.heap.size w w'))
      case atStart=>exact⟨(a1),(a2),(0),(by first | rfl | (simp;done)|(simp[*];done)),(by first | rfl | (simp;done)|(simp[*];done)),(by first | rfl | (simp;done)|(simp[*];done)),H',⟨Nat.le_refl _⟩,⟨by (with_reducible repeat (first | refine bC ?_ _ | refine bg ?_ | refine aU ?_ _));exact BK558.o⟩,⟨by repeat (first|(with_reducible first | exact HB.o | apply aj | apply ay | apply aD | refine bf ?_ GE558.o)|exact HB.o)⟩⟩
      case round=>
       clear H'
       try clear c1
       try clear c2
       try clear p2
       try clear p6
       try clear c7
       try clear c8
       try clear c8b0
       try clear c11
       try clear c11b0
       try clear c14
       try clear c14b0
       try clear c15
       try clear c22
       try clear c23
       try clear c23b0
       try clear hcz12_0
       try clear hcz12_1
       try clear hcz15_0
       try clear hcz15_1
       try clear hcz17_0
       try clear hcz17_1
       try clear hcz19_0
       try clear hcz19_1
       try clear hcz20_0
       try clear hcz20_1
       try clear hcz24_0
       try clear hcz24_1
       try clear hcz25_0
       try clear hcz25_1
       try clear hcz9_0
       try clear hcz9_1
       try clear hfz12_0
       try clear hfz12_1
       try clear hfz15_0
       try clear hfz15_1
       try clear hfz17_0
       try clear hfz17_1
       try clear hfz19_0
       try clear hfz19_1
       try clear hfz20_0
       try clear hfz20_1
       try clear hfz24_0
       try clear hfz24_1
       try clear hfz25_0
       try clear hfz25_1
       try clear hfz9_0
       try clear hfz9_1
       try clear p2
       obtain⟨x1_2,x2_2,x8_2,rfl,rfl,rfl,HA,HK2,BK558,HB⟩:=hrel
       cases gk with
       | zero=>exact absurd HA.o (by simp[aQ.l0])
       | succ k2=>
         have H:=HA.o
         clear HA
         simp only[aQ.l0] at H
         by_cases c26:x2_2>0
         ·rw[if_pos c26] at H
          have c26b0:decide (0<x2_2)=true:=decide_eq_true c26
          clear c26
          obtain⟨ji27,hji27⟩:∃ j_:Int,(mn (wrap64 (8-(Int.tmod x1_2 8))) x2_2)=j_:=⟨_,rfl⟩
          replace H:(if 0≤(ji27) then (if 0≤(wrap64 (Int.tdiv x1_2 8)) then (if (wrap64 (Int.tdiv x1_2 8))<(l0_0.length:Int) then (if 0≤(wrap64 ((wrap64 (8-(Int.tmod x1_2 8)))-(ji27))) then (aQ.l0 k2 (wrap64 (x1_2+(ji27))) (wrap64 (x2_2-(ji27))) (Go.bits .or .u64 (shl .u64 x8_2 (ji27)) (IntKind.u64.wrap (Go.bits .and .u8 (shr .u8 (rd l0_0 (wrap64 (Int.tdiv x1_2 8))) (wrap64 ((wrap64 (8-(Int.tmod x1_2 8)))-(ji27)))) (((shl .u8 1 (ji27))-1) % 256)))) l0_0 a0_1) else (none)) else (none)) else (none)) else (none))=some (r1,r2):=by first|(rw[hji27] at H;exact H)|(simp only[hji27] at H ⊢;exact H)
          have hji27_:(if x2_2<(wrap64 (8-(Int.tmod x1_2 8))) then x2_2 else (wrap64 (8-(Int.tmod x1_2 8))))=ji27:=hji27
          by_cases c28:0≤(ji27)
          ·rw[if_pos c28] at H
           have c28b0:=eq_true c28
           have c28b1:decide (0≤(ji27))=true:=decide_eq_true c28
           clear c28
           obtain⟨ji29,hji29⟩:∃ j_:Int,(shl .u64 x8_2 (ji27))=j_:=⟨_,rfl⟩
           replace H:(if 0≤(wrap64 (Int.tdiv x1_2 8)) then (if (wrap64 (Int.tdiv x1_2 8))<(l0_0.length:Int) then (if 0≤(wrap64 ((wrap64 (8-(Int.tmod x1_2 8)))-(ji27))) then (aQ.l0 k2 (wrap64 (x1_2+(ji27))) (wrap64 (x2_2-(ji27))) (Go.bits .or .u64 (ji29) (IntKind.u64.wrap (Go.bits .and .u8 (shr .u8 (rd l0_0 (wrap64 (Int.tdiv x1_2 8))) (wrap64 ((wrap64 (8-(Int.tmod x1_2 8)))-(ji27)))) (((shl .u8 1 (ji27))-1) % 256)))) l0_0 a0_1) else (none)) else (none)) else (none))=some (r1,r2):=by first|(rw[hji29] at H;exact H)|(simp only[hji29] at H ⊢;exact H)
           have hji29_:(IntKind.u64.wrap (x8_2*2 ^ min (ji27).toNat 64))=ji29:=hji29
           have hji29z:(ji27)≤64→(IntKind.u64.wrap (x8_2*2 ^ (ji27).toNat))=ji29:=jD hji29
           obtain⟨ji30,hji30⟩:∃ j_:Int,(wrap64 (Int.tdiv x1_2 8))=j_:=⟨_,rfl⟩
           replace H:(if 0≤(ji30) then (if (ji30)<(l0_0.length:Int) then (if 0≤(wrap64 ((wrap64 (8-(Int.tmod x1_2 8)))-(ji27))) then (aQ.l0 k2 (wrap64 (x1_2+(ji27))) (wrap64 (x2_2-(ji27))) (Go.bits .or .u64 (ji29) (IntKind.u64.wrap (Go.bits .and .u8 (shr .u8 (rd l0_0 (ji30)) (wrap64 ((wrap64 (8-(Int.tmod x1_2 8)))-(ji27)))) (((shl .u8 1 (ji27))-1) % 256)))) l0_0 a0_1) else (none)) else (none)) else (none))=some (r1,r2):=by first|(rw[hji30] at H;exact H)|(simp only[hji30] at H ⊢;exact H)
           have hji30w:(IntKind.i64.wrap (Int.tdiv x1_2 8))=ji30:=(dw _).trans hji30
           by_cases c31:0≤(ji30)
           ·rw[if_pos c31] at H
            have c31b0:decide (0≤(ji30))=true:=decide_eq_true c31
            clear c31
            by_cases c32:(ji30)<(l0_0.length:Int)
            ·rw[if_pos c32] at H
             have c32b0:decide ((ji30)<(l0_0.length:Int))=true:=decide_eq_true c32
             clear c32
             obtain⟨ji33,hji33⟩:∃ j_:Int,(wrap64 ((wrap64 (8-(Int.tmod x1_2 8)))-(ji27)))=j_:=⟨_,rfl⟩
             replace H:(if 0≤(ji33) then (aQ.l0 k2 (wrap64 (x1_2+(ji27))) (wrap64 (x2_2-(ji27))) (Go.bits .or .u64 (ji29) (IntKind.u64.wrap (Go.bits .and .u8 (shr .u8 (rd l0_0 (ji30)) (ji33)) (((shl .u8 1 (ji27))-1) % 256)))) l0_0 a0_1) else (none))=some (r1,r2):=by first|(rw[hji33] at H;exact H)|(simp only[hji33] at H ⊢;exact H)
             have hji33w:(IntKind.i64.wrap ((wrap64 (8-(Int.tmod x1_2 8)))-(ji27)))=ji33:=(dw _).trans hji33
             by_cases c34:0≤(ji33)
             ·rw[if_pos c34] at H
              have c34b0:=eq_true c34
              have c34b1:decide (0≤(ji33))=true:=decide_eq_true c34
              clear c34
              obtain⟨ji35,hji35⟩:∃ j_:Int,(shr .u8 (rd l0_0 (ji30)) (ji33))=j_:=⟨_,rfl⟩
              replace H:(aQ.l0 k2 (wrap64 (x1_2+(ji27))) (wrap64 (x2_2-(ji27))) (Go.bits .or .u64 (ji29) (IntKind.u64.wrap (Go.bits .and .u8 (ji35) (((shl .u8 1 (ji27))-1) % 256)))) l0_0 a0_1)=some (r1,r2):=by first|(rw[hji35] at H;exact H)|(simp only[hji35] at H ⊢;exact H)
              have hji35_:((rd l0_0 (ji30)) / 2 ^ min (ji33).toNat 8)=ji35:=hji35
              have hji35z:(ji33)≤8→((rd l0_0 (ji30)) / 2 ^ (ji33).toNat)=ji35:=sP hji35
              have c36b0:=eq_true (of_decide_eq_true (by first|(with_reducible assumption)|assumption):0≤(ji27))
              obtain⟨ji37,hji37⟩:∃ j_:Int,(shl .u8 1 (ji27))=j_:=⟨_,rfl⟩
              replace H:(aQ.l0 k2 (wrap64 (x1_2+(ji27))) (wrap64 (x2_2-(ji27))) (Go.bits .or .u64 (ji29) (IntKind.u64.wrap (Go.bits .and .u8 (ji35) (((ji37)-1) % 256)))) l0_0 a0_1)=some (r1,r2):=by first|(rw[hji37] at H;exact H)|(simp only[hji37] at H ⊢;exact H)
              have hji37_:(IntKind.u8.wrap (1*2 ^ min (ji27).toNat 8))=ji37:=hji37
              have hji37z:(ji27)≤8→(IntKind.u8.wrap (1*2 ^ (ji27).toNat))=ji37:=jD hji37
              have hji37u:(IntKind.u8.wrap (2 ^ min (ji27).toNat 8))=ji37:=by have h_:=hji37_;rw[Int.one_mul] at h_;exact h_
              have hji37v:(ji27)≤8→(IntKind.u8.wrap (2 ^ (ji27).toNat))=ji37:=fun hle_=>by have h_:=hji37z hle_;rw[Int.one_mul] at h_;exact h_
              have H':=ah.mk H
              clear H
              have hcz38_0:wr.cell? ⟨gb558,0,none⟩=some (.slice A0_0 l0_0.length c0_0):=(av BK558.o 0).trans rfl
              have hcz38_1:wr.cell? ⟨gb558,1,none⟩=some (.int .i64 a0_1):=(av BK558.o 1).trans rfl
              have hfz38_0:=aC BK558.o 0
              have hfz38_1:=aC BK558.o 1
              have p560:0≤((ji30):Int):=of_decide_eq_true (by first|(with_reducible assumption)|assumption)
              have q560:(ji30)<(l0_0.length:Int):=of_decide_eq_true (by first|(with_reducible assumption)|assumption)
              obtain⟨ad560,e560,hx560_0⟩:=Kd.kI HR0_0.o (ji30) p560 q560
              cases e560
              replace hx560_0:=(HB.o.cell (World.block_lt_of_cell? w _ hx560_0)).trans hx560_0
              replace p560:=eq_true p560
              replace q560:=eq_true q560
              go_wp2
              repeat (go_quiet (fail);try go_wp2)
              go_roundg k2
              case measure=>have:=HJ3.o;have:=HK2.o;omega
              case rel=>exact⟨(wrap64 (x1_2+(ji27))),(wrap64 (x2_2-(ji27))),(Go.bits .or .u64 (ji29) (IntKind.u64.wrap (Go.bits .and .u8 (ji35) (((ji37)-1) % 256)))),(by first | rfl | (simp;done)|(simp only[← hji27]<;>(first | rfl | simp))|(simp[*];done)),(by first | rfl | (simp;done)|(simp only[← hji27]<;>(first | rfl | simp))|(simp[*];done)),(by first | rfl | (simp;done)|(simp only[← hji29,← hji35,← hji37]<;>(first | rfl | simp))|(simp[*];done)),H',⟨by have:=HJ3.o;have:=HK2.o;omega⟩,⟨by (with_reducible repeat (first | refine bC ?_ _ | refine bg ?_ | refine aU ?_ _));exact BK558.o⟩,⟨by repeat (first|(with_reducible first | exact HB.o | apply aj | apply ay | apply aD | refine bf ?_ GE558.o)|exact HB.o)⟩⟩
             ·rw[if_neg c34] at H
              exact absurd H (by simp)
            ·rw[if_neg c32] at H
             exact absurd H (by simp)
           ·rw[if_neg c31] at H
            exact absurd H (by simp)
          ·rw[if_neg c28] at H
           exact absurd H (by simp)
         ·rw[if_neg c26] at H
          have c26b0:decide (0<x2_2)=false:=decide_eq_false c26
          clear c26
          simp only[Option.some.injEq,Prod.mk.injEq] at H
          obtain⟨rfl,rfl⟩:=H
          go_wp2
          repeat (go_quiet (fail);try go_wp2)
          go_ret2
          exact⟨by first | rfl | (simp[bF,bG]<;>rfl)|(simp[*,bF,bG]<;>rfl),by repeat (first|(with_reducible first | exact HB.o | apply aj | apply ay | apply aD | refine bf ?_ GE558.o)|exact HB.o)⟩
attribute [local go_sem] eG eH gq gu eT eU fU fV   -- for this text's walks alone
mutual
def aM.j0:Nat→Int→Bool→List Int→Int→Option (Int × Int × Int)
 | 0,_,_,_,_=>none
 | k+1,x1,x26,x564000,x564001=>if x26=true then (some (0,0,1)) else (aM.l0 k x1 0 x564000 x564001)
def aM.j2:Nat→Int→Int→List Int→Int→Option (Int × Int × Int)
 | 0,_,_,_,_=>none
 | k+1,x1,x7,x564000,x564001=>(fG.f x7).bind fun t567=>((aQ.f k x564000 x564001 x1 t567).bind fun bt568=>(if bt568.2=0 then (if t567>0 then (if 0≤(wrap64 (64-t567)) then ((aY.f k (shr .i64 (wrap64 (shl .u64 bt568.1 (wrap64 (64-t567)))) (wrap64 (64-t567)))).bind fun t570=>(if t570=x7 then (some (shr .i64 (wrap64 (shl .u64 bt568.1 (wrap64 (64-t567)))) (wrap64 (64-t567)),wrap64 (x1+t567),0)) else (some (0,0,5)))) else (none)) else ((aY.f k (wrap64 (bt568.1))).bind fun t571=>(if t571=x7 then (some (wrap64 (bt568.1),wrap64 (x1+t567),0)) else (some (0,0,5))))) else (some (0,0,bt568.2))))
def aM.l0:Nat→Int→Int→List Int→Int→Option (Int × Int × Int)
 | 0,_,_,_,_=>none
 | k+1,x1,x7,x564000,x564001=>if x7<4 then ((aQ.f k x564000 x564001 x1 1).bind fun bt565=>(if bt565.2=0 then (if bt565.1=0 then (aM.j2 k (wrap64 (x1+1)) x7 x564000 x564001) else (aM.l0 k (wrap64 (x1+1)) (wrap64 (x7+1)) x564000 x564001)) else (some (0,0,bt565.2)))) else (aM.j2 k x1 x7 x564000 x564001)
end
def aM.f (k:Nat) (l0_0:List Int) (a0_1:Int) (a1:Int):Option (Int × Int × Int):=(bZ.f l0_0 a0_1).bind fun t564=>(if t564=true then (if a1<0 then (aM.j0 k a1 true l0_0 a0_1) else (aM.j0 k a1 (decide (a1>a0_1)) l0_0 a0_1)) else (aM.j0 k a1 true l0_0 a0_1))
theorem aM.fA:∀ k,(∀ y0 y1 y2 y3,bV (aM.j0 k y0 y1 y2 y3) (aM.j0 (k+1) y0 y1 y2 y3))∧(∀ y0 y1 y2 y3,bV (aM.j2 k y0 y1 y2 y3) (aM.j2 (k+1) y0 y1 y2 y3))∧(∀ y0 y1 y2 y3,bV (aM.l0 k y0 y1 y2 y3) (aM.l0 (k+1) y0 y1 y2 y3))
 | 0=>⟨fun _ _ _ _ r h=>by simp[aM.j0] at h,fun _ _ _ _ r h=>by simp[aM.j2] at h,fun _ _ _ _ r h=>by simp[aM.l0] at h⟩
 | k+1=>by
   obtain⟨ih0,ih1,ih2⟩:=aM.fA k
   refine⟨?_,?_,?_⟩
   ·intro y0 y1 y2 y3
    unfold aM.j0
    repeat' first
    | (with_reducible exact ih0 _ _ _ _)
    | (with_reducible exact ih1 _ _ _ _)
    | (with_reducible exact ih2 _ _ _ _)
    | (with_reducible exact aQ.mono _ _ _ _ _)
    | (with_reducible exact aY.mono _ _)
    | (with_reducible exact bV.refl _)
    | (with_reducible exact bV.none _)
    | (with_reducible refine bV.ite ?_ ?_)
    | (with_reducible refine bV.bind ?_ (fun _=>?_))
    | exact ih0 _ _ _ _
    | exact ih1 _ _ _ _
    | exact ih2 _ _ _ _
    | exact aQ.mono _ _ _ _ _
    | exact aY.mono _ _
    | exact bV.none _
    | refine bV.ite ?_ ?_
    | refine bV.bind ?_ (fun _=>?_)
   ·intro y0 y1 y2 y3
    unfold aM.j2
    repeat' first
    | (with_reducible exact ih0 _ _ _ _)
    | (with_reducible exact ih1 _ _ _ _)
    | (with_reducible exact ih2 _ _ _ _)
    | (with_reducible exact aQ.mono _ _ _ _ _)
    | (with_reducible exact aY.mono _ _)
    | (with_reducible exact bV.refl _)
    | (with_reducible exact bV.none _)
    | (with_reducible refine bV.ite ?_ ?_)
    | (with_reducible refine bV.bind ?_ (fun _=>?_))
    | exact ih0 _ _ _ _
    | exact ih1 _ _ _ _
    | exact ih2 _ _ _ _
    | exact aQ.mono _ _ _ _ _
    | exact aY.mono _ _
    | exact bV.none _
    | refine bV.ite ?_ ?_
    | refine bV.bind ?_ (fun _=>?_)
   ·intro y0 y1 y2 y3
    unfold aM.l0
    repeat' first
    | (with_reducible exact ih0 _ _ _ _)
    | (with_reducible exact ih1 _ _ _ _)
    | (with_reducible exact ih2 _ _ _ _)
    | (with_reducible exact aQ.mono _ _ _ _ _)
    | (with_reducible exact aY.mono _ _)
    | (with_reducible exact bV.refl _)
    | (with_reducible exact bV.none _)
    | (with_reducible refine bV.ite ?_ ?_)
    | (with_reducible refine bV.bind ?_ (fun _=>?_))
    | exact ih0 _ _ _ _
    | exact ih1 _ _ _ _
    | exact ih2 _ _ _ _
    | exact aQ.mono _ _ _ _ _
    | exact aY.mono _ _
    | exact bV.none _
    | refine bV.ite ?_ ?_
    | refine bV.bind ?_ (fun _=>?_)
theorem aM.mono:∀ a0 a1 a2 k,bV (aM.f k a0 a1 a2) (aM.f (k+1) a0 a1 a2):=by
 intro a0 a1 a2 k
 obtain⟨ih0,ih1,ih2⟩:=aM.fA k
 unfold aM.f
 repeat' first
  | (with_reducible exact ih0 _ _ _ _)
  | (with_reducible exact ih1 _ _ _ _)
  | (with_reducible exact ih2 _ _ _ _)
  | (with_reducible exact aQ.mono _ _ _ _ _)
  | (with_reducible exact aY.mono _ _)
  | (with_reducible exact bV.refl _)
  | (with_reducible exact bV.none _)
  | (with_reducible refine bV.ite ?_ ?_)
  | (with_reducible refine bV.bind ?_ (fun _=>?_))
  | exact ih0 _ _ _ _
  | exact ih1 _ _ _ _
  | exact ih2 _ _ _ _
  | exact aQ.mono _ _ _ _ _
  | exact aY.mono _ _
  | exact bV.none _
  | refine bV.ite ?_ ?_
  | refine bV.bind ?_ (fun _=>?_)
theorem aM.calls (k:Nat) (A0_0:Option Addr) (c0_0:Nat) (l0_0:List Int) (a0_1:Int) (a1:Int) (r1:Int) (r2:Int) (r3:Int) (w:World) (hr0_0:Kd.C (Kd.int .u8) w A0_0 l0_0.length l0_0) (hc0_0:l0_0.length≤c0_0) (h:aM.f k l0_0 a0_1 a1=some (r1,r2,r3)) :
 Calls Tryz.prog 157 #[.agg #[.slice A0_0 l0_0.length c0_0,.int .i64 a0_1],.int .i64 a1] w fun e w'=>e = .returned (.tuple #[.int .i64 r1,.int .i64 r2,.int .i64 r3])∧Below w.heap.size w w':=by
 have hu149:=Tryz.underlying149
 have HR0_0:=ah.mk hr0_0
 have HC0_0:=ah.mk hc0_0
 clear hr0_0 hc0_0
 have HB:=ah.mk (Below.refl w.heap.size w)
 have H:((bZ.f l0_0 a0_1).bind fun t564=>(if t564=true then (if a1<0 then (aM.j0 k a1 true l0_0 a0_1) else (aM.j0 k a1 (decide (a1>a0_1)) l0_0 a0_1)) else (aM.j0 k a1 true l0_0 a0_1)))=some (r1,r2,r3):=h
 clear h
 have HC3:=ah.mk H
 clear H
 go_enter Tryz.func157,Tryz.ntmps157
 go_upto_region 1 with (first|((with_reducible refine bM (N:=2) rfl ?_);refine cZ ?hg (N:=2) ?hd (cs := #[.slice A0_0 l0_0.length c0_0,.int .i64 a0_1]) (t:=149) ?hr ?_;(case hd=>rfl);(case hg=>rfl);(case hr=>first|(go_simp;done)|(go_simp;rfl));intro gb563 hg w4 hbox hb;have n0_:=ah.mk (ak (by repeat (first|(with_reducible first | exact HB.o | apply aj | apply ay | apply aD)|exact HB.o)) hb);have n1_:=ah.mk (hbox);have n2_:=ah.mk ((by rw[hg];exact (aZ (by repeat (first|(with_reducible first | exact HB.o | apply aj | apply ay | apply aD)|exact HB.o))):w.heap.size≤gb563));have n3_:=ah.mk ((by rw[hg];exact (aZ (by repeat (first|(with_reducible first | exact HB.o | apply aj | apply ay | apply aD)|exact HB.o))):w.heap.size≤gb563));clear HB;have HB:=n0_;have BK563:=n1_;have GW563:=n2_;have GE563:=n3_;clear n0_ n1_ n2_ n3_;clear hb hbox hg))
 (try simp only[Act.put,List.setIfInBounds_toArray,List.set_cons_zero,List.set_cons_succ])
 go_cut [26] (fun v26 wc=>∃ (kq:Nat) (x26_2:Bool),v26 = .bool x26_2∧ah (aM.j0 kq a1 x26_2 l0_0 a0_1=some (r1,r2,r3))∧ah (kq≤k)∧ah (wc.heap[gb563]? = some (.cells #[(.slice A0_0 l0_0.length c0_0),.int .i64 a0_1] 149 (0,0)))∧ah (Below w.heap.size w wc))
 case first=>
  have H:=HC3.o
  clear HC3
  replace H:=Option.bind_eq_some_iff.mp H
  obtain⟨t564,A50,H⟩:=H
  replace H:(if t564=true then (if a1<0 then (aM.j0 k a1 true l0_0 a0_1) else (aM.j0 k a1 (decide (a1>a0_1)) l0_0 a0_1)) else (aM.j0 k a1 true l0_0 a0_1))=some (r1,r2,r3):=H
  have A5:=ah.mk A50
  clear A50
  by_cases c6:t564=true
  ·subst c6
   have H1:(if a1<0 then (aM.j0 k a1 true l0_0 a0_1) else (aM.j0 k a1 (decide (a1>a0_1)) l0_0 a0_1))=some (r1,r2,r3):=by rw[if_pos rfl] at H;exact H
   clear H
   have H:=H1
   clear H1
   by_cases c7:a1<0
   ·rw[if_pos c7] at H
    have c7b0:decide (a1<0)=true:=decide_eq_true c7
    clear c7
    (first | rw[c7b0] | (simp only[dw,fu];rw[c7b0])|skip)
    have H':=ah.mk H
    clear H
    have hcz8_0:w4.cell? ⟨gb563,0,none⟩=some (.slice A0_0 l0_0.length c0_0):=(av BK563.o 0).trans rfl
    have hcz8_1:w4.cell? ⟨gb563,1,none⟩=some (.int .i64 a0_1):=(av BK563.o 1).trans rfl
    have hfz8_0:=aC BK563.o 0
    have hfz8_1:=aC BK563.o 1
    go_wp2_with (first|((with_reducible refine bY (f:=141) rfl ?_);refine gT (some 15) rfl rfl Tryz.func141 (by kernel_rfl) rfl #[.agg #[.slice A0_0 l0_0.length c0_0,.int .i64 a0_1]] rfl (by (try simp only[List.map_toArray,List.map_cons,List.map_nil]);first | done | rfl | (simp only[List.length_drop,List.length_take];rfl)) ?_;(with_reducible refine (bZ.calls _ _ l0_0 a0_1 true _ ?side1 ?side2 A5.o).mono ?_);(case side1=>repeat (first | exact (Kd.aH HR0_0.o HB.o)|(with_reducible refine Kd.bW ?_ _)|(with_reducible refine Kd.dA ?_ _)|(with_reducible refine Kd.dF ?_)));(case side2=>exact HC0_0.o);rintro e w9 ⟨rfl,hb⟩;refine⟨_,rfl,?_⟩;have n0_:=ah.mk (aG (g:=gb563) (o := .cells #[.slice A0_0 l0_0.length c0_0,.int .i64 a0_1] 149 (0,0)) (by (with_reducible repeat (first | refine bC ?_ _ | refine bg ?_ | refine aU ?_ _));exact BK563.o) hb);have n1_:=ah.mk (ak (by repeat (first|(with_reducible first | exact HB.o | apply aj | apply ay | apply aD | refine bf ?_ GE563.o)|exact HB.o)) hb);clear BK563;clear HB;have BK563:=n0_;have HB:=n1_;clear n0_ n1_;(try clear hb);(try clear hb2);(try clear hk);(try clear hi)))
    go_meet
    case rel=>exact⟨_,(true),(by first | rfl | (simp;done)|(simp[*];done)),H',⟨by first | omega | exact Nat.le_refl _⟩,⟨by (with_reducible repeat (first | refine bC ?_ _ | refine bg ?_ | refine aU ?_ _));exact BK563.o⟩,⟨by repeat (first|(with_reducible first | exact HB.o | apply aj | apply ay | apply aD | refine bf ?_ GE563.o)|exact HB.o)⟩⟩
   ·rw[if_neg c7] at H
    have c7b0:decide (a1<0)=false:=decide_eq_false c7
    clear c7
    (first | rw[c7b0] | (simp only[dw,fu];rw[c7b0])|skip)
    have H':=ah.mk H
    clear H
    have hcz10_0:w4.cell? ⟨gb563,0,none⟩=some (.slice A0_0 l0_0.length c0_0):=(av BK563.o 0).trans rfl
    have hcz10_1:w4.cell? ⟨gb563,1,none⟩=some (.int .i64 a0_1):=(av BK563.o 1).trans rfl
    have hfz10_0:=aC BK563.o 0
    have hfz10_1:=aC BK563.o 1
    go_wp2_with (first|((with_reducible refine bY (f:=141) rfl ?_);refine gT (some 15) rfl rfl Tryz.func141 (by kernel_rfl) rfl #[.agg #[.slice A0_0 l0_0.length c0_0,.int .i64 a0_1]] rfl (by (try simp only[List.map_toArray,List.map_cons,List.map_nil]);first | done | rfl | (simp only[List.length_drop,List.length_take];rfl)) ?_;(with_reducible refine (bZ.calls _ _ l0_0 a0_1 true _ ?side1 ?side2 A5.o).mono ?_);(case side1=>repeat (first | exact (Kd.aH HR0_0.o HB.o)|(with_reducible refine Kd.bW ?_ _)|(with_reducible refine Kd.dA ?_ _)|(with_reducible refine Kd.dF ?_)));(case side2=>exact HC0_0.o);rintro e w11 ⟨rfl,hb⟩;refine⟨_,rfl,?_⟩;have n0_:=ah.mk (aG (g:=gb563) (o := .cells #[.slice A0_0 l0_0.length c0_0,.int .i64 a0_1] 149 (0,0)) (by (with_reducible repeat (first | refine bC ?_ _ | refine bg ?_ | refine aU ?_ _));exact BK563.o) hb);have n1_:=ah.mk (ak (by repeat (first|(with_reducible first | exact HB.o | apply aj | apply ay | apply aD | refine bf ?_ GE563.o)|exact HB.o)) hb);clear BK563;clear HB;have BK563:=n0_;have HB:=n1_;clear n0_ n1_;(try clear hb);(try clear hb2);(try clear hk);(try clear hi);have hcz12_0:w11.cell? ⟨gb563,0,none⟩=some (.slice A0_0 l0_0.length c0_0):=(av BK563.o 0).trans rfl;have hcz12_1:w11.cell? ⟨gb563,1,none⟩=some (.int .i64 a0_1):=(av BK563.o 1).trans rfl;have hfz12_0:=aC BK563.o 0;have hfz12_1:=aC BK563.o 1))
    go_meet
    case rel=>exact⟨_,(decide (a1>a0_1)),(by first | rfl | (simp;done)|(simp[*];done)),H',⟨by first | omega | exact Nat.le_refl _⟩,⟨by (with_reducible repeat (first | refine bC ?_ _ | refine bg ?_ | refine aU ?_ _));exact BK563.o⟩,⟨by repeat (first|(with_reducible first | exact HB.o | apply aj | apply ay | apply aD | refine bf ?_ GE563.o)|exact HB.o)⟩⟩
  ·replace c6:=Bool.eq_false_iff.mpr c6
   subst c6
   have H1:(aM.j0 k a1 true l0_0 a0_1)=some (r1,r2,r3):=by rw[if_neg (show ¬ (false=true) by decide)] at H;exact H
   clear H
   have H:=H1
   clear H1
   have H':=ah.mk H
   clear H
   have hcz13_0:w4.cell? ⟨gb563,0,none⟩=some (.slice A0_0 l0_0.length c0_0):=(av BK563.o 0).trans rfl
   have hcz13_1:w4.cell? ⟨gb563,1,none⟩=some (.int .i64 a0_1):=(av BK563.o 1).trans rfl
   have hfz13_0:=aC BK563.o 0
   have hfz13_1:=aC BK563.o 1
   go_wp2_with (first|((with_reducible refine bY (f:=141) rfl ?_);refine gT (some 15) rfl rfl Tryz.func141 (by kernel_rfl) rfl #[.agg #[.slice A0_0 l0_0.length c0_0,.int .i64 a0_1]] rfl (by (try simp only[List.map_toArray,List.map_cons,List.map_nil]);first | done | rfl | (simp only[List.length_drop,List.length_take];rfl)) ?_;(with_reducible refine (bZ.calls _ _ l0_0 a0_1 false _ ?side1 ?side2 A5.o).mono ?_);(case side1=>repeat (first | exact (Kd.aH HR0_0.o HB.o)|(with_reducible refine Kd.bW ?_ _)|(with_reducible refine Kd.dA ?_ _)|(with_reducible refine Kd.dF ?_)));(case side2=>exact HC0_0.o);rintro e w14 ⟨rfl,hb⟩;refine⟨_,rfl,?_⟩;have n0_:=ah.mk (aG (g:=gb563) (o := .cells #[.slice A0_0 l0_0.length c0_0,.int .i64 a0_1] 149 (0,0)) (by (with_reducible repeat (first | refine bC ?_ _ | refine bg ?_ | refine aU ?_ _));exact BK563.o) hb);have n1_:=ah.mk (ak (by repeat (first|(with_reducible first | exact HB.o | apply aj | apply ay | apply aD | refine bf ?_ GE563.o)|exact HB.o)) hb);clear BK563;clear HB;have BK563:=n0_;have HB:=n1_;clear n0_ n1_;(try clear hb);(try clear hb2);(try clear hk);(try clear hi)))
   go_meet
   case rel=>exact⟨_,(true),(by first | rfl | (simp;done)|(simp[*];done)),H',⟨by first | omega | exact Nat.le_refl _⟩,⟨by (with_reducible repeat (first | refine bC ?_ _ | refine bg ?_ | refine aU ?_ _));exact BK563.o⟩,⟨by repeat (first|(with_reducible first | exact HB.o | apply aj | apply ay | apply aD | refine bf ?_ GE563.o)|exact HB.o)⟩⟩
 case rest=>
  clear HC3
  try clear c1
  try clear p2
  try clear c6
  try clear c7
  try clear c7b0
  try clear c14
  try clear hcz10_0
  try clear hcz10_1
  try clear hcz12_0
  try clear hcz12_1
  try clear hcz13_0
  try clear hcz13_1
  try clear hcz8_0
  try clear hcz8_1
  try clear hfz10_0
  try clear hfz10_1
  try clear hfz12_0
  try clear hfz12_1
  try clear hfz13_0
  try clear hfz13_1
  try clear hfz8_0
  try clear hfz8_1
  obtain⟨kq,x26_2,rfl,HA,HJ2,BK563,HB⟩:=hcut
  cases kq with
  | zero=>exact absurd HA.o (by simp[aM.j0])
  | succ kj2=>
    have H:=HA.o
    clear HA
    simp only[aM.j0] at H
    by_cases c15:x26_2=true
    ·subst c15
     have H1:(some (0,0,1))=some (r1,r2,r3):=by rw[if_pos rfl] at H;exact H
     clear H
     have H:=H1
     clear H1
     simp only[Option.some.injEq,Prod.mk.injEq] at H
     obtain⟨rfl,rfl,rfl⟩:=H
     go_wp2
     go_ret3
     exact⟨by first | rfl | (simp[bF,bG]<;>rfl)|(simp[*,bF,bG]<;>rfl),by repeat (first|(with_reducible first | exact HB.o | apply aj | apply ay | apply aD | refine bf ?_ GE563.o)|exact HB.o)⟩
    ·replace c15:=Bool.eq_false_iff.mpr c15
     subst c15
     have H1:(aM.l0 kj2 a1 0 l0_0 a0_1)=some (r1,r2,r3):=by rw[if_neg (show ¬ (false=true) by decide)] at H;exact H
     clear H
     have H:=H1
     clear H1
     have HC16:=ah.mk H
     clear H
     go_upto_block 0 with (fail)
     go_cut [1,7] (fun v1 v7 wc=>∃ (kq:Nat) (x1_15:Int) (x7_15:Int),v1 = .int .i64 x1_15∧v7 = .int .i64 x7_15∧ah (aM.j2 kq x1_15 x7_15 l0_0 a0_1=some (r1,r2,r3))∧ah (kq≤kj2)∧ah (wc.heap[gb563]? = some (.cells #[(.slice A0_0 l0_0.length c0_0),.int .i64 a0_1] 149 (0,0)))∧ah (Below w.heap.size w wc))
     case first=>
      have H:=HC16.o
      clear HC16
      have H':=ah.mk H
      clear H
      go_wp2
      go_loopg [1,7] kj2 (fun kq v1 v7 w'=>∃ (x1_2:Int) (x7_2:Int),v1 = .int .i64 x1_2∧v7 = .int .i64 x7_2∧ah (aM.l0 kq x1_2 x7_2 l0_0 a0_1=some (r1,r2,r3))∧ah (kq≤kj2)∧ah (w'.heap[gb563]? = some (.cells #[(.slice A0_0 l0_0.length c0_0),.int .i64 a0_1] 149 (0,0)))∧ah (Below w.heap.size w w'))
      case atStart=>exact⟨(a1),(0),(by first | rfl | (simp;done)|(simp[*];done)),(by first | rfl | (simp;done)|(simp[*];done)),H',⟨Nat.le_refl _⟩,⟨by (with_reducible repeat (first | refine bC ?_ _ | refine bg ?_ | refine aU ?_ _));exact BK563.o⟩,⟨by repeat (first|(with_reducible first | exact HB.o | apply aj | apply ay | apply aD | refine bf ?_ GE563.o)|exact HB.o)⟩⟩
      case round=>
       clear H'
       try clear c1
       try clear p2
       try clear c6
       try clear c7
       try clear c7b0
       try clear c14
       try clear c15
       try clear hcz10_0
       try clear hcz10_1
       try clear hcz12_0
       try clear hcz12_1
       try clear hcz13_0
       try clear hcz13_1
       try clear hcz8_0
       try clear hcz8_1
       try clear hfz10_0
       try clear hfz10_1
       try clear hfz12_0
       try clear hfz12_1
       try clear hfz13_0
       try clear hfz13_1
       try clear hfz8_0
       try clear hfz8_1
       try clear p2
       obtain⟨x1_2,x7_2,rfl,rfl,HA,HK2,BK563,HB⟩:=hrel
       cases gk with
       | zero=>exact absurd HA.o (by simp[aM.l0])
       | succ k2=>
         have H:=HA.o
         clear HA
         simp only[aM.l0] at H
         by_cases c17:x7_2<4
         ·rw[if_pos c17] at H
          have c17b0:decide (x7_2<4)=true:=decide_eq_true c17
          clear c17
          (first | rw[c17b0] | (simp only[dw,fu];rw[c17b0])|skip)
          replace H:=Option.bind_eq_some_iff.mp H
          obtain⟨⟨t565,t566⟩,A180,H⟩:=H
          replace H:(if t566=0 then (if t565=0 then (aM.j2 k2 (wrap64 (x1_2+1)) x7_2 l0_0 a0_1) else (aM.l0 k2 (wrap64 (x1_2+1)) (wrap64 (x7_2+1)) l0_0 a0_1)) else (some (0,0,t566)))=some (r1,r2,r3):=H
          have A18:=ah.mk A180
          clear A180
          by_cases c19:t566=0
          ·rw[if_pos c19] at H
           have c19b0:(t566==0)=true:=beq_iff_eq.mpr c19
           have c19b1:(t566 != 0)=false:=bne_eq_false_iff_eq.mpr c19
           clear c19
           by_cases c20:t565=0
           ·rw[if_pos c20] at H
            have c20b0:(t565==0)=true:=beq_iff_eq.mpr c20
            have c20b1:(t565 != 0)=false:=bne_eq_false_iff_eq.mpr c20
            clear c20
            have H':=ah.mk H
            clear H
            have hcz21_0:wr.cell? ⟨gb563,0,none⟩=some (.slice A0_0 l0_0.length c0_0):=(av BK563.o 0).trans rfl
            have hcz21_1:wr.cell? ⟨gb563,1,none⟩=some (.int .i64 a0_1):=(av BK563.o 1).trans rfl
            have hfz21_0:=aC BK563.o 0
            have hfz21_1:=aC BK563.o 1
            go_wp2_with (first|((with_reducible refine bY (f:=156) rfl ?_);refine gT (some 32) rfl rfl Tryz.func156 (by kernel_rfl) rfl #[.agg #[.slice A0_0 l0_0.length c0_0,.int .i64 a0_1],.int .i64 x1_2,.int .i64 1] rfl (by (try simp only[List.map_toArray,List.map_cons,List.map_nil]);first | done | rfl | (simp only[List.length_drop,List.length_take];rfl)) ?_;(with_reducible refine (aQ.calls k2 _ _ l0_0 a0_1 x1_2 1 t565 t566 _ ?side1 ?side2 A18.o).mono ?_);(case side1=>repeat (first | exact (Kd.aH HR0_0.o HB.o)|(with_reducible refine Kd.bW ?_ _)|(with_reducible refine Kd.dA ?_ _)|(with_reducible refine Kd.dF ?_)));(case side2=>exact HC0_0.o);rintro e w22 ⟨rfl,hb⟩;refine⟨_,rfl,?_⟩;have n0_:=ah.mk (aG (g:=gb563) (o := .cells #[.slice A0_0 l0_0.length c0_0,.int .i64 a0_1] 149 (0,0)) (by (with_reducible repeat (first | refine bC ?_ _ | refine bg ?_ | refine aU ?_ _));exact BK563.o) hb);have n1_:=ah.mk (ak (by repeat (first|(with_reducible first | exact HB.o | apply aj | apply ay | apply aD | refine bf ?_ GE563.o)|exact HB.o)) hb);clear BK563;clear HB;have BK563:=n0_;have HB:=n1_;clear n0_ n1_;(try clear hb);(try clear hb2);(try clear hk);(try clear hi)))
            go_meet
            case rel=>exact⟨_,(wrap64 (x1_2+1)),(x7_2),(by first | rfl | (simp;done)|(simp[*];done)),(by first | rfl | (simp;done)|(simp[*];done)),H',⟨by have:=HJ2.o;have:=HK2.o;first | omega | exact Nat.le_refl _⟩,⟨by (with_reducible repeat (first | refine bC ?_ _ | refine bg ?_ | refine aU ?_ _));exact BK563.o⟩,⟨by repeat (first|(with_reducible first | exact HB.o | apply aj | apply ay | apply aD | refine bf ?_ GE563.o)|exact HB.o)⟩⟩
           ·rw[if_neg c20] at H
            have c20b0:(t565==0)=false:=beq_eq_false_iff_ne.mpr c20
            have c20b1:(t565 != 0)=true:=bne_iff_ne.mpr c20
            have H':=ah.mk H
            clear H
            have hcz23_0:wr.cell? ⟨gb563,0,none⟩=some (.slice A0_0 l0_0.length c0_0):=(av BK563.o 0).trans rfl
            have hcz23_1:wr.cell? ⟨gb563,1,none⟩=some (.int .i64 a0_1):=(av BK563.o 1).trans rfl
            have hfz23_0:=aC BK563.o 0
            have hfz23_1:=aC BK563.o 1
            go_wp2_with (first|((with_reducible refine bY (f:=156) rfl ?_);refine gT (some 32) rfl rfl Tryz.func156 (by kernel_rfl) rfl #[.agg #[.slice A0_0 l0_0.length c0_0,.int .i64 a0_1],.int .i64 x1_2,.int .i64 1] rfl (by (try simp only[List.map_toArray,List.map_cons,List.map_nil]);first | done | rfl | (simp only[List.length_drop,List.length_take];rfl)) ?_;(with_reducible refine (aQ.calls k2 _ _ l0_0 a0_1 x1_2 1 t565 t566 _ ?side1 ?side2 A18.o).mono ?_);(case side1=>repeat (first | exact (Kd.aH HR0_0.o HB.o)|(with_reducible refine Kd.bW ?_ _)|(with_reducible refine Kd.dA ?_ _)|(with_reducible refine Kd.dF ?_)));(case side2=>exact HC0_0.o);rintro e w24 ⟨rfl,hb⟩;refine⟨_,rfl,?_⟩;have n0_:=ah.mk (aG (g:=gb563) (o := .cells #[.slice A0_0 l0_0.length c0_0,.int .i64 a0_1] 149 (0,0)) (by (with_reducible repeat (first | refine bC ?_ _ | refine bg ?_ | refine aU ?_ _));exact BK563.o) hb);have n1_:=ah.mk (ak (by repeat (first|(with_reducible first | exact HB.o | apply aj | apply ay | apply aD | refine bf ?_ GE563.o)|exact HB.o)) hb);clear BK563;clear HB;have BK563:=n0_;have HB:=n1_;clear n0_ n1_;(try clear hb);(try clear hb2);(try clear hk);(try clear hi)))
            go_roundg k2
            case measure=>have:=HJ2.o;have:=HK2.o;omega
            case rel=>exact⟨(wrap64 (x1_2+1)),(wrap64 (x7_2+1)),(by first | rfl | (simp;done)|(simp[*];done)),(by first | rfl | (simp;done)|(simp[*];done)),H',⟨by have:=HJ2.o;have:=HK2.o;omega⟩,⟨by (with_reducible repeat (first | refine bC ?_ _ | refine bg ?_ | refine aU ?_ _));exact BK563.o⟩,⟨by repeat (first|(with_reducible first | exact HB.o | apply aj | apply ay | apply aD | refine bf ?_ GE563.o)|exact HB.o)⟩⟩
          ·rw[if_neg c19] at H
           have c19b0:(t566==0)=false:=beq_eq_false_iff_ne.mpr c19
           have c19b1:(t566 != 0)=true:=bne_iff_ne.mpr c19
           simp only[Option.some.injEq,Prod.mk.injEq] at H
           obtain⟨rfl,rfl,rfl⟩:=H
           have hcz25_0:wr.cell? ⟨gb563,0,none⟩=some (.slice A0_0 l0_0.length c0_0):=(av BK563.o 0).trans rfl
           have hcz25_1:wr.cell? ⟨gb563,1,none⟩=some (.int .i64 a0_1):=(av BK563.o 1).trans rfl
           have hfz25_0:=aC BK563.o 0
           have hfz25_1:=aC BK563.o 1
           go_wp2_with (first|((with_reducible refine bY (f:=156) rfl ?_);refine gT (some 32) rfl rfl Tryz.func156 (by kernel_rfl) rfl #[.agg #[.slice A0_0 l0_0.length c0_0,.int .i64 a0_1],.int .i64 x1_2,.int .i64 1] rfl (by (try simp only[List.map_toArray,List.map_cons,List.map_nil]);first | done | rfl | (simp only[List.length_drop,List.length_take];rfl)) ?_;(with_reducible refine (aQ.calls k2 _ _ l0_0 a0_1 x1_2 1 t565 t566 _ ?side1 ?side2 A18.o).mono ?_);(case side1=>repeat (first | exact (Kd.aH HR0_0.o HB.o)|(with_reducible refine Kd.bW ?_ _)|(with_reducible refine Kd.dA ?_ _)|(with_reducible refine Kd.dF ?_)));(case side2=>exact HC0_0.o);rintro e w26 ⟨rfl,hb⟩;refine⟨_,rfl,?_⟩;have n0_:=ah.mk (aG (g:=gb563) (o := .cells #[.slice A0_0 l0_0.length c0_0,.int .i64 a0_1] 149 (0,0)) (by (with_reducible repeat (first | refine bC ?_ _ | refine bg ?_ | refine aU ?_ _));exact BK563.o) hb);have n1_:=ah.mk (ak (by repeat (first|(with_reducible first | exact HB.o | apply aj | apply ay | apply aD | refine bf ?_ GE563.o)|exact HB.o)) hb);clear BK563;clear HB;have BK563:=n0_;have HB:=n1_;clear n0_ n1_;(try clear hb);(try clear hb2);(try clear hk);(try clear hi)))
           go_ret3
           exact⟨by first | rfl | (simp[bF,bG]<;>rfl)|(simp[*,bF,bG]<;>rfl),by repeat (first|(with_reducible first | exact HB.o | apply aj | apply ay | apply aD | refine bf ?_ GE563.o)|exact HB.o)⟩
         ·rw[if_neg c17] at H
          have c17b0:decide (x7_2<4)=false:=decide_eq_false c17
          clear c17
          (first | rw[c17b0] | (simp only[dw,fu];rw[c17b0])|skip)
          have H':=ah.mk H
          clear H
          go_wp2
          go_meet
          case rel=>exact⟨_,(x1_2),(x7_2),(by first | rfl | (simp;done)|(simp[*];done)),(by first | rfl | (simp;done)|(simp[*];done)),H',⟨by have:=HJ2.o;have:=HK2.o;first | omega | exact Nat.le_refl _⟩,⟨by (with_reducible repeat (first | refine bC ?_ _ | refine bg ?_ | refine aU ?_ _));exact BK563.o⟩,⟨by repeat (first|(with_reducible first | exact HB.o | apply aj | apply ay | apply aD | refine bf ?_ GE563.o)|exact HB.o)⟩⟩
     case rest=>
      clear HC16
      try clear c1
      try clear c2
      try clear p2
      try clear c6
      try clear p6
      try clear c7
      try clear c7b0
      try clear c14
      try clear c15
      try clear c17
      try clear c17b0
      try clear c19
      try clear c19b0
      try clear c19b1
      try clear c20
      try clear c20b0
      try clear c20b1
      try clear hcz10_0
      try clear hcz10_1
      try clear hcz12_0
      try clear hcz12_1
      try clear hcz13_0
      try clear hcz13_1
      try clear hcz21_0
      try clear hcz21_1
      try clear hcz23_0
      try clear hcz23_1
      try clear hcz25_0
      try clear hcz25_1
      try clear hcz8_0
      try clear hcz8_1
      try clear hfz10_0
      try clear hfz10_1
      try clear hfz12_0
      try clear hfz12_1
      try clear hfz13_0
      try clear hfz13_1
      try clear hfz21_0
      try clear hfz21_1
      try clear hfz23_0
      try clear hfz23_1
      try clear hfz25_0
      try clear hfz25_1
      try clear hfz8_0
      try clear hfz8_1
      try clear p2
      obtain⟨kq,x1_15,x7_15,rfl,rfl,HA,HJ15,BK563,HB⟩:=hcut
      cases kq with
      | zero=>exact absurd HA.o (by simp[aM.j2])
      | succ kj15=>
        have H:=HA.o
        clear HA
        simp only[aM.j2] at H
        replace H:=Option.bind_eq_some_iff.mp H
        obtain⟨t567,A270,H⟩:=H
        replace H:((aQ.f kj15 l0_0 a0_1 x1_15 t567).bind fun bt568=>(if bt568.2=0 then (if t567>0 then (if 0≤(wrap64 (64-t567)) then ((aY.f kj15 (shr .i64 (wrap64 (shl .u64 bt568.1 (wrap64 (64-t567)))) (wrap64 (64-t567)))).bind fun t570=>(if t570=x7_15 then (some (shr .i64 (wrap64 (shl .u64 bt568.1 (wrap64 (64-t567)))) (wrap64 (64-t567)),wrap64 (x1_15+t567),0)) else (some (0,0,5)))) else (none)) else ((aY.f kj15 (wrap64 (bt568.1))).bind fun t571=>(if t571=x7_15 then (some (wrap64 (bt568.1),wrap64 (x1_15+t567),0)) else (some (0,0,5))))) else (some (0,0,bt568.2))))=some (r1,r2,r3):=H
        have A27:=ah.mk A270
        clear A270
        replace H:=Option.bind_eq_some_iff.mp H
        obtain⟨⟨t568,t569⟩,A280,H⟩:=H
        replace H:(if t569=0 then (if t567>0 then (if 0≤(wrap64 (64-t567)) then ((aY.f kj15 (shr .i64 (wrap64 (shl .u64 t568 (wrap64 (64-t567)))) (wrap64 (64-t567)))).bind fun t570=>(if t570=x7_15 then (some (shr .i64 (wrap64 (shl .u64 t568 (wrap64 (64-t567)))) (wrap64 (64-t567)),wrap64 (x1_15+t567),0)) else (some (0,0,5)))) else (none)) else ((aY.f kj15 (wrap64 (t568))).bind fun t571=>(if t571=x7_15 then (some (wrap64 (t568),wrap64 (x1_15+t567),0)) else (some (0,0,5))))) else (some (0,0,t569)))=some (r1,r2,r3):=H
        have A28:=ah.mk A280
        clear A280
        by_cases c29:t569=0
        ·rw[if_pos c29] at H
         have c29b0:(t569==0)=true:=beq_iff_eq.mpr c29
         have c29b1:(t569 != 0)=false:=bne_eq_false_iff_eq.mpr c29
         clear c29
         by_cases c30:t567>0
         ·rw[if_pos c30] at H
          have c30b0:decide (0<t567)=true:=decide_eq_true c30
          clear c30
          obtain⟨ji31,hji31⟩:∃ j_:Int,(wrap64 (64-t567))=j_:=⟨_,rfl⟩
          replace H:(if 0≤(ji31) then ((aY.f kj15 (shr .i64 (wrap64 (shl .u64 t568 (ji31))) (ji31))).bind fun t570=>(if t570=x7_15 then (some (shr .i64 (wrap64 (shl .u64 t568 (ji31))) (ji31),wrap64 (x1_15+t567),0)) else (some (0,0,5)))) else (none))=some (r1,r2,r3):=by first|(rw[hji31] at H;exact H)|(simp only[hji31] at H ⊢;exact H)
          (try rw[hji31] at A27)
          (try rw[hji31] at A28)
          have hji31w:(IntKind.i64.wrap (64-t567))=ji31:=(dw _).trans hji31
          by_cases c32:0≤(ji31)
          ·rw[if_pos c32] at H
           have c32b0:=eq_true c32
           have c32b1:decide (0≤(ji31))=true:=decide_eq_true c32
           clear c32
           obtain⟨ji33,hji33⟩:∃ j_:Int,(shl .u64 t568 (ji31))=j_:=⟨_,rfl⟩
           replace H:((aY.f kj15 (shr .i64 (wrap64 (ji33)) (ji31))).bind fun t570=>(if t570=x7_15 then (some (shr .i64 (wrap64 (ji33)) (ji31),wrap64 (x1_15+t567),0)) else (some (0,0,5))))=some (r1,r2,r3):=by first|(rw[hji33] at H;exact H)|(simp only[hji33] at H ⊢;exact H)
           (try rw[hji33] at A27)
           (try rw[hji33] at A28)
           have hji33_:(IntKind.u64.wrap (t568*2 ^ min (ji31).toNat 64))=ji33:=hji33
           have hji33z:(ji31)≤64→(IntKind.u64.wrap (t568*2 ^ (ji31).toNat))=ji33:=jD hji33
           have c34b0:=eq_true (of_decide_eq_true (by first|(with_reducible assumption)|assumption):0≤(ji31))
           obtain⟨ji35,hji35⟩:∃ j_:Int,(shr .i64 (wrap64 (ji33)) (ji31))=j_:=⟨_,rfl⟩
           replace H:((aY.f kj15 (ji35)).bind fun t570=>(if t570=x7_15 then (some (ji35,wrap64 (x1_15+t567),0)) else (some (0,0,5))))=some (r1,r2,r3):=by first|(rw[hji35] at H;exact H)|(simp only[hji35] at H ⊢;exact H)
           (try rw[hji35] at A27)
           (try rw[hji35] at A28)
           have hji35_:((wrap64 (ji33)) / 2 ^ min (ji31).toNat 64)=ji35:=hji35
           have hji35z:(ji31)≤64→((wrap64 (ji33)) / 2 ^ (ji31).toNat)=ji35:=sP hji35
           replace H:=Option.bind_eq_some_iff.mp H
           obtain⟨t570,A360,H⟩:=H
           replace H:(if t570=x7_15 then (some (ji35,wrap64 (x1_15+t567),0)) else (some (0,0,5)))=some (r1,r2,r3):=H
           have A36:=ah.mk A360
           clear A360
           by_cases c37:t570=x7_15
           ·rw[if_pos c37] at H
            have c37b0:(t570==x7_15)=true:=beq_iff_eq.mpr c37
            have c37b1:(t570 != x7_15)=false:=bne_eq_false_iff_eq.mpr c37
            clear c37
            simp only[Option.some.injEq,Prod.mk.injEq] at H
            obtain⟨rfl,rfl,rfl⟩:=H
            go_wp2_with (first|((with_reducible refine bY (f:=145) rfl ?_);refine gT (some 45) rfl rfl Tryz.func145 (by kernel_rfl) rfl #[.int .i64 x7_15] rfl (by (try simp only[List.map_toArray,List.map_cons,List.map_nil]);first | done | rfl | (simp only[List.length_drop,List.length_take];rfl)) ?_;(with_reducible refine (fG.calls x7_15 t567 _ A27.o).mono ?_);rintro e w' ⟨rfl,⟨nd,rfl⟩⟩;refine⟨_,rfl,?_⟩;have hcz38_0:wc.cell? ⟨gb563,0,none⟩=some (.slice A0_0 l0_0.length c0_0):=(av BK563.o 0).trans rfl;have hcz38_1:wc.cell? ⟨gb563,1,none⟩=some (.int .i64 a0_1):=(av BK563.o 1).trans rfl;have hfz38_0:=aC BK563.o 0;have hfz38_1:=aC BK563.o 1)|((with_reducible refine bY (f:=156) rfl ?_);refine gT (some 50) rfl rfl Tryz.func156 (by kernel_rfl) rfl #[.agg #[.slice A0_0 l0_0.length c0_0,.int .i64 a0_1],.int .i64 x1_15,.int .i64 t567] rfl (by (try simp only[List.map_toArray,List.map_cons,List.map_nil]);first | done | rfl | (simp only[List.length_drop,List.length_take];rfl)) ?_;(with_reducible refine (aQ.calls kj15 _ _ l0_0 a0_1 x1_15 t567 t568 t569 _ ?side1 ?side2 A28.o).mono ?_);(case side1=>repeat (first | exact (Kd.aH HR0_0.o (by repeat (first|(with_reducible first | exact HB.o | apply aj | apply ay | apply aD | refine bf ?_ GE563.o)|exact HB.o)))|(with_reducible refine Kd.bW ?_ _)|(with_reducible refine Kd.dA ?_ _)|(with_reducible refine Kd.dF ?_)));(case side2=>exact HC0_0.o);rintro e w39 ⟨rfl,hb⟩;refine⟨_,rfl,?_⟩;have n0_:=ah.mk (aG (g:=gb563) (o := .cells #[.slice A0_0 l0_0.length c0_0,.int .i64 a0_1] 149 (0,0)) (by (with_reducible repeat (first | refine bC ?_ _ | refine bg ?_ | refine aU ?_ _));exact BK563.o) hb);have n1_:=ah.mk (ak (by repeat (first|(with_reducible first | exact HB.o | apply aj | apply ay | apply aD | refine bf ?_ GE563.o)|exact HB.o)) hb);clear BK563;clear HB;have BK563:=n0_;have HB:=n1_;clear n0_ n1_;(try clear hb);(try clear hb2);(try clear hk);(try clear hi))|((with_reducible refine bY (f:=144) rfl ?_);refine gT (some 69) rfl rfl Tryz.func144 (by kernel_rfl) rfl #[.int .i64 ji35] rfl (by (try simp only[List.map_toArray,List.map_cons,List.map_nil]);first | done | (simp only[hji35];rfl)|rfl | (simp only[List.length_drop,List.length_take];rfl)) ?_;(with_reducible refine (aY.calls kj15 ji35 t570 _ A36.o).mono ?_);rintro e w' ⟨rfl,⟨nd,rfl⟩⟩;refine⟨_,rfl,?_⟩))
            go_ret3
            exact⟨by first | rfl | (simp[bF,bG]<;>rfl)|(simp only[← hji31,← hji33,← hji35];first | rfl | (simp[bF,bG]<;>rfl))|(simp[*,bF,bG]<;>rfl),by repeat (first|(with_reducible first | exact HB.o | apply aj | apply ay | apply aD | refine bf ?_ GE563.o)|exact HB.o)⟩
           ·rw[if_neg c37] at H
            have c37b0:(t570==x7_15)=false:=beq_eq_false_iff_ne.mpr c37
            have c37b1:(t570 != x7_15)=true:=bne_iff_ne.mpr c37
            simp only[Option.some.injEq,Prod.mk.injEq] at H
            obtain⟨rfl,rfl,rfl⟩:=H
            go_wp2_with (first|((with_reducible refine bY (f:=145) rfl ?_);refine gT (some 45) rfl rfl Tryz.func145 (by kernel_rfl) rfl #[.int .i64 x7_15] rfl (by (try simp only[List.map_toArray,List.map_cons,List.map_nil]);first | done | rfl | (simp only[List.length_drop,List.length_take];rfl)) ?_;(with_reducible refine (fG.calls x7_15 t567 _ A27.o).mono ?_);rintro e w' ⟨rfl,⟨nd,rfl⟩⟩;refine⟨_,rfl,?_⟩;have hcz40_0:wc.cell? ⟨gb563,0,none⟩=some (.slice A0_0 l0_0.length c0_0):=(av BK563.o 0).trans rfl;have hcz40_1:wc.cell? ⟨gb563,1,none⟩=some (.int .i64 a0_1):=(av BK563.o 1).trans rfl;have hfz40_0:=aC BK563.o 0;have hfz40_1:=aC BK563.o 1)|((with_reducible refine bY (f:=156) rfl ?_);refine gT (some 50) rfl rfl Tryz.func156 (by kernel_rfl) rfl #[.agg #[.slice A0_0 l0_0.length c0_0,.int .i64 a0_1],.int .i64 x1_15,.int .i64 t567] rfl (by (try simp only[List.map_toArray,List.map_cons,List.map_nil]);first | done | rfl | (simp only[List.length_drop,List.length_take];rfl)) ?_;(with_reducible refine (aQ.calls kj15 _ _ l0_0 a0_1 x1_15 t567 t568 t569 _ ?side1 ?side2 A28.o).mono ?_);(case side1=>repeat (first | exact (Kd.aH HR0_0.o (by repeat (first|(with_reducible first | exact HB.o | apply aj | apply ay | apply aD | refine bf ?_ GE563.o)|exact HB.o)))|(with_reducible refine Kd.bW ?_ _)|(with_reducible refine Kd.dA ?_ _)|(with_reducible refine Kd.dF ?_)));(case side2=>exact HC0_0.o);rintro e w41 ⟨rfl,hb⟩;refine⟨_,rfl,?_⟩;have n0_:=ah.mk (aG (g:=gb563) (o := .cells #[.slice A0_0 l0_0.length c0_0,.int .i64 a0_1] 149 (0,0)) (by (with_reducible repeat (first | refine bC ?_ _ | refine bg ?_ | refine aU ?_ _));exact BK563.o) hb);have n1_:=ah.mk (ak (by repeat (first|(with_reducible first | exact HB.o | apply aj | apply ay | apply aD | refine bf ?_ GE563.o)|exact HB.o)) hb);clear BK563;clear HB;have BK563:=n0_;have HB:=n1_;clear n0_ n1_;(try clear hb);(try clear hb2);(try clear hk);(try clear hi))|((with_reducible refine bY (f:=144) rfl ?_);refine gT (some 69) rfl rfl Tryz.func144 (by kernel_rfl) rfl #[.int .i64 ji35] rfl (by (try simp only[List.map_toArray,List.map_cons,List.map_nil]);first | done | (simp only[hji35];rfl)|rfl | (simp only[List.length_drop,List.length_take];rfl)) ?_;(with_reducible refine (aY.calls kj15 ji35 t570 _ A36.o).mono ?_);rintro e w' ⟨rfl,⟨nd,rfl⟩⟩;refine⟨_,rfl,?_⟩))
            go_ret3
            exact⟨by first | rfl | (simp[bF,bG]<;>rfl)|(simp only[← hji31,← hji33,← hji35];first | rfl | (simp[bF,bG]<;>rfl))|(simp[*,bF,bG]<;>rfl),by repeat (first|(with_reducible first | exact HB.o | apply aj | apply ay | apply aD | refine bf ?_ GE563.o)|exact HB.o)⟩
          ·rw[if_neg c32] at H
           exact absurd H (by simp)
         ·rw[if_neg c30] at H
          have c30b0:decide (0<t567)=false:=decide_eq_false c30
          clear c30
          replace H:=Option.bind_eq_some_iff.mp H
          obtain⟨t571,A420,H⟩:=H
          replace H:(if t571=x7_15 then (some (wrap64 (t568),wrap64 (x1_15+t567),0)) else (some (0,0,5)))=some (r1,r2,r3):=H
          have A42:=ah.mk A420
          clear A420
          by_cases c43:t571=x7_15
          ·rw[if_pos c43] at H
           have c43b0:(t571==x7_15)=true:=beq_iff_eq.mpr c43
           have c43b1:(t571 != x7_15)=false:=bne_eq_false_iff_eq.mpr c43
           clear c43
           simp only[Option.some.injEq,Prod.mk.injEq] at H
           obtain⟨rfl,rfl,rfl⟩:=H
           go_wp2_with (first|((with_reducible refine bY (f:=145) rfl ?_);refine gT (some 45) rfl rfl Tryz.func145 (by kernel_rfl) rfl #[.int .i64 x7_15] rfl (by (try simp only[List.map_toArray,List.map_cons,List.map_nil]);first | done | rfl | (simp only[List.length_drop,List.length_take];rfl)) ?_;(with_reducible refine (fG.calls x7_15 t567 _ A27.o).mono ?_);rintro e w' ⟨rfl,⟨nd,rfl⟩⟩;refine⟨_,rfl,?_⟩;have hcz44_0:wc.cell? ⟨gb563,0,none⟩=some (.slice A0_0 l0_0.length c0_0):=(av BK563.o 0).trans rfl;have hcz44_1:wc.cell? ⟨gb563,1,none⟩=some (.int .i64 a0_1):=(av BK563.o 1).trans rfl;have hfz44_0:=aC BK563.o 0;have hfz44_1:=aC BK563.o 1)|((with_reducible refine bY (f:=156) rfl ?_);refine gT (some 50) rfl rfl Tryz.func156 (by kernel_rfl) rfl #[.agg #[.slice A0_0 l0_0.length c0_0,.int .i64 a0_1],.int .i64 x1_15,.int .i64 t567] rfl (by (try simp only[List.map_toArray,List.map_cons,List.map_nil]);first | done | rfl | (simp only[List.length_drop,List.length_take];rfl)) ?_;(with_reducible refine (aQ.calls kj15 _ _ l0_0 a0_1 x1_15 t567 t568 t569 _ ?side1 ?side2 A28.o).mono ?_);(case side1=>repeat (first | exact (Kd.aH HR0_0.o (by repeat (first|(with_reducible first | exact HB.o | apply aj | apply ay | apply aD | refine bf ?_ GE563.o)|exact HB.o)))|(with_reducible refine Kd.bW ?_ _)|(with_reducible refine Kd.dA ?_ _)|(with_reducible refine Kd.dF ?_)));(case side2=>exact HC0_0.o);rintro e w45 ⟨rfl,hb⟩;refine⟨_,rfl,?_⟩;have n0_:=ah.mk (aG (g:=gb563) (o := .cells #[.slice A0_0 l0_0.length c0_0,.int .i64 a0_1] 149 (0,0)) (by (with_reducible repeat (first | refine bC ?_ _ | refine bg ?_ | refine aU ?_ _));exact BK563.o) hb);have n1_:=ah.mk (ak (by repeat (first|(with_reducible first | exact HB.o | apply aj | apply ay | apply aD | refine bf ?_ GE563.o)|exact HB.o)) hb);clear BK563;clear HB;have BK563:=n0_;have HB:=n1_;clear n0_ n1_;(try clear hb);(try clear hb2);(try clear hk);(try clear hi))|((with_reducible refine bY (f:=144) rfl ?_);refine gT (some 69) rfl rfl Tryz.func144 (by kernel_rfl) rfl #[.int .i64 (wrap64 (t568))] rfl (by (try simp only[List.map_toArray,List.map_cons,List.map_nil]);first | done | rfl | (simp only[List.length_drop,List.length_take];rfl)) ?_;(with_reducible refine (aY.calls kj15 (wrap64 (t568)) t571 _ A42.o).mono ?_);rintro e w' ⟨rfl,⟨nd,rfl⟩⟩;refine⟨_,rfl,?_⟩))
           go_ret3
           exact⟨by first | rfl | (simp[bF,bG]<;>rfl)|(simp[*,bF,bG]<;>rfl),by repeat (first|(with_reducible first | exact HB.o | apply aj | apply ay | apply aD | refine bf ?_ GE563.o)|exact HB.o)⟩
          ·rw[if_neg c43] at H
           have c43b0:(t571==x7_15)=false:=beq_eq_false_iff_ne.mpr c43
           have c43b1:(t571 != x7_15)=true:=bne_iff_ne.mpr c43
           simp only[Option.some.injEq,Prod.mk.injEq] at H
           obtain⟨rfl,rfl,rfl⟩:=H
           go_wp2_with (first|((with_reducible refine bY (f:=145) rfl ?_);refine gT (some 45) rfl rfl Tryz.func145 (by kernel_rfl) rfl #[.int .i64 x7_15] rfl (by (try simp only[List.map_toArray,List.map_cons,List.map_nil]);first | done | rfl | (simp only[List.length_drop,List.length_take];rfl)) ?_;(with_reducible refine (fG.calls x7_15 t567 _ A27.o).mono ?_);rintro e w' ⟨rfl,⟨nd,rfl⟩⟩;refine⟨_,rfl,?_⟩;have hcz46_0:wc.cell? ⟨gb563,0,none⟩=some (.slice A0_0 l0_0.length c0_0):=(av BK563.o 0).trans rfl;have hcz46_1:wc.cell? ⟨gb563,1,none⟩=some (.int .i64 a0_1):=(av BK563.o 1).trans rfl;have hfz46_0:=aC BK563.o 0;have hfz46_1:=aC BK563.o 1)|((with_reducible refine bY (f:=156) rfl ?_);refine gT (some 50) rfl rfl Tryz.func156 (by kernel_rfl) rfl #[.agg #[.slice A0_0 l0_0.length c0_0,.int .i64 a0_1],.int .i64 x1_15,.int .i64 t567] rfl (by (try simp only[List.map_toArray,List.map_cons,List.map_nil]);first | done | rfl | (simp only[List.length_drop,List.length_take];rfl)) ?_;(with_reducible refine (aQ.calls kj15 _ _ l0_0 a0_1 x1_15 t567 t568 t569 _ ?side1 ?side2 A28.o).mono ?_);(case side1=>repeat (first | exact (Kd.aH HR0_0.o (by repeat (first|(with_reducible first | exact HB.o | apply aj | apply ay | apply aD | refine bf ?_ GE563.o)|exact HB.o)))|(with_reducible refine Kd.bW ?_ _)|(with_reducible refine Kd.dA ?_ _)|(with_reducible refine Kd.dF ?_)));(case side2=>exact HC0_0.o);rintro e w47 ⟨rfl,hb⟩;refine⟨_,rfl,?_⟩;have n0_:=ah.mk (aG (g:=gb563) (o := .cells #[.slice A0_0 l0_0.length c0_0,.int .i64 a0_1] 149 (0,0)) (by (with_reducible repeat (first | refine bC ?_ _ | refine bg ?_ | refine aU ?_ _));exact BK563.o) hb);have n1_:=ah.mk (ak (by repeat (first|(with_reducible first | exact HB.o | apply aj | apply ay | apply aD | refine bf ?_ GE563.o)|exact HB.o)) hb);clear BK563;clear HB;have BK563:=n0_;have HB:=n1_;clear n0_ n1_;(try clear hb);(try clear hb2);(try clear hk);(try clear hi))|((with_reducible refine bY (f:=144) rfl ?_);refine gT (some 69) rfl rfl Tryz.func144 (by kernel_rfl) rfl #[.int .i64 (wrap64 (t568))] rfl (by (try simp only[List.map_toArray,List.map_cons,List.map_nil]);first | done | rfl | (simp only[List.length_drop,List.length_take];rfl)) ?_;(with_reducible refine (aY.calls kj15 (wrap64 (t568)) t571 _ A42.o).mono ?_);rintro e w' ⟨rfl,⟨nd,rfl⟩⟩;refine⟨_,rfl,?_⟩))
           go_ret3
           exact⟨by first | rfl | (simp[bF,bG]<;>rfl)|(simp[*,bF,bG]<;>rfl),by repeat (first|(with_reducible first | exact HB.o | apply aj | apply ay | apply aD | refine bf ?_ GE563.o)|exact HB.o)⟩
        ·rw[if_neg c29] at H
         have c29b0:(t569==0)=false:=beq_eq_false_iff_ne.mpr c29
         have c29b1:(t569 != 0)=true:=bne_iff_ne.mpr c29
         simp only[Option.some.injEq,Prod.mk.injEq] at H
         obtain⟨rfl,rfl,rfl⟩:=H
         go_wp2_with (first|((with_reducible refine bY (f:=145) rfl ?_);refine gT (some 45) rfl rfl Tryz.func145 (by kernel_rfl) rfl #[.int .i64 x7_15] rfl (by (try simp only[List.map_toArray,List.map_cons,List.map_nil]);first | done | rfl | (simp only[List.length_drop,List.length_take];rfl)) ?_;(with_reducible refine (fG.calls x7_15 t567 _ A27.o).mono ?_);rintro e w' ⟨rfl,⟨nd,rfl⟩⟩;refine⟨_,rfl,?_⟩;have hcz48_0:wc.cell? ⟨gb563,0,none⟩=some (.slice A0_0 l0_0.length c0_0):=(av BK563.o 0).trans rfl;have hcz48_1:wc.cell? ⟨gb563,1,none⟩=some (.int .i64 a0_1):=(av BK563.o 1).trans rfl;have hfz48_0:=aC BK563.o 0;have hfz48_1:=aC BK563.o 1)|((with_reducible refine bY (f:=156) rfl ?_);refine gT (some 50) rfl rfl Tryz.func156 (by kernel_rfl) rfl #[.agg #[.slice A0_0 l0_0.length c0_0,.int .i64 a0_1],.int .i64 x1_15,.int .i64 t567] rfl (by (try simp only[List.map_toArray,List.map_cons,List.map_nil]);first | done | rfl | (simp only[List.length_drop,List.length_take];rfl)) ?_;(with_reducible refine (aQ.calls kj15 _ _ l0_0 a0_1 x1_15 t567 t568 t569 _ ?side1 ?side2 A28.o).mono ?_);(case side1=>repeat (first | exact (Kd.aH HR0_0.o (by repeat (first|(with_reducible first | exact HB.o | apply aj | apply ay | apply aD | refine bf ?_ GE563.o)|exact HB.o)))|(with_reducible refine Kd.bW ?_ _)|(with_reducible refine Kd.dA ?_ _)|(with_reducible refine Kd.dF ?_)));(case side2=>exact HC0_0.o);rintro e w49 ⟨rfl,hb⟩;refine⟨_,rfl,?_⟩;have n0_:=ah.mk (aG (g:=gb563) (o := .cells #[.slice A0_0 l0_0.length c0_0,.int .i64 a0_1] 149 (0,0)) (by (with_reducible repeat (first | refine bC ?_ _ | refine bg ?_ | refine aU ?_ _));exact BK563.o) hb);have n1_:=ah.mk (ak (by repeat (first|(with_reducible first | exact HB.o | apply aj | apply ay | apply aD | refine bf ?_ GE563.o)|exact HB.o)) hb);clear BK563;clear HB;have BK563:=n0_;have HB:=n1_;clear n0_ n1_;(try clear hb);(try clear hb2);(try clear hk);(try clear hi)))
         go_ret3
         exact⟨by first | rfl | (simp[bF,bG]<;>rfl)|(simp[*,bF,bG]<;>rfl),by repeat (first|(with_reducible first | exact HB.o | apply aj | apply ay | apply aD | refine bf ?_ GE563.o)|exact HB.o)⟩
end Go.Proofs.YtcgbgifbajdhpaaGreatDoor.PA
namespace Go.Proofs.YtcgbgifbajdhpaaGreatDoor.PA
open Go.RowKit Go.Proofs.YtcgbgifbajdhpaaGreatDoor.G Go.Proofs.YtcgbgifbajdhpaaGreatDoorW.au Go.Proofs.YtcgbgifbajdhpaaGreatDoorW.aI Go.Proofs.YtcgbgifbajdhpaaGreatDoorW.aJ
attribute [local instance 10] Classical.propDecidable
theorem QB (i:Nat):Int.tdiv (i:Int) 8=((i / 8:Nat):Int):=rfl
theorem QC (i:Nat):Int.tmod (i:Int) 8=((i % 8:Nat):Int):=rfl
theorem IB {n:Nat} (h:n≤9000000000000000000):wrap64 (n:Int)=(n:Int):=jZ (by omega) (by omega)
theorem KA (l:List Int) (i:Nat):rd l (i:Int)=l.getD i 0:=by unfold rd;rw[Int.toNat_natCast]
theorem Hf (x t:Nat):(x &&& (2 ^ t-1)=0)↔∀ j,j<t→x.testBit j=false:=by
 constructor
 ·intro h j hj
  have:(x &&& (2 ^ t-1)).testBit j=false:=by rw[h];exact Nat.zero_testBit j
  rw[Nat.testBit_and,Nat.testBit_two_pow_sub_one] at this
  simpa [hj] using this
 ·intro h
  apply Nat.eq_of_testBit_eq
  intro j
  rw[Nat.testBit_and,Nat.testBit_two_pow_sub_one,Nat.zero_testBit]
  by_cases hj:j<t
  ·rw[h j hj];rfl
  ·simp[hj]
theorem zJ {l:List Int} (hl:xQ l) (hlen:l.length≤1000000000) (N:Int) (h1 : -9223372036854775808≤N) (h2:N≤9223372036854775807) :
 bZ.f l N=some (decide (0≤N∧kG l N.toNat)):=by
 unfold bZ.f
 have e0:wrap64 (8*(l.length:Int))=((8*l.length:Nat):Int):=by rw[show (8*(l.length:Int))=((8*l.length:Nat):Int) by omega];exact IB (by omega)
 rw[e0]
 by_cases c1:N<0
 ·rw[if_pos c1,decide_eq_false (by intro h;omega)]
 rw[if_neg c1]
 obtain⟨n,rfl⟩:=Int.eq_ofNat_of_zero_le (by omega:0≤N)
 rw[Int.toNat_natCast]
 by_cases c2:(n:Int)>((8*l.length:Nat):Int)
 ·rw[if_pos c2,decide_eq_false (by intro h;have:=h.2.le;omega)]
 rw[if_neg c2]
 have e1:wrap64 (((8*l.length:Nat):Int)-(n:Int))=((8*l.length-n:Nat):Int):=by rw[show (((8*l.length:Nat):Int)-(n:Int))=((8*l.length-n:Nat):Int) by omega];exact IB (by omega)
 rw[e1]
 by_cases c3:((8*l.length-n:Nat):Int)>7
 ·rw[if_pos c3,decide_eq_false (by intro h;have:=h.2.near;omega)]
 rw[if_neg c3]
 by_cases c4:((8*l.length-n:Nat):Int)=0
 ·rw[if_pos c4,decide_eq_true ⟨by omega,hl,by omega,by omega,by intro i h1 h2;omega⟩]
 rw[if_neg c4]
 have e2:wrap64 ((l.length:Int)-1)=((l.length-1:Nat):Int):=by rw[show ((l.length:Int)-1)=((l.length-1:Nat):Int) by omega];exact IB (by omega)
 rw[e2,if_pos (by omega),if_pos (by omega),if_pos (by omega),KA]
 have hb:=hl.at (l.length-1)
 have ht:8*l.length-n<8:=by omega
 have hs:(shl .u8 1 ((8*l.length-n:Nat):Int)-1) % 256=((2 ^ (8*l.length-n)-1:Nat):Int):=by
  generalize 8*l.length-n=j at ht
  have hj:j=0∨j=1∨j=2∨j=3∨j=4∨j=5∨j=6∨j=7:=by omega
  rcases hj with h | h | h | h | h | h | h | h<;>subst h<;>decide +kernel
 have hp:2 ^ (8*l.length-n)≤128:=Nat.le_trans (Nat.pow_le_pow_right (n:=2) (by decide) (show 8*l.length-n≤7 by omega)) (by decide)
 rw[hs,u8_and _ _ hb.1 hb.2 (by omega) (by omega),Int.toNat_natCast]
 congr 1
 have key:((l.getD (l.length-1) 0).toNat &&& (2 ^ (8*l.length-n)-1)=0)↔(0≤(n:Int)∧kG l n):=by
  rw[Hf]
  constructor
  ·intro h
   refine⟨by omega,hl,by omega,by omega,?_⟩
   intro i hi1 hi2
   unfold bit
   rw[show i / 8=l.length-1 by omega]
   exact h _ (by omega)
  ·intro h j hj
   have:=h.2.tail (8*l.length-1-j) (by omega) (by omega)
   unfold bit at this
   rw[show (8*l.length-1-j) / 8=l.length-1 by omega,show 7-(8*l.length-1-j) % 8=j by omega] at this
   exact this
 by_cases h:0≤(n:Int)∧kG l n
 ·rw[decide_eq_true h,key.2 h];rfl
 ·rw[decide_eq_false h]
  have:=mt key.1 h
  simp only[beq_eq_false_iff_ne,ne_eq]
  omega
theorem PW (T:Nat) (h:T≤8):IntKind.u64.wrap (shl .u64 1 (T:Int)-1)=((2 ^ T-1:Nat):Int):=by
 have hj:T=0∨T=1∨T=2∨T=3∨T=4∨T=5∨T=6∨T=7∨T=8:=by omega
 rcases hj with h | h | h | h | h | h | h | h | h<;>subst h<;>decide +kernel
theorem uW (k:IntKind) (x j:Nat) (hj:j≤k.bits):shr k (x:Int) (j:Int)=((x / 2 ^ j:Nat):Int):=by
 unfold shr
 rw[Int.toNat_natCast,Nat.min_eq_left hj]
 push_cast
 rfl
theorem OH {x:Nat} (h:x<256):IntKind.u8.wrap (x:Int)=(x:Int):=by rw[IntKind.wrap_u8'];omega
theorem uY {x:Nat} (h:x<18446744073709551616):IntKind.u64.wrap (x:Int)=(x:Int):=by simp[IntKind.wrap,IntKind.bits,IntKind.signed];omega
theorem Ew (x T:Nat) (h:T≤8):x % 2 ^ T<256:=Nat.lt_of_lt_of_le (Nat.mod_lt _ (Nat.two_pow_pos _)) (Nat.le_trans (Nat.pow_le_pow_right (n:=2) (by decide) h) (by decide))
theorem vG (n c:Nat):zy (n:Int) (c:Int)=((min c (8-n % 8):Nat):Int):=by
 unfold zy
 split<;>omega
theorem Jh (n v c:Nat) (hv:v<18446744073709551616) (hc:c≤64):Jg (n:Int) (v:Int) (c:Int)=((v / 2 ^ (c-min c (8-n % 8)) % 2 ^ (min c (8-n % 8)):Nat):Int):=by
 unfold Jg
 rw[vG]
 generalize hT:min c (8-n % 8)=T
 have hT8:T≤8:=by omega
 have hd:v / 2 ^ (c-T)≤v:=Nat.div_le_self _ _
 rw[show ((c:Int)-(T:Int))=((c-T:Nat):Int) by omega,uW _ _ _ (by simp[IntKind.bits];omega),PW T hT8,u64_and _ _ (Int.natCast_nonneg _) (by omega) (Int.natCast_nonneg _) ?_,Int.toNat_natCast,Int.toNat_natCast,Nat.and_two_pow_sub_one_eq_mod]
 ·have:=Ew (v / 2 ^ (c-T)) T hT8
  omega
 ·have:2 ^ T≤256:=Nat.le_trans (Nat.pow_le_pow_right (n:=2) (by decide) hT8) (by decide)
  omega
theorem Ji {l:List Int} {n:Nat} (h:kG l n) (v c:Nat) (hv:v<18446744073709551616) (hc0:0<c) (hc:c≤64) :
 LD l (n:Int) (v:Int) (c:Int)=mR (iq l n) (n / 8) ((v / 2 ^ (c-min c (8-n % 8)) % 2 ^ (min c (8-n % 8)))*2 ^ (8-n % 8-min c (8-n % 8))):=by
 have e:l6 l (n:Int)=iq l n:=by
  unfold l6 iq
  by_cases h0:n % 8=0
  ·rw[if_pos h0,if_pos (by omega)]
  ·rw[if_neg h0,if_neg (by omega)]
 unfold LD mR
 rw[e,l7 h,Nat.add_sub_cancel]
 congr 1
 have hzok:xQ (iq l n):=by
  unfold iq
  split
  ·intro x hx
   rcases List.mem_append.1 hx with hx | hx
   ·exact h.bytes x hx
   ·simp at hx;subst hx;decide
  ·exact h.bytes
 have hb:=hzok.at (n / 8)
 generalize (iq l n).getD (n / 8) 0=b at hb
 unfold Jf
 rw[Jh n v c hv hc,vG]
 generalize hT:min c (8-n % 8)=T
 have hT8:T≤8-n % 8:=by omega
 have hX:=Nat.mod_lt (v / 2 ^ (c-T)) (Nat.two_pow_pos T)
 generalize v / 2 ^ (c-T) % 2 ^ T=X at hX
 have hXs:X*2 ^ (8-n % 8-T)<256:=by
  calc X*2 ^ (8-n % 8-T)<2 ^ T*2 ^ (8-n % 8-T):=Nat.mul_lt_mul_of_pos_right hX (Nat.two_pow_pos _)
   _=2 ^ (T+(8-n % 8-T)):=(Nat.pow_add _ _ _).symm
   _≤2 ^ 8:=Nat.pow_le_pow_right (by decide) (by omega)
   _=256:=by decide
 have hs:shl .u8 (X:Int) (8-(n:Int) % 8-(T:Int))=((X*2 ^ (8-n % 8-T):Nat):Int):=by
  unfold shl
  rw[show (8-(n:Int) % 8-(T:Int))=((8-n % 8-T:Nat):Int) by omega,Int.toNat_natCast,Nat.min_eq_left (by simp[IntKind.bits];omega)]
  rw[← OH hXs]
  congr 1
 rw[hs,u8_or _ _ hb.1 hb.2 (Int.natCast_nonneg _) (by omega),Int.toNat_natCast]
theorem vH (v:Nat) (hv:v<18446744073709551616):∀ (c k n:Nat) (l:List Int),kG l n→c≤64→c<k→l.length+c<1000000000 →
 ∃ l',dJ.l0 k l (n:Int) (v:Int) (c:Int)=some (l',((n+c:Nat):Int))∧kG l' (n+c)∧Bs l' (n+c)=Bs l n++low v c:=by
 intro c
 induction c using Nat.strongRecOn with
 | ind c ih=>
   intro k n l h hc hk hl
   obtain⟨k,rfl⟩:∃ k',k=k'+1:=⟨k-1,by omega⟩
   have hle:=h.le
   have hnr:=h.near
   rw[dJ.l0]
   by_cases h0:c=0
   ·subst h0
    rw[if_pos (by omega)]
    exact⟨l,rfl,h,by simp[low]⟩
   ·rw[if_neg (by omega),if_pos ⟨by omega,by omega,by omega,by omega,by omega⟩,Ji h v c hv (by omega) hc,vG]
    generalize hT:min c (8-n % 8)=T
    have hs:=Dh (X:=v / 2 ^ (c-T) % 2 ^ T) h (show 0<T by omega) (by omega) (Nat.mod_lt _ (Nat.two_pow_pos T))
    have hlen:(mR (iq l n) (n / 8) (v / 2 ^ (c-T) % 2 ^ T*2 ^ (8-n % 8-T))).length=n / 8+1:=by unfold mR;rw[List.length_set,l7 h]
    generalize mR (iq l n) (n / 8) (v / 2 ^ (c-T) % 2 ^ T*2 ^ (8-n % 8-T))=l1 at hs hlen
    obtain⟨l',h1,h2,h3⟩:=ih (c-T) (by omega) k (n+T) l1 hs.1 (by omega) (by omega) (by omega)
    rw[show n+T+(c-T)=n+c by omega] at h1 h2 h3
    refine⟨l',?_,h2,?_⟩
    ·rw[show ((n:Int)+(T:Int))=((n+T:Nat):Int) by omega,show ((c:Int)-(T:Int))=((c-T:Nat):Int) by omega]
     exact h1
    ·rw[h3,hs.2,List.append_assoc,← oC v c T (by omega)]
theorem Mt (v i:Nat) (hv:v<18446744073709551616) (hi:i≤64):(Go.bits .and .u64 (shr .u64 (v:Int) (i:Int)) 1==1)=v.testBit i:=by
 have hd:v / 2 ^ i≤v:=Nat.div_le_self _ _
 rw[uW _ _ _ (by simp[IntKind.bits];omega),u64_and _ _ (Int.natCast_nonneg _) (by omega) (by decide) (by decide),Int.toNat_natCast,show (1:Int).toNat=1 from rfl,nat_mask1,Nat.testBit_eq_decide_div_mod_eq]
 have h2:v / 2 ^ i % 2=0∨v / 2 ^ i % 2=1:=by omega
 rcases h2 with h2 | h2<;>rw[h2]<;>rfl
attribute [local instance 10] Classical.propDecidable
theorem qL (L:List Bool) (h:L.length≤64):num L<18446744073709551616:=
 Nat.lt_of_lt_of_le (Af L) (Nat.le_trans (Nat.pow_le_pow_right (n:=2) (by decide) h) (by decide))
theorem PI (T:Nat) (h:T≤8):((shl .u8 1 (T:Int)-1) % 256)=((2 ^ T-1:Nat):Int):=by
 have hj:T=0∨T=1∨T=2∨T=3∨T=4∨T=5∨T=6∨T=7∨T=8:=by omega
 rcases hj with h | h | h | h | h | h | h | h | h<;>subst h<;>decide +kernel
theorem Fh {a b:Nat} (h:b≤a) (ha:a<9000000000000000000):wrap64 ((a:Int)-(b:Int))=((a-b:Nat):Int):=by
 rw[show ((a:Int)-(b:Int))=((a-b:Nat):Int) by omega]
 exact IB (by omega)
theorem Fg {a b:Nat} (ha:a+b<9000000000000000000):wrap64 ((a:Int)+(b:Int))=((a+b:Nat):Int):=by
 rw[show ((a:Int)+(b:Int))=((a+b:Nat):Int) by omega]
 exact IB (by omega)
theorem PZ {k p c T x:Nat} {l:List Int} {N:Int} (hT:min c (8-p % 8)=T) (hT9:T≤8-p % 8) (hTc:T≤c) (hpT:p+T<9000000000000000000) (hp8:p / 8<l.length) (hc64:c<9000000000000000000) :
 (if 0≤(mn (wrap64 (8-(Int.tmod (p:Int) 8))) (c:Int)) then (if 0≤(wrap64 (Int.tdiv (p:Int) 8)) then (if (wrap64 (Int.tdiv (p:Int) 8))<(l.length:Int) then (if 0≤(wrap64 ((wrap64 (8-(Int.tmod (p:Int) 8)))-(mn (wrap64 (8-(Int.tmod (p:Int) 8))) (c:Int)))) then (aQ.l0 k (wrap64 ((p:Int)+(mn (wrap64 (8-(Int.tmod (p:Int) 8))) (c:Int)))) (wrap64 ((c:Int)-(mn (wrap64 (8-(Int.tmod (p:Int) 8))) (c:Int)))) (Go.bits .or .u64 (shl .u64 (x:Int) (mn (wrap64 (8-(Int.tmod (p:Int) 8))) (c:Int))) (IntKind.u64.wrap (Go.bits .and .u8 (shr .u8 (rd l (wrap64 (Int.tdiv (p:Int) 8))) (wrap64 ((wrap64 (8-(Int.tmod (p:Int) 8)))-(mn (wrap64 (8-(Int.tmod (p:Int) 8))) (c:Int))))) (((shl .u8 1 (mn (wrap64 (8-(Int.tmod (p:Int) 8))) (c:Int)))-1) % 256)))) l N) else (none)) else (none)) else (none)) else (none)) =
 aQ.l0 k ((p+T:Nat):Int) ((c-T:Nat):Int) (Go.bits .or .u64 (shl .u64 (x:Int) (T:Int)) (IntKind.u64.wrap (Go.bits .and .u8 (shr .u8 (rd l ((p / 8:Nat):Int)) ((8-p % 8-T:Nat):Int)) ((shl .u8 1 (T:Int)-1) % 256)))) l N:=by
 have e1:wrap64 (8-Int.tmod (p:Int) 8)=((8-p % 8:Nat):Int):=by
  rw[QC]
  exact Fh (a:=8) (Nat.le_of_lt (Nat.mod_lt p (by decide))) (by decide)
 have e2:mn ((8-p % 8:Nat):Int) (c:Int)=(T:Int):=by
  clear e1
  unfold mn
  split<;>omega
 have e3:wrap64 (Int.tdiv (p:Int) 8)=((p / 8:Nat):Int):=by
  clear e1 e2
  rw[QB]
  exact IB (by omega)
 have e4:wrap64 (((8-p % 8:Nat):Int)-(T:Int))=((8-p % 8-T:Nat):Int):=Fh hT9 (by clear e1 e2 e3;omega)
 have e5:wrap64 ((p:Int)+(T:Int))=((p+T:Nat):Int):=Fg hpT
 have e6:wrap64 ((c:Int)-(T:Int))=((c-T:Nat):Int):=by
  clear e1 e2 e3 e4 e5
  exact Fh hTc hc64
 rw[e1,e2,e3,e4,e5,e6]
 clear e1 e2 e3 e4 e5 e6
 rw[if_pos (by omega),if_pos (by omega),if_pos (by omega),if_pos (by omega)]
theorem DZ {l:List Int} (hl:xQ l) (hlen:l.length<1000000000) (N:Int):∀ (c p k x:Nat),p+c≤8*l.length→c≤64→c<k→x*2 ^ c+num (win l p c)<18446744073709551616 →
 aQ.l0 k (p:Int) (c:Int) (x:Int) l N=some (((x*2 ^ c+num (win l p c):Nat):Int),0):=by
 intro c
 induction c using Nat.strongRecOn with
 | ind c ih=>
   intro p k x hp hc hk hx
   have HX:=ah.mk hx
   clear hx
   obtain⟨k,rfl⟩:∃ k',k=k'+1:=⟨k-1,by omega⟩
   rw[aQ.l0]
   by_cases h0:c=0
   ·subst h0
    rw[if_neg (by omega)]
    simp[win,num]
   ·rw[if_pos (by omega)]
    obtain⟨T,hT⟩:∃ T,min c (8-p % 8)=T:=⟨_,rfl⟩
    have hT8:T≤8:=by omega
    have hT9:T≤8-p % 8:=by omega
    have hTc:T≤c:=by omega
    have hT0:0<T:=by omega
    have hp8:p / 8<l.length:=by omega
    have hb:=hl.at (p / 8)
    have hb256:(l.getD (p / 8) 0).toNat<256:=by omega
    have hpT:p+T<9000000000000000000:=by omega
    have hpT2:p+T+(c-T)≤8*l.length:=by omega
    have hc2:c-T≤64:=by omega
    have hk2:c-T<k:=by omega
    have hlt2:c-T<c:=by omega
    have hwl:(win l p T).length≤64:=by rw[win_length];omega
    have hbb:(l.getD (p / 8) 0)=(((l.getD (p / 8) 0).toNat:Nat):Int):=by omega
    have hTm:((shl .u8 1 (T:Int)-1) % 256)=((2 ^ T-1:Nat):Int):=by
     exact PI T hT8
    have h2T:2 ^ T≤256:=Nat.le_trans (Nat.pow_le_pow_right (n:=2) (by decide) hT8) (by decide)
    have hdl:(l.getD (p / 8) 0).toNat / 2 ^ (8-p % 8-T)<256:=Nat.lt_of_le_of_lt (Nat.div_le_self _ _) hb256
    have hbits:8-p % 8-T≤IntKind.u8.bits:=by simp[IntKind.bits];omega
    have h2T':2 ^ T-1<256:=by omega
    have e7:IntKind.u64.wrap (Go.bits .and .u8 (shr .u8 (rd l ((p / 8:Nat):Int)) ((8-p % 8-T:Nat):Int)) ((shl .u8 1 (T:Int)-1) % 256))=((num (win l p T):Nat):Int):=by
     rw[KA,hbb,hTm,uW _ _ _ hbits,u8_and _ _ (Int.natCast_nonneg _) (Int.ofNat_lt.2 hdl) (Int.natCast_nonneg _) (Int.ofNat_lt.2 h2T'),Int.toNat_natCast,Int.toNat_natCast,Nat.and_two_pow_sub_one_eq_mod,← Iq l p T hb256 hT9]
     apply uY
     exact qL _ hwl
    clear hdl h2T h2T'
    have hsum:x*2 ^ c+num (win l p c)=(x*2 ^ T+num (win l p T))*2 ^ (c-T)+num (win l (p+T) (c-T)):=by
     rw[zk l p c T (by omega),p8,win_length,Nat.add_mul,Nat.mul_assoc,← Nat.pow_add,show T+(c-T)=c by omega]
     omega
    rw[hsum]
    have hx:=HX.o
    rw[hsum] at hx
    clear HX hsum
    have hnT:num (win l p T)<2 ^ T:=by have:=Af (win l p T);rwa [win_length] at this
    have hle:x*2 ^ T+num (win l p T)≤(x*2 ^ T+num (win l p T))*2 ^ (c-T):=Nat.le_mul_of_pos_right _ (Nat.two_pow_pos _)
    have hxT:x*2 ^ T<18446744073709551616:=Nat.lt_of_le_of_lt (Nat.le_trans (Nat.le_add_right _ _) (Nat.le_trans hle (Nat.le_add_right _ _))) hx
    have HX:=ah.mk hx
    clear hx hle
    have hnm:num (win l p T)<18446744073709551616:=qL _ hwl
    have e8:shl .u64 (x:Int) (T:Int)=((x*2 ^ T:Nat):Int):=by
     unfold shl
     rw[Int.toNat_natCast,Nat.min_eq_left (by simp[IntKind.bits];omega),← uY hxT,Int.natCast_mul,Int.natCast_pow]
     rfl
    have e9:Go.bits .or .u64 ((x*2 ^ T:Nat):Int) ((num (win l p T):Nat):Int)=((x*2 ^ T+num (win l p T):Nat):Int):=by
     rw[u64_or _ _ (Int.natCast_nonneg _) (Int.ofNat_lt.2 hxT) (Int.natCast_nonneg _) (Int.ofNat_lt.2 hnm),Int.toNat_natCast,Int.toNat_natCast,nat_join T _ _ (Nat.mul_mod_left _ _) hnT]
    rw[PZ (p:=p) (c:=c) (T:=T) hT hT9 hTc hpT hp8 (Nat.lt_of_le_of_lt hc (by decide)),e7,e8,e9]
    exact ih (c-T) hlt2 (p+T) k _ hpT2 hc2 hk2 HX.o
noncomputable def nV (l:List Int) (N p c:Int):Int × Int:=
 if ¬ (0≤N∧kG l N.toNat)∨c<0∨64<c∨p<0∨N<p then (0,1) else if N-p<c then (0,3) else ((num (win l p.toNat c.toNat):Nat),0)
theorem Bw {l:List Int} (hl:xQ l) (hlen:l.length<1000000000) (N p c:Int) (h1 : -9223372036854775808≤N) (h2:N≤9223372036854775807) (k:Nat) (hk:70<k):aQ.f k l N p c=some (nV l N p c):=by
 unfold aQ.f nV
 obtain⟨k,rfl⟩:∃ k',k=k'+1:=⟨k-1,by omega⟩
 rw[zJ hl (by omega) N h1 h2,Option.bind_some]
 by_cases hV:0≤N∧kG l N.toNat
 ·rw[decide_eq_true hV,if_pos rfl]
  by_cases c1:c<0
  ·rw[if_pos c1,if_pos (by omega),aQ.j0,if_pos rfl]
  rw[if_neg c1]
  by_cases c2:c>64
  ·rw[if_pos c2,if_pos (by omega),aQ.j0,if_pos rfl]
  rw[if_neg c2]
  by_cases c3:p<0
  ·rw[if_pos c3,if_pos (by omega),aQ.j0,if_pos rfl]
  rw[if_neg c3]
  by_cases c4:p>N
  ·rw[decide_eq_true c4,if_pos (by omega),aQ.j0,if_pos rfl]
  rw[decide_eq_false c4,aQ.j0,if_neg (by decide)]
  have hle:=hV.2.le
  have hnb:¬ (¬ (0≤N∧kG l N.toNat)∨c<0∨64<c∨p<0∨N<p):=by intro h;rcases h with h | h | h | h | h;exact h hV;all_goals omega
  rw[if_neg hnb,show wrap64 (N-p)=N-p from jZ (by omega) (by omega)]
  by_cases c5:N-p<c
  ·rw[if_pos c5,if_pos c5]
  rw[if_neg c5,if_neg c5]
  obtain⟨q,rfl⟩:=Int.eq_ofNat_of_zero_le (by omega:0≤p)
  obtain⟨d,rfl⟩:=Int.eq_ofNat_of_zero_le (by omega:0≤c)
  rw[Int.toNat_natCast,Int.toNat_natCast]
  have:=DZ hl hlen N d q k 0 (by omega) (by omega) (by omega) (by rw[Nat.zero_mul,Nat.zero_add];exact qL _ (by simp;omega))
  rw[Nat.zero_mul,Nat.zero_add] at this
  exact this
 ·rw[decide_eq_false hV,if_neg (by decide),if_pos (.inl hV),aQ.j0,if_pos rfl]
end Go.Proofs.YtcgbgifbajdhpaaGreatDoor.PA
namespace Go.Proofs.YtcgbgifbajdhpaaGreatDoor.PA
attribute [local instance 10] Classical.propDecidable
open Go.RowKit Go.Proofs.YtcgbgifbajdhpaaGreatDoor.G Go.Proofs.YtcgbgifbajdhpaaGreatDoorW.au Go.Proofs.YtcgbgifbajdhpaaGreatDoorW.aI Go.Proofs.YtcgbgifbajdhpaaGreatDoorW.aJ
theorem BM (n:Int) (k:Nat) (hk:8≤k):aY.f k n=some (dz n):=by
 obtain⟨m,rfl⟩:∃ m,k=8+m:=⟨k-8,by omega⟩
 clear hk
 induction m with
 | zero=>exact BL n
 | succ m ih=>exact aY.mono n (8+m) _ ih
theorem qm (v:Int):∃ u:Nat,IntKind.u64.wrap v=(u:Int)∧u<18446744073709551616:=by
 refine⟨(v % 18446744073709551616).toNat,?_,by omega⟩
 simp only[IntKind.wrap,IntKind.bits,IntKind.signed]
 simp
 omega
def intBits (v:Int):List Bool:=low (2 ^ (dz v).toNat-1) (dz v).toNat++(if dz v<4 then [false] else [])++low (IntKind.u64.wrap v).toNat (eD (dz v)).toNat
theorem width_le (k:Int):0≤eD k∧eD k≤64:=by
 unfold eD
 repeat' split
 all_goals omega
theorem Om (k:Nat) (hk:k≤4):IntKind.u64.wrap (shl .u64 1 (k:Int)-1)=((2 ^ k-1:Nat):Int):=PW k (by omega)
theorem H6 {l:List Int} {n:Nat} (h:kG l n) (hlen:l.length≤900000000) (v:Int) :
 ∃ (l':List Int) (m:Nat),je.f l (n:Int) v=some (l',(m:Int),0)∧m=n+(intBits v).length∧kG l' m∧Bs l' m=Bs l n++intBits v:=by
 have hle:=h.le
 have hcr:=kr v
 have hwr:=width_le (dz v)
 obtain⟨u,hu,hu64⟩:=qm v
 obtain⟨k,hk⟩:=Int.eq_ofNat_of_zero_le hcr.1
 obtain⟨wd,hwd⟩:=Int.eq_ofNat_of_zero_le hwr.1
 unfold je.f intBits
 rw[if_pos hlen,zJ h.bytes (by omega) n (by omega) (by omega),Int.toNat_natCast,decide_eq_true ⟨by omega,h⟩,Option.bind_some,if_pos rfl,hwd,hk,hu,Om k (by omega),Int.toNat_natCast,Int.toNat_natCast,Int.toNat_natCast]
 have hk4:k≤4:=by omega
 have h2k:2 ^ k-1<18446744073709551616:=Nat.lt_of_le_of_lt (Nat.sub_le _ _) (Nat.lt_of_le_of_lt (Nat.pow_le_pow_right (n:=2) (by decide) hk4) (by decide))
 obtain⟨l1,a1,b1,c1⟩:=vH (2 ^ k-1) h2k k 70 n l h (by omega) (by omega) (by omega)
 unfold dJ.f
 rw[a1,Option.bind_some]
 have hl1:=b1.near
 by_cases h4:(k:Int)<4
 ·rw[if_pos h4,if_pos h4]
  obtain⟨l2,a2,b2,c2⟩:=vH 0 (by decide) 1 70 (n+k) l1 b1 (by omega) (by omega) (by omega)
  rw[show ((0:Nat):Int)=0 from rfl,show ((1:Nat):Int)=1 from rfl] at a2
  rw[a2,Option.bind_some]
  have hl2:=b2.near
  obtain⟨l3,a3,b3,c3⟩:=vH u hu64 wd 70 (n+k+1) l2 b2 (by omega) (by omega) (by omega)
  rw[a3]
  refine⟨l3,n+k+1+wd,rfl,by simp;omega,b3,?_⟩
  rw[c3,c2,c1]
  simp[low]
 ·rw[if_neg h4,if_neg h4,Option.bind_some]
  obtain⟨l3,a3,b3,c3⟩:=vH u hu64 wd 70 (n+k) l1 b1 (by omega) (by omega) (by omega)
  rw[a3]
  refine⟨l3,n+k+wd,rfl,by simp;omega,b3,?_⟩
  rw[c3,c1]
  simp
theorem Mv (k:Nat) (h:k≤4):low (2 ^ k-1) k=List.replicate k true:=by
 have:k=0∨k=1∨k=2∨k=3∨k=4:=by omega
 rcases this with h | h | h | h | h<;>subst h<;>decide
def Nv (x w:Nat):Int:=if 0<w∧2 ^ (w-1)≤x then (x:Int)-2 ^ w else (x:Int)
def pK (l:List Int) (n p:Nat) (k:Int):Int × Int × Int:=
 if (n:Int)-p<eD k then (0,0,3) else if dz (Nv (num (win l p (eD k).toNat)) (eD k).toNat)=k then (Nv (num (win l p (eD k).toNat)) (eD k).toNat,((p+(eD k).toNat:Nat):Int),0) else (0,0,5)
def jv (l:List Int) (n:Nat):Nat→Nat→Int × Int × Int
 | 0,p=>pK l n p 4
 | m+1,p=>if n≤p then (0,0,3) else if bit l p=true then jv l n m (p+1) else pK l n (p+1) (3-m)
theorem Ii {x w:Nat} (hw:w=0∨w=7∨w=12∨w=32∨w=64) (hx:x<2 ^ w) (h0:0<w) :
 shr .i64 (wrap64 (shl .u64 (x:Int) (wrap64 (64-(w:Int))))) (wrap64 (64-(w:Int)))=Nv x w:=by
 rcases hw with h | h | h | h | h<;>subst h
 ·cases h0
 all_goals
  unfold Nv shr shl
  simp only[IntKind.bits]
 ·rw[show wrap64 (64-((7:Nat):Int))=57 by decide +kernel,show (min (57:Int).toNat 64)=57 from rfl,show ((2:Int) ^ 57)=144115188075855872 by decide]
  simp only[IntKind.wrap,IntKind.bits,IntKind.signed,wrap64]
  simp at hx ⊢
  split<;>omega
 ·rw[show wrap64 (64-((12:Nat):Int))=52 by decide +kernel,show (min (52:Int).toNat 64)=52 from rfl,show ((2:Int) ^ 52)=4503599627370496 by decide]
  simp only[IntKind.wrap,IntKind.bits,IntKind.signed,wrap64]
  simp at hx ⊢
  split<;>omega
 ·rw[show wrap64 (64-((32:Nat):Int))=32 by decide +kernel,show (min (32:Int).toNat 64)=32 from rfl,show ((2:Int) ^ 32)=4294967296 by decide]
  simp only[IntKind.wrap,IntKind.bits,IntKind.signed,wrap64]
  simp at hx ⊢
  split<;>omega
 ·rw[show wrap64 (64-((64:Nat):Int))=0 by decide +kernel,show (min (0:Int).toNat 64)=0 from rfl,show ((2:Int) ^ 0)=1 by decide]
  simp only[IntKind.wrap,IntKind.bits,IntKind.signed,wrap64]
  simp at hx ⊢
  split<;>omega
theorem Gj (l:List Int) (p:Nat):win l p 1=[bit l p]:=by simp[win]
theorem widths (c:Int):(eD c).toNat=0∨(eD c).toNat=7∨(eD c).toNat=12∨(eD c).toNat=32∨(eD c).toNat=64:=by
 unfold eD
 repeat' split
 all_goals simp
theorem Jt {l:List Int} {n:Nat} (h:kG l n) (hlen:l.length≤1000000) (p c:Nat) (hp:p≤n) (hc:c≤64) (k:Nat) (hk:70<k) :
 aQ.f k l (n:Int) (p:Int) (c:Int)=some (if n-p<c then (0,3) else (((num (win l p c):Nat):Int),0)):=by
 have hle:=h.le
 rw[Bw h.bytes (by omega) n p c (by omega) (by omega) k hk]
 unfold nV
 have hnb:¬ (¬ (0≤(n:Int)∧kG l (n:Int).toNat)∨(c:Int)<0∨64<(c:Int)∨(p:Int)<0∨(n:Int)<p):=by
  rw[Int.toNat_natCast]
  intro h'
  rcases h' with h' | h' | h' | h' | h'
  ·exact h' ⟨by omega,h⟩
  all_goals omega
 rw[if_neg hnb,Int.toNat_natCast,Int.toNat_natCast]
 by_cases c1:n-p<c
 ·rw[if_pos c1,if_pos (by omega)]
 ·rw[if_neg c1,if_neg (by omega)]
theorem Ke (l:List Int) (p w:Nat):num (win l p w)<2 ^ w:=by
 have:=Af (win l p w)
 rwa [win_length] at this
theorem Gd {l:List Int} {n:Nat} (h:kG l n) (hlen:l.length≤1000000) (p:Nat) (hp:p≤n) (c:Int) (k:Nat) (hk:80<k):aM.j2 k (p:Int) c l (n:Int)=some (pK l n p c):=by
 obtain⟨k,rfl⟩:∃ k',k=k'+1:=⟨k-1,by omega⟩
 have hle:=h.le
 have hwr:=width_le c
 have hws:=widths c
 rw[aM.j2,xG,Option.bind_some]
 unfold pK
 obtain⟨w,hw⟩:=Int.eq_ofNat_of_zero_le hwr.1
 rw[hw] at hws ⊢
 rw[Int.toNat_natCast] at hws ⊢
 rw[Jt h hlen p w hp (by omega) k (by omega),Option.bind_some]
 have hx:=Ke l p w
 by_cases c1:n-p<w
 ·rw[if_pos c1,if_neg (by decide),if_pos (show (n:Int)-p<w by omega)]
 ·rw[if_neg c1]
  simp only[if_true]
  rw[if_neg (show ¬ (n:Int)-p<w by omega)]
  have hpw:wrap64 ((p:Int)+(w:Int))=((p+w:Nat):Int):=Fg (by omega)
  rw[hpw]
  clear hpw
  by_cases c2:(w:Int)>0
  ·rw[if_pos c2,Ii hws hx (by omega),BM _ k (by omega),Option.bind_some]
   rw[if_pos (by rcases hws with h | h | h | h | h<;>rw[h]<;>decide +kernel)]
   by_cases c3:dz (Nv (num (win l p w)) w)=c
   ·rw[if_pos c3,if_pos c3]
   ·rw[if_neg c3,if_neg c3]
  ·rw[if_neg c2]
   have:w=0:=by omega
   subst this
   rw[show num (win l p 0)=0 from rfl,show wrap64 ((0:Nat):Int)=0 by decide +kernel,BM _ k (by omega),Option.bind_some,show Nv 0 0=0 by decide]
   by_cases c3:dz 0=c
   ·rw[if_pos c3,if_pos c3]
   ·rw[if_neg c3,if_neg c3]
theorem head_eq {l:List Int} {n:Nat} (h:kG l n) (hlen:l.length≤1000000):∀ (m p k:Nat),p≤n→m≤4→90+m<k→aM.l0 k (p:Int) (4-(m:Int)) l (n:Int)=some (jv l n m p):=by
 intro m
 induction m with
 | zero=>
   intro p k hp hm hk
   obtain⟨k,rfl⟩:∃ k',k=k'+1:=⟨k-1,by omega⟩
   rw[aM.l0,if_neg (by omega),jv,show (4-((0:Nat):Int))=4 from rfl]
   exact Gd h hlen p hp 4 k (by omega)
 | succ m ih=>
   intro p k hp hm hk
   obtain⟨k,rfl⟩:∃ k',k=k'+1:=⟨k-1,by omega⟩
   have hle:=h.le
   rw[aM.l0,if_pos (by omega),jv]
   have ht:=Jt h hlen p 1 hp (by decide) k (by omega)
   rw[show ((1:Nat):Int)=1 from rfl] at ht
   rw[ht,Option.bind_some]
   by_cases c1:n≤p
   ·rw[if_pos (show n-p<1 by omega),if_pos c1]
    rfl
   ·rw[if_neg (show ¬ n-p<1 by omega),if_neg c1]
    simp only[if_true]
    have e1:wrap64 ((p:Int)+1)=((p+1:Nat):Int):=Fg (b:=1) (by omega)
    have e2:wrap64 (4-((m+1:Nat):Int)+1)=4-(m:Int):=by rw[show (4-((m+1:Nat):Int)+1)=4-(m:Int) by omega];exact jZ (by omega) (by omega)
    rw[e1,e2,Gj]
    clear e1 e2
    cases hb:bit l p
    ·rw[show num [false]=0 from rfl,if_pos (by rfl),if_neg (by decide),show (4-((m+1:Nat):Int))=3-(m:Int) by omega]
     exact Gd h hlen (p+1) (by omega) _ k (by omega)
    ·rw[show num [true]=1 from rfl,if_neg (by decide),if_pos rfl]
     exact ih (p+1) k (by omega) (by omega) (by omega)
noncomputable def q8 (l:List Int) (N p:Int):Int × Int × Int:=if ¬ (0≤N∧kG l N.toNat)∨p<0∨N<p then (0,0,1) else jv l N.toNat 4 p.toNat
theorem E8 {l:List Int} (hl:xQ l) (hlen:l.length≤1000000) (N p:Int) (h1 : -9223372036854775808≤N) (h2:N≤9223372036854775807) (k:Nat) (hk:100<k):aM.f k l N p=some (q8 l N p):=by
 unfold aM.f q8
 obtain⟨k,rfl⟩:∃ k',k=k'+1:=⟨k-1,by omega⟩
 rw[zJ hl (by omega) N h1 h2,Option.bind_some]
 by_cases hV:0≤N∧kG l N.toNat
 ·rw[decide_eq_true hV,if_pos rfl]
  by_cases c3:p<0
  ·rw[if_pos c3,if_pos (.inr (.inl c3)),aM.j0,if_pos rfl]
  rw[if_neg c3]
  by_cases c4:p>N
  ·rw[decide_eq_true c4,if_pos (.inr (.inr c4)),aM.j0,if_pos rfl]
  have hnb:¬ (¬ (0≤N∧kG l N.toNat)∨p<0∨N<p):=by intro h;rcases h with h | h | h;exact h hV;all_goals omega
  rw[if_neg hnb,decide_eq_false c4,aM.j0,if_neg (by decide)]
  obtain⟨q,rfl⟩:=Int.eq_ofNat_of_zero_le (by omega:0≤p)
  obtain⟨n,rfl⟩:=Int.eq_ofNat_of_zero_le hV.1
  rw[Int.toNat_natCast] at hV ⊢
  rw[Int.toNat_natCast]
  exact head_eq hV.2 hlen 4 q k (by omega) (by omega) (by omega)
 ·rw[decide_eq_false hV,if_neg (by decide),if_pos (.inl hV),aM.j0,if_pos rfl]
theorem xH {l:List Int} {m q c:Nat} {X Y Z:List Bool} (h:Bs l m=X++Y++Z) (hX:X.length=q) (hY:Y.length=c):win l q c=Y:=by
 have hm:m=X.length+Y.length+Z.length:=by have:=congrArg List.length h;simp at this;omega
 rw[Lb l m q c (by omega),h,List.append_assoc]
 subst hX hY
 rw[List.take_append,List.take_of_length_le (by omega),List.drop_append_of_le_length (by omega),List.drop_length,List.nil_append,Nat.add_sub_cancel_left,List.take_append_of_le_length (Nat.le_refl _),List.take_length]
theorem Bu {l:List Int} {m q:Nat} {b:Bool} {X Z:List Bool} (h:Bs l m=X++[b]++Z) (hX:X.length=q):bit l q=b:=by
 have:=xH h hX (show [b].length=1 from rfl)
 rw[Gj] at this
 simpa using this
theorem GY {l:List Int} {n:Nat}:∀ (j m p:Nat),j≤m→(∀ i,i<j→p+i<n∧bit l (p+i)=true)→jv l n m p=jv l n (m-j) (p+j):=by
 intro j
 induction j with
 | zero=>intro m p h1 h2;rfl
 | succ j ih=>
   intro m p h1 h2
   obtain⟨m,rfl⟩:∃ m',m=m'+1:=⟨m-1,by omega⟩
   have h0:=h2 0 (by omega)
   rw[Nat.add_zero] at h0
   rw[jv,if_neg (by omega),if_pos h0.2,ih m (p+1) (by omega) (fun i hi=>by have:=h2 (i+1) (by omega);rwa [show p+(i+1)=p+1+i by omega] at this)]
   rw[show m+1-(j+1)=m-j by omega,show p+(j+1)=p+1+j by omega]
theorem KP (v:Int) (hv:(Lit.int .i64 v).wf=true) (u:Nat) (hu:IntKind.u64.wrap v=(u:Int)):Nv (u % 2 ^ (eD (dz v)).toNat) (eD (dz v)).toNat=v:=by
 have b:=JX hv
 have hu':(u:Int)=v % 18446744073709551616:=by rw[← hu];simp[IntKind.wrap,IntKind.bits,IntKind.signed]
 clear hu hv
 unfold Nv
 by_cases a1:v=0
 ·rw[show dz v=0 by unfold dz;rw[if_pos a1]]
  simp[eD]
  omega
 by_cases a2 : -64≤v∧v<64
 ·rw[show dz v=1 by unfold dz;rw[if_neg a1,if_pos a2],show (eD 1).toNat=7 from rfl]
  simp
  split<;>omega
 by_cases a3 : -2048≤v∧v<2048
 ·rw[show dz v=2 by unfold dz;rw[if_neg a1,if_neg a2,if_pos a3],show (eD 2).toNat=12 from rfl]
  simp
  split<;>omega
 by_cases a4 : -2147483648≤v∧v<2147483648
 ·rw[show dz v=3 by unfold dz;rw[if_neg a1,if_neg a2,if_neg a3,if_pos a4],show (eD 3).toNat=32 from rfl]
  simp
  split<;>omega
 ·rw[show dz v=4 by unfold dz;rw[if_neg a1,if_neg a2,if_neg a3,if_neg a4],show (eD 4).toNat=64 from rfl]
  simp
  split<;>omega
theorem GX {l:List Int} {m:Nat} {B:List Bool} (v:Int) (hv:(Lit.int .i64 v).wf=true) (h:Bs l m=B++intBits v):jv l m 4 B.length=(v,(m:Int),0):=by
 have hcr:=kr v
 have hwr:=width_le (dz v)
 obtain⟨u,hu,hu64⟩:=qm v
 have hsg:=KP v hv u hu
 obtain⟨k,hk⟩:=Int.eq_ofNat_of_zero_le hcr.1
 obtain⟨wd,hwd⟩:=Int.eq_ofNat_of_zero_le hwr.1
 unfold intBits at h
 rw[hwd,hu,Int.toNat_natCast] at h
 rw[hwd,Int.toNat_natCast] at hsg
 rw[hk] at h hwd
 rw[Int.toNat_natCast] at h
 rw[Int.toNat_natCast] at h
 rw[Mv k (by omega)] at h
 have hlen:m=B.length+k+(if (k:Int)<4 then 1 else 0)+wd:=by
  have:=congrArg List.length h
  simp at this
  rw[this]
  split<;>simp<;>omega
 have hones:∀ i,i<k→B.length+i<m∧bit l (B.length+i)=true:=by
  intro i hi
  refine⟨by omega,?_⟩
  have e:List.replicate k true=List.replicate i true++[true]++List.replicate (k-i-1) true:=by
   rw[show [true]=List.replicate 1 true from rfl,List.replicate_append_replicate,List.replicate_append_replicate]
   congr 1
   omega
  exact Bu (X:=B++List.replicate i true) (Z:=List.replicate (k-i-1) true++(if (k:Int)<4 then [false] else [])++low u wd) (by rw[h,e];simp) (by simp)
 rw[GY k 4 B.length (by omega) hones]
 have tl:∀ (X:List Bool),Bs l m=X++low u wd→pK l m X.length (k:Int)=(v,(m:Int),0):=by
  intro X hX
  have hm:m=X.length+wd:=by have:=congrArg List.length hX;simpa using this
  unfold pK
  have hw1:win l X.length wd=low u wd:=xH (X:=X) (Y:=low u wd) (Z:=[]) (by rw[hX];simp) rfl (by simp)
  rw[hwd,Int.toNat_natCast,if_neg (by omega),hw1,oH,hsg,if_pos hk,← hm]
 by_cases h4:(k:Int)<4
 ·rw[if_pos h4] at h hlen
  obtain⟨j,hj⟩:∃ j,4-k=j+1:=⟨3-k,by omega⟩
  have hb:bit l (B.length+k)=false:=Bu (X:=B++List.replicate k true) (Z:=low u wd) (by rw[h];simp) (by simp)
  rw[hj,jv,if_neg (by omega),hb,if_neg (by decide)]
  have:=tl (B++List.replicate k true++[false]) (by rw[h];simp)
  rw[show (B++List.replicate k true++[false]).length=B.length+k+1 by simp;omega] at this
  rw[show (3-(j:Int))=(k:Int) by omega]
  exact this
 ·rw[if_neg h4] at h hlen
  have hk4:k=4:=by omega
  subst hk4
  rw[show 4-4=0 from rfl,jv]
  have:=tl (B++List.replicate 4 true) (by rw[h];simp)
  rw[show (B++List.replicate 4 true).length=B.length+4 by simp] at this
  exact this
theorem Kw {l:List Int} {n:Nat} (h:kG l n) (hlen:l.length≤900000000) (v c:Nat) (hv:v<18446744073709551616) (hc:c≤64) :
 ∃ (l':List Int),l8.f l (n:Int) (v:Int) (c:Int)=some (l',((n+c:Nat):Int),0)∧kG l' (n+c)∧Bs l' (n+c)=Bs l n++low v c:=by
 have hle:=h.le
 obtain⟨l',a,b,d⟩:=vH v hv c 70 n l h hc (by omega) (by omega)
 refine⟨l',?_,b,d⟩
 unfold l8.f dJ.f
 rw[if_pos hlen,zJ h.bytes (by omega) n (by omega) (by omega),Int.toNat_natCast,decide_eq_true ⟨by omega,h⟩,Option.bind_some,if_pos rfl,if_neg (by omega),if_neg (by omega),a]
 rfl
theorem wrap_u64 (n:Int):IntKind.u64.wrap n=n % 18446744073709551616:=by simp[IntKind.wrap,IntKind.bits,IntKind.signed]
end Go.Proofs.YtcgbgifbajdhpaaGreatDoor.PA
namespace Go.Proofs.YtcgbgifbajdhpaaGreatDoor.PA
open Go.RowKit Go.Proofs.YtcgbgifbajdhpaaGreatDoor.G Go.Proofs.YtcgbgifbajdhpaaGreatDoorW.au Go.Proofs.YtcgbgifbajdhpaaGreatDoorW.aI Go.Proofs.YtcgbgifbajdhpaaGreatDoorW.aJ
def PK (W:World) (g:Nat) (L:List Bool):Prop:=
 ∃ (A:Option Addr) (c:Nat) (l:List Int),W.heap[g]? = some (.cells #[.slice A l.length c,.int .i64 (L.length:Int)] 151 (0,0))∧Kd.R (Kd.int .u8) 5 W 0 (fun k=>k≠g) (.slice A l.length c) l∧kG l L.length∧Bs l L.length=L
theorem PK.keep {W W':World} {g:Nat} {L:List Bool} (h:PK W g L) (hb:Below W.heap.size W W'):PK W' g L:=by
 obtain⟨A,c,l,h1,h2,h3,h4⟩:=h
 exact⟨A,c,l,aG h1 hb,Kd.bR h2 hb,h3,h4⟩
theorem Db {W0 W:World} {g n c:Nat} {A:Option Addr} {l':List Int} {u v:Value} {L M:List Bool} (hb:W.heap[g]? = some (.cells #[u,v] 151 (0,0))) (hr:Kd.R (Kd.int .u8) 5 W W0.heap.size (fun _=>True) (.slice A l'.length c) l') (hg:g<W0.heap.size)
 (ho:kG l' (L.length+n)) (hbs:Bs l' (L.length+n)=L++M):PK ((W.setCell ⟨g,0,none⟩ (.slice A l'.length c)).setCell ⟨g,1,none⟩ (.int .i64 ((L.length:Int)+(n:Int)))) g (L++M):=by
 have hlen:(L++M).length=L.length+n:=by rw[← hbs];simp
 refine⟨A,c,l',?_,?_,by rw[hlen];exact ho,by rw[hlen];exact hbs⟩
 ·rw[hlen]
  refine bK (cs := #[.slice A l'.length c,v]) ?_ 1 _ (by simp)
  exact bK hb 0 _ (by simp)
 ·have h2:=Kd.dW (Kd.dL (ok':=fun k=>k≠g) (Kd.gM hr) (fun k hk=>by omega)) (Nat.zero_le _)
  exact Kd.gF (p:=⟨g,1,none⟩) (Kd.gF (p:=⟨g,0,none⟩) h2 (fun k hk=>hk) _) (fun k hk=>hk) _
theorem jP.calls (g:Nat) (L:List Bool) (v c:Nat) (w:World) (hP:PK w g L) (hv:v<18446744073709551616) (hc:c≤64) (hL:L.length≤7000000) :
 Calls Tryz.prog 91 #[.pointer (some ⟨g,0,none⟩),.int .u64 (v:Int),.int .i64 (c:Int)] w fun e w'=>e = .returned (.tuple #[])∧PK w' g (L++low v c)∧bP w w' g none∧w'.os=w.os∧w'.tape=w.tape∧w'.output=w.output:=by
 obtain⟨A,cc,l,hblk,hR,hok,hbs⟩:=hP
 have hlen:l.length≤900000000:=by have:=hok.near;omega
 obtain⟨l',hf,hok',hbs'⟩:=Kw hok hlen v c hv hc
 have h0:w.cell? ⟨g,0,none⟩=some (.slice A l.length cc):=(av hblk 0).trans rfl
 have h1:w.cell? ⟨g,1,none⟩=some (.int .i64 (L.length:Int)):=(av hblk 1).trans rfl
 have HG:=ah.mk (dO hblk)
 have HBK:=ah.mk hblk
 have HR:=ah.mk (Kd.aX hR)
 have HF:=ah.mk hf
 have HO:=ah.mk hok'
 have HBS:=ah.mk (hbs'.trans (by rw[hbs]))
 clear hblk hR hok hbs hf hok' hbs' hlen hL hv hc
 go_enter Tryz.func91,Tryz.ntmps91
 go_wp2_with (go_at_call 123;(with_reducible refine (l8.calls _ _ l _ _ _ l' _ 0 _ HR.o.2.2 HR.o.2.1 HF.o).mono ?_);rintro e w1 ⟨v1,rfl,hr1,hb⟩;obtain⟨A1,c1,rfl⟩:=Kd.bD hr1;have HR1:=ah.mk hr1;have HB1:=ah.mk hb;have HBK1:=ah.mk (aG HBK.o hb);have g0:=(av HBK1.o 0).trans rfl;have g1:=(av HBK1.o 1).trans rfl;have f0:=aC HBK1.o 0;have f1:=aC HBK1.o 1;clear hr1 hb)
 refine bodyPost_end (results_none rfl _ _ _) rfl ?_
 exact⟨rfl,Db HBK1.o HR1.o HG.o HO.o HBS.o,((bP.of_below HB1.o g none).qX 0 _).qX 1 _,HB1.o.os,HB1.o.tape,HB1.o.output⟩
theorem C9.calls (g:Nat) (L:List Bool) (v:Int) (w:World) (hP:PK w g L) (hL:L.length≤7000000) :
 Calls Tryz.prog 92 #[.pointer (some ⟨g,0,none⟩),.int .i64 v] w fun e w'=>e = .returned (.tuple #[])∧PK w' g (L++intBits v)∧bP w w' g none∧w'.os=w.os∧w'.tape=w.tape∧w'.output=w.output:=by
 obtain⟨A,cc,l,hblk,hR,hok,hbs⟩:=hP
 have hlen:l.length≤900000000:=by have:=hok.near;omega
 obtain⟨l',m,hf,hm,hok',hbs'⟩:=H6 hok hlen v
 subst hm
 have h0:w.cell? ⟨g,0,none⟩=some (.slice A l.length cc):=(av hblk 0).trans rfl
 have h1:w.cell? ⟨g,1,none⟩=some (.int .i64 (L.length:Int)):=(av hblk 1).trans rfl
 have HG:=ah.mk (dO hblk)
 have HBK:=ah.mk hblk
 have HR:=ah.mk (Kd.aX hR)
 have HF:=ah.mk hf
 have HO:=ah.mk hok'
 have HBS:=ah.mk (hbs'.trans (by rw[hbs]))
 clear hblk hR hok hbs hf hok' hbs' hlen hL
 go_enter Tryz.func92,Tryz.ntmps92
 go_wp2_with (go_at_call 124;(with_reducible refine (je.calls _ _ l _ _ l' _ 0 _ HR.o.2.2 HR.o.2.1 HF.o).mono ?_);rintro e w1 ⟨v1,rfl,hr1,hb⟩;obtain⟨A1,c1,rfl⟩:=Kd.bD hr1;have HR1:=ah.mk hr1;have HB1:=ah.mk hb;have HBK1:=ah.mk (aG HBK.o hb);have g0:=(av HBK1.o 0).trans rfl;have g1:=(av HBK1.o 1).trans rfl;have f0:=aC HBK1.o 0;have f1:=aC HBK1.o 1;clear hr1 hb)
 refine bodyPost_end (results_none rfl _ _ _) rfl ?_
 exact⟨rfl,Db HBK1.o HR1.o HG.o HO.o HBS.o,((bP.of_below HB1.o g none).qX 0 _).qX 1 _,HB1.o.os,HB1.o.tape,HB1.o.output⟩
structure kH (w:World):Prop where mk::(o:∀ j,j<64→w.cell? ⟨0,j,none⟩=some (.int .u8 (Lib.deBruijn64tab.getD j 0:Nat)))
theorem kH.below {w w1:World} (h:kH w) (hb:Below w.heap.size w w1):kH w1:=⟨fun j hj=>aV hb (h.o j hj)⟩
theorem M5 (x k idx:Nat) (w:World) (hx0:((x:Int)==0)=false)
 (key:IntKind.u64.wrap (bits BinOp.and IntKind.u64 (x:Int) (IntKind.u64.wrap (-(x:Int)))*285870213051353865) / 288230376151711744=(idx:Int))
 (hi:idx<64) (hk:k<64) (hcell:w.cell? ⟨0,idx,none⟩=some (.int .u8 k)) :
 Calls Tryz.prog 126 #[.int .u64 x] w fun e w'=>e = .returned (.int .i64 k)∧w'=w:=by
 go_enter Tryz.func126,Tryz.ntmps126
 go_wp2_with (simp only[key])
 go_ret
 exact⟨rfl,rfl⟩
theorem tz.calls (x:Nat) (hx:x<18446744073709551616) (w:World) (hT:kH w) :
 Calls Tryz.prog 126 #[.int .u64 x] w fun e w'=>e = .returned (.int .i64 (Lib.ctz 64 x:Nat))∧w'=w:=by
 by_cases hx0:x=0
 ·subst hx0
  go_enter Tryz.func126,Tryz.ntmps126
  go_wp2
  go_ret
  exact⟨rfl,rfl⟩
 ·obtain⟨hlow,hk⟩:=Lib.lowest_bit 64 x hx0 hx
  obtain⟨hi,htab⟩:=Lib.deBruijn64_at _ hk
  have hcell:=hT.o _ hi
  rw[htab] at hcell
  exact M5 x _ _ w (by simp;omega) (tz64_key x _ hx hx0 hlow) hi hk hcell
theorem KV:∀ n:Fin 256,(Lib.len8tab.data.getD n.val 0).toNat=Lib.bitLen n.val:=by decide +kernel
theorem NV (s:ByteArray) (n:Nat) (h:n<s.size):s[n]'h=s.data.getD n 0:=by
 have h':n<s.data.size:=h
 rw[Array.getD_eq_getD_getElem?,Array.getElem?_eq_getElem h']
 rfl
theorem Qq (n:Nat) (h:n<Lib.len8tab.size):((Lib.len8tab[n]'h).toNat:Int)=(Lib.bitLen n:Int):=by
 have hs:Lib.len8tab.size=256:=by decide +kernel
 have:=KV ⟨n,by omega⟩
 rw[NV,← this]
theorem PE.calls (x:Int) (w:World) (h0:0≤x) (h1:x≤18446744073709551615) :
 Calls Tryz.prog 146 #[.int .u64 x] w fun e w'=>e = .returned (.int .i64 (Lib.bitLen x.toNat))∧w'=w:=by
 have hsz:Lib.len8tab.size=256:=by decide +kernel
 go_enter Tryz.func146,Tryz.ntmps146
 go_wp2
 all_goals (go_ret;refine⟨congrArg Ending.returned (congrArg (Value.int IntKind.i64) ?_),rfl⟩)
 all_goals simp only[Qq]
 all_goals clear hsz
 all_goals first
  | (have e:(x / 4294967296 / 65536 / 256).toNat=x.toNat / 72057594037927936:=by omega
     rw[e]
     have l:=Lib.bitLen_le (x.toNat / 72057594037927936) 8 (by decide) (by omega)
     have s:=Lib.bitLen_shift56 x.toNat (by omega) (by omega)
     have q:((Lib.bitLen (x.toNat / 72057594037927936):Nat):Int)≤8:=by omega
     rw[jZ (x:=((Lib.bitLen (x.toNat / 72057594037927936):Nat):Int)) (by omega) (by omega),jZ (by omega) (by omega)]
     omega)
  | (have e:(x / 4294967296 / 65536).toNat=x.toNat / 281474976710656:=by omega
     rw[e]
     have l:=Lib.bitLen_le (x.toNat / 281474976710656) 8 (by decide) (by omega)
     have s:=Lib.bitLen_shift48 x.toNat (by omega) (by omega)
     have q:((Lib.bitLen (x.toNat / 281474976710656):Nat):Int)≤8:=by omega
     rw[jZ (x:=((Lib.bitLen (x.toNat / 281474976710656):Nat):Int)) (by omega) (by omega),jZ (by omega) (by omega)]
     omega)
  | (have e:(x / 4294967296 / 256).toNat=x.toNat / 1099511627776:=by omega
     rw[e]
     have l:=Lib.bitLen_le (x.toNat / 1099511627776) 8 (by decide) (by omega)
     have s:=Lib.bitLen_shift40 x.toNat (by omega) (by omega)
     have q:((Lib.bitLen (x.toNat / 1099511627776):Nat):Int)≤8:=by omega
     rw[jZ (x:=((Lib.bitLen (x.toNat / 1099511627776):Nat):Int)) (by omega) (by omega),jZ (by omega) (by omega)]
     omega)
  | (have e:(x / 4294967296).toNat=x.toNat / 4294967296:=by omega
     rw[e]
     have l:=Lib.bitLen_le (x.toNat / 4294967296) 8 (by decide) (by omega)
     have s:=Lib.bitLen_shift32 x.toNat (by omega) (by omega)
     have q:((Lib.bitLen (x.toNat / 4294967296):Nat):Int)≤8:=by omega
     rw[jZ (x:=((Lib.bitLen (x.toNat / 4294967296):Nat):Int)) (by omega) (by omega),jZ (by omega) (by omega)]
     omega)
  | (have e:(x / 65536 / 256).toNat=x.toNat / 16777216:=by omega
     rw[e]
     have l:=Lib.bitLen_le (x.toNat / 16777216) 8 (by decide) (by omega)
     have s:=Lib.bitLen_shift24 x.toNat (by omega) (by omega)
     have q:((Lib.bitLen (x.toNat / 16777216):Nat):Int)≤8:=by omega
     rw[jZ (x:=((Lib.bitLen (x.toNat / 16777216):Nat):Int)) (by omega) (by omega),jZ (by omega) (by omega)]
     omega)
  | (have e:(x / 65536).toNat=x.toNat / 65536:=by omega
     rw[e]
     have l:=Lib.bitLen_le (x.toNat / 65536) 8 (by decide) (by omega)
     have s:=Lib.bitLen_shift16 x.toNat (by omega) (by omega)
     have q:((Lib.bitLen (x.toNat / 65536):Nat):Int)≤8:=by omega
     rw[jZ (x:=((Lib.bitLen (x.toNat / 65536):Nat):Int)) (by omega) (by omega),jZ (by omega) (by omega)]
     omega)
  | (have e:(x / 256).toNat=x.toNat / 256:=by omega
     rw[e]
     have l:=Lib.bitLen_le (x.toNat / 256) 8 (by decide) (by omega)
     have s:=Lib.bitLen_shift8 x.toNat (by omega) (by omega)
     have q:((Lib.bitLen (x.toNat / 256):Nat):Int)≤8:=by omega
     rw[jZ (x:=((Lib.bitLen (x.toNat / 256):Nat):Int)) (by omega) (by omega),jZ (by omega) (by omega)]
     omega)
  | (have e:(x).toNat=x.toNat:=by omega
     rw[e]
     have l:=Lib.bitLen_le (x.toNat) 8 (by decide) (by omega)
     have q:((Lib.bitLen (x.toNat):Nat):Int)≤8:=by omega
     rw[jZ (x:=((Lib.bitLen (x.toNat):Nat):Int)) (by omega) (by omega),jZ (by omega) (by omega)]
     (try omega))
theorem lz.calls (x:Nat) (w:World) (h1:x<18446744073709551616) :
 Calls Tryz.prog 125 #[.int .u64 x] w fun e w'=>e = .returned (.int .i64 ((64-Lib.bitLen x:Nat):Int))∧w'=w:=by
 have l:Lib.bitLen x≤64:=Lib.bitLen_le x 64 (by omega) (by omega)
 have e:((64-Lib.bitLen x:Nat):Int)=64-(Lib.bitLen x:Int):=by omega
 rw[e]
 go_enter Tryz.func125,Tryz.ntmps125
 go_wp2_with (go_at_call 146;refine (PE.calls (x:Int) _ (by omega) (by omega)).mono ?_;rintro e w' ⟨rfl,rfl⟩;rw[Int.toNat_natCast])
 go_ret
 exact⟨rfl,rfl⟩
theorem jP.bS (g:Nat) (L:List Bool) (V C:Int) (v c:Nat) (w:World) (hP:PK w g L) (hV:V=(v:Int)) (hC:C=(c:Int)) (hv:v<18446744073709551616) (hc:c≤64) (hL:L.length≤7000000) :
 Calls Tryz.prog 91 #[.pointer (some ⟨g,0,none⟩),.int .u64 V,.int .i64 C] w fun e w'=>e = .returned (.tuple #[])∧PK w' g (L++low v c)∧bP w w' g none∧w'.os=w.os∧w'.tape=w.tape∧w'.output=w.output:=by
 subst hV hC
 exact jP.calls g L v c w hP hv hc hL
def Mc (x:Nat):Nat:=64-Lib.bitLen x
def tV (x:Nat):Nat:=Lib.ctz 64 x
def Gi (x:Nat):Nat:=Lib.bitLen x-Lib.ctz 64 x
def dU (x:Nat):List Bool:=if x=0 then low 0 1 else low 1 1++low (Mc x*64+(Gi x-1)) 12++low (x / 2 ^ tV x) (Gi x)
theorem lz.calls' (x:Nat) (w:World) (h1:x<18446744073709551616) :
 Calls Tryz.prog 125 #[.int .u64 x] w fun e w'=>e = .returned (.int .i64 (Mc x:Nat))∧w'=w:=lz.calls x w h1
theorem tz.calls' (x:Nat) (hx:x<18446744073709551616) (w:World) (hT:kH w) :
 Calls Tryz.prog 126 #[.int .u64 x] w fun e w'=>e = .returned (.int .i64 (tV x:Nat))∧w'=w:=tz.calls x hx w hT
theorem zs {x:Nat} (hx:x<18446744073709551616) (h0:x≠0):tV x<Lib.bitLen x∧Lib.bitLen x≤64:=by
 obtain⟨_,hk⟩:=Lib.lowest_bit 64 x h0 hx
 refine⟨?_,Lib.bitLen_le x 64 (by decide) hx⟩
 unfold tV
 have hc:Lib.ctz 64 x=Lib.ctzFrom 64 x:=by unfold Lib.ctz;rw[if_neg h0]
 obtain⟨m,hm,_⟩:=Lib.ctzFrom_spec 64 x (by omega) hx
 rw[← hc] at hm
 have hp:2 ^ Lib.ctz 64 x≤x:=by
  conv=>rhs;rw[hm]
  exact Nat.le_mul_of_pos_right _ (by omega)
 have h1:=Lib.bitLen_shift (Lib.ctz 64 x) x hp hx
 have h2:x / 2 ^ Lib.ctz 64 x≠0:=by
  have:=Nat.div_pos hp (Nat.two_pow_pos _)
  omega
 have h3:=Lib.bitLen_half (x / 2 ^ Lib.ctz 64 x) h2 (Nat.lt_of_le_of_lt (Nat.div_le_self _ _) hx)
 omega
theorem Oq {H S D:Nat} (hs:H+S+D=64) (hd:1≤D) (hh:H<64):Go.bits .or .u64 ((H:Int)*64) (64-(H:Int)-(S:Int)-1)=((H*64+(D-1):Nat):Int):=by
 have e1:(64-(H:Int)-(S:Int)-1)=((D-1:Nat):Int):=by omega
 have e2:(H:Int)*64=((H*64:Nat):Int):=by omega
 rw[e1,e2,u64_or_nat (H*64) (D-1) (by omega) (by omega)]
 have:=Nat.shiftLeft_add_eq_or_of_lt (a:=H) (b:=D-1) (i:=6) (by omega)
 rw[Nat.shiftLeft_eq] at this
 rw[← this]
theorem ED.calls (g:Nat) (L:List Bool) (x:Nat) (w:World) (hP:PK w g L) (hx:x<18446744073709551616) (hL:L.length≤6000000) (hT:kH w) :
 Calls Tryz.prog 93 #[.pointer (some ⟨g,0,none⟩),.int .u64 (x:Int)] w fun e w'=>e = .returned (.tuple #[])∧PK w' g (L++dU x)∧bP w w' g none∧w'.os=w.os∧w'.tape=w.tape∧w'.output=w.output:=by
 have HP:=ah.mk hP
 have HT:=ah.mk hT
 have HL:=ah.mk hL
 clear hP hT hL
 by_cases h0:x=0
 ·have hb:((x:Int)==0)=true:=beq_iff_eq.2 (by omega)
  have HX:ah (dU x=low 0 1):=⟨by rw[dU,if_pos h0]⟩
  clear h0
  go_enter Tryz.func93,Tryz.ntmps93
  go_wp2_with (go_at_call 91;refine (jP.bS g L 0 1 0 1 _ HP.o rfl rfl (by decide) (by decide) (by have:=HL.o;omega)).mono ?_;rintro e w1 ⟨rfl,hp,hk,ho,ht,hu⟩;have HP1:=ah.mk hp;have HK1:=ah.mk hk;have HO1:=ah.mk (And.intro ho (And.intro ht hu));clear hp hk ho ht hu)
  refine bodyPost_ret (results_none rfl _ _ _) rfl ?_
  exact⟨rfl,by rw[HX.o];exact HP1.o,HK1.o,HO1.o⟩
 ·have hb:((x:Int)==0)=false:=beq_eq_false_iff_ne.2 (by omega)
  obtain⟨z1,z2⟩:=zs hx h0
  obtain⟨H,hH⟩:∃ H,Mc x=H:=⟨_,rfl⟩
  obtain⟨S,hS⟩:∃ S,tV x=S:=⟨_,rfl⟩
  obtain⟨D,hD⟩:∃ D,Gi x=D:=⟨_,rfl⟩
  have hs:H+S+D=64:=by rw[← hH,← hS,← hD];unfold Mc tV Gi;unfold tV at z1;omega
  have hd:1≤D:=by rw[← hD];unfold Gi;unfold tV at z1;omega
  have HX:ah (dU x=low 1 1++low (H*64+(D-1)) 12++low (x / 2 ^ S) D):=⟨by rw[dU,if_neg h0,hH,hS,hD]⟩
  have HLZ:=ah.mk (fun W=>hH ▸ lz.calls' x W hx)
  have HTZ:=ah.mk (fun W (h:kH W)=>hS ▸ tz.calls' x hx W h)
  clear h0 z1 z2 hH hS hD
  have CA:=ah.mk (fun W (h:PK W g L)=>jP.bS g L 1 1 1 1 W h rfl rfl (by decide) (by decide) (by have:=HL.o;omega))
  have hor:Go.bits .or .u64 ((H:Int)*64) (64-(H:Int)-(S:Int)-1)=((H*64+(D-1):Nat):Int):=Oq (by omega) (by omega) (by omega)
  have CB:=ah.mk (fun W (h:PK W g (L++low 1 1))=>jP.bS g (L++low 1 1) (Go.bits .or .u64 ((H:Int)*64) (64-(H:Int)-(S:Int)-1)) 12 (H*64+(D-1)) 12 W h hor rfl (by omega) (by decide) (by have:=HL.o;simp;omega))
  clear hor
  have hsh:(x:Int) / 2 ^ S=((x / 2 ^ S:Nat):Int):=by simp
  have CD:=ah.mk (fun W (h:PK W g (L++low 1 1++low (H*64+(D-1)) 12))=>jP.bS g (L++low 1 1++low (H*64+(D-1)) 12) ((x:Int) / 2 ^ S) (64-(H:Int)-(S:Int)) (x / 2 ^ S) D W h hsh (by omega) (Nat.lt_of_le_of_lt (Nat.div_le_self _ _) hx) (by omega) (by have:=HL.o;simp;omega))
  clear hsh
  go_enter Tryz.func93,Tryz.ntmps93
  go_wp2_with (first
   | (go_at_call 125;refine (HLZ.o _).mono ?_;rintro e wa ⟨rfl,hw⟩;rw[hw];clear hw wa)
   | (go_at_call 126;refine (HTZ.o _ HT.o).mono ?_;rintro e wa ⟨rfl,hw⟩;rw[hw];clear hw wa)
   | (go_at_call 91;(with_reducible refine (CA.o _ HP.o).mono ?_);rintro e w1 ⟨rfl,hp,hk,ho,ht,hu⟩;have HP1:=ah.mk hp;have HK1:=ah.mk hk;have HO1:=ah.mk (And.intro ho (And.intro ht hu));clear hp hk ho ht hu)
   | (go_at_call 91;(with_reducible refine (CB.o _ HP1.o).mono ?_);rintro e w2 ⟨rfl,hp,hk,ho,ht,hu⟩;have HP2:=ah.mk hp;have HK2:=ah.mk (HK1.o.trans hk (.inl rfl));have HO2:=ah.mk (And.intro (ho.trans HO1.o.1) (And.intro (ht.trans HO1.o.2.1) (hu.trans HO1.o.2.2)));clear hp hk ho ht hu)
   | (go_at_call 91;(with_reducible refine (CD.o _ HP2.o).mono ?_);rintro e w3 ⟨rfl,hp,hk,ho,ht,hu⟩;have HP3:=ah.mk hp;have HK3:=ah.mk (HK2.o.trans hk (.inl rfl));have HO3:=ah.mk (And.intro (ho.trans HO2.o.1) (And.intro (ht.trans HO2.o.2.1) (hu.trans HO2.o.2.2)));clear hp hk ho ht hu))
  refine bodyPost_end (results_none rfl _ _ _) rfl ?_
  exact⟨rfl,by rw[HX.o,← List.append_assoc,← List.append_assoc];exact HP3.o,HK3.o,HO3.o⟩
end Go.Proofs.YtcgbgifbajdhpaaGreatDoor.PA
namespace Go.Proofs.YtcgbgifbajdhpaaGreatDoor.G
open Go.RowKit Go.Proofs.YtcgbgifbajdhpaaGreatDoorW.au Go.Proofs.YtcgbgifbajdhpaaGreatDoorW.aI Go.Proofs.YtcgbgifbajdhpaaGreatDoorW.aJ
attribute [local go_sem] eG eH gq gu
def iA.f (a0 a1:Int):Option (List Int):=if 0≤a0∧a0<18446744073709551616 then some (dR a0.toNat (wid a1)) else none
theorem iA.step {N m k:Nat} (hk:k<m):(List.replicate (m-k) (0:Int)++dR N k).set (m-1-k) ((N / 256 ^ k % 256:Nat):Int)=List.replicate (m-(k+1)) 0++dR N (k+1):=by
 obtain⟨d,rfl⟩:∃ d,m=k+1+d:=⟨m-(k+1),by omega⟩
 rw[show k+1+d-k=d+1 from by omega,show k+1+d-1-k=d from by omega,show k+1+d-(k+1)=d from by omega,OA]
 rfl
theorem KR (N:Nat) (k:Nat):((N:Int) / 2 ^ (8*k)) % 256=((N / 256 ^ k % 256:Nat):Int):=by
 have h:(2:Int) ^ (8*k)=((256 ^ k:Nat):Int):=by
  rw[Int.pow_mul]
  simp
 rw[h,← Int.natCast_ediv]
 rfl
theorem iA.calls (a0 a1:Int) (r:List Int) (w:World) (h:iA.f a0 a1=some r) :
 Calls Tryz.prog 31 #[.int .u64 a0,.int .i64 a1] w fun e w'=>∃ v0_:Value,e = .returned (v0_)∧Kd.R (Kd.int .u8) 5 w' w.heap.size (fun _=>True) v0_ r∧Below w.heap.size w w':=by
 unfold iA.f at h
 split at h
 case isFalse=>cases h
 case isTrue hN=>
  obtain rfl:=Option.some.inj h
  clear h
  obtain⟨N,rfl⟩:=Int.eq_ofNat_of_zero_le hN.1
  rw[Int.toNat_natCast]
  obtain⟨j,hj⟩:∃ j:Int,(if a1<0 then 0 else a1)=j:=⟨_,rfl⟩
  obtain⟨m,hm8,hm,hw⟩:∃ m:Nat,m≤8∧(if 8<j then 8 else j)=(m:Int)∧wid a1=m:=⟨wid a1,La _,by unfold wid;split at hj<;>split<;>omega,rfl⟩
  rw[hw]
  clear hw
  have hm0:(m:Int)≤8:=by omega
  go_enter Tryz.func31,Tryz.ntmps31
  go_wp2_with ((with_reducible refine bM (N:=10) rfl ?_);refine Kd.I5 (Kd.int .u8) _ 5 rfl (N:=10) rfl 24 _ _ rfl (m:Int) rfl rfl Tryz.underlying24 (.int .u8 0) 1 gU rfl (by decide) (by omega) 0 (ok:=fun _=>True) (okp:=fun _=>True) rfl (fun _ hk=>hk) trivial (by omega) (by omega) (Below.refl _ _) (Nat.le_refl _) ?_;intro v103 w7 ho8 hb hg_ hnew_;rw[Int.toNat_natCast] at ho8;obtain⟨g,c9,e9,hgb⟩:=yQ ho8 hnew_;rw[List.length_replicate] at e9;subst e9;have HO:=ah.mk ho8;have HB:=ah.mk hb;clear ho8 hb hg_ hnew_)
  go_loopw [13] (fun i wr=>∃ k:Nat,k≤m∧i = .int .i64 k∧ah (Kd.R (Kd.int .u8) 5 wr w.heap.size (fun _=>True) (.slice (some ⟨g,0,none⟩) m c9) (List.replicate (m-k) 0++dR N k))∧ah (Below w.heap.size w wr)) (fun i _=>m-(intOf i).toNat)
  case atStart=>exact⟨0,Nat.zero_le _,rfl,⟨by simpa [dR] using HO.o⟩,HB⟩
  case round=>
   clear HO HB
   obtain⟨k,hk,rfl,HO,HB⟩:=hrel
   by_cases hlt:k<m
   ·have e1:((m:Int)-1-(k:Int))=((m-1-k:Nat):Int):=by omega
    obtain⟨hc,hf⟩:=Kd.uK 0 HO.o ((m-1-k:Nat):Int) (by omega) (by omega)
    have HP:=ah.mk (Kd.DU HO.o ((m-1-k:Nat):Int) ((N / 256 ^ k % 256:Nat):Int))
    rw[Int.toNat_natCast] at hc hf HP
    have HS:=ah.mk (iA.step (N:=N) hlt)
    have HV:=ah.mk (KR N k)
    go_wp2
    go_roundw
    case rel=>
     refine⟨k+1,by omega,by go_num,⟨?_⟩,⟨?_⟩⟩
     ·rw[HV.o,← HS.o]
      exact HP.o.1
     ·exact bf HB.o (by omega)
    case measure=>simp[intOf];omega
   ·obtain rfl:k=m:=by omega
    go_wp2
    go_ret
    exact⟨_,rfl,by simpa using HO.o,HB.o⟩
end Go.Proofs.YtcgbgifbajdhpaaGreatDoor.G
namespace Go.Proofs.YtcgbgifbajdhpaaGreatDoor.PA
open Go.RowKit Go.Proofs.YtcgbgifbajdhpaaGreatDoorW.au Go.Proofs.YtcgbgifbajdhpaaGreatDoorW.aI Go.Proofs.YtcgbgifbajdhpaaGreatDoorW.aJ
attribute [local go_sem] eG eH gq gu eT eU fU fV   -- for this text's walks alone
def bO.l0:Nat→List (bN)→Int→Option (Bool)
 | 0,_,_=>none
 | k+1,x0,x3=>if x3<(x0.length:Int) then (if 0≤x3 then (if 0≤(wrap64 (x3-1)) then (if (wrap64 (x3-1))<(x0.length:Int) then (if ((aR x0 x3).f0)≤((aR x0 (wrap64 (x3-1))).f0) then (some false) else (bO.l0 k x0 (wrap64 (x3+1)))) else (none)) else (none)) else (none)) else (some (decide ((x0.length:Int)≤65535)))
def bO.f (k:Nat) (l0:List (bN)):Option (Bool):=bO.l0 k l0 1
theorem bO.fA:∀ k,(∀ y0 y1,bV (bO.l0 k y0 y1) (bO.l0 (k+1) y0 y1))
 | 0=>fun _ _ r h=>by simp[bO.l0] at h
 | k+1=>by
   have ih0:=bO.fA k
   ·intro y0 y1
    unfold bO.l0
    repeat' first
    | (with_reducible exact ih0 _ _)
    | (with_reducible exact bV.refl _)
    | (with_reducible exact bV.none _)
    | (with_reducible refine bV.ite ?_ ?_)
    | (with_reducible refine bV.bind ?_ (fun _=>?_))
    | exact ih0 _ _
    | exact bV.none _
    | refine bV.ite ?_ ?_
    | refine bV.bind ?_ (fun _=>?_)
theorem bO.mono:∀ a0 k,bV (bO.f k a0) (bO.f (k+1) a0):=by
 intro a0 k
 have ih0:=bO.fA k
 unfold bO.f
 repeat' first
  | (with_reducible exact ih0 _ _)
  | (with_reducible exact bV.refl _)
  | (with_reducible exact bV.none _)
  | (with_reducible refine bV.ite ?_ ?_)
  | (with_reducible refine bV.bind ?_ (fun _=>?_))
  | exact ih0 _ _
  | exact bV.none _
  | refine bV.ite ?_ ?_
  | refine bV.bind ?_ (fun _=>?_)
theorem bO.calls (k:Nat) (A0:Option Addr) (c0:Nat) (l0:List (bN)) (r:Bool) (w:World) (hr0:Kd.C jg w A0 l0.length l0) (hc0:l0.length≤c0) (h:bO.f k l0=some r) :
 Calls Tryz.prog 88 #[.slice A0 l0.length c0] w fun e w'=>e = .returned (.bool r)∧aN w w':=by
 have HR0:=ah.mk hr0
 have HC0:=ah.mk hc0
 clear hr0 hc0
 have H:(bO.l0 k l0 1)=some r:=h
 clear h
 have H':=ah.mk H
 clear H
 go_enter Tryz.func88,Tryz.ntmps88
 go_wp2
 repeat (go_quiet (fail);try go_wp2)
 go_loopg [3] k (fun kq v3 w'=>∃ (x3_1:Int),v3 = .int .i64 x3_1∧ah (bO.l0 kq l0 x3_1=some r)∧ah (kq≤k)∧aN w w')
 case atStart=>exact⟨(1),(by first | rfl | (simp;done)|(simp[*];done)),H',⟨Nat.le_refl _⟩,by repeat (first | exact aN.refl _ | apply aN.step)⟩
 case round=>
  clear H'
  obtain⟨x3_1,rfl,HA,HK1,⟨m1,rfl⟩⟩:=hrel
  cases gk with
  | zero=>exact absurd HA.o (by simp[bO.l0])
  | succ k1=>
    have H:=HA.o
    clear HA
    simp only[bO.l0] at H
    by_cases c2:x3_1<(l0.length:Int)
    ·rw[if_pos c2] at H
     have c2b0:decide (x3_1<(l0.length:Int))=true:=decide_eq_true c2
     clear c2
     by_cases c3:0≤x3_1
     ·rw[if_pos c3] at H
      have c3b0:decide (0≤x3_1)=true:=decide_eq_true c3
      clear c3
      obtain⟨ji4,hji4⟩:∃ j_:Int,(wrap64 (x3_1-1))=j_:=⟨_,rfl⟩
      replace H:(if 0≤(ji4) then (if (ji4)<(l0.length:Int) then (if ((aR l0 x3_1).f0)≤((aR l0 (ji4)).f0) then (some false) else (bO.l0 k1 l0 (wrap64 (x3_1+1)))) else (none)) else (none))=some r:=by first|(rw[hji4] at H;exact H)|(simp only[hji4] at H ⊢;exact H)
      have hji4w:(IntKind.i64.wrap (x3_1-1))=ji4:=(dw _).trans hji4
      by_cases c5:0≤(ji4)
      ·rw[if_pos c5] at H
       have c5b0:decide (0≤(ji4))=true:=decide_eq_true c5
       clear c5
       by_cases c6:(ji4)<(l0.length:Int)
       ·rw[if_pos c6] at H
        have c6b0:decide ((ji4)<(l0.length:Int))=true:=decide_eq_true c6
        clear c6
        by_cases c7:((aR l0 x3_1).f0)≤((aR l0 (ji4)).f0)
        ·rw[if_pos c7] at H
         have c7b0:decide (((aR l0 x3_1).f0)≤((aR l0 (ji4)).f0))=true:=decide_eq_true c7
         clear c7
         obtain rfl:=Option.some.inj H
         have p119:0≤(x3_1:Int):=of_decide_eq_true (by first|(with_reducible assumption)|assumption)
         have q119:x3_1<(l0.length:Int):=of_decide_eq_true (by first|(with_reducible assumption)|assumption)
         obtain⟨ad119,e119,hx119_0,hx119_1⟩:=gP HR0.o x3_1 p119 q119
         cases e119
         replace p119:=eq_true p119
         replace q119:=eq_true q119
         have p120:0≤((ji4):Int):=of_decide_eq_true (by first|(with_reducible assumption)|assumption)
         have q120:(ji4)<(l0.length:Int):=of_decide_eq_true (by first|(with_reducible assumption)|assumption)
         obtain⟨ad120,e120,hx120_0,hx120_1⟩:=gP HR0.o (ji4) p120 q120
         obtain rfl:ad119=ad120:=(by injection e120)
         replace p120:=eq_true p120
         replace q120:=eq_true q120
         go_wp2
         repeat (go_quiet (fail);try go_wp2)
         go_ret
         exact⟨by first | rfl | (simp;done)|(simp only[← hji4]<;>(first | rfl | simp))|(simp[*];done),by repeat (first | exact aN.refl _ | apply aN.step)⟩
        ·rw[if_neg c7] at H
         have c7b0:decide (((aR l0 x3_1).f0)≤((aR l0 (ji4)).f0))=false:=decide_eq_false c7
         clear c7
         have H':=ah.mk H
         clear H
         have p119:0≤(x3_1:Int):=of_decide_eq_true (by first|(with_reducible assumption)|assumption)
         have q119:x3_1<(l0.length:Int):=of_decide_eq_true (by first|(with_reducible assumption)|assumption)
         obtain⟨ad119,e119,hx119_0,hx119_1⟩:=gP HR0.o x3_1 p119 q119
         cases e119
         replace p119:=eq_true p119
         replace q119:=eq_true q119
         have p120:0≤((ji4):Int):=of_decide_eq_true (by first|(with_reducible assumption)|assumption)
         have q120:(ji4)<(l0.length:Int):=of_decide_eq_true (by first|(with_reducible assumption)|assumption)
         obtain⟨ad120,e120,hx120_0,hx120_1⟩:=gP HR0.o (ji4) p120 q120
         obtain rfl:ad119=ad120:=(by injection e120)
         replace p120:=eq_true p120
         replace q120:=eq_true q120
         go_wp2
         repeat (go_quiet (fail);try go_wp2)
         go_roundg k1
         case measure=>have:=HK1.o;omega
         case rel=>exact⟨(wrap64 (x3_1+1)),(by first | rfl | (simp;done)|(simp[*];done)),H',⟨by have:=HK1.o;omega⟩,by repeat (first | exact aN.refl _ | apply aN.step)⟩
       ·rw[if_neg c6] at H
        exact absurd H (by simp)
      ·rw[if_neg c5] at H
       exact absurd H (by simp)
     ·rw[if_neg c3] at H
      exact absurd H (by simp)
    ·rw[if_neg c2] at H
     have c2b0:decide (x3_1<(l0.length:Int))=false:=decide_eq_false c2
     clear c2
     obtain rfl:=Option.some.inj H
     go_wp2
     repeat (go_quiet (fail);try go_wp2)
     go_ret
     exact⟨by first | rfl | (simp;done)|(simp[*];done)|(simp;decide +kernel),by repeat (first | exact aN.refl _ | apply aN.step)⟩
end Go.Proofs.YtcgbgifbajdhpaaGreatDoor.PA
namespace Go.Proofs.YtcgbgifbajdhpaaGreatDoor.PA
open Go.RowKit Go.Proofs.YtcgbgifbajdhpaaGreatDoor.G Go.Proofs.YtcgbgifbajdhpaaGreatDoorW.au Go.Proofs.YtcgbgifbajdhpaaGreatDoorW.aI Go.Proofs.YtcgbgifbajdhpaaGreatDoorW.aJ
def sD (x:bN):Prop:=(-9223372036854775808≤x.f0∧x.f0≤9223372036854775807)∧0≤x.f1∧x.f1<18446744073709551616
def LY (y x:bN) (step:Int):List Bool:=intBits (wrap64 (wrap64 (x.f0-y.f0)-step))++dU (x.f1.toNat ^^^ y.f1.toNat)
def jy (l:List bN):Nat→Int
 | 0=>0
 | 1=>0
 | k+2=>wrap64 ((aR l ((k+1:Nat):Int)).f0-(aR l ((k:Nat):Int)).f0)
def fT (l:List bN):Nat→List Bool
 | 0=>[]
 | 1=>low (IntKind.u64.wrap (aR l 0).f0).toNat 64++low (aR l 0).f1.toNat 64
 | k+2=>fT l (k+1)++LY (aR l ((k:Nat):Int)) (aR l ((k+1:Nat):Int)) (jy l (k+1))
theorem lD (v:Int):(intBits v).length≤80:=by
 have h1:=width_le (dz v)
 have h2:=kr v
 unfold intBits
 split<;>simp<;>omega
theorem DC (x:Nat) (hx:x<18446744073709551616):(dU x).length≤80:=by
 unfold dU
 split
 ·simp
 ·have:Gi x≤64:=by
   have:=Lib.bitLen_le x 64 (by decide) hx
   unfold Gi
   omega
  simp
  omega
theorem AQ {a b:Int} (ha:0≤a∧a<18446744073709551616) (hb:0≤b∧b<18446744073709551616):a.toNat ^^^ b.toNat<18446744073709551616:=
 Nat.xor_lt_two_pow (n:=64) (by omega) (by omega)
theorem jr (l:List bN) (hl:∀ x∈l,sD x):∀ k,k≤l.length→(fT l k).length≤160*k
 | 0,_=>by simp[fT]
 | 1,_=>by simp[fT]
 | k+2,h=>by
   have ih:=jr l hl (k+1) (by omega)
   have h1:=lD (wrap64 (wrap64 ((aR l ((k+1:Nat):Int)).f0-(aR l ((k:Nat):Int)).f0)-jy l (k+1)))
   have hm:∀ j,j<l.length→sD (aR l ((j:Nat):Int)):=fun j hj=>by
    have e:aR l ((j:Nat):Int)=l[j]:=by simp[aR,List.getD_eq_getElem?_getD,List.getElem?_eq_getElem hj]
    rw[e]
    exact hl _ (List.getElem_mem hj)
   have h2:=DC _ (AQ (hm (k+1) (by omega)).2 (hm k (by omega)).2)
   simp only[fT,LY,List.length_append]
   omega
def iT (l:List bN):Bool:=((List.range (l.length-1)).all fun i=>decide ((aR l ((i:Nat):Int)).f0<(aR l ((i+1:Nat):Int)).f0))&&decide (l.length≤65535)
theorem BI (l:List bN) (hl:l.length≤1000000):∀ d i,i+1+d=l.length→∀ k,d<k→bO.l0 k l ((i+1:Nat):Int)=some (((List.range d).all fun q=>decide ((aR l ((i+q:Nat):Int)).f0<(aR l ((i+q+1:Nat):Int)).f0))&&decide (l.length≤65535))
 | 0,i,h,k+1,hk=>by
   unfold bO.l0
   rw[if_neg (by omega)]
   simp
   omega
 | d+1,i,h,k+1,hk=>by
   unfold bO.l0
   have e1:wrap64 (((i+1:Nat):Int)-1)=((i:Nat):Int):=by rw[jZ (by omega) (by omega)];omega
   have e2:wrap64 (((i+1:Nat):Int)+1)=((i+1+1:Nat):Int):=by rw[jZ (by omega) (by omega)];omega
   rw[if_pos (by omega),if_pos (by omega),e1,if_pos (by omega),if_pos (by omega),e2,List.range_succ_eq_map,List.all_cons,List.all_map]
   by_cases hh:(aR l ((i+1:Nat):Int)).f0≤(aR l ((i:Nat):Int)).f0
   ·rw[if_pos hh]
    have h2:¬ (aR l ((i:Nat):Int)).f0<(aR l ((i+1:Nat):Int)).f0:=by omega
    have e3:decide ((aR l ((i+0:Nat):Int)).f0<(aR l ((i+0+1:Nat):Int)).f0)=false:=decide_eq_false h2
    rw[e3,Bool.false_and,Bool.false_and]
   ·rw[if_neg hh,BI l hl d (i+1) (by omega) k (by omega)]
    have h2:(aR l ((i:Nat):Int)).f0<(aR l ((i+1:Nat):Int)).f0:=by omega
    have e3:decide ((aR l ((i+0:Nat):Int)).f0<(aR l ((i+0+1:Nat):Int)).f0)=true:=decide_eq_true h2
    rw[e3,Bool.true_and]
    congr 3
    funext q
    simp only[Function.comp,show i+1+q=i+(q+1) by omega,Nat.succ_eq_add_one]
theorem Jw (l:List bN) (hl:l.length≤1000000) (k:Nat) (hk:l.length<k):bO.f k l=some (iT l):=by
 unfold bO.f iT
 by_cases h:0<l.length
 ·have:=BI l hl (l.length-1) 0 (by omega) k (by omega)
  simp only[Nat.zero_add] at this
  exact this
 ·obtain⟨k,rfl⟩:∃ k',k=k'+1:=⟨k-1,by omega⟩
  unfold bO.l0
  rw[if_neg (by omega),show l.length-1=0 by omega]
  simp
  omega
theorem mH {w W W':World} {g:Nat} (h:Below w.heap.size w W) (hk:bP W W' g none) (hg:w.heap.size≤g) (ho:W'.os=W.os) (ht:W'.tape=W.tape) (hu:W'.output=W.output):Below w.heap.size w W' :=
 ⟨ho.trans h.os,ht.trans h.tape,hu.trans h.output,Nat.le_trans h.size hk.1,fun q hq=>(hk.2 q (Nat.lt_of_lt_of_le hq h.size) (by omega) (by simp)).trans (h.block q hq)⟩
theorem dP.Gv (A:Option Addr) (c:Nat) (l:List bN) (w:World) (hr:Kd.C jg w A l.length l) (hc:l.length≤c) (hlen:l.length≤20000) (h:iT l=false) :
 Calls Tryz.prog 61 #[.slice A l.length c] w fun e w'=>e = .returned (.tuple #[.slice none 0 0,.int .i64 1])∧Below w.heap.size w w':=by
 have HR:=ah.mk hr
 have HC:=ah.mk hc
 have HF:ah (bO.f 100000 l=some false):=⟨by rw[Jw l (by omega) _ (by omega),h]⟩
 clear hr hc hlen h
 go_enter Tryz.func61,Tryz.ntmps61
 go_wp2_with (go_at_call 88;(with_reducible refine (bO.calls 100000 _ _ l false _ HR.o HC.o HF.o).mono ?_);rintro e w1 ⟨rfl,hd⟩;have HB:=ah.mk hd.below;clear hd)
 refine bodyPost_ret (results_tmp2 rfl _ _ _) rfl ?_
 exact⟨rfl,HB.o⟩
theorem Ag:kG [] 0 where
 bytes:=fun x hx=>absurd hx (by simp)
 le:=by simp
 near:=by simp
 tail:=fun i _ h=>by simp at h
theorem Ov {W:World} {g:Nat} (h:W.heap[g]? = some (.cells #[.slice none 0 0,.int .i64 0] 151 (0,0))):PK W g []:=
 ⟨none,0,[],h,Kd.fP _ _ _ _ _,Ag,rfl⟩
theorem dh {w:World} {a:Addr} {v:Value} (o:Obj) (h:w.cell? a=some v):(w.alloc o).cell? a=some v:=aV (aj (Below.refl _ _) o) h
theorem PK.lt {W:World} {g:Nat} {L:List Bool} (h:PK W g L):g<W.heap.size:=by
 obtain⟨A,c,l,h1,_⟩:=h
 exact dO h1
theorem kQ (l:List bN) (k:Nat) (h:k<l.length):aR l (k:Int)∈l:=by
 have e:aR l (k:Int)=l[k]:=by simp[aR,List.getD_eq_getElem?_getD,List.getElem?_eq_getElem h]
 rw[e]
 exact List.getElem_mem h
theorem Kv {q:Int} (h0:0≤q) (h1:q<18446744073709551616) (n:Nat) (hn:n≤8:=by decide):iA.f (IntKind.u64.wrap q) n=some (dR q.toNat n):=by
 have e:IntKind.u64.wrap q=q:=by rw[wrap_u64];omega
 rw[e,iA.f,if_pos ⟨h0,h1⟩]
 congr 2
 unfold wid
 omega
theorem gY (x:Int):0≤IntKind.u64.wrap x∧IntKind.u64.wrap x<18446744073709551616:=by
 rw[wrap_u64]
 omega
theorem dP.Ju (A:Option Addr) (c:Nat) (l:List bN) (w:World) (hr:Kd.C jg w A l.length l) (hc:l.length≤c) (hw:∀ x∈l,sD x) (hlen:l.length≤20000) (hT:kH w) (h:iT l=true) :
 Calls Tryz.prog 61 #[.slice A l.length c] w fun e w'=>∃ (v:Value) (b:List Int),e = .returned (.tuple #[v,.int .i64 0])∧kG b (fT l l.length).length∧Bs b (fT l l.length).length=fT l l.length∧Kd.R (Kd.int .u8) 5 w' w.heap.size (fun _=>True) v (dR l.length 2++b)∧Below w.heap.size w w':=by
 have HR:=ah.mk hr
 have HC:=ah.mk hc
 have HT:=ah.mk hT
 have HW:=ah.mk hw
 have HLN:=ah.mk hlen
 have HF:ah (bO.f 100000 l=some true):=⟨by rw[Jw l (by omega) _ (by omega),h]⟩
 clear hr hc hT hw h hlen
 go_enter Tryz.func61,Tryz.ntmps61
 go_wp2_with (first
  | (go_at_call 88;(with_reducible refine (bO.calls 100000 _ _ l true _ HR.o HC.o HF.o).mono ?_);rintro e w1 ⟨rfl,hd⟩;have HB1:=ah.mk hd.below;clear hd)
  | ((with_reducible refine bM (N:=4) rfl ?_);refine cZ ?hg (N:=4) ?hd (cs := #[.slice none 0 0,.int .i64 0]) (t:=151) ?hr ?_;(case hd=>rfl);(case hg=>rfl);(case hr=>first|(go_simp;done)|(go_simp;rfl));intro g hg w2 hbox hb;have HB2:=ah.mk (ak HB1.o hb);have HBK:=ah.mk hbox;have HG:ah (w.heap.size≤g):=⟨by have:=HB1.o.size;omega⟩;clear hb hbox hg))
 have HPK:ah (PK w2 g (fT l 0)):=⟨Ov HBK.o⟩
 go_loopw [5,14] (fun v i wr=>∃ k:Nat,k≤l.length∧i = .int .i64 k∧v = .int .i64 (jy l k)∧ah (PK wr g (fT l k))∧ah (Below w.heap.size w wr)) (fun _ i _=>l.length-(intOf i).toNat)
 case atStart=>exact⟨0,Nat.zero_le _,rfl,rfl,HPK,HB2⟩
 case round=>
  clear HPK HBK HB2
  obtain⟨k,hk,rfl,rfl,HP,HB⟩:=hrel
  have hl2:l.length≤20000:=HLN.o
  by_cases hlt:k<l.length
  ·have hC:=Kd.aH HR.o HB.o
   obtain⟨ad,rfl,h0,h1⟩:=gP hC (k:Int) (by omega) (by omega)
   rw[Int.toNat_natCast] at h0 h1
   have hx:=HW.o _ (kQ l k hlt)
   have HRD:=ah.mk hC
   have hgw:=(HP.o).lt
   clear hC
   cases k with
   | zero=>
     obtain⟨v0,hv0⟩:=Int.eq_ofNat_of_zero_le (gY (aR l 0).f0).1
     obtain⟨v1,hv1⟩:=Int.eq_ofNat_of_zero_le hx.2.1
     have CA:=ah.mk (fun W (h:PK W g (fT l 0))=>jP.bS g [] (IntKind.u64.wrap (aR l 0).f0) 64 v0 64 W h hv0 rfl (by have:=(gY (aR l 0).f0).2;omega) (by decide) (by simp))
     have CB:=ah.mk (fun W (h:PK W g ([]++low v0 64))=>jP.bS g ([]++low v0 64) (aR l 0).f1 64 v1 64 W h hv1 rfl (by have:=hx.2.2;omega) (by decide) (by simp))
     have EV:ah ((IntKind.u64.wrap (aR l 0).f0).toNat=v0∧(aR l 0).f1.toNat=v1):=⟨by rw[hv0];rfl,by have h_:(aR l 0).f1=(v1:Int):=hv1;rw[h_];rfl⟩
     clear hv0 hv1 hx
     have h0':wr.cell? ad=some (.int .i64 (aR l 0).f0):=by simpa [Addr.add] using h0
     have h1':wr.cell? ⟨ad.block,ad.off+1,none⟩=some (.int .u64 (aR l 0).f1):=by simpa [Addr.add] using h1
     clear h0 h1
     go_wp2_with (first
      | (go_at_call 91;(with_reducible refine (CA.o _ ?s1).mono ?_);(case s1=>exact HP.o.keep (by repeat (first | exact Below.refl _ _ | apply aj | apply aD)));rintro e w3 ⟨rfl,hp,hk,ho,ht,hu⟩;have HP3:=ah.mk hp;have BX:=(hk.2 wr.heap.size (by simp) (by omega) (by simp)).trans (bI wr _);have f1:=(av BX 1).trans rfl;have HB3:=ah.mk (mH (aj HB.o _) hk (by have:=HG.o;exact this) ho ht hu);clear hp hk ho ht hu BX)
      | (go_at_call 91;(with_reducible refine (CB.o _ HP3.o).mono ?_);rintro e w4 ⟨rfl,hp,hk,ho,ht,hu⟩;have HP4:=ah.mk hp;have HB4:=ah.mk (mH HB3.o hk (by have:=HG.o;exact this) ho ht hu);clear hp hk ho ht hu)
      )
     go_roundw
     case rel=>
      refine⟨1,by omega,by go_num,rfl,⟨?_⟩,HB4⟩
      have:=HP4.o
      rw[List.nil_append,← EV.o.1,← EV.o.2] at this
      exact this
     case measure=>simp[intOf];omega
   | succ k=>
     obtain⟨ad',hh,y0,y1⟩:=gP HRD.o (k:Int) (by omega) (by omega)
     obtain rfl:=Option.some.inj hh
     rw[Int.toNat_natCast] at y0 y1
     have hy:=HW.o _ (kQ l k (by omega))
     have HST:ah (fT l (k+2)=fT l (k+1)++LY (aR l (k:Int)) (aR l ((k+1:Nat):Int)) (jy l (k+1))∧jy l (k+2)=wrap64 ((aR l ((k+1:Nat):Int)).f0-(aR l (k:Int)).f0)∧(fT l (k+1)).length≤160*(k+1)):=⟨⟨rfl,rfl,jr l HW.o _ (by omega)⟩⟩
     clear hh
     generalize hye:aR l (k:Int)=y at *
     have HYE:=ah.mk hye
     clear hye
     generalize aR l ((k+1:Nat):Int)=x at *
     generalize jy l (k+1)=st at *
     have hwk:wrap64 (k:Int)=(k:Int):=jZ (by omega) (by omega)
     rw[show ((k+1:Nat):Int)=(k:Int)+1 from by omega] at *
     go_wp2
     have y0':=dh (.cells #[.int .i64 x.f0,.int .u64 x.f1] 70) y0
     have y1':=dh (.cells #[.int .i64 x.f0,.int .u64 x.f1] 70) y1
     have HPA:=ah.mk (HP.o.keep (aj (Below.refl _ _) (.cells #[.int .i64 x.f0,.int .u64 x.f1] 70)))
     have HBA:=ah.mk (aj HB.o (.cells #[.int .i64 x.f0,.int .u64 x.f1] 70))
     have HXB:=ah.mk (bI wr (.cells #[.int .i64 x.f0,.int .u64 x.f1] 70))
     go_cut [5] (fun v wx=>v = .int .i64 (wrap64 (x.f0-y.f0))∧ah (Below (wr.heap.size+1) (wr.alloc (.cells #[.int .i64 x.f0,.int .u64 x.f1] 70)) wx))
     case first=>
      go_region
      all_goals (go_wp2_with fail;go_meet;exact⟨rfl,⟨by repeat (first | exact Below.refl _ _ | apply aj | apply aD)⟩⟩)
     case rest=>
      obtain⟨rfl,HBc⟩:=hcut
      have hbc:Below (wr.alloc (.cells #[.int .i64 x.f0,.int .u64 x.f1] 70)).heap.size (wr.alloc (.cells #[.int .i64 x.f0,.int .u64 x.f1] 70)) wc:=by simpa using HBc.o
      have HPc:=ah.mk (HPA.o.keep hbc)
      have BXc:=ah.mk (aG HXB.o hbc)
      have HBw:=ah.mk (ak HBA.o hbc)
      clear hbc
      have HGX:ah (wr.heap.size<wc.heap.size∧wr.heap.size≠g):=⟨by have:=dO BXc.o;exact this,by omega⟩
      have hln:=HST.o.2.2
      have hln2:=HLN.o
      have CN:=ah.mk (fun W (h:PK W g (fT l (k+1)))=>C9.calls g (fT l (k+1)) (wrap64 (wrap64 (x.f0-y.f0)-st)) W h (by omega))
      obtain⟨xv,hxv⟩:∃ n:Nat,x.f1.toNat ^^^ y.f1.toNat=n:=⟨_,rfl⟩
      have hxl:xv<18446744073709551616:=hxv ▸ AQ hx.2 hy.2
      have hxe:Go.bits .xor .u64 x.f1 y.f1=(xv:Int):=by
       rw[← hxv]
       obtain⟨a,ha⟩:=Int.eq_ofNat_of_zero_le hx.2.1
       obtain⟨b,hb⟩:=Int.eq_ofNat_of_zero_le hy.2.1
       rw[ha,hb,u64_xor_nat a b (by have:=hx.2.2;omega) (by have:=hy.2.2;omega)]
       simp
      have hib:=lD (wrap64 (wrap64 (x.f0-y.f0)-st))
      have CV:=ah.mk (fun W (h:PK W g (fT l (k+1)++intBits (wrap64 (wrap64 (x.f0-y.f0)-st)))) (ht:kH W)=>ED.calls g _ xv W h hxl (by rw[List.length_append];omega) ht)
      have HXV:=ah.mk hxv
      clear y0 y1 y0' y1' h0 h1 HPA HBA HXB hib hxv HP hln hln2
      go_wp2_with (go_at_call 92;(with_reducible refine (CN.o _ HPc.o).mono ?_);rintro e w5 ⟨rfl,hp,hk,ho,ht,hu⟩;have HP5:=ah.mk hp;have BX5:=ah.mk ((hk.2 wr.heap.size HGX.o.1 HGX.o.2 (by simp)).trans BXc.o);have HB5:=ah.mk (mH HBw.o hk (by have:=HG.o;exact this) ho ht hu);clear hp hk ho ht hu)
      have xb1:w5.cell? ⟨wr.heap.size,1,none⟩=some (.int .u64 x.f1):=(av BX5.o 1).trans rfl
      have hkl:(k:Int)<(l.length:Int):=by omega
      have hwk':IntKind.i64.wrap (k:Int)=(k:Int):=(dw _).trans hwk
      obtain⟨ad',hh,y0,y1⟩:=gP (Kd.aH HR.o HB5.o) (k:Int) (by omega) (by omega)
      obtain rfl:=Option.some.inj hh
      rw[Int.toNat_natCast] at y0 y1
      rw[HYE.o] at y1
      clear hh y0 hx hy
      have y1':w5.drew.cell? ⟨(ad.add (k*2)).block,(ad.add (k*2)).off+1,none⟩=some (Value.int IntKind.u64 y.f1):=y1
      go_region_with (go_at_call 93;(refine (CV.o _ ?s1 ?s2).mono ?_);(case s1=>exact HP5.o.keep (by repeat (first | exact Below.refl _ _ | apply aj | apply aD)));(case s2=>exact HT.o.below (by repeat (first | exact HB5.o | apply aj | apply aD)));rintro e w6 ⟨rfl,hp,hk,ho,ht,hu⟩;have HP6:=ah.mk hp;have HB6:=ah.mk (mH (aD HB5.o) hk (by have:=HG.o;exact this) ho ht hu);clear hp hk ho ht hu)
      all_goals
       go_wp2_with fail
       go_wp2_with fail
       go_wp2_with fail
       go_wp2_with fail
       go_wp2_with fail
       go_roundw
       case rel=>
        refine⟨k+2,by omega,by go_num,by rw[HST.o.2.1],⟨?_⟩,HB6⟩
        have:=HP6.o
        rw[HST.o.1,LY,HXV.o,← List.append_assoc]
        exact this
       case measure=>simp[intOf];omega
  ·obtain rfl:k=l.length:=by omega
   go_wp2
   obtain⟨Ax,cx,lx,hblk,hRx,hokx,hbsx⟩:=HP.o
   have h0:wr.cell? ⟨g,0,none⟩=some (.slice Ax lx.length cx):=(av hblk 0).trans rfl
   have BG:=ah.mk hblk
   have HNX:ah (lx.length≤400001):=⟨by have:=jr l HW.o l.length (Nat.le_refl _);have:=hokx.near;omega⟩
   have HOX:=ah.mk hokx
   have HBX:=ah.mk hbsx
   have HRX:=ah.mk (Kd.aX hRx).2.2
   have HPT:ah (iA.f (IntKind.u64.wrap (l.length:Int)) 2=some (dR l.length 2)):=⟨Kv (by omega) (by omega) 2⟩
   have hbs2:(dR l.length 2).length=2:=bJ _ _
   have HL2:=ah.mk hbs2
   have HBD:=ah.mk (aD HB.o)
   clear hblk hRx hokx hbsx hbs2 hlt hk
   refine EZ (n:=10) (ds:=[]) (S:=fun W=>W.cell? ⟨g,0,none⟩=some (.slice Ax lx.length cx)) #[false,false,false,false,false,false,false,false,false,false] rfl rfl rfl h0 (fun hS=>?_)
   refine gZ (i:=0) (N:=some 53) (v:=?_) (a':=?_) #[true,false,false,false,false,false,false,false,false,false] rfl rfl (by kernel_rfl) (fun _ _ _ h=>h) (Or.inl ⟨by rfl,?_⟩) ?_ ?_
   rotate_left
   ·intro w'
    go_simp
    with_reducible rfl
   rotate_left
   ·simp only[Act.put,List.setIfInBounds_toArray,List.set_cons_zero,List.set_cons_succ,dw,fu]
    rfl
   refine gZ (i:=1) (N:=some 54) (v:=?_) (a':=?_) #[true,true,false,false,false,false,false,false,false,false] rfl rfl (by kernel_rfl) (fun _ _ _ h=>h) (Or.inl ⟨by rfl,?_⟩) ?_ ?_
   rotate_left
   ·intro w'
    go_simp
    with_reducible rfl
   rotate_left
   ·simp only[Act.put,List.setIfInBounds_toArray,List.set_cons_zero,List.set_cons_succ,dw,fu]
    rfl
   refine gZ (i:=2) (N:=some 55) (v:=?_) (a':=?_) #[true,true,true,false,false,false,false,false,false,false] rfl rfl (by kernel_rfl) (fun _ _ _ h=>h) (Or.inl ⟨by rfl,?_⟩) ?_ ?_
   rotate_left
   ·intro w'
    go_simp
    with_reducible rfl
   rotate_left
   ·simp only[Act.put,List.setIfInBounds_toArray,List.set_cons_zero,List.set_cons_succ,dw,fu]
    rfl
   refine gZ (i:=4) (N:=some 57) (v:=?_) (a':=?_) #[true,true,true,false,true,false,false,false,false,false] rfl rfl (by kernel_rfl) (fun _ _ _ h=>h) (Or.inl ⟨by rfl,?_⟩) ?_ ?_
   rotate_left
   ·intro w'
    go_simp
    with_reducible rfl
   rotate_left
   ·simp only[Act.put,List.setIfInBounds_toArray,List.set_cons_zero,List.set_cons_succ,dw,fu]
    rfl
   refine gZ (i:=5) (N:=some 58) (v:=?_) (a':=?_) #[true,true,true,false,true,true,false,false,false,false] rfl rfl (by kernel_rfl) (fun _ _ _ h=>h) (Or.inl ⟨by rfl,?_⟩) ?_ ?_
   rotate_left
   ·intro w'
    go_simp
    with_reducible rfl
   rotate_left
   ·simp only[Act.put,List.setIfInBounds_toArray,List.set_cons_zero,List.set_cons_succ,dw,fu]
    rfl
   refine uh (i:=6) (N:=some 59) (v:=?_) (a':=?_) #[true,true,true,false,true,true,true,false,false,false] rfl rfl (by kernel_rfl) (fun _ _ _ h=>h) (Or.inl ⟨by rfl,?_⟩) hS ?_ ?_
   rotate_left
   ·rintro w' s0
    go_simp
    with_reducible rfl
   rotate_left
   ·simp only[Act.put,List.setIfInBounds_toArray,List.set_cons_zero,List.set_cons_succ,dw,fu]
    rfl
   refine Ms (i:=3) (N:=some 56) #[true,true,true,true,true,true,true,false,false,false] rfl rfl (by kernel_rfl) (by decide) (fun K hK=>?_)
   refine Pw Tryz.func31 (by kernel_rfl) rfl #[.int .u64 (IntKind.u64.wrap (l.length:Int)),.int .i64 2] (by rfl) rfl rfl ?h1 ?_
   case h1=>first | rfl | (simp only[List.map_toArray,List.map_cons,List.map_nil];rfl)
   refine (iA.calls _ 2 (dR l.length 2) _ HPT.o).mono ?_
   rintro e w3 ⟨v3,rfl,hr3,hb3⟩
   have HB3:=ah.mk (ak HBD.o hb3)
   have HR3:=ah.mk (Kd.dW hr3 (aZ HBD.o))
   have hS3:w3.cell? ⟨g,0,none⟩=some (.slice Ax lx.length cx):=aV hb3 hS
   have BG3:=ah.mk (aG (bg BG.o) hb3)
   have HX3:=ah.mk (Kd.aH (Kd.dF HRX.o) hb3)
   obtain⟨A3,c3,rfl⟩:=Kd.bD hr3
   clear hb3 hr3 HRX
   refine⟨_,rfl,?_⟩
   refine hK.o _ _ hS3 (fun hS=>?_)
   clear hK K
   refine CP (a':=?_) ?_ ?_
   rotate_left
   ·show Act.put _ (some 56) _=_
    simp only[Act.put,List.setIfInBounds_toArray,List.set_cons_zero,List.set_cons_succ,dw,fu]
    rfl
   refine Ms (i:=7) (N:=some 60) #[true,true,true,true,true,true,true,true,false,false] rfl rfl (by kernel_rfl) (by decide) (fun K hK=>?_)
   refine Kd.iW (Kd.int .u8) (Rr:=(Kd.int .u8).K w3) (w0:=w) w.heap.size (by rfl) (.tmp 56) (.tmp 59) 24 5 (.int .u8 0) 1 rfl Tryz.underlying24 gU rfl (by decide) (by omega) (.slice A3 (dR l.length 2).length c3) (dR l.length 2) lx Ax lx.length cx (fun _=>True) (fun _=>False) rfl rfl HR3.o HX3.o (fun _ _ h=>h) (fun _ hk=>hk.elim) (fun _ _=>trivial) HB3.o (aZ HB3.o) (by have:=HNX.o;have:=HL2.o;omega) ?_
   intro v4 w4 ho hb hg hat
   have HO4:=ah.mk ho
   have HB4:=ah.mk hb
   clear ho hb hat
   have hS4:w4.cell? ⟨g,0,none⟩=some (.slice Ax lx.length cx):=(av (dM BG3.o hg (Kd.vE HR3.o BG3.o (by decide))) 0).trans rfl
   clear hg
   refine hK.o _ _ hS4 (fun hS=>?_)
   clear hK K
   refine CP (a':=?_) ?_ ?_
   rotate_left
   ·show Act.put _ (some 60) _=_
    simp only[Act.put,List.setIfInBounds_toArray,List.set_cons_zero,List.set_cons_succ,dw,fu]
    rfl
   refine gZ (i:=8) (N:=some 2) (v:=?_) (a':=?_) #[true,true,true,true,true,true,true,true,true,false] rfl rfl (by kernel_rfl) (fun _ _ _ h=>h) (Or.inl ⟨by rfl,?_⟩) ?_ ?_
   rotate_left
   ·intro w'
    go_simp
    with_reducible rfl
   rotate_left
   ·simp only[Act.put,List.setIfInBounds_toArray,List.set_cons_zero,List.set_cons_succ,dw,fu]
    rfl
   refine gZ (i:=9) (N:=some 3) (v:=?_) (a':=?_) #[true,true,true,true,true,true,true,true,true,true] rfl rfl (by kernel_rfl) (fun _ _ _ h=>h) (Or.inl ⟨by rfl,?_⟩) ?_ ?_
   rotate_left
   ·intro w'
    go_simp
    with_reducible rfl
   rotate_left
   ·simp only[Act.put,List.setIfInBounds_toArray,List.set_cons_zero,List.set_cons_succ,dw,fu]
    rfl
   refine JG (by kernel_rfl) ?_
   go_wp2
   refine bodyPost_ret (results_tmp2 rfl _ _ _) rfl ?_
   exact⟨v4,lx,rfl,HOX.o,HBX.o,HO4.o,HB4.o⟩
end Go.Proofs.YtcgbgifbajdhpaaGreatDoor.PA
