/- Of the law ZHQDumpReads. -/
import Derived.Test.YtcgbgifbajdhpaaGreatDoorZH7
import Derived.Test.YtcgbgifbajdhpaaGreatDoorZH5
import Derived.Test.YtcgbgifbajdhpaaGreatDoorZH10
set_option linter.unusedVariables false
set_option linter.unusedSimpArgs false
set_option maxHeartbeats 8000000
set_option maxRecDepth 100000
namespace Go
abbrev ah:=@List.setIfInBounds_toArray
abbrev aj:=@List.set_cons_succ
abbrev ak:=@List.set_cons_zero
abbrev aZ:=@Go.bodyPost_ret
abbrev bU:=@List.mem_of_mem_drop
abbrev dD:=@Go.results_tmp2
abbrev eD:=@List.length_nil
abbrev iq:=@List.drop_succ_cons
abbrev iP:=@Go.rounds_succ
abbrev jd:=@Bool.true_and
abbrev jH:=@List.flatMap_append
abbrev ku:=@List.mem_range
abbrev lC:=@Option.bind_eq_some_iff
abbrev lI:=@List.range_succ_eq_map
abbrev mJ:=@Nat.succ_eq_add_one
abbrev oz:=@UInt8.lt_iff_toNat_lt
abbrev oC:=@Bool.and_eq_false_iff
abbrev oG:=@List.all_cons
abbrev oJ:=@List.all_map
end Go
namespace Go.Proofs.Y.PA
open Go.RowKit Go.Proofs.YW.oO Go.Proofs.YW.pq Go.Proofs.YW.pz
attribute [local go_sem] sV sZ uE uF sW tq uj um
mutual
def pV.j0:Nat→Int→Int→Bool→List Int→Int→Option (Int × Int)
 | 0,_,_,_,_,_=>none
 | k+1,x1,x2,x11,aa0,abr=>if x11=true then (some (0,1)) else (if (wrap64 (abr-x1))<x2 then (some (0,3)) else (pV.l0 k x1 x2 0 aa0 abr))
def pV.l0:Nat→Int→Int→Int→List Int→Int→Option (Int × Int)
 | 0,_,_,_,_,_=>none
 | k+1,x1,x2,x8,aa0,abr=>if x2>0 then (if 0≤(mn (wrap64 (8-(Int.tmod x1 8))) x2) then (if 0≤(wrap64 (Int.tdiv x1 8)) then (if (wrap64 (Int.tdiv x1 8))<(aa0.length:Int) then (if 0≤(wrap64 ((wrap64 (8-(Int.tmod x1 8)))-(mn (wrap64 (8-(Int.tmod x1 8))) x2))) then (pV.l0 k (wrap64 (x1+(mn (wrap64 (8-(Int.tmod x1 8))) x2))) (wrap64 (x2-(mn (wrap64 (8-(Int.tmod x1 8))) x2))) (Go.bits .or .u64 (shl .u64 x8 (mn (wrap64 (8-(Int.tmod x1 8))) x2)) (IntKind.u64.wrap (Go.bits .and .u8 (shr .u8 (rd aa0 (wrap64 (Int.tdiv x1 8))) (wrap64 ((wrap64 (8-(Int.tmod x1 8)))-(mn (wrap64 (8-(Int.tmod x1 8))) x2)))) (((shl .u8 1 (mn (wrap64 (8-(Int.tmod x1 8))) x2))-1) % 256)))) aa0 abr) else (none)) else (none)) else (none)) else (none)) else (some (x8,0))
end
def pV.f (k:Nat)(Y9:List Int)(Za:Int)(a1:Int)(a2:Int):Option (Int × Int):=(qZ.f Y9 Za).bind fun afp=>(if afp=true then (if a2<0 then (pV.j0 k a1 a2 true Y9 Za) else (if a2>64 then (pV.j0 k a1 a2 true Y9 Za) else (if a1<0 then (pV.j0 k a1 a2 true Y9 Za) else (pV.j0 k a1 a2 (decide (a1>Za)) Y9 Za)))) else (pV.j0 k a1 a2 true Y9 Za))
theorem pV.c (k:Nat)(Zf:Option Addr)(Zg:Nat)(Y9:List Int)(Za:Int)(a1:Int)(a2:Int)(r1:Int)(r2:Int)(w:World)(Z4:Kd.C (Kd.int .u8) w Zf Y9.length Y9)(Z5:Y9.length≤Zg)(h:pV.f k Y9 Za a1 a2=some (r1,r2)) :
 Calls Tryz.prog 156 #[.agg #[.slice Zf Y9.length Zg,.int .i64 Za],.int .i64 a1,.int .i64 a2] w fun e w'=>e = .returned (.tuple #[.int .u64 r1,.int .i64 r2])∧Below w.heap.size w w':=by
 have ahK:=Tryz.underlying149;have Zv:=Y7 Z4;have ZB:=Y7 Z5;clear Z4 Z5;have HB:=Y7 (aU w.heap.size w);have H:((qZ.f Y9 Za).bind fun afp=>(if afp=true then (if a2<0 then (pV.j0 k a1 a2 true Y9 Za) else (if a2>64 then (pV.j0 k a1 a2 true Y9 Za) else (if a1<0 then (pV.j0 k a1 a2 true Y9 Za) else (pV.j0 k a1 a2 (decide (a1>Za)) Y9 Za)))) else (pV.j0 k a1 a2 true Y9 Za)))=some (r1,r2):=h;clear h;have HC4:=Y7 H;clear H
 go_enter Tryz.func156,Tryz.ntmps156
 go_upto_region 1 with (first|((with_reducible refine qm (N:=3) rfl ?_);refine rF ?hg (N:=3) ?hd (cs := #[.slice Zf Y9.length Zg,.int .i64 Za]) (t:=149) ?hr ?_;(case hd=>rfl);(case hg=>rfl);(case hr=>first|(go_simp;done)|(go_simp;rfl));intro Zm hg w5 Zo hb;have n0_:=Y7 (oP (by repeat (first|(with_reducible first | exact HB.o | apply oN | apply oU | apply oV)|exact HB.o)) hb);have n1_:=Y7 (Zo);have n2_:=Y7 ((by rw[hg];exact (qh (by repeat (first|(with_reducible first | exact HB.o | apply oN | apply oU | apply oV)|exact HB.o))):w.heap.size≤Zm));have n3_:=Y7 ((by rw[hg];exact (qh (by repeat (first|(with_reducible first | exact HB.o | apply oN | apply oU | apply oV)|exact HB.o))):w.heap.size≤Zm));clear HB;have HB:=n0_;have Zb:=n1_;have ahQ:=n2_;have ZE:=n3_;clear n0_ n1_ n2_ n3_;clear hb Zo hg))
 repeat (go_quiet (first|((with_reducible refine qm (N:=3) rfl ?_);refine rF ?hg (N:=3) ?hd (cs := #[.slice Zf Y9.length Zg,.int .i64 Za]) (t:=149) ?hr ?_;(case hd=>rfl);(case hg=>rfl);(case hr=>first|(go_simp;done)|(go_simp;rfl));intro Zm hg w5 Zo hb;have n0_:=Y7 (oP (by repeat (first|(with_reducible first | exact HB.o | apply oN | apply oU | apply oV)|exact HB.o)) hb);have n1_:=Y7 (Zo);have n2_:=Y7 ((by rw[hg];exact (qh (by repeat (first|(with_reducible first | exact HB.o | apply oN | apply oU | apply oV)|exact HB.o))):w.heap.size≤Zm));have n3_:=Y7 ((by rw[hg];exact (qh (by repeat (first|(with_reducible first | exact HB.o | apply oN | apply oU | apply oV)|exact HB.o))):w.heap.size≤Zm));clear HB;have HB:=n0_;have Zb:=n1_;have ahQ:=n2_;have ZE:=n3_;clear n0_ n1_ n2_ n3_;clear hb Zo hg));go_upto_region 1 with (first|((with_reducible refine qm (N:=3) rfl ?_);refine rF ?hg (N:=3) ?hd (cs := #[.slice Zf Y9.length Zg,.int .i64 Za]) (t:=149) ?hr ?_;(case hd=>rfl);(case hg=>rfl);(case hr=>first|(go_simp;done)|(go_simp;rfl));intro Zm hg w5 Zo hb;have n0_:=Y7 (oP (by repeat (first|(with_reducible first | exact HB.o | apply oN | apply oU | apply oV)|exact HB.o)) hb);have n1_:=Y7 (Zo);have n2_:=Y7 ((by rw[hg];exact (qh (by repeat (first|(with_reducible first | exact HB.o | apply oN | apply oU | apply oV)|exact HB.o))):w.heap.size≤Zm));have n3_:=Y7 ((by rw[hg];exact (qh (by repeat (first|(with_reducible first | exact HB.o | apply oN | apply oU | apply oV)|exact HB.o))):w.heap.size≤Zm));clear HB;have HB:=n0_;have Zb:=n1_;have ahQ:=n2_;have ZE:=n3_;clear n0_ n1_ n2_ n3_;clear hb Zo hg)))
 (try simp only[Act.put,ah,ak,aj])
 go_cut [11] (fun v11 wc=>∃ (kq:Nat) (ae6:Bool),v11 = .bool ae6∧oM (pV.j0 kq a1 a2 ae6 Y9 Za=some (r1,r2))∧oM (kq≤k)∧oM (wc.heap[Zm]? = some (.cells #[(.slice Zf Y9.length Zg),.int .i64 Za] 149 (0,0)))∧oM (Below w.heap.size w wc))
 case first=>
  have H:=HC4.o;clear HC4;replace H:=Option.bind_eq_some_iff.mp H;obtain⟨afp,A60,H⟩:=H;replace H:(if afp=true then (if a2<0 then (pV.j0 k a1 a2 true Y9 Za) else (if a2>64 then (pV.j0 k a1 a2 true Y9 Za) else (if a1<0 then (pV.j0 k a1 a2 true Y9 Za) else (pV.j0 k a1 a2 (decide (a1>Za)) Y9 Za)))) else (pV.j0 k a1 a2 true Y9 Za))=some (r1,r2):=H;have A6:=Y7 A60;clear A60
  by_cases c7:afp=true
  ·subst c7;have H1:(if a2<0 then (pV.j0 k a1 a2 true Y9 Za) else (if a2>64 then (pV.j0 k a1 a2 true Y9 Za) else (if a1<0 then (pV.j0 k a1 a2 true Y9 Za) else (pV.j0 k a1 a2 (decide (a1>Za)) Y9 Za))))=some (r1,r2):=by rw[au rfl] at H;exact H
   clear H;have H:=H1;clear H1
   by_cases c8:a2<0
   ·rw[au c8] at H;have aac:decide (a2<0)=true:=aC c8;clear c8
    (first | rw[aac] | (simp only[q8,xE];rw[aac])|skip)
    have H':=Y7 H;clear H;have af0:w5.cell? ⟨Zm,0,none⟩=some (.slice Zf Y9.length Zg):=(oQ Zb.o 0).trans rfl;have af2:w5.cell? ⟨Zm,1,none⟩=some (.int .i64 Za):=(oQ Zb.o 1).trans rfl;have af3:=oW Zb.o 0;have af4:=oW Zb.o 1
    go_wp2_with (first|(go_at_call 141;(with_reducible refine (qZ.c _ _ Y9 Za true _ ?Zc ?Zd A6.o).mono ?_);(case Zc=>repeat (first | exact (Kd.o9 Zv.o HB.o)|(with_reducible refine Kd.rP ?_ _)|(with_reducible refine Kd.C_drewN ?_ _)|(with_reducible refine Kd.sH ?_)));(case Zd=>exact ZB.o);rintro e w10 ⟨rfl,hb⟩;have n0_:=Y7 (o7 (g:=Zm) (o := .cells #[.slice Zf Y9.length Zg,.int .i64 Za] 149 (0,0)) (by (with_reducible repeat (first | refine qd ?_ _ | refine pX ?_ | refine pK ?_ _));exact Zb.o) hb);have n1_:=Y7 (oP (by repeat (first|(with_reducible first | exact HB.o | apply oN | apply oU | apply oV | refine pF ?_ ZE.o)|exact HB.o)) hb);clear Zb;clear HB;have Zb:=n0_;have HB:=n1_;clear n0_ n1_;(try clear hb);(try clear hb2);(try clear hk);(try clear hi)))
    repeat (go_quiet (first|(go_at_call 141;(with_reducible refine (qZ.c _ _ Y9 Za true _ ?Zc ?Zd A6.o).mono ?_);(case Zc=>repeat (first | exact (Kd.o9 Zv.o HB.o)|(with_reducible refine Kd.rP ?_ _)|(with_reducible refine Kd.C_drewN ?_ _)|(with_reducible refine Kd.sH ?_)));(case Zd=>exact ZB.o);rintro e w10 ⟨rfl,hb⟩;have n0_:=Y7 (o7 (g:=Zm) (o := .cells #[.slice Zf Y9.length Zg,.int .i64 Za] 149 (0,0)) (by (with_reducible repeat (first | refine qd ?_ _ | refine pX ?_ | refine pK ?_ _));exact Zb.o) hb);have n1_:=Y7 (oP (by repeat (first|(with_reducible first | exact HB.o | apply oN | apply oU | apply oV | refine pF ?_ ZE.o)|exact HB.o)) hb);clear Zb;clear HB;have Zb:=n0_;have HB:=n1_;clear n0_ n1_;(try clear hb);(try clear hb2);(try clear hk);(try clear hi)));try go_wp2_with (first|(go_at_call 141;(with_reducible refine (qZ.c _ _ Y9 Za true _ ?Zc ?Zd A6.o).mono ?_);(case Zc=>repeat (first | exact (Kd.o9 Zv.o HB.o)|(with_reducible refine Kd.rP ?_ _)|(with_reducible refine Kd.C_drewN ?_ _)|(with_reducible refine Kd.sH ?_)));(case Zd=>exact ZB.o);rintro e w10 ⟨rfl,hb⟩;have n0_:=Y7 (o7 (g:=Zm) (o := .cells #[.slice Zf Y9.length Zg,.int .i64 Za] 149 (0,0)) (by (with_reducible repeat (first | refine qd ?_ _ | refine pX ?_ | refine pK ?_ _));exact Zb.o) hb);have n1_:=Y7 (oP (by repeat (first|(with_reducible first | exact HB.o | apply oN | apply oU | apply oV | refine pF ?_ ZE.o)|exact HB.o)) hb);clear Zb;clear HB;have Zb:=n0_;have HB:=n1_;clear n0_ n1_;(try clear hb);(try clear hb2);(try clear hk);(try clear hi))))
    go_meet
    case rel=>exact⟨_,(true),(by first | rfl | (simp;done)|(simp[*];done)),H',⟨by first | omega | exact ay _⟩,⟨by (with_reducible repeat (first | refine qd ?_ _ | refine pX ?_ | refine pK ?_ _));exact Zb.o⟩,⟨by repeat (first|(with_reducible first | exact HB.o | apply oN | apply oU | apply oV | refine pF ?_ ZE.o)|exact HB.o)⟩⟩
   ·rw[av c8] at H;have aac:decide (a2<0)=false:=aD c8;clear c8
    (first | rw[aac] | (simp only[q8,xE];rw[aac])|skip)
    by_cases c11:a2>64
    ·rw[au c11] at H;have abb:decide (64<a2)=true:=aC c11;clear c11;have H':=Y7 H;clear H;have aai:w5.cell? ⟨Zm,0,none⟩=some (.slice Zf Y9.length Zg):=(oQ Zb.o 0).trans rfl;have aaj:w5.cell? ⟨Zm,1,none⟩=some (.int .i64 Za):=(oQ Zb.o 1).trans rfl;have aaJ:=oW Zb.o 0;have aak:=oW Zb.o 1
     go_wp2_with (first|(go_at_call 141;(with_reducible refine (qZ.c _ _ Y9 Za true _ ?Zc ?Zd A6.o).mono ?_);(case Zc=>repeat (first | exact (Kd.o9 Zv.o HB.o)|(with_reducible refine Kd.rP ?_ _)|(with_reducible refine Kd.C_drewN ?_ _)|(with_reducible refine Kd.sH ?_)));(case Zd=>exact ZB.o);rintro e w13 ⟨rfl,hb⟩;have n0_:=Y7 (o7 (g:=Zm) (o := .cells #[.slice Zf Y9.length Zg,.int .i64 Za] 149 (0,0)) (by (with_reducible repeat (first | refine qd ?_ _ | refine pX ?_ | refine pK ?_ _));exact Zb.o) hb);have n1_:=Y7 (oP (by repeat (first|(with_reducible first | exact HB.o | apply oN | apply oU | apply oV | refine pF ?_ ZE.o)|exact HB.o)) hb);clear Zb;clear HB;have Zb:=n0_;have HB:=n1_;clear n0_ n1_;(try clear hb);(try clear hb2);(try clear hk);(try clear hi)))
     repeat (go_quiet (first|(go_at_call 141;(with_reducible refine (qZ.c _ _ Y9 Za true _ ?Zc ?Zd A6.o).mono ?_);(case Zc=>repeat (first | exact (Kd.o9 Zv.o HB.o)|(with_reducible refine Kd.rP ?_ _)|(with_reducible refine Kd.C_drewN ?_ _)|(with_reducible refine Kd.sH ?_)));(case Zd=>exact ZB.o);rintro e w13 ⟨rfl,hb⟩;have n0_:=Y7 (o7 (g:=Zm) (o := .cells #[.slice Zf Y9.length Zg,.int .i64 Za] 149 (0,0)) (by (with_reducible repeat (first | refine qd ?_ _ | refine pX ?_ | refine pK ?_ _));exact Zb.o) hb);have n1_:=Y7 (oP (by repeat (first|(with_reducible first | exact HB.o | apply oN | apply oU | apply oV | refine pF ?_ ZE.o)|exact HB.o)) hb);clear Zb;clear HB;have Zb:=n0_;have HB:=n1_;clear n0_ n1_;(try clear hb);(try clear hb2);(try clear hk);(try clear hi)));try go_wp2_with (first|(go_at_call 141;(with_reducible refine (qZ.c _ _ Y9 Za true _ ?Zc ?Zd A6.o).mono ?_);(case Zc=>repeat (first | exact (Kd.o9 Zv.o HB.o)|(with_reducible refine Kd.rP ?_ _)|(with_reducible refine Kd.C_drewN ?_ _)|(with_reducible refine Kd.sH ?_)));(case Zd=>exact ZB.o);rintro e w13 ⟨rfl,hb⟩;have n0_:=Y7 (o7 (g:=Zm) (o := .cells #[.slice Zf Y9.length Zg,.int .i64 Za] 149 (0,0)) (by (with_reducible repeat (first | refine qd ?_ _ | refine pX ?_ | refine pK ?_ _));exact Zb.o) hb);have n1_:=Y7 (oP (by repeat (first|(with_reducible first | exact HB.o | apply oN | apply oU | apply oV | refine pF ?_ ZE.o)|exact HB.o)) hb);clear Zb;clear HB;have Zb:=n0_;have HB:=n1_;clear n0_ n1_;(try clear hb);(try clear hb2);(try clear hk);(try clear hi))))
     go_meet
     case rel=>exact⟨_,(true),(by first | rfl | (simp;done)|(simp[*];done)),H',⟨by first | omega | exact ay _⟩,⟨by (with_reducible repeat (first | refine qd ?_ _ | refine pX ?_ | refine pK ?_ _));exact Zb.o⟩,⟨by repeat (first|(with_reducible first | exact HB.o | apply oN | apply oU | apply oV | refine pF ?_ ZE.o)|exact HB.o)⟩⟩
    ·rw[av c11] at H;have abb:decide (64<a2)=false:=aD c11;clear c11
     by_cases c14:a1<0
     ·rw[au c14] at H;have ado:decide (a1<0)=true:=aC c14;clear c14;have H':=Y7 H;clear H;have ae7:w5.cell? ⟨Zm,0,none⟩=some (.slice Zf Y9.length Zg):=(oQ Zb.o 0).trans rfl;have ae8:w5.cell? ⟨Zm,1,none⟩=some (.int .i64 Za):=(oQ Zb.o 1).trans rfl;have ae9:=oW Zb.o 0;have afa:=oW Zb.o 1
      go_wp2_with (first|(go_at_call 141;(with_reducible refine (qZ.c _ _ Y9 Za true _ ?Zc ?Zd A6.o).mono ?_);(case Zc=>repeat (first | exact (Kd.o9 Zv.o HB.o)|(with_reducible refine Kd.rP ?_ _)|(with_reducible refine Kd.C_drewN ?_ _)|(with_reducible refine Kd.sH ?_)));(case Zd=>exact ZB.o);rintro e w16 ⟨rfl,hb⟩;have n0_:=Y7 (o7 (g:=Zm) (o := .cells #[.slice Zf Y9.length Zg,.int .i64 Za] 149 (0,0)) (by (with_reducible repeat (first | refine qd ?_ _ | refine pX ?_ | refine pK ?_ _));exact Zb.o) hb);have n1_:=Y7 (oP (by repeat (first|(with_reducible first | exact HB.o | apply oN | apply oU | apply oV | refine pF ?_ ZE.o)|exact HB.o)) hb);clear Zb;clear HB;have Zb:=n0_;have HB:=n1_;clear n0_ n1_;(try clear hb);(try clear hb2);(try clear hk);(try clear hi)))
      repeat (go_quiet (first|(go_at_call 141;(with_reducible refine (qZ.c _ _ Y9 Za true _ ?Zc ?Zd A6.o).mono ?_);(case Zc=>repeat (first | exact (Kd.o9 Zv.o HB.o)|(with_reducible refine Kd.rP ?_ _)|(with_reducible refine Kd.C_drewN ?_ _)|(with_reducible refine Kd.sH ?_)));(case Zd=>exact ZB.o);rintro e w16 ⟨rfl,hb⟩;have n0_:=Y7 (o7 (g:=Zm) (o := .cells #[.slice Zf Y9.length Zg,.int .i64 Za] 149 (0,0)) (by (with_reducible repeat (first | refine qd ?_ _ | refine pX ?_ | refine pK ?_ _));exact Zb.o) hb);have n1_:=Y7 (oP (by repeat (first|(with_reducible first | exact HB.o | apply oN | apply oU | apply oV | refine pF ?_ ZE.o)|exact HB.o)) hb);clear Zb;clear HB;have Zb:=n0_;have HB:=n1_;clear n0_ n1_;(try clear hb);(try clear hb2);(try clear hk);(try clear hi)));try go_wp2_with (first|(go_at_call 141;(with_reducible refine (qZ.c _ _ Y9 Za true _ ?Zc ?Zd A6.o).mono ?_);(case Zc=>repeat (first | exact (Kd.o9 Zv.o HB.o)|(with_reducible refine Kd.rP ?_ _)|(with_reducible refine Kd.C_drewN ?_ _)|(with_reducible refine Kd.sH ?_)));(case Zd=>exact ZB.o);rintro e w16 ⟨rfl,hb⟩;have n0_:=Y7 (o7 (g:=Zm) (o := .cells #[.slice Zf Y9.length Zg,.int .i64 Za] 149 (0,0)) (by (with_reducible repeat (first | refine qd ?_ _ | refine pX ?_ | refine pK ?_ _));exact Zb.o) hb);have n1_:=Y7 (oP (by repeat (first|(with_reducible first | exact HB.o | apply oN | apply oU | apply oV | refine pF ?_ ZE.o)|exact HB.o)) hb);clear Zb;clear HB;have Zb:=n0_;have HB:=n1_;clear n0_ n1_;(try clear hb);(try clear hb2);(try clear hk);(try clear hi))))
      go_meet
      case rel=>exact⟨_,(true),(by first | rfl | (simp;done)|(simp[*];done)),H',⟨by first | omega | exact ay _⟩,⟨by (with_reducible repeat (first | refine qd ?_ _ | refine pX ?_ | refine pK ?_ _));exact Zb.o⟩,⟨by repeat (first|(with_reducible first | exact HB.o | apply oN | apply oU | apply oV | refine pF ?_ ZE.o)|exact HB.o)⟩⟩
     ·rw[av c14] at H;have ado:decide (a1<0)=false:=aD c14;clear c14;have H':=Y7 H;clear H;have afb:w5.cell? ⟨Zm,0,none⟩=some (.slice Zf Y9.length Zg):=(oQ Zb.o 0).trans rfl;have afc:w5.cell? ⟨Zm,1,none⟩=some (.int .i64 Za):=(oQ Zb.o 1).trans rfl;have afd:=oW Zb.o 0;have afe:=oW Zb.o 1
      go_wp2_with (first|(go_at_call 141;(with_reducible refine (qZ.c _ _ Y9 Za true _ ?Zc ?Zd A6.o).mono ?_);(case Zc=>repeat (first | exact (Kd.o9 Zv.o HB.o)|(with_reducible refine Kd.rP ?_ _)|(with_reducible refine Kd.C_drewN ?_ _)|(with_reducible refine Kd.sH ?_)));(case Zd=>exact ZB.o);rintro e w18 ⟨rfl,hb⟩;have n0_:=Y7 (o7 (g:=Zm) (o := .cells #[.slice Zf Y9.length Zg,.int .i64 Za] 149 (0,0)) (by (with_reducible repeat (first | refine qd ?_ _ | refine pX ?_ | refine pK ?_ _));exact Zb.o) hb);have n1_:=Y7 (oP (by repeat (first|(with_reducible first | exact HB.o | apply oN | apply oU | apply oV | refine pF ?_ ZE.o)|exact HB.o)) hb);clear Zb;clear HB;have Zb:=n0_;have HB:=n1_;clear n0_ n1_;(try clear hb);(try clear hb2);(try clear hk);(try clear hi);have abt:w18.cell? ⟨Zm,0,none⟩=some (.slice Zf Y9.length Zg):=(oQ Zb.o 0).trans rfl;have abu:w18.cell? ⟨Zm,1,none⟩=some (.int .i64 Za):=(oQ Zb.o 1).trans rfl;have abv:=oW Zb.o 0;have abw:=oW Zb.o 1))
      repeat (go_quiet (first|(go_at_call 141;(with_reducible refine (qZ.c _ _ Y9 Za true _ ?Zc ?Zd A6.o).mono ?_);(case Zc=>repeat (first | exact (Kd.o9 Zv.o HB.o)|(with_reducible refine Kd.rP ?_ _)|(with_reducible refine Kd.C_drewN ?_ _)|(with_reducible refine Kd.sH ?_)));(case Zd=>exact ZB.o);rintro e w18 ⟨rfl,hb⟩;have n0_:=Y7 (o7 (g:=Zm) (o := .cells #[.slice Zf Y9.length Zg,.int .i64 Za] 149 (0,0)) (by (with_reducible repeat (first | refine qd ?_ _ | refine pX ?_ | refine pK ?_ _));exact Zb.o) hb);have n1_:=Y7 (oP (by repeat (first|(with_reducible first | exact HB.o | apply oN | apply oU | apply oV | refine pF ?_ ZE.o)|exact HB.o)) hb);clear Zb;clear HB;have Zb:=n0_;have HB:=n1_;clear n0_ n1_;(try clear hb);(try clear hb2);(try clear hk);(try clear hi);have abt:w18.cell? ⟨Zm,0,none⟩=some (.slice Zf Y9.length Zg):=(oQ Zb.o 0).trans rfl;have abu:w18.cell? ⟨Zm,1,none⟩=some (.int .i64 Za):=(oQ Zb.o 1).trans rfl;have abv:=oW Zb.o 0;have abw:=oW Zb.o 1));try go_wp2_with (first|(go_at_call 141;(with_reducible refine (qZ.c _ _ Y9 Za true _ ?Zc ?Zd A6.o).mono ?_);(case Zc=>repeat (first | exact (Kd.o9 Zv.o HB.o)|(with_reducible refine Kd.rP ?_ _)|(with_reducible refine Kd.C_drewN ?_ _)|(with_reducible refine Kd.sH ?_)));(case Zd=>exact ZB.o);rintro e w18 ⟨rfl,hb⟩;have n0_:=Y7 (o7 (g:=Zm) (o := .cells #[.slice Zf Y9.length Zg,.int .i64 Za] 149 (0,0)) (by (with_reducible repeat (first | refine qd ?_ _ | refine pX ?_ | refine pK ?_ _));exact Zb.o) hb);have n1_:=Y7 (oP (by repeat (first|(with_reducible first | exact HB.o | apply oN | apply oU | apply oV | refine pF ?_ ZE.o)|exact HB.o)) hb);clear Zb;clear HB;have Zb:=n0_;have HB:=n1_;clear n0_ n1_;(try clear hb);(try clear hb2);(try clear hk);(try clear hi);have abt:w18.cell? ⟨Zm,0,none⟩=some (.slice Zf Y9.length Zg):=(oQ Zb.o 0).trans rfl;have abu:w18.cell? ⟨Zm,1,none⟩=some (.int .i64 Za):=(oQ Zb.o 1).trans rfl;have abv:=oW Zb.o 0;have abw:=oW Zb.o 1)))
      go_meet
      case rel=>exact⟨_,(decide (a1>Za)),(by first | rfl | (simp;done)|(simp[*];done)),H',⟨by first | omega | exact ay _⟩,⟨by (with_reducible repeat (first | refine qd ?_ _ | refine pX ?_ | refine pK ?_ _));exact Zb.o⟩,⟨by repeat (first|(with_reducible first | exact HB.o | apply oN | apply oU | apply oV | refine pF ?_ ZE.o)|exact HB.o)⟩⟩
  ·replace c7:=Bool.eq_false_iff.mpr c7;subst c7;have H1:(pV.j0 k a1 a2 true Y9 Za)=some (r1,r2):=by rw[av (show ¬ (false=true) by decide)] at H;exact H
   clear H;have H:=H1;clear H1;have H':=Y7 H;clear H;have aff:w5.cell? ⟨Zm,0,none⟩=some (.slice Zf Y9.length Zg):=(oQ Zb.o 0).trans rfl;have afg:w5.cell? ⟨Zm,1,none⟩=some (.int .i64 Za):=(oQ Zb.o 1).trans rfl;have afh:=oW Zb.o 0;have afi:=oW Zb.o 1
   go_wp2_with (first|(go_at_call 141;(with_reducible refine (qZ.c _ _ Y9 Za false _ ?Zc ?Zd A6.o).mono ?_);(case Zc=>repeat (first | exact (Kd.o9 Zv.o HB.o)|(with_reducible refine Kd.rP ?_ _)|(with_reducible refine Kd.C_drewN ?_ _)|(with_reducible refine Kd.sH ?_)));(case Zd=>exact ZB.o);rintro e w21 ⟨rfl,hb⟩;have n0_:=Y7 (o7 (g:=Zm) (o := .cells #[.slice Zf Y9.length Zg,.int .i64 Za] 149 (0,0)) (by (with_reducible repeat (first | refine qd ?_ _ | refine pX ?_ | refine pK ?_ _));exact Zb.o) hb);have n1_:=Y7 (oP (by repeat (first|(with_reducible first | exact HB.o | apply oN | apply oU | apply oV | refine pF ?_ ZE.o)|exact HB.o)) hb);clear Zb;clear HB;have Zb:=n0_;have HB:=n1_;clear n0_ n1_;(try clear hb);(try clear hb2);(try clear hk);(try clear hi)))
   repeat (go_quiet (first|(go_at_call 141;(with_reducible refine (qZ.c _ _ Y9 Za false _ ?Zc ?Zd A6.o).mono ?_);(case Zc=>repeat (first | exact (Kd.o9 Zv.o HB.o)|(with_reducible refine Kd.rP ?_ _)|(with_reducible refine Kd.C_drewN ?_ _)|(with_reducible refine Kd.sH ?_)));(case Zd=>exact ZB.o);rintro e w21 ⟨rfl,hb⟩;have n0_:=Y7 (o7 (g:=Zm) (o := .cells #[.slice Zf Y9.length Zg,.int .i64 Za] 149 (0,0)) (by (with_reducible repeat (first | refine qd ?_ _ | refine pX ?_ | refine pK ?_ _));exact Zb.o) hb);have n1_:=Y7 (oP (by repeat (first|(with_reducible first | exact HB.o | apply oN | apply oU | apply oV | refine pF ?_ ZE.o)|exact HB.o)) hb);clear Zb;clear HB;have Zb:=n0_;have HB:=n1_;clear n0_ n1_;(try clear hb);(try clear hb2);(try clear hk);(try clear hi)));try go_wp2_with (first|(go_at_call 141;(with_reducible refine (qZ.c _ _ Y9 Za false _ ?Zc ?Zd A6.o).mono ?_);(case Zc=>repeat (first | exact (Kd.o9 Zv.o HB.o)|(with_reducible refine Kd.rP ?_ _)|(with_reducible refine Kd.C_drewN ?_ _)|(with_reducible refine Kd.sH ?_)));(case Zd=>exact ZB.o);rintro e w21 ⟨rfl,hb⟩;have n0_:=Y7 (o7 (g:=Zm) (o := .cells #[.slice Zf Y9.length Zg,.int .i64 Za] 149 (0,0)) (by (with_reducible repeat (first | refine qd ?_ _ | refine pX ?_ | refine pK ?_ _));exact Zb.o) hb);have n1_:=Y7 (oP (by repeat (first|(with_reducible first | exact HB.o | apply oN | apply oU | apply oV | refine pF ?_ ZE.o)|exact HB.o)) hb);clear Zb;clear HB;have Zb:=n0_;have HB:=n1_;clear n0_ n1_;(try clear hb);(try clear hb2);(try clear hk);(try clear hi))))
   go_meet
   case rel=>exact⟨_,(true),(by first | rfl | (simp;done)|(simp[*];done)),H',⟨by first | omega | exact ay _⟩,⟨by (with_reducible repeat (first | refine qd ?_ _ | refine pX ?_ | refine pK ?_ _));exact Zb.o⟩,⟨by repeat (first|(with_reducible first | exact HB.o | apply oN | apply oU | apply oV | refine pF ?_ ZE.o)|exact HB.o)⟩⟩
 case rest=>
  clear HC4
  try clear c1
  try clear p2
  try clear c7
  try clear c8
  try clear aac
  try clear c11
  try clear abb
  try clear c14
  try clear ado
  try clear c15
  try clear aai
  try clear aaj
  try clear ae7
  try clear ae8
  try clear afb
  try clear afc
  try clear abt
  try clear abu
  try clear aff
  try clear afg
  try clear af0
  try clear af2
  try clear aaJ
  try clear aak
  try clear ae9
  try clear afa
  try clear afd
  try clear afe
  try clear abv
  try clear abw
  try clear afh
  try clear afi
  try clear af3
  try clear af4
  obtain⟨kq,ae6,rfl,HA,HJ3,Zb,HB⟩:=hcut;cases kq with
  | zero=>exact absurd HA.o (by simp[pV.j0])
  | succ kj3=>
    have H:=HA.o;clear HA;simp only[pV.j0] at H
    by_cases c22:ae6=true
    ·subst c22;have H1:(some (0,1))=some (r1,r2):=by rw[au rfl] at H;exact H
     clear H;have H:=H1;clear H1;simp only[bF,bG] at H;obtain⟨rfl,rfl⟩:=H;go_wp2
     repeat (go_quiet (fail);try go_wp2)
     go_ret2
     exact⟨by first | rfl | (simp[pQ,pR]<;>rfl)|(simp[*,pQ,pR]<;>rfl),by repeat (first|(with_reducible first | exact HB.o | apply oN | apply oU | apply oV | refine pF ?_ ZE.o)|exact HB.o)⟩
    ·replace c22:=Bool.eq_false_iff.mpr c22;subst c22;have H1:(if (wrap64 (Za-a1))<a2 then (some (0,3)) else (pV.l0 kj3 a1 a2 0 Y9 Za))=some (r1,r2):=by rw[av (show ¬ (false=true) by decide)] at H;exact H
     clear H;have H:=H1;clear H1
     by_cases c23:(wrap64 (Za-a1))<a2
     ·rw[au c23] at H;have ae5:decide ((wrap64 (Za-a1))<a2)=true:=aC c23;clear c23;simp only[bF,bG] at H;obtain⟨rfl,rfl⟩:=H;have ahd:wc.cell? ⟨Zm,0,none⟩=some (.slice Zf Y9.length Zg):=(oQ Zb.o 0).trans rfl;have ahe:wc.cell? ⟨Zm,1,none⟩=some (.int .i64 Za):=(oQ Zb.o 1).trans rfl;have ahf:=oW Zb.o 0;have ahg:=oW Zb.o 1;go_wp2
      repeat (go_quiet (fail);try go_wp2)
      go_ret2
      exact⟨by first | rfl | (simp[pQ,pR]<;>rfl)|(simp[*,pQ,pR]<;>rfl),by repeat (first|(with_reducible first | exact HB.o | apply oN | apply oU | apply oV | refine pF ?_ ZE.o)|exact HB.o)⟩
     ·rw[av c23] at H;have ae5:decide ((wrap64 (Za-a1))<a2)=false:=aD c23;clear c23;have H':=Y7 H;clear H;have adM:wc.cell? ⟨Zm,0,none⟩=some (.slice Zf Y9.length Zg):=(oQ Zb.o 0).trans rfl;have adN:wc.cell? ⟨Zm,1,none⟩=some (.int .i64 Za):=(oQ Zb.o 1).trans rfl;have adO:=oW Zb.o 0;have adP:=oW Zb.o 1;go_wp2
      repeat (go_quiet (fail);try go_wp2)
      go_loopg [1,2,8] kj3 (fun kq v1 v2 v8 w'=>∃ (Zz:Int) (aaM:Int) (aeH:Int),v1 = .int .i64 Zz∧v2 = .int .i64 aaM∧v8 = .int .u64 aeH∧oM (pV.l0 kq Zz aaM aeH Y9 Za=some (r1,r2))∧oM (kq≤kj3)∧oM (w'.heap[Zm]? = some (.cells #[(.slice Zf Y9.length Zg),.int .i64 Za] 149 (0,0)))∧oM (Below w.heap.size w w'))
      case atStart=>exact⟨(a1),(a2),(0),(by first | rfl | (simp;done)|(simp[*];done)),(by first | rfl | (simp;done)|(simp[*];done)),(by first | rfl | (simp;done)|(simp[*];done)),H',⟨ay _⟩,⟨by (with_reducible repeat (first | refine qd ?_ _ | refine pX ?_ | refine pK ?_ _));exact Zb.o⟩,⟨by repeat (first|(with_reducible first | exact HB.o | apply oN | apply oU | apply oV | refine pF ?_ ZE.o)|exact HB.o)⟩⟩
      case round=>
       clear H'
       try clear c1
       try clear c2
       try clear p2
       try clear p6
       try clear c7
       try clear c8
       try clear aac
       try clear c11
       try clear abb
       try clear c14
       try clear ado
       try clear c15
       try clear c22
       try clear c23
       try clear ae5
       try clear aai
       try clear aaj
       try clear ae7
       try clear ae8
       try clear afb
       try clear afc
       try clear abt
       try clear abu
       try clear aff
       try clear afg
       try clear ahd
       try clear ahe
       try clear adM
       try clear adN
       try clear af0
       try clear af2
       try clear aaJ
       try clear aak
       try clear ae9
       try clear afa
       try clear afd
       try clear afe
       try clear abv
       try clear abw
       try clear afh
       try clear afi
       try clear ahf
       try clear ahg
       try clear adO
       try clear adP
       try clear af3
       try clear af4
       try clear p2
       obtain⟨Zz,aaM,aeH,rfl,rfl,rfl,HA,HK2,Zb,HB⟩:=hrel;cases gk with
       | zero=>exact absurd HA.o (by simp[pV.l0])
       | succ k2=>
         have H:=HA.o;clear HA;simp only[pV.l0] at H
         by_cases c26:aaM>0
         ·rw[au c26] at H;have afZ:decide (0<aaM)=true:=aC c26;clear c26;obtain⟨ZA,ad7⟩:∃ j_:Int,(mn (wrap64 (8-(Int.tmod Zz 8))) aaM)=j_:=⟨_,rfl⟩;replace H:(if 0≤(ZA) then (if 0≤(wrap64 (Int.tdiv Zz 8)) then (if (wrap64 (Int.tdiv Zz 8))<(Y9.length:Int) then (if 0≤(wrap64 ((wrap64 (8-(Int.tmod Zz 8)))-(ZA))) then (pV.l0 k2 (wrap64 (Zz+(ZA))) (wrap64 (aaM-(ZA))) (Go.bits .or .u64 (shl .u64 aeH (ZA)) (IntKind.u64.wrap (Go.bits .and .u8 (shr .u8 (rd Y9 (wrap64 (Int.tdiv Zz 8))) (wrap64 ((wrap64 (8-(Int.tmod Zz 8)))-(ZA)))) (((shl .u8 1 (ZA))-1) % 256)))) Y9 Za) else (none)) else (none)) else (none)) else (none))=some (r1,r2):=by first|(rw[ad7] at H;exact H)|(simp only[ad7] at H ⊢;exact H)
          have alx:(if aaM<(wrap64 (8-(Int.tmod Zz 8))) then aaM else (wrap64 (8-(Int.tmod Zz 8))))=ZA:=ad7
          by_cases c28:0≤(ZA)
          ·rw[au c28] at H;have anY:=bL c28;have anZ:decide (0≤(ZA))=true:=aC c28;clear c28;obtain⟨ad9,aea⟩:∃ j_:Int,(shl .u64 aeH (ZA))=j_:=⟨_,rfl⟩;replace H:(if 0≤(wrap64 (Int.tdiv Zz 8)) then (if (wrap64 (Int.tdiv Zz 8))<(Y9.length:Int) then (if 0≤(wrap64 ((wrap64 (8-(Int.tmod Zz 8)))-(ZA))) then (pV.l0 k2 (wrap64 (Zz+(ZA))) (wrap64 (aaM-(ZA))) (Go.bits .or .u64 (ad9) (IntKind.u64.wrap (Go.bits .and .u8 (shr .u8 (rd Y9 (wrap64 (Int.tdiv Zz 8))) (wrap64 ((wrap64 (8-(Int.tmod Zz 8)))-(ZA)))) (((shl .u8 1 (ZA))-1) % 256)))) Y9 Za) else (none)) else (none)) else (none))=some (r1,r2):=by first|(rw[aea] at H;exact H)|(simp only[aea] at H ⊢;exact H)
           have aly:(IntKind.u64.wrap (aeH*2 ^ min (ZA).toNat 64))=ad9:=aea;have alz:(ZA)≤64→(IntKind.u64.wrap (aeH*2 ^ (ZA).toNat))=ad9:=uW aea;obtain⟨aaQ,af5⟩:∃ j_:Int,(wrap64 (Int.tdiv Zz 8))=j_:=⟨_,rfl⟩;replace H:(if 0≤(aaQ) then (if (aaQ)<(Y9.length:Int) then (if 0≤(wrap64 ((wrap64 (8-(Int.tmod Zz 8)))-(ZA))) then (pV.l0 k2 (wrap64 (Zz+(ZA))) (wrap64 (aaM-(ZA))) (Go.bits .or .u64 (ad9) (IntKind.u64.wrap (Go.bits .and .u8 (shr .u8 (rd Y9 (aaQ)) (wrap64 ((wrap64 (8-(Int.tmod Zz 8)))-(ZA)))) (((shl .u8 1 (ZA))-1) % 256)))) Y9 Za) else (none)) else (none)) else (none))=some (r1,r2):=by first|(rw[af5] at H;exact H)|(simp only[af5] at H ⊢;exact H)
           have alA:(IntKind.i64.wrap (Int.tdiv Zz 8))=aaQ:=(q8 _).trans af5
           by_cases c31:0≤(aaQ)
           ·rw[au c31] at H;have an0:decide (0≤(aaQ))=true:=aC c31;clear c31
            by_cases c32:(aaQ)<(Y9.length:Int)
            ·rw[au c32] at H;have ajv:decide ((aaQ)<(Y9.length:Int))=true:=aC c32;clear c32;obtain⟨aaz,aat⟩:∃ j_:Int,(wrap64 ((wrap64 (8-(Int.tmod Zz 8)))-(ZA)))=j_:=⟨_,rfl⟩;replace H:(if 0≤(aaz) then (pV.l0 k2 (wrap64 (Zz+(ZA))) (wrap64 (aaM-(ZA))) (Go.bits .or .u64 (ad9) (IntKind.u64.wrap (Go.bits .and .u8 (shr .u8 (rd Y9 (aaQ)) (aaz)) (((shl .u8 1 (ZA))-1) % 256)))) Y9 Za) else (none))=some (r1,r2):=by first|(rw[aat] at H;exact H)|(simp only[aat] at H ⊢;exact H)
             have alB:(IntKind.i64.wrap ((wrap64 (8-(Int.tmod Zz 8)))-(ZA)))=aaz:=(q8 _).trans aat
             by_cases c34:0≤(aaz)
             ·rw[au c34] at H;have ajw:=bL c34;have an1:decide (0≤(aaz))=true:=aC c34;clear c34;obtain⟨aaR,ZU⟩:∃ j_:Int,(shr .u8 (rd Y9 (aaQ)) (aaz))=j_:=⟨_,rfl⟩;replace H:(pV.l0 k2 (wrap64 (Zz+(ZA))) (wrap64 (aaM-(ZA))) (Go.bits .or .u64 (ad9) (IntKind.u64.wrap (Go.bits .and .u8 (aaR) (((shl .u8 1 (ZA))-1) % 256)))) Y9 Za)=some (r1,r2):=by first|(rw[ZU] at H;exact H)|(simp only[ZU] at H ⊢;exact H)
              have ais:((rd Y9 (aaQ)) / 2 ^ min (aaz).toNat 8)=aaR:=ZU;have ait:(aaz)≤8→((rd Y9 (aaQ)) / 2 ^ (aaz).toNat)=aaR:=Cz ZU;have an2:=bL (aN (by assumption):0≤(ZA));obtain⟨afq,aeb⟩:∃ j_:Int,(shl .u8 1 (ZA))=j_:=⟨_,rfl⟩;replace H:(pV.l0 k2 (wrap64 (Zz+(ZA))) (wrap64 (aaM-(ZA))) (Go.bits .or .u64 (ad9) (IntKind.u64.wrap (Go.bits .and .u8 (aaR) (((afq)-1) % 256)))) Y9 Za)=some (r1,r2):=by first|(rw[aeb] at H;exact H)|(simp only[aeb] at H ⊢;exact H)
              have aiu:(IntKind.u8.wrap (1*2 ^ min (ZA).toNat 8))=afq:=aeb;have aiv:(ZA)≤8→(IntKind.u8.wrap (1*2 ^ (ZA).toNat))=afq:=uW aeb;have alC:(IntKind.u8.wrap (2 ^ min (ZA).toNat 8))=afq:=by have h_:=aiu;rw[gJ] at h_;exact h_
              have alD:(ZA)≤8→(IntKind.u8.wrap (2 ^ (ZA).toNat))=afq:=fun aaP=>by have h_:=aiv aaP;rw[gJ] at h_;exact h_
              have H':=Y7 H;clear H;have ahh:wr.cell? ⟨Zm,0,none⟩=some (.slice Zf Y9.length Zg):=(oQ Zb.o 0).trans rfl;have ahi:wr.cell? ⟨Zm,1,none⟩=some (.int .i64 Za):=(oQ Zb.o 1).trans rfl;have ahj:=oW Zb.o 0;have ahk:=oW Zb.o 1;have aiw:0≤((aaQ):Int):=aN (by assumption);have aix:(aaQ)<(Y9.length:Int):=aN (by assumption);obtain⟨an3,alE,adQ⟩:=Kd.vw Zv.o (aaQ) aiw aix;cases alE;replace adQ:=(HB.o.cell (gu w _ adQ)).trans adQ;replace aiw:=bL aiw;replace aix:=bL aix;go_wp2
              repeat (go_quiet (fail);try go_wp2)
              go_roundg k2
              case measure=>have:=HJ3.o;have:=HK2.o;omega
              case rel=>exact⟨(wrap64 (Zz+(ZA))),(wrap64 (aaM-(ZA))),(Go.bits .or .u64 (ad9) (IntKind.u64.wrap (Go.bits .and .u8 (aaR) (((afq)-1) % 256)))),(by first | rfl | (simp;done)|(simp only[← ad7]<;>(first | rfl | simp))|(simp[*];done)),(by first | rfl | (simp;done)|(simp only[← ad7]<;>(first | rfl | simp))|(simp[*];done)),(by first | rfl | (simp;done)|(simp only[← aea,← ZU,← aeb]<;>(first | rfl | simp))|(simp[*];done)),H',⟨by have:=HJ3.o;have:=HK2.o;omega⟩,⟨by (with_reducible repeat (first | refine qd ?_ _ | refine pX ?_ | refine pK ?_ _));exact Zb.o⟩,⟨by repeat (first|(with_reducible first | exact HB.o | apply oN | apply oU | apply oV | refine pF ?_ ZE.o)|exact HB.o)⟩⟩
             ·rw[av c34] at H;exact absurd H (by simp)
            ·rw[av c32] at H;exact absurd H (by simp)
           ·rw[av c31] at H;exact absurd H (by simp)
          ·rw[av c28] at H;exact absurd H (by simp)
         ·rw[av c26] at H;have afZ:decide (0<aaM)=false:=aD c26;clear c26;simp only[bF,bG] at H;obtain⟨rfl,rfl⟩:=H;go_wp2
          repeat (go_quiet (fail);try go_wp2)
          go_ret2
          exact⟨by first | rfl | (simp[pQ,pR]<;>rfl)|(simp[*,pQ,pR]<;>rfl),by repeat (first|(with_reducible first | exact HB.o | apply oN | apply oU | apply oV | refine pF ?_ ZE.o)|exact HB.o)⟩
end Go.Proofs.Y.PA
namespace Go.Proofs.Y.PA
open Go.RowKit Go.Proofs.Y.G Go.Proofs.YW.oO Go.Proofs.YW.pq Go.Proofs.YW.pz
theorem Y4:∀ (a b:List UInt8),Op.bytesLess a b = !(Op.bytesLess b a||b==a)
 | [],[]=>by simp[Op.bytesLess]
 | [],b::br=>by simp[Op.bytesLess]
 | a::ar,[]=>by simp[Op.bytesLess]
 | a::ar,b::br=>by
   have ih:=Y4 ar br;simp only[Op.bytesLess,ih];have hab:(a<b)=(a.toNat<b.toNat):=propext oz;have hba:(b<a)=(b.toNat<a.toNat):=propext oz;rcases Nat.lt_trichotomy a.toNat b.toNat with h | h | h
   ·have h2:a≠b:=fun e=>by rw[e] at h;omega
    have h1:¬ b<a:=by rw[hba];omega
    have h3:a<b:=by rw[hab];exact h
    simp[h3,h1,h2,jy h2]
   ·obtain rfl:a=b:=UInt8.toNat_inj.1 h;have h1:¬ a<a:=by rw[hab];omega
    simp[h1]
   ·have h2:b≠a:=fun e=>by rw[e] at h;omega
    have h1:¬ a<b:=by rw[hab];omega
    have h3:b<a:=by rw[hba];exact h
    simp[h3,h1,h2,jy h2]
def less (a b:ByteArray):Bool:=Op.bytesLess a.toList b.toList
def zh (l:List tQ)(k:Nat):Bool:=vk (qN l (k:Int)).f0&&uU (qN l (k:Int)).f1&&(decide (k=0)||less (qN l ((k-1:Nat):Int)).f0 (qN l (k:Int)).f0)
def sI (l:List tQ):Bool:=decide (1≤l.length)&&decide (l.length≤8)&&(List.range l.length).all (zh l)
def JG (l:List tQ):Nat→ByteArray
 | 0=>⟨#[]⟩
 | k+1=>(qN l (k:Int)).f0
theorem Dz {s:ByteArray}(h:vk s=true):1≤s.size∧s.size≤24:=by
 simp only[vk,dw,fM] at h;exact⟨h.1.1.1,h.1.1.2⟩
theorem Gc {s:ByteArray}(h:uU s=true):1≤s.size∧s.size≤40:=by
 simp only[uU,dw,fM] at h;exact⟨h.1.1,h.1.2⟩
theorem O7 (s:ByteArray):s.toList.length=s.size:=by rw[iK];simp
theorem Q8 {l:List tQ}{k:Nat}(h1:vk (qN l (k:Int)).f0=true)(h2:uU (qN l (k:Int)).f1=true) :
 zh l k = !(Op.bytesLess (qN l (k:Int)).f0.toList (JG l k).toList||(qN l (k:Int)).f0.toList==(JG l k).toList):=by
 rw[zh,h1,h2];cases k with
 | zero=>
   have hz:=(Dz h1).1;rw[← O7] at hz;have e:(JG l 0).toList=[]:=by show (⟨#[]⟩:ByteArray).toList=[];rw[iK]
   rw[e];generalize (qN l ((0:Nat):Int)).f0.toList=x at hz;cases x with
   | nil=>simp at hz
   | cons a x=>simp[Op.bytesLess]
 | succ k=>
   rw[← Y4];simp[less,JG]
theorem Ud {l:List tQ}{k:Nat}(h1:vk (qN l ((k+1:Nat):Int)).f0=true)(h2:uU (qN l ((k+1:Nat):Int)).f1=true) :
 zh l (k+1)=Op.bytesLess (qN l (k:Int)).f0.toList (qN l ((k+1:Nat):Int)).f0.toList:=by
 rw[zh,h1,h2];simp[less]
theorem Q9 {l:List tQ}(h1:vk (qN l ((0:Nat):Int)).f0=true)(h2:uU (qN l ((0:Nat):Int)).f1=true):zh l 0=true:=by
 rw[zh,h1,h2];rfl
theorem Fg {l:List tQ}{k:Nat}(h1:vk (qN l (k:Int)).f0=false):zh l k=false:=by rw[zh,h1];rfl
theorem DC {l:List tQ}{k:Nat}(h1:uU (qN l (k:Int)).f1=false):zh l k=false:=by rw[zh,h1,ow];rfl
theorem Me {l:List tQ}{k:Nat}(hk:k<l.length)(h:zh l k=false):sI l=false:=by
 rw[sI,oC];right;rw[List.all_eq_false];exact⟨k,List.mem_range.2 hk,by rw[h];simp⟩
theorem PD {l:List tQ}(h0:1≤l.length)(h8:l.length≤8)(h:∀ j,j<l.length→zh l j=true):sI l=true:=by
 rw[sI,aC h0,aC h8];simp only[jd,iU,ku];exact h
theorem Mf {l:List tQ}(h:¬ (1≤l.length∧l.length≤8)):sI l=false:=by
 rw[sI]
 by_cases h1:1≤l.length
 ·rw[aD (show ¬ l.length≤8 from fun h2=>h ⟨h1,h2⟩),ow];rfl
 ·rw[aD h1];rfl
theorem vB {l:List tQ}(h:sI l=true):1≤l.length∧l.length≤8∧∀ j,j<l.length→zh l j=true:=by
 simp only[sI,dw,fM,iU,ku] at h;exact⟨h.1.1,h.1.2,h.2⟩
theorem J5 {l:List tQ}{k:Nat}(h:∀ j,j<k→zh l j=true)(hk:zh l k=true):∀ j,j<k+1→zh l j=true:=fun j hj=>by
 rcases dN j k with h1 | h1
 ·exact h j h1
 ·obtain rfl:j=k:=by omega
  exact hk
theorem vk.qM (s:ByteArray)(b:Bool)(h:vk s=b)(w:World):Calls Tryz.prog 121 #[.string s] w fun e w'=>e = .returned (.bool b)∧Below w.heap.size w w':=h ▸ vk.c s w
theorem uU.qM (s:ByteArray)(b:Bool)(h:uU s=b)(w:World):Calls Tryz.prog 122 #[.string s] w fun e w'=>e = .returned (.bool b)∧Below w.heap.size w w':=h ▸ uU.c s w
theorem sI.c (A:Option Addr)(c n:Nat)(l:List tQ)(w:World)(hn:l.length=n)(hr:Kd.C xU w A n l)(hc:n≤c) :
 Calls Tryz.prog 87 #[.slice A n c] w fun e w'=>e = .returned (.bool (sI l))∧Below w.heap.size w w':=by
 subst hn
 by_cases hlen:1≤l.length∧l.length≤8
 ·have h0:((l.length:Int)==0)=false:=beq_eq_false_iff_ne.2 (by omega);have h8:decide ((8:Int)<(l.length:Int))=false:=aD (by omega);have HR:=Y7 hr;have HL:=Y7 hlen;have hl8:=hlen.2;clear hr hc hlen
  go_enter Tryz.func87,Tryz.ntmps87
  go_wp2
  go_loopw [3,16] (fun p i wr=>∃ (k:Nat) (q:ByteArray),k≤l.length∧i = .int .i64 k∧p = .string q∧oM (q=JG l k)∧oM (∀ j,j<k→zh l j=true)∧oM (Below w.heap.size w wr)) (fun _ i _=>l.length-(intOf i).toNat)
  case atStart=>exact⟨0,_,bP _,rfl,rfl,⟨rfl⟩,⟨fun j hj=>by omega⟩,⟨aU _ _⟩⟩
  case round=>
   obtain⟨k,q,hk,rfl,rfl,HQ,HO,HB⟩:=hrel
   by_cases hlt:k<l.length
   ·obtain⟨ad,rfl,c0,c1⟩:=xu (Kd.o9 HR.o HB.o) (k:Int) (by omega) (by omega);rw[aG] at c0 c1;have HBAD:=Y7 (fun h=>Me (l:=l) (k:=k) hlt h);have HN:=Y7 (fun h=>Fg (l:=l) (k:=k) h);have HV:=Y7 (fun h=>DC (l:=l) (k:=k) h);have HA:=Y7 (fun h1 h2=>Q8 (l:=l) (k:=k) h1 h2);have HS:=Y7 (fun h=>J5 (l:=l) (k:=k) HO.o h);have HX:oM ((qN l (k:Int)).f0=JG l (k+1)):=⟨rfl⟩;generalize qN l (k:Int)=x at c0 c1 HN HV HA HX;rw[← HQ.o] at HA;have HB0:=Y7 (oN HB.o (.cells #[.string x.f0,.string x.f1] 68 (0,0)));have HBK:=Y7 (qx wr (.cells #[.string x.f0,.string x.f1] 68 (0,0)));cases h1:vk x.f0 with
    | false=>
      have HF:oM (sI l=false):=⟨HBAD.o (HN.o h1)⟩;have C1:=Y7 (vk.qM x.f0 false h1);clear h1
      go_wp2_with (first|(go_at_call 121;(with_reducible refine (C1.o _).mono ?_);rintro e w1 ⟨rfl,hb⟩;have HB1:=Y7 (oP HB0.o hb);clear hb))
      go_ret;exact⟨by rw[HF.o];rfl,HB1.o⟩
    | true=>
      have C1:=Y7 (vk.qM x.f0 true h1);cases h2:uU x.f1 with
      | false=>
        have HF:oM (sI l=false):=⟨HBAD.o (HV.o h2)⟩;have C2:=Y7 (uU.qM x.f1 false h2);clear h1 h2
        go_wp2_with (first|(go_at_call 121;(with_reducible refine (C1.o _).mono ?_);rintro e w1 ⟨rfl,hb⟩;have HB1:=Y7 (oP HB0.o hb);have Zy:=Y7 (o7 HBK.o hb);have b1:=(oQ Zy.o 1).trans rfl;clear hb)|(go_at_call 122;(with_reducible refine (C2.o _).mono ?_);rintro e w2 ⟨rfl,hb⟩;have HB2:=Y7 (oP HB1.o hb);clear hb))
        go_ret;exact⟨by rw[HF.o];rfl,HB2.o⟩
      | true=>
        have C2:=Y7 (uU.qM x.f1 true h2);have HOK:=HA.o h1 h2;clear h1 h2;cases d1:Op.bytesLess x.f0.toList q.toList with
        | true=>
          have HF:oM (sI l=false):=⟨HBAD.o (by rw[HOK,d1];rfl)⟩;clear HOK
          go_wp2_with (first|(go_at_call 121;(with_reducible refine (C1.o _).mono ?_);rintro e w1 ⟨rfl,hb⟩;have HB1:=Y7 (oP HB0.o hb);have Zy:=Y7 (o7 HBK.o hb);have b1:=(oQ Zy.o 1).trans rfl;clear hb)|(go_at_call 122;(with_reducible refine (C2.o _).mono ?_);rintro e w2 ⟨rfl,hb⟩;have HB2:=Y7 (oP HB1.o hb);have aaN:=Y7 (o7 Zy.o hb);have b2:=(oQ aaN.o 0).trans rfl;clear hb))
          go_ret;exact⟨by rw[HF.o];rfl,HB2.o⟩
        | false=>
          cases d2:x.f0.toList==q.toList with
          | true=>
            have HF:oM (sI l=false):=⟨HBAD.o (by rw[HOK,d1,d2];rfl)⟩;clear HOK
            go_wp2_with (first|(go_at_call 121;(with_reducible refine (C1.o _).mono ?_);rintro e w1 ⟨rfl,hb⟩;have HB1:=Y7 (oP HB0.o hb);have Zy:=Y7 (o7 HBK.o hb);have b1:=(oQ Zy.o 1).trans rfl;clear hb)|(go_at_call 122;(with_reducible refine (C2.o _).mono ?_);rintro e w2 ⟨rfl,hb⟩;have HB2:=Y7 (oP HB1.o hb);have aaN:=Y7 (o7 Zy.o hb);have b2:=(oQ aaN.o 0).trans rfl;clear hb))
            go_ret;exact⟨by rw[HF.o];rfl,HB2.o⟩
          | false=>
            have HG:=Y7 (HS.o (by rw[HOK,d1,d2];rfl));clear HOK
            go_wp2_with (first|(go_at_call 121;(with_reducible refine (C1.o _).mono ?_);rintro e w1 ⟨rfl,hb⟩;have HB1:=Y7 (oP HB0.o hb);have Zy:=Y7 (o7 HBK.o hb);have b1:=(oQ Zy.o 1).trans rfl;clear hb)|(go_at_call 122;(with_reducible refine (C2.o _).mono ?_);rintro e w2 ⟨rfl,hb⟩;have HB2:=Y7 (oP HB1.o hb);have aaN:=Y7 (o7 Zy.o hb);have b2:=(oQ aaN.o 0).trans rfl;clear hb))
            go_roundw
            case rel=>exact⟨k+1,x.f0,by omega,by go_num,rfl,HX,HG,HB2⟩
            case measure=>simp[intOf];omega
   ·obtain rfl:k=l.length:=by omega
    have HF:oM (sI l=true):=⟨PD HL.o.1 HL.o.2 HO.o⟩;go_wp2;go_ret;exact⟨by rw[HF.o];rfl,HB.o⟩
 ·have HF:oM (sI l=false):=⟨Mf hlen⟩
  by_cases h0:(l.length:Int)=0
  ·have h1:((l.length:Int)==0)=true:=beq_iff_eq.2 h0;clear h0 hlen
   go_enter Tryz.func87,Tryz.ntmps87
   go_wp2;go_ret;exact⟨by rw[HF.o];rfl,aU _ _⟩
  ·have h1:((l.length:Int)==0)=false:=beq_eq_false_iff_ne.2 h0;have h2:decide ((8:Int)<(l.length:Int))=true:=aC (by omega);clear h0 hlen
   go_enter Tryz.func87,Tryz.ntmps87
   go_wp2;go_ret;exact⟨by rw[HF.o];rfl,aU _ _⟩
def KE (s:ByteArray):List Int:=(s.size:Int)::bytesOf s
def Jd (x:tQ):List Int:=KE x.f0++KE x.f1
def Ea (l:List tQ)(k:Nat):List Int:=(l.length:Int)::(l.take k).flatMap Jd
def vQ (l:List tQ):List Int:=(l.length:Int)::l.flatMap Jd
theorem U4 (l:List tQ)(k:Nat)(h:k<l.length):l.take (k+1)=l.take k++[qN l (k:Int)]:=by
 rw[bQ h];simp[qN,aV,aR h]
theorem EW (l:List tQ)(k:Nat)(h:k<l.length):Ea l (k+1)=Ea l k++Jd (qN l (k:Int)):=by
 rw[Ea,U4 l k h,jH,Ea];simp
theorem Eb (l:List tQ):Ea l l.length=vQ l:=by rw[Ea,dz,vQ]
theorem Au {l:List tQ}{k:Nat}(h:zh l k=true):(qN l (k:Int)).f0.size≤24∧(qN l (k:Int)).f1.size≤40:=by
 simp only[zh,dw] at h;exact⟨(Dz h.1.1).2,(Gc h.1.2).2⟩
theorem MC (s:ByteArray):(KE s).length=s.size+1:=by rw[KE,bq,bytesOf_length]
theorem Tp (x:tQ):(Jd x).length=x.f0.size+x.f1.size+2:=by rw[Jd,aT,MC,MC];omega
theorem Bq {l:List tQ}(h:sI l=true):∀ k,k≤l.length→(Ea l k).length≤1+66*k
 | 0,_=>by simp[Ea]
 | k+1,hk=>by
   have ih:=Bq h k (by omega);have hs:=Au ((vB h).2.2 k (by omega));rw[EW l k (by omega),aT,Tp];omega
theorem YK {n:Nat}(h:n<256):IntKind.u8.wrap (n:Int)=(n:Int):=by simp[IntKind.wrap,IntKind.bits,IntKind.signed];omega
theorem Gv {P:Program}(t e:TypeId)(h:P.underlying t=some (.array 2 e))(hs:∀ W,(Go.sizeOf e).run P W = .ok 1 W)(ha:∀ W,(isAgg e).run P W = .ok false W)(a b:Value)(i:Int)(v:Value)(hv:(i=0∧v=a)∨(i=1∧v=b))(W:World):(Instr.index t (.agg #[a,b]) (.int .i64 i)).run P W = .ok v W:=by
 rcases hv with ⟨rfl,rfl⟩ | ⟨rfl,rfl⟩<;>simp[Instr.index,dV h,asIntOf,go_sem,hs,ha]
theorem vQ.c (A:Option Addr)(c n:Nat)(l:List tQ)(w:World)(hn:l.length=n)(hr:Kd.C xU w A n l)(hc:n≤c)(h:sI l=true) :
 Calls Tryz.prog 59 #[.slice A n c] w fun e w'=>∃ v:Value,e = .returned (.tuple #[v,.int .i64 0])∧Kd.R (Kd.int .u8) 5 w' w.heap.size (fun _=>True) v (vQ l)∧Below w.heap.size w w':=by
 subst hn;have hp:=vB h;have HR:=Y7 hr;have HP:=Y7 hp;have HL:=Y7 (Bq h);have HC:oM (Calls Tryz.prog 87 #[.slice A l.length c] w fun e w'=>e = .returned (.bool true)∧Below w.heap.size w w'):=⟨h ▸ sI.c A c l.length l w rfl hr hc⟩;have hl8:=hp.2.1;clear hr hc hp h
 go_enter Tryz.func59,Tryz.ntmps59
 go_wp2_with (first|(go_at_call 87;(with_reducible refine HC.o.mono ?_);rintro e w1 ⟨rfl,hb⟩;have HB1:=Y7 hb;clear hb))
 have HR0:oM (Kd.R (Kd.int .u8) 5 (w1.alloc (.cells #[.int .u8 (l.length:Int)] 5)) w.heap.size (fun _=>True) (.slice (some ⟨w1.heap.size,0,none⟩) 1 1) (Ea l 0)):=⟨Kd.y8 (K4 w1 w.heap.size 5 .u8 [(l.length:Int)] HB1.o.size (by simp)) (fun _ _=>bE)⟩;have HB0:=Y7 (oN HB1.o (.cells #[.int .u8 (l.length:Int)] 5))
 go_loopw [4,18] (fun v i wr=>∃ k:Nat,k≤l.length∧i = .int .i64 k∧oM (Kd.R (Kd.int .u8) 5 wr w.heap.size (fun _=>True) v (Ea l k))∧oM (Below w.heap.size w wr)) (fun _ i _=>l.length-(intOf i).toNat)
 case atStart=>exact⟨0,bP _,rfl,HR0,HB0⟩
 case round=>
  clear HR0 HB0;obtain⟨k,hk,rfl,HV,HB⟩:=hrel
  by_cases hlt:k<l.length
  ·obtain⟨ad,rfl,c0,c1⟩:=xu (Kd.o9 HR.o HB.o) (k:Int) (by omega) (by omega);rw[aG] at c0 c1;have hsz:=Au (HP.o.2.2 k hlt);have HST:=Y7 (EW l k hlt);have HKL:oM ((Ea l k).length≤600):=⟨by have:=HL.o k hk;omega⟩;generalize qN l (k:Int)=x at *;obtain⟨hz0,hz1⟩:=hsz;have HB0:=Y7 (oN HB.o (.cells #[.string x.f0,.string x.f1] 68 (0,0)));have HV0:=Y7 (Kd.qo HV.o (oN (aU _ _) (.cells #[.string x.f0,.string x.f1] 68 (0,0))));clear HV;have HV:=HV0;have hi0:=fun W=>Gv 147 9 Tryz.underlying147 (fun W=>by kernel_rfl) (fun W=>by kernel_rfl) (.string x.f0) (.string x.f1) 0 _ (.inl ⟨rfl,rfl⟩) W
   have hi1:=fun W=>Gv 147 9 Tryz.underlying147 (fun W=>by kernel_rfl) (fun W=>by kernel_rfl) (.string x.f0) (.string x.f1) 1 _ (.inr ⟨rfl,rfl⟩) W
   go_wp2;refine wp_loop_rounds 3 ?_;rw[iP]
   go_wp2_with (first|((with_reducible refine uh (b := .append) (xs := #[.tmp 30,.tmp 34]) rfl ?_);at_builtin;go_must (refine CS (w0:=w) w.heap.size rfl (.tmp 30) (.tmp 34) 24 5 rfl Tryz.underlying24 rW _ _ _ ((x.f0.size:Nat):Int) ?hq rfl ?hx HV.o HB0.o HB0.o.size ?hl ?_;(case hq=>first | rfl | exact YK (by omega));(case hx=>first | rfl | (go_simp;done));(case hl=>(have hk_:=HKL.o;(try simp only[aT,bq,eD,bytesOf_length]);omega));intro va1 wa1 hr hb;have aiy:=Y7 hr;have ahl:=Y7 hb;clear hr hb))|((with_reducible refine uh (b := .append) (xs := #[.tmp 35,.tmp 36]) rfl ?_);at_builtin;go_must (refine DY (w0:=w) w.heap.size rfl (.tmp 35) (.tmp 36) 24 9 5 rfl Tryz.underlying24 Tryz.underlying9 rW _ _ x.f0 rfl rfl aiy.o ahl.o ahl.o.size ?hl ?_;(case hl=>(have hk_:=HKL.o;(try simp only[aT,bq,eD,bytesOf_length]);omega));intro vb1 wb1 hr hb;have aiz:=Y7 hr;have afr:=Y7 hb;clear hr hb)))
   rw[iP]
   go_wp2_with (first|((with_reducible refine uh (b := .append) (xs := #[.tmp 30,.tmp 34]) rfl ?_);at_builtin;go_must (refine CS (w0:=w) w.heap.size rfl (.tmp 30) (.tmp 34) 24 5 rfl Tryz.underlying24 rW _ _ _ ((x.f1.size:Nat):Int) ?hq rfl ?hx aiz.o afr.o afr.o.size ?hl ?_;(case hq=>first | rfl | exact YK (by omega));(case hx=>first | rfl | (go_simp;done));(case hl=>(have hk_:=HKL.o;(try simp only[aT,bq,eD,bytesOf_length]);omega));intro va2 wa2 hr hb;have aiA:=Y7 hr;have ahm:=Y7 hb;clear hr hb))|((with_reducible refine uh (b := .append) (xs := #[.tmp 35,.tmp 36]) rfl ?_);at_builtin;go_must (refine DY (w0:=w) w.heap.size rfl (.tmp 35) (.tmp 36) 24 9 5 rfl Tryz.underlying24 Tryz.underlying9 rW _ _ x.f1 rfl rfl aiA.o ahm.o ahm.o.size ?hl ?_;(case hl=>(have hk_:=HKL.o;(try simp only[aT,bq,eD,bytesOf_length]);omega));intro vb2 wb2 hr hb;have aiB:=Y7 hr;have af6:=Y7 hb;clear hr hb)))
   rw[iP];go_wp2
   go_roundw
   case rel=>exact⟨k+1,by omega,by go_num,⟨by have h_:=aiB.o;rw[HST.o];simpa [Jd,KE] using h_⟩,af6⟩
   case measure=>simp[intOf];omega
  ·obtain rfl:k=l.length:=by omega
   rw[Eb] at HV;go_wp2;refine aZ (dD rfl _ _ _) rfl ?_;exact⟨_,rfl,HV.o,HB.o⟩
def tX:List Int→Option (ByteArray × List Int)
 | []=>none
 | x::r=>if r.length<x.toNat then none else some (strOfNums (r.take x.toNat),r.drop x.toNat)
def sO (b:List Int):Nat→Option (List tQ × List Int)
 | 0=>some ([],b)
 | k+1=>(sO b k).bind fun p=>(tX p.2).bind fun s=>(tX s.2).bind fun t=>some (p.1++[⟨s.1,t.1⟩],t.2)
def rR:List Int→List tQ × List Int × Int
 | []=>([],[],3)
 | x::r=>match sO r x.toNat with
   | none=>([],[],3)
   | some p=>if sI p.1=true then (p.1,p.2,0) else ([],[],5)
theorem Hg {b:List Int}{k:Nat}(h:sO b k=none):∀ d,sO b (k+d)=none
 | 0=>h
 | d+1=>by rw[← jM,sO,Hg h d];rfl
theorem He {b:List Int}{k n:Nat}(hk:k<n)(h:sO b (k+1)=none):sO b n=none:=by
 have:=Hg h (n-(k+1));rwa [show k+1+(n-(k+1))=n by omega] at this
theorem yZ {b:List Int}:∀ {k:Nat} {l:List tQ} {r:List Int},sO b k=some (l,r)→l.length=k∧r.length≤b.length
 | 0,l,r,h=>by
   simp only[sO,bF,bG] at h;obtain⟨rfl,rfl⟩:=h;exact⟨rfl,ay _⟩
 | k+1,l,r,h=>by
   simp only[sO,lC] at h;obtain⟨⟨l1,r1⟩,h1,⟨s,r2⟩,h2,⟨t,r3⟩,h3,h4⟩:=h;simp only[bF,bG] at h4;obtain⟨rfl,rfl⟩:=h4;have ih:=yZ h1;have hp:∀ {x:List Int} {s:ByteArray} {y:List Int},tX x=some (s,y)→y.length≤x.length:=by
    intro x s y hx;cases x with
    | nil=>cases hx
    | cons a x=>
      simp only[tX] at hx;split at hx
      ·cases hx
      ·simp only[bF,bG] at hx;rw[← hx.2,aX,bq];omega
   have e2:=hp h2;have e3:=hp h3;simp only at e2 e3;rw[aT,ih.1];exact⟨rfl,by have:=ih.2;omega⟩
theorem Ip {r:List Int}(h:r.length=0):tX r=none:=by
 rw[dx h];rfl
theorem Ay {r:List Int}(h0:0<r.length)(hp:0≤rd r 0)(h:(r.length:Int)-1<rd r 0):tX r=none:=by
 cases r with
 | nil=>simp at h0
 | cons x r=>
   have e:rd (x::r) 0=x:=rfl;rw[e] at h hp;rw[tX,au];rw[bq] at h;omega
theorem Cq {r:List Int}{n:Nat}(h0:0<r.length)(hn:rd r 0=(n:Int))(h:n<r.length):tX r=some (strOfNums ((r.take (1+n)).drop 1),r.drop (1+n)):=by
 cases r with
 | nil=>simp at h0
 | cons x r=>
   have e:rd (x::r) 0=x:=rfl;rw[e] at hn;subst hn;rw[bq] at h;rw[tX,av (by rw[aG];omega),aG,mo 1 n,jG,iq,iq,gT]
theorem Hf {b r r1 r2:List Int}{l:List tQ}{k:Nat}{s t:ByteArray}(h:sO b k=some (l,r))(h1:tX r=some (s,r1))(h2:tX r1=some (t,r2)):sO b (k+1)=some (l++[⟨s,t⟩],r2):=by
 simp only[sO,h,cZ,h1,h2]
theorem Dq {b r:List Int}{l:List tQ}{k:Nat}(h:sO b k=some (l,r))(h1:tX r=none):sO b (k+1)=none:=by
 simp only[sO,h,cZ,h1,Option.bind_none]
theorem Dr {b r r1:List Int}{l:List tQ}{k:Nat}{s:ByteArray}(h:sO b k=some (l,r))(h1:tX r=some (s,r1))(h2:tX r1=none):sO b (k+1)=none:=by
 simp only[sO,h,cZ,h1,h2,Option.bind_none]
theorem FP {b:List Int}(h0:0<b.length){n:Nat}(hn:rd b 0=(n:Int))(h:sO (b.drop 1) n=none):rR b=([],[],3):=by
 cases b with
 | nil=>simp at h0
 | cons x r=>
   have e:rd (x::r) 0=x:=rfl;rw[e] at hn;subst hn;simp only[iq,gT] at h;simp only[rR,aG,h]
theorem Hl {b r':List Int}{l:List tQ}(h0:0<b.length){n:Nat}(hn:rd b 0=(n:Int))(h:sO (b.drop 1) n=some (l,r'))(hc:sI l=false):rR b=([],[],5):=by
 cases b with
 | nil=>simp at h0
 | cons x r=>
   have e:rd (x::r) 0=x:=rfl;rw[e] at hn;subst hn;simp only[iq,gT] at h;simp[rR,aG,h,hc]
theorem Mv {b r':List Int}{l:List tQ}(h0:0<b.length){n:Nat}(hn:rd b 0=(n:Int))(h:sO (b.drop 1) n=some (l,r'))(hc:sI l=true):rR b=(l,r',0):=by
 cases b with
 | nil=>simp at h0
 | cons x r=>
   have e:rd (x::r) 0=x:=rfl;rw[e] at hn;subst hn;simp only[iq,gT] at h;simp[rR,aG,h,hc]
theorem QI {b:List Int}{k:Nat}{l:List tQ}{r:List Int}(h:sO b k=some (l,r)):∀ x∈r,x∈b:=by
 induction k generalizing l r with
 | zero=>
   simp only[sO,bF,bG] at h;obtain⟨rfl,rfl⟩:=h;exact fun x hx=>hx
 | succ k ih=>
   simp only[sO,lC] at h;obtain⟨⟨l1,r1⟩,h1,⟨s,r2⟩,h2,⟨t,r3⟩,h3,h4⟩:=h;simp only[bF,bG] at h4;obtain⟨rfl,rfl⟩:=h4;have hp:∀ {x:List Int} {s:ByteArray} {y:List Int},tX x=some (s,y)→∀ z∈y,z∈x:=by
    intro x s y hx z hz;cases x with
    | nil=>cases hx
    | cons a x=>
      simp only[tX] at hx;split at hx
      ·cases hx
      ·simp only[bF,bG] at hx;rw[← hx.2] at hz;exact dh _ (bU hz)
   intro x hx;exact ih h1 x (hp h2 x (hp h3 x hx))
theorem Io {b r:List Int}{s:ByteArray}(h:tX b=some (s,r)):∀ x∈r,x∈b:=by
 cases b with
 | nil=>cases h
 | cons a b=>
   simp only[tX] at h;split at h
   ·cases h
   ·simp only[bF,bG] at h;intro x hx;rw[← h.2] at hx;exact dh _ (bU hx)
theorem Mt {b:List Int}:∀ {k:Nat} {l:List tQ} {r:List Int},sO b k=some (l,r)→∀ x∈r,x∈b
 | 0,l,r,h=>by
   simp only[sO,bF,bG] at h;obtain⟨rfl,rfl⟩:=h;exact fun x hx=>hx
 | k+1,l,r,h=>by
   simp only[sO,lC] at h;obtain⟨⟨l1,r1⟩,h1,⟨s,r2⟩,h2,⟨t,r3⟩,h3,h4⟩:=h;simp only[bF,bG] at h4;obtain⟨rfl,rfl⟩:=h4;exact fun x hx=>Mt h1 x (Io h2 x (Io h3 x hx))
theorem Ho (b:List Int):(∀ x∈(rR b).2.1,x∈b)∧(rR b).2.1.length≤b.length:=by
 cases b with
 | nil=>simp[rR]
 | cons a r=>
   simp only[rR];split
   ·simp
   ·rename_i p hp;obtain⟨l,q⟩:=p;split
    ·exact⟨fun x hx=>dh _ (Mt hp x hx),by have:=(yZ hp).2;simp;omega⟩
    ·simp
theorem tC {a b:List Int}(h:okB b=true)(hs:∀ x∈a,x∈b):okB a=true:=qV.2 fun x hx=>qV.1 h x (hs x hx)
def Q6 (c:Int):Bool:=(decide (97≤c)&&decide (c≤122))||(decide (65≤c)&&decide (c≤90))||decide (c=95)
theorem Jf:∀ n:Fin 256,Am ((n.1:Nat):Int)=Q6 ((n.1:Nat):Int):=by decide +kernel
theorem JH (s:ByteArray)(i:Int):Am (bt s i)=Q6 (bt s i):=by
 obtain⟨h0,h1⟩:=L8 s i;obtain⟨n,hn⟩:=bO h0;rw[hn];exact Jf ⟨n,by omega⟩
def WC (s:ByteArray)(j:Nat):Bool:=Q6 (bt s (j:Int))||(decide (j≠0)&&Gf (bt s (j:Int)))
theorem OQ (s:ByteArray)(i k:Nat)(hi:i<s.size)(hs:s.size≤140737488355328):qg.l0 (k+1) s (i:Int)=if WC s i=true then qg.l0 k s ((i+1:Nat):Int) else some false:=by
 have e:wrap64 ((i:Int)+1)=((i+1:Nat):Int):=by rw[wK (by omega) (by omega)];omega
 rw[qg.l0,e,au (by omega),au (by omega)];have hr:=L8 s (i:Int);unfold WC Q6 Gf;generalize bt s (i:Int)=c at hr;generalize qg.l0 k s ((i+1:Nat):Int)=z
 by_cases hi0:i=0
 ·subst hi0
  repeat' split
  all_goals first | rfl | (exfalso;simp at *;done)|(exfalso;simp at *;omega)
 ·repeat' split
  all_goals first | rfl | (exfalso;simp[hi0] at *;done)|(exfalso;simp[hi0] at *;omega)
theorem IB (s:ByteArray)(hs:s.size≤140737488355328):∀ d i k,i+d=s.size→d<k→qg.l0 k s (i:Int)=some ((List.range d).all (fun j=>WC s (i+j))&&(decide (1≤s.size)&&decide (s.size≤24)))
 | 0,i,k+1,h,hk=>by
   rw[qg.l0,av (by omega)]
   by_cases h1:(s.size:Int)≥1
   ·rw[au h1,aC (show 1≤s.size by omega)];simp;omega
   ·rw[av h1,aD (show ¬ 1≤s.size by omega)];simp
 | d+1,i,k+1,h,hk=>by
   rw[OQ s i k (by omega) hs,lI,oG,oJ];cases ho:WC s i with
   | false=>rw[av (by simp)];simp[ho]
   | true=>
     rw[au rfl,IB s hs d (i+1) k (by omega) (by omega)];simp only[iA,ho,jd];congr 3
     funext j
     simp only[Function.comp,mJ,show i+1+j=i+(j+1) by omega]
theorem Qy (s:ByteArray)(p:Int→Bool):(bytesOf s).any p=(List.range s.size).any (fun j=>p (bt s (j:Int))):=by
 rw[Bool.eq_iff_iff,List.any_eq_true,List.any_eq_true];constructor
 ·rintro⟨x,hx,hp⟩;obtain⟨j,hj,rfl⟩:=List.getElem_of_mem hx;have hj':j<s.size:=by rw[← bytesOf_length];exact hj
  refine⟨j,List.mem_range.2 hj',?_⟩;rw[← Iy]
  simpa [rd,aV,aR hj] using hp
 ·rintro⟨j,hj,hp⟩;have hj':j<(bytesOf s).length:=by rw[bytesOf_length];exact List.mem_range.1 hj
  refine⟨_,dL hj',?_⟩;rw[← Iy] at hp
  simpa [rd,aV,aR hj'] using hp
theorem UL (s:ByteArray)(hs:s.size≤140737488355328)(k:Nat)(hk:s.size<k):qg.f k s=some (vk s):=by
 unfold qg.f;have:=IB s hs s.size 0 k (by omega) hk;rw[show ((0:Nat):Int)=0 from rfl] at this;rw[this];congr 1
 by_cases hz:1≤s.size∧s.size≤24
 ·rw[vk,aC hz.1,aC hz.2];simp only[Bool.and_true,jd,dK];rw[Qy,JH,Bool.eq_iff_iff];simp only[iU,ku,dw,jw,List.any_eq_false,AZ,Bool.not_eq_false'];have hb:∀ j:Nat,Am (bt s (j:Int))=Q6 (bt s (j:Int)):=fun j=>JH s j
  constructor
  ·intro h;refine⟨?_,fun j hj=>?_⟩
   ·have:=h 0 (by omega)
    simpa [WC] using this
   ·have:=h j hj;rw[hb j];simp only[WC,jN,dw] at this;rcases this with h1 | h1
    ·simp[h1]
    ·simp[h1.2]
  ·rintro⟨h0,h⟩ j hj
   by_cases hj0:j=0
   ·subst hj0;simp[WC]
    simpa using h0
   ·have:=h j hj;rw[hb j] at this;simp only[WC,jN,dw,fM];cases h1:Q6 (bt s (j:Int)) with
    | true=>simp
    | false=>
      right;refine⟨hj0,?_⟩
      simpa [h1] using this
 ·rw[vk];have:(decide (1≤s.size)&&decide (s.size≤24))=false:=by
   rw[oC]
   by_cases h1:1≤s.size
   ·exact .inr (aD (fun h2=>hz ⟨h1,h2⟩))
   ·exact .inl (aD h1)
  rw[this];simp
theorem Qf.c (s:ByteArray)(b:Bool)(h:vk s=b)(hs:s.size≤140737488355328)(w:World):Calls Tryz.prog 99 #[.string s] w fun e w'=>e = .returned (.bool b)∧Below w.heap.size w w' :=
 (qg.c (s.size+1) s b w (by rw[UL s hs _ (by omega),h])).mono fun e w' ⟨he,hd⟩=>⟨he,hd.below⟩
end Go.Proofs.Y.PA
