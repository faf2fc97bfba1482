/- Of the law ZHQDumpReads. -/
import Derived.Test.YtcgbgifbajdhpaaGreatDoorZH3
set_option linter.unusedVariables false
set_option linter.unusedSimpArgs false
set_option maxHeartbeats 8000000
set_option maxRecDepth 100000
namespace Go
abbrev aK:=@of_decide_eq_true
abbrev bK:=@eq_true
abbrev gJ:=@Int.one_mul
abbrev lQ:=@List.drop_length
end Go
namespace Go.Proofs.Y.PA
open Go.RowKit Go.Proofs.YW.oO Go.Proofs.YW.pq Go.Proofs.YW.pz
attribute [local go_sem] sV sZ uE uF sW tq uj um
def qZ.f (Y9:List Int)(Za:Int):Option (Bool):=if Za<0 then (some false) else (if Za>(wrap64 (8*(Y9.length:Int))) then (some false) else (if (wrap64 ((wrap64 (8*(Y9.length:Int)))-Za))>7 then (some false) else (if (wrap64 ((wrap64 (8*(Y9.length:Int)))-Za))=0 then (some true) else (if 0≤(wrap64 ((Y9.length:Int)-1)) then (if (wrap64 ((Y9.length:Int)-1))<(Y9.length:Int) then (if 0≤(wrap64 ((wrap64 (8*(Y9.length:Int)))-Za)) then (some ((Go.bits .and .u8 (rd Y9 (wrap64 ((Y9.length:Int)-1))) (((shl .u8 1 (wrap64 ((wrap64 (8*(Y9.length:Int)))-Za)))-1) % 256))==0)) else (none)) else (none)) else (none)))))
theorem qZ.c (Zf:Option Addr)(Zg:Nat)(Y9:List Int)(Za:Int)(r:Bool)(w:World)(Z4:Kd.C (Kd.int .u8) w Zf Y9.length Y9)(Z5:Y9.length≤Zg)(h:qZ.f Y9 Za=some r) :
 Calls Tryz.prog 141 #[.agg #[.slice Zf Y9.length Zg,.int .i64 Za]] w fun e w'=>e = .returned (.bool r)∧Below w.heap.size w w':=by
 have ahK:=Tryz.underlying149;have Zv:=Y7 Z4;have ZB:=Y7 Z5;clear Z4 Z5;have HB:=Y7 (aU w.heap.size w);have H:(if Za<0 then (some false) else (if Za>(wrap64 (8*(Y9.length:Int))) then (some false) else (if (wrap64 ((wrap64 (8*(Y9.length:Int)))-Za))>7 then (some false) else (if (wrap64 ((wrap64 (8*(Y9.length:Int)))-Za))=0 then (some true) else (if 0≤(wrap64 ((Y9.length:Int)-1)) then (if (wrap64 ((Y9.length:Int)-1))<(Y9.length:Int) then (if 0≤(wrap64 ((wrap64 (8*(Y9.length:Int)))-Za)) then (some ((Go.bits .and .u8 (rd Y9 (wrap64 ((Y9.length:Int)-1))) (((shl .u8 1 (wrap64 ((wrap64 (8*(Y9.length:Int)))-Za)))-1) % 256))==0)) else (none)) else (none)) else (none))))))=some r:=h;clear h
 by_cases c2:Za<0
 ·rw[au c2] at H;have aav:decide (Za<0)=true:=aC c2;clear c2;obtain rfl:=bB H
  go_enter Tryz.func141,Tryz.ntmps141
  go_wp2_with (first|((with_reducible refine qm (N:=1) rfl ?_);(try (refine sQ (by rfl) ?_;dsimp only));refine rF ?hg (N:=1) ?hd (cs := #[.slice Zf Y9.length Zg,.int .i64 Za]) (t:=149) ?hr ?_;(case hd=>rfl);(case hg=>rfl);(case hr=>first|(go_simp;done)|(go_simp;rfl));intro Zh hg w3 Zo hb;have n0_:=Y7 (oP (by repeat (first|(with_reducible first | exact HB.o | apply oN | apply oU | apply oV)|exact HB.o)) hb);have n1_:=Y7 (Zo);have n2_:=Y7 ((by rw[hg];exact (qh (by repeat (first|(with_reducible first | exact HB.o | apply oN | apply oU | apply oV)|exact HB.o))):w.heap.size≤Zh));have n3_:=Y7 ((by rw[hg];exact (qh (by repeat (first|(with_reducible first | exact HB.o | apply oN | apply oU | apply oV)|exact HB.o))):w.heap.size≤Zh));clear HB;have HB:=n0_;have Zi:=n1_;have Z6:=n2_;have ZO:=n3_;clear n0_ n1_ n2_ n3_;clear hb Zo hg;have afO:w3.cell? ⟨Zh,0,none⟩=some (.slice Zf Y9.length Zg):=(oQ Zi.o 0).trans rfl;have afP:w3.cell? ⟨Zh,1,none⟩=some (.int .i64 Za):=(oQ Zi.o 1).trans rfl;have afQ:=oW Zi.o 0;have afR:=oW Zi.o 1))
  repeat (go_quiet (first|((with_reducible refine qm (N:=1) rfl ?_);(try (refine sQ (by rfl) ?_;dsimp only));refine rF ?hg (N:=1) ?hd (cs := #[.slice Zf Y9.length Zg,.int .i64 Za]) (t:=149) ?hr ?_;(case hd=>rfl);(case hg=>rfl);(case hr=>first|(go_simp;done)|(go_simp;rfl));intro Zh hg w3 Zo hb;have n0_:=Y7 (oP (by repeat (first|(with_reducible first | exact HB.o | apply oN | apply oU | apply oV)|exact HB.o)) hb);have n1_:=Y7 (Zo);have n2_:=Y7 ((by rw[hg];exact (qh (by repeat (first|(with_reducible first | exact HB.o | apply oN | apply oU | apply oV)|exact HB.o))):w.heap.size≤Zh));have n3_:=Y7 ((by rw[hg];exact (qh (by repeat (first|(with_reducible first | exact HB.o | apply oN | apply oU | apply oV)|exact HB.o))):w.heap.size≤Zh));clear HB;have HB:=n0_;have Zi:=n1_;have Z6:=n2_;have ZO:=n3_;clear n0_ n1_ n2_ n3_;clear hb Zo hg;have afO:w3.cell? ⟨Zh,0,none⟩=some (.slice Zf Y9.length Zg):=(oQ Zi.o 0).trans rfl;have afP:w3.cell? ⟨Zh,1,none⟩=some (.int .i64 Za):=(oQ Zi.o 1).trans rfl;have afQ:=oW Zi.o 0;have afR:=oW Zi.o 1));try go_wp2_with (first|((with_reducible refine qm (N:=1) rfl ?_);(try (refine sQ (by rfl) ?_;dsimp only));refine rF ?hg (N:=1) ?hd (cs := #[.slice Zf Y9.length Zg,.int .i64 Za]) (t:=149) ?hr ?_;(case hd=>rfl);(case hg=>rfl);(case hr=>first|(go_simp;done)|(go_simp;rfl));intro Zh hg w3 Zo hb;have n0_:=Y7 (oP (by repeat (first|(with_reducible first | exact HB.o | apply oN | apply oU | apply oV)|exact HB.o)) hb);have n1_:=Y7 (Zo);have n2_:=Y7 ((by rw[hg];exact (qh (by repeat (first|(with_reducible first | exact HB.o | apply oN | apply oU | apply oV)|exact HB.o))):w.heap.size≤Zh));have n3_:=Y7 ((by rw[hg];exact (qh (by repeat (first|(with_reducible first | exact HB.o | apply oN | apply oU | apply oV)|exact HB.o))):w.heap.size≤Zh));clear HB;have HB:=n0_;have Zi:=n1_;have Z6:=n2_;have ZO:=n3_;clear n0_ n1_ n2_ n3_;clear hb Zo hg;have afO:w3.cell? ⟨Zh,0,none⟩=some (.slice Zf Y9.length Zg):=(oQ Zi.o 0).trans rfl;have afP:w3.cell? ⟨Zh,1,none⟩=some (.int .i64 Za):=(oQ Zi.o 1).trans rfl;have afQ:=oW Zi.o 0;have afR:=oW Zi.o 1)))
  go_ret;exact⟨by first | rfl | (simp[pQ,pR]<;>rfl)|(simp[*,pQ,pR]<;>rfl),by repeat (first|(with_reducible first | exact HB.o | apply oN | apply oU | apply oV | refine pF ?_ ZO.o)|exact HB.o)⟩
 ·rw[av c2] at H;have aav:decide (Za<0)=false:=aD c2;clear c2
  by_cases c5:Za>(wrap64 (8*(Y9.length:Int)))
  ·rw[au c5] at H;have adJ:decide ((wrap64 (8*(Y9.length:Int)))<Za)=true:=aC c5;clear c5;obtain rfl:=bB H
   go_enter Tryz.func141,Tryz.ntmps141
   go_wp2_with (first|((with_reducible refine qm (N:=1) rfl ?_);(try (refine sQ (by rfl) ?_;dsimp only));refine rF ?hg (N:=1) ?hd (cs := #[.slice Zf Y9.length Zg,.int .i64 Za]) (t:=149) ?hr ?_;(case hd=>rfl);(case hg=>rfl);(case hr=>first|(go_simp;done)|(go_simp;rfl));intro Zh hg w6 Zo hb;have n0_:=Y7 (oP (by repeat (first|(with_reducible first | exact HB.o | apply oN | apply oU | apply oV)|exact HB.o)) hb);have n1_:=Y7 (Zo);have n2_:=Y7 ((by rw[hg];exact (qh (by repeat (first|(with_reducible first | exact HB.o | apply oN | apply oU | apply oV)|exact HB.o))):w.heap.size≤Zh));have n3_:=Y7 ((by rw[hg];exact (qh (by repeat (first|(with_reducible first | exact HB.o | apply oN | apply oU | apply oV)|exact HB.o))):w.heap.size≤Zh));clear HB;have HB:=n0_;have Zi:=n1_;have Z6:=n2_;have ZO:=n3_;clear n0_ n1_ n2_ n3_;clear hb Zo hg;have afS:w6.cell? ⟨Zh,0,none⟩=some (.slice Zf Y9.length Zg):=(oQ Zi.o 0).trans rfl;have afT:w6.cell? ⟨Zh,1,none⟩=some (.int .i64 Za):=(oQ Zi.o 1).trans rfl;have afU:=oW Zi.o 0;have afV:=oW Zi.o 1))
   repeat (go_quiet (first|((with_reducible refine qm (N:=1) rfl ?_);(try (refine sQ (by rfl) ?_;dsimp only));refine rF ?hg (N:=1) ?hd (cs := #[.slice Zf Y9.length Zg,.int .i64 Za]) (t:=149) ?hr ?_;(case hd=>rfl);(case hg=>rfl);(case hr=>first|(go_simp;done)|(go_simp;rfl));intro Zh hg w6 Zo hb;have n0_:=Y7 (oP (by repeat (first|(with_reducible first | exact HB.o | apply oN | apply oU | apply oV)|exact HB.o)) hb);have n1_:=Y7 (Zo);have n2_:=Y7 ((by rw[hg];exact (qh (by repeat (first|(with_reducible first | exact HB.o | apply oN | apply oU | apply oV)|exact HB.o))):w.heap.size≤Zh));have n3_:=Y7 ((by rw[hg];exact (qh (by repeat (first|(with_reducible first | exact HB.o | apply oN | apply oU | apply oV)|exact HB.o))):w.heap.size≤Zh));clear HB;have HB:=n0_;have Zi:=n1_;have Z6:=n2_;have ZO:=n3_;clear n0_ n1_ n2_ n3_;clear hb Zo hg;have afS:w6.cell? ⟨Zh,0,none⟩=some (.slice Zf Y9.length Zg):=(oQ Zi.o 0).trans rfl;have afT:w6.cell? ⟨Zh,1,none⟩=some (.int .i64 Za):=(oQ Zi.o 1).trans rfl;have afU:=oW Zi.o 0;have afV:=oW Zi.o 1));try go_wp2_with (first|((with_reducible refine qm (N:=1) rfl ?_);(try (refine sQ (by rfl) ?_;dsimp only));refine rF ?hg (N:=1) ?hd (cs := #[.slice Zf Y9.length Zg,.int .i64 Za]) (t:=149) ?hr ?_;(case hd=>rfl);(case hg=>rfl);(case hr=>first|(go_simp;done)|(go_simp;rfl));intro Zh hg w6 Zo hb;have n0_:=Y7 (oP (by repeat (first|(with_reducible first | exact HB.o | apply oN | apply oU | apply oV)|exact HB.o)) hb);have n1_:=Y7 (Zo);have n2_:=Y7 ((by rw[hg];exact (qh (by repeat (first|(with_reducible first | exact HB.o | apply oN | apply oU | apply oV)|exact HB.o))):w.heap.size≤Zh));have n3_:=Y7 ((by rw[hg];exact (qh (by repeat (first|(with_reducible first | exact HB.o | apply oN | apply oU | apply oV)|exact HB.o))):w.heap.size≤Zh));clear HB;have HB:=n0_;have Zi:=n1_;have Z6:=n2_;have ZO:=n3_;clear n0_ n1_ n2_ n3_;clear hb Zo hg;have afS:w6.cell? ⟨Zh,0,none⟩=some (.slice Zf Y9.length Zg):=(oQ Zi.o 0).trans rfl;have afT:w6.cell? ⟨Zh,1,none⟩=some (.int .i64 Za):=(oQ Zi.o 1).trans rfl;have afU:=oW Zi.o 0;have afV:=oW Zi.o 1)))
   go_ret;exact⟨by first | rfl | (simp[pQ,pR]<;>rfl)|(simp[*,pQ,pR]<;>rfl),by repeat (first|(with_reducible first | exact HB.o | apply oN | apply oU | apply oV | refine pF ?_ ZO.o)|exact HB.o)⟩
  ·rw[av c5] at H;have adJ:decide ((wrap64 (8*(Y9.length:Int)))<Za)=false:=aD c5;clear c5
   by_cases c8:(wrap64 ((wrap64 (8*(Y9.length:Int)))-Za))>7
   ·rw[au c8] at H;have aac:decide (7<(wrap64 ((wrap64 (8*(Y9.length:Int)))-Za)))=true:=aC c8;clear c8;obtain rfl:=bB H
    go_enter Tryz.func141,Tryz.ntmps141
    go_wp2_with (first|((with_reducible refine qm (N:=1) rfl ?_);(try (refine sQ (by rfl) ?_;dsimp only));refine rF ?hg (N:=1) ?hd (cs := #[.slice Zf Y9.length Zg,.int .i64 Za]) (t:=149) ?hr ?_;(case hd=>rfl);(case hg=>rfl);(case hr=>first|(go_simp;done)|(go_simp;rfl));intro Zh hg w9 Zo hb;have n0_:=Y7 (oP (by repeat (first|(with_reducible first | exact HB.o | apply oN | apply oU | apply oV)|exact HB.o)) hb);have n1_:=Y7 (Zo);have n2_:=Y7 ((by rw[hg];exact (qh (by repeat (first|(with_reducible first | exact HB.o | apply oN | apply oU | apply oV)|exact HB.o))):w.heap.size≤Zh));have n3_:=Y7 ((by rw[hg];exact (qh (by repeat (first|(with_reducible first | exact HB.o | apply oN | apply oU | apply oV)|exact HB.o))):w.heap.size≤Zh));clear HB;have HB:=n0_;have Zi:=n1_;have Z6:=n2_;have ZO:=n3_;clear n0_ n1_ n2_ n3_;clear hb Zo hg;have aaE:w9.cell? ⟨Zh,0,none⟩=some (.slice Zf Y9.length Zg):=(oQ Zi.o 0).trans rfl;have aaF:w9.cell? ⟨Zh,1,none⟩=some (.int .i64 Za):=(oQ Zi.o 1).trans rfl;have aaG:=oW Zi.o 0;have aaH:=oW Zi.o 1))
    repeat (go_quiet (first|((with_reducible refine qm (N:=1) rfl ?_);(try (refine sQ (by rfl) ?_;dsimp only));refine rF ?hg (N:=1) ?hd (cs := #[.slice Zf Y9.length Zg,.int .i64 Za]) (t:=149) ?hr ?_;(case hd=>rfl);(case hg=>rfl);(case hr=>first|(go_simp;done)|(go_simp;rfl));intro Zh hg w9 Zo hb;have n0_:=Y7 (oP (by repeat (first|(with_reducible first | exact HB.o | apply oN | apply oU | apply oV)|exact HB.o)) hb);have n1_:=Y7 (Zo);have n2_:=Y7 ((by rw[hg];exact (qh (by repeat (first|(with_reducible first | exact HB.o | apply oN | apply oU | apply oV)|exact HB.o))):w.heap.size≤Zh));have n3_:=Y7 ((by rw[hg];exact (qh (by repeat (first|(with_reducible first | exact HB.o | apply oN | apply oU | apply oV)|exact HB.o))):w.heap.size≤Zh));clear HB;have HB:=n0_;have Zi:=n1_;have Z6:=n2_;have ZO:=n3_;clear n0_ n1_ n2_ n3_;clear hb Zo hg;have aaE:w9.cell? ⟨Zh,0,none⟩=some (.slice Zf Y9.length Zg):=(oQ Zi.o 0).trans rfl;have aaF:w9.cell? ⟨Zh,1,none⟩=some (.int .i64 Za):=(oQ Zi.o 1).trans rfl;have aaG:=oW Zi.o 0;have aaH:=oW Zi.o 1));try go_wp2_with (first|((with_reducible refine qm (N:=1) rfl ?_);(try (refine sQ (by rfl) ?_;dsimp only));refine rF ?hg (N:=1) ?hd (cs := #[.slice Zf Y9.length Zg,.int .i64 Za]) (t:=149) ?hr ?_;(case hd=>rfl);(case hg=>rfl);(case hr=>first|(go_simp;done)|(go_simp;rfl));intro Zh hg w9 Zo hb;have n0_:=Y7 (oP (by repeat (first|(with_reducible first | exact HB.o | apply oN | apply oU | apply oV)|exact HB.o)) hb);have n1_:=Y7 (Zo);have n2_:=Y7 ((by rw[hg];exact (qh (by repeat (first|(with_reducible first | exact HB.o | apply oN | apply oU | apply oV)|exact HB.o))):w.heap.size≤Zh));have n3_:=Y7 ((by rw[hg];exact (qh (by repeat (first|(with_reducible first | exact HB.o | apply oN | apply oU | apply oV)|exact HB.o))):w.heap.size≤Zh));clear HB;have HB:=n0_;have Zi:=n1_;have Z6:=n2_;have ZO:=n3_;clear n0_ n1_ n2_ n3_;clear hb Zo hg;have aaE:w9.cell? ⟨Zh,0,none⟩=some (.slice Zf Y9.length Zg):=(oQ Zi.o 0).trans rfl;have aaF:w9.cell? ⟨Zh,1,none⟩=some (.int .i64 Za):=(oQ Zi.o 1).trans rfl;have aaG:=oW Zi.o 0;have aaH:=oW Zi.o 1)))
    go_ret;exact⟨by first | rfl | (simp[pQ,pR]<;>rfl)|(simp[*,pQ,pR]<;>rfl),by repeat (first|(with_reducible first | exact HB.o | apply oN | apply oU | apply oV | refine pF ?_ ZO.o)|exact HB.o)⟩
   ·rw[av c8] at H;have aac:decide (7<(wrap64 ((wrap64 (8*(Y9.length:Int)))-Za)))=false:=aD c8;clear c8
    by_cases c11:(wrap64 ((wrap64 (8*(Y9.length:Int)))-Za))=0
    ·rw[au c11] at H;have abb:((wrap64 ((wrap64 (8*(Y9.length:Int)))-Za))==0)=true:=beq_iff_eq.mpr c11;have ahL:((wrap64 ((wrap64 (8*(Y9.length:Int)))-Za)) != 0)=false:=bne_eq_false_iff_eq.mpr c11;clear c11;obtain rfl:=bB H
     go_enter Tryz.func141,Tryz.ntmps141
     go_wp2_with (first|((with_reducible refine qm (N:=1) rfl ?_);(try (refine sQ (by rfl) ?_;dsimp only));refine rF ?hg (N:=1) ?hd (cs := #[.slice Zf Y9.length Zg,.int .i64 Za]) (t:=149) ?hr ?_;(case hd=>rfl);(case hg=>rfl);(case hr=>first|(go_simp;done)|(go_simp;rfl));intro Zh hg w12 Zo hb;have n0_:=Y7 (oP (by repeat (first|(with_reducible first | exact HB.o | apply oN | apply oU | apply oV)|exact HB.o)) hb);have n1_:=Y7 (Zo);have n2_:=Y7 ((by rw[hg];exact (qh (by repeat (first|(with_reducible first | exact HB.o | apply oN | apply oU | apply oV)|exact HB.o))):w.heap.size≤Zh));have n3_:=Y7 ((by rw[hg];exact (qh (by repeat (first|(with_reducible first | exact HB.o | apply oN | apply oU | apply oV)|exact HB.o))):w.heap.size≤Zh));clear HB;have HB:=n0_;have Zi:=n1_;have Z6:=n2_;have ZO:=n3_;clear n0_ n1_ n2_ n3_;clear hb Zo hg;have aal:w12.cell? ⟨Zh,0,none⟩=some (.slice Zf Y9.length Zg):=(oQ Zi.o 0).trans rfl;have aam:w12.cell? ⟨Zh,1,none⟩=some (.int .i64 Za):=(oQ Zi.o 1).trans rfl;have aaI:=oW Zi.o 0;have aan:=oW Zi.o 1))
     repeat (go_quiet (first|((with_reducible refine qm (N:=1) rfl ?_);(try (refine sQ (by rfl) ?_;dsimp only));refine rF ?hg (N:=1) ?hd (cs := #[.slice Zf Y9.length Zg,.int .i64 Za]) (t:=149) ?hr ?_;(case hd=>rfl);(case hg=>rfl);(case hr=>first|(go_simp;done)|(go_simp;rfl));intro Zh hg w12 Zo hb;have n0_:=Y7 (oP (by repeat (first|(with_reducible first | exact HB.o | apply oN | apply oU | apply oV)|exact HB.o)) hb);have n1_:=Y7 (Zo);have n2_:=Y7 ((by rw[hg];exact (qh (by repeat (first|(with_reducible first | exact HB.o | apply oN | apply oU | apply oV)|exact HB.o))):w.heap.size≤Zh));have n3_:=Y7 ((by rw[hg];exact (qh (by repeat (first|(with_reducible first | exact HB.o | apply oN | apply oU | apply oV)|exact HB.o))):w.heap.size≤Zh));clear HB;have HB:=n0_;have Zi:=n1_;have Z6:=n2_;have ZO:=n3_;clear n0_ n1_ n2_ n3_;clear hb Zo hg;have aal:w12.cell? ⟨Zh,0,none⟩=some (.slice Zf Y9.length Zg):=(oQ Zi.o 0).trans rfl;have aam:w12.cell? ⟨Zh,1,none⟩=some (.int .i64 Za):=(oQ Zi.o 1).trans rfl;have aaI:=oW Zi.o 0;have aan:=oW Zi.o 1));try go_wp2_with (first|((with_reducible refine qm (N:=1) rfl ?_);(try (refine sQ (by rfl) ?_;dsimp only));refine rF ?hg (N:=1) ?hd (cs := #[.slice Zf Y9.length Zg,.int .i64 Za]) (t:=149) ?hr ?_;(case hd=>rfl);(case hg=>rfl);(case hr=>first|(go_simp;done)|(go_simp;rfl));intro Zh hg w12 Zo hb;have n0_:=Y7 (oP (by repeat (first|(with_reducible first | exact HB.o | apply oN | apply oU | apply oV)|exact HB.o)) hb);have n1_:=Y7 (Zo);have n2_:=Y7 ((by rw[hg];exact (qh (by repeat (first|(with_reducible first | exact HB.o | apply oN | apply oU | apply oV)|exact HB.o))):w.heap.size≤Zh));have n3_:=Y7 ((by rw[hg];exact (qh (by repeat (first|(with_reducible first | exact HB.o | apply oN | apply oU | apply oV)|exact HB.o))):w.heap.size≤Zh));clear HB;have HB:=n0_;have Zi:=n1_;have Z6:=n2_;have ZO:=n3_;clear n0_ n1_ n2_ n3_;clear hb Zo hg;have aal:w12.cell? ⟨Zh,0,none⟩=some (.slice Zf Y9.length Zg):=(oQ Zi.o 0).trans rfl;have aam:w12.cell? ⟨Zh,1,none⟩=some (.int .i64 Za):=(oQ Zi.o 1).trans rfl;have aaI:=oW Zi.o 0;have aan:=oW Zi.o 1)))
     go_ret;exact⟨by first | rfl | (simp[pQ,pR]<;>rfl)|(simp[*,pQ,pR]<;>rfl),by repeat (first|(with_reducible first | exact HB.o | apply oN | apply oU | apply oV | refine pF ?_ ZO.o)|exact HB.o)⟩
    ·rw[av c11] at H;have abb:((wrap64 ((wrap64 (8*(Y9.length:Int)))-Za))==0)=false:=beq_eq_false_iff_ne.mpr c11;have ahL:((wrap64 ((wrap64 (8*(Y9.length:Int)))-Za)) != 0)=true:=bne_iff_ne.mpr c11;obtain⟨ZN,aaf⟩:∃ j_:Int,(wrap64 ((Y9.length:Int)-1))=j_:=⟨_,rfl⟩;replace H:(if 0≤(ZN) then (if (ZN)<(Y9.length:Int) then (if 0≤(wrap64 ((wrap64 (8*(Y9.length:Int)))-Za)) then (some ((Go.bits .and .u8 (rd Y9 (ZN)) (((shl .u8 1 (wrap64 ((wrap64 (8*(Y9.length:Int)))-Za)))-1) % 256))==0)) else (none)) else (none)) else (none))=some r:=by first|(rw[aaf] at H;exact H)|(simp only[aaf] at H ⊢;exact H)
     have aio:(IntKind.i64.wrap ((Y9.length:Int)-1))=ZN:=(q8 _).trans aaf
     by_cases c15:0≤(ZN)
     ·rw[au c15] at H;have ae0:decide (0≤(ZN))=true:=aC c15;clear c15
      by_cases c16:(ZN)<(Y9.length:Int)
      ·rw[au c16] at H;have ahM:decide ((ZN)<(Y9.length:Int))=true:=aC c16;clear c16;obtain⟨abj,abz⟩:∃ j_:Int,(wrap64 ((wrap64 (8*(Y9.length:Int)))-Za))=j_:=⟨_,rfl⟩;replace H:(if 0≤(abj) then (some ((Go.bits .and .u8 (rd Y9 (ZN)) (((shl .u8 1 (abj))-1) % 256))==0)) else (none))=some r:=by first|(rw[abz] at H;exact H)|(simp only[abz] at H ⊢;exact H)
       (try rw[abz] at aac)
       (try rw[abz] at abb)
       (try rw[abz] at ahL)
       have alr:(IntKind.i64.wrap ((wrap64 (8*(Y9.length:Int)))-Za))=abj:=(q8 _).trans abz
       by_cases c18:0≤(abj)
       ·rw[au c18] at H;have ahN:=bK c18;have anX:decide (0≤(abj))=true:=aC c18;clear c18;obtain⟨afW,ad6⟩:∃ j_:Int,(shl .u8 1 (abj))=j_:=⟨_,rfl⟩;replace H:(some ((Go.bits .and .u8 (rd Y9 (ZN)) (((afW)-1) % 256))==0))=some r:=by first|(rw[ad6] at H;exact H)|(simp only[ad6] at H ⊢;exact H)
        have aip:(IntKind.u8.wrap (1*2 ^ min (abj).toNat 8))=afW:=ad6;have aiq:(abj)≤8→(IntKind.u8.wrap (1*2 ^ (abj).toNat))=afW:=uW ad6;have als:(IntKind.u8.wrap (2 ^ min (abj).toNat 8))=afW:=by have h_:=aip;rw[gJ] at h_;exact h_
        have alu:(abj)≤8→(IntKind.u8.wrap (2 ^ (abj).toNat))=afW:=fun aaP=>by have h_:=aiq aaP;rw[gJ] at h_;exact h_
        obtain rfl:=bB H
        go_enter Tryz.func141,Tryz.ntmps141
        go_wp2_with (first|((with_reducible refine qm (N:=1) rfl ?_);(try (refine sQ (by rfl) ?_;dsimp only));refine rF ?hg (N:=1) ?hd (cs := #[.slice Zf Y9.length Zg,.int .i64 Za]) (t:=149) ?hr ?_;(case hd=>rfl);(case hg=>rfl);(case hr=>first|(go_simp;done)|(go_simp;rfl));intro Zh hg w20 Zo hb;have n0_:=Y7 (oP (by repeat (first|(with_reducible first | exact HB.o | apply oN | apply oU | apply oV)|exact HB.o)) hb);have n1_:=Y7 (Zo);have n2_:=Y7 ((by rw[hg];exact (qh (by repeat (first|(with_reducible first | exact HB.o | apply oN | apply oU | apply oV)|exact HB.o))):w.heap.size≤Zh));have n3_:=Y7 ((by rw[hg];exact (qh (by repeat (first|(with_reducible first | exact HB.o | apply oN | apply oU | apply oV)|exact HB.o))):w.heap.size≤Zh));clear HB;have HB:=n0_;have Zi:=n1_;have Z6:=n2_;have ZO:=n3_;clear n0_ n1_ n2_ n3_;clear hb Zo hg;have abn:w20.cell? ⟨Zh,0,none⟩=some (.slice Zf Y9.length Zg):=(oQ Zi.o 0).trans rfl;have abo:w20.cell? ⟨Zh,1,none⟩=some (.int .i64 Za):=(oQ Zi.o 1).trans rfl;have abp:=oW Zi.o 0;have abq:=oW Zi.o 1;have abA:0≤((ZN):Int):=aK (by assumption);have abB:(ZN)<(Y9.length:Int):=aK (by assumption);obtain⟨ahO,afX,ZQ⟩:=Kd.vw Zv.o (ZN) abA abB;cases afX;replace ZQ:=(HB.o.cell (gu w _ ZQ)).trans ZQ;replace abA:=bK abA;replace abB:=bK abB))
        repeat (go_quiet (first|((with_reducible refine qm (N:=1) rfl ?_);(try (refine sQ (by rfl) ?_;dsimp only));refine rF ?hg (N:=1) ?hd (cs := #[.slice Zf Y9.length Zg,.int .i64 Za]) (t:=149) ?hr ?_;(case hd=>rfl);(case hg=>rfl);(case hr=>first|(go_simp;done)|(go_simp;rfl));intro Zh hg w20 Zo hb;have n0_:=Y7 (oP (by repeat (first|(with_reducible first | exact HB.o | apply oN | apply oU | apply oV)|exact HB.o)) hb);have n1_:=Y7 (Zo);have n2_:=Y7 ((by rw[hg];exact (qh (by repeat (first|(with_reducible first | exact HB.o | apply oN | apply oU | apply oV)|exact HB.o))):w.heap.size≤Zh));have n3_:=Y7 ((by rw[hg];exact (qh (by repeat (first|(with_reducible first | exact HB.o | apply oN | apply oU | apply oV)|exact HB.o))):w.heap.size≤Zh));clear HB;have HB:=n0_;have Zi:=n1_;have Z6:=n2_;have ZO:=n3_;clear n0_ n1_ n2_ n3_;clear hb Zo hg;have abn:w20.cell? ⟨Zh,0,none⟩=some (.slice Zf Y9.length Zg):=(oQ Zi.o 0).trans rfl;have abo:w20.cell? ⟨Zh,1,none⟩=some (.int .i64 Za):=(oQ Zi.o 1).trans rfl;have abp:=oW Zi.o 0;have abq:=oW Zi.o 1;have abA:0≤((ZN):Int):=aK (by assumption);have abB:(ZN)<(Y9.length:Int):=aK (by assumption);obtain⟨ahO,afX,ZQ⟩:=Kd.vw Zv.o (ZN) abA abB;cases afX;replace ZQ:=(HB.o.cell (gu w _ ZQ)).trans ZQ;replace abA:=bK abA;replace abB:=bK abB));try go_wp2_with (first|((with_reducible refine qm (N:=1) rfl ?_);(try (refine sQ (by rfl) ?_;dsimp only));refine rF ?hg (N:=1) ?hd (cs := #[.slice Zf Y9.length Zg,.int .i64 Za]) (t:=149) ?hr ?_;(case hd=>rfl);(case hg=>rfl);(case hr=>first|(go_simp;done)|(go_simp;rfl));intro Zh hg w20 Zo hb;have n0_:=Y7 (oP (by repeat (first|(with_reducible first | exact HB.o | apply oN | apply oU | apply oV)|exact HB.o)) hb);have n1_:=Y7 (Zo);have n2_:=Y7 ((by rw[hg];exact (qh (by repeat (first|(with_reducible first | exact HB.o | apply oN | apply oU | apply oV)|exact HB.o))):w.heap.size≤Zh));have n3_:=Y7 ((by rw[hg];exact (qh (by repeat (first|(with_reducible first | exact HB.o | apply oN | apply oU | apply oV)|exact HB.o))):w.heap.size≤Zh));clear HB;have HB:=n0_;have Zi:=n1_;have Z6:=n2_;have ZO:=n3_;clear n0_ n1_ n2_ n3_;clear hb Zo hg;have abn:w20.cell? ⟨Zh,0,none⟩=some (.slice Zf Y9.length Zg):=(oQ Zi.o 0).trans rfl;have abo:w20.cell? ⟨Zh,1,none⟩=some (.int .i64 Za):=(oQ Zi.o 1).trans rfl;have abp:=oW Zi.o 0;have abq:=oW Zi.o 1;have abA:0≤((ZN):Int):=aK (by assumption);have abB:(ZN)<(Y9.length:Int):=aK (by assumption);obtain⟨ahO,afX,ZQ⟩:=Kd.vw Zv.o (ZN) abA abB;cases afX;replace ZQ:=(HB.o.cell (gu w _ ZQ)).trans ZQ;replace abA:=bK abA;replace abB:=bK abB)))
        go_ret;exact⟨by first | rfl | (simp[pQ,pR]<;>rfl)|(simp only[← aaf,← abz,← ad6];first | rfl | (simp[pQ,pR]<;>rfl))|(simp[*,pQ,pR]<;>rfl),by repeat (first|(with_reducible first | exact HB.o | apply oN | apply oU | apply oV | refine pF ?_ ZO.o)|exact HB.o)⟩
       ·rw[av c18] at H;exact absurd H (by simp)
      ·rw[av c16] at H;exact absurd H (by simp)
     ·rw[av c15] at H;exact absurd H (by simp)
end Go.Proofs.Y.PA
namespace Go.Proofs.Y.PA
open Go.RowKit Go.Proofs.Y.G Go.Proofs.YW.oO Go.Proofs.YW.pq Go.Proofs.YW.pz
def Am (c:Int):Bool:=decide (c=95)||(decide (97≤Go.bits .or .u8 c 32)&&decide (Go.bits .or .u8 c 32≤122))
def Gf (c:Int):Bool:=decide (48≤c)&&decide (c≤57)
def AZ (c:Int):Bool := !Am c && !Gf c
theorem Am.c (c:Int)(w:World):Calls Tryz.prog 136 #[.int .u8 c] w fun e w'=>e = .returned (.bool (Am c))∧w'=w:=by
 by_cases h1:c=95
 ·have HV:oM (Am c=true):=⟨by rw[Am,aC h1];rfl⟩;have d1:(c==95)=true:=beq_iff_eq.2 h1;clear h1
  go_enter Tryz.func136,Tryz.ntmps136
  go_wp2;go_ret;exact⟨by rw[HV.o];rfl,rfl⟩
 ·have d1:(c==95)=false:=beq_eq_false_iff_ne.2 h1;have HV:oM (Am c=(decide (97≤Go.bits .or .u8 c 32)&&decide (Go.bits .or .u8 c 32≤122))):=⟨by rw[Am,aD h1];rfl⟩;clear h1
  by_cases h2:97≤Go.bits .or .u8 c 32
  ·have HW:oM (Am c=decide (Go.bits .or .u8 c 32≤122)):=⟨by rw[HV.o,aC h2];rfl⟩
   go_enter Tryz.func136,Tryz.ntmps136
   go_wp2;go_ret;exact⟨by rw[HW.o];rfl,rfl⟩
  ·have HW:oM (Am c=false):=⟨by rw[HV.o,aD h2];rfl⟩
   go_enter Tryz.func136,Tryz.ntmps136
   go_wp2;go_ret;exact⟨by rw[HW.o];rfl,rfl⟩
theorem Gf.c (c:Int)(w:World):Calls Tryz.prog 139 #[.int .u8 c] w fun e w'=>e = .returned (.bool (Gf c))∧w'=w:=by
 by_cases h2:48≤c
 ·have HW:oM (Gf c=decide (c≤57)):=⟨by rw[Gf,aC h2];rfl⟩
  go_enter Tryz.func139,Tryz.ntmps139
  go_wp2;go_ret;exact⟨by rw[HW.o];rfl,rfl⟩
 ·have HW:oM (Gf c=false):=⟨by rw[Gf,aD h2];rfl⟩
  go_enter Tryz.func139,Tryz.ntmps139
  go_wp2;go_ret;exact⟨by rw[HW.o];rfl,rfl⟩
theorem AZ.c (c:Int)(w:World):Calls Tryz.prog 138 #[.int .u8 c] w fun e w'=>e = .returned (.bool (AZ c))∧w'=w:=by
 cases h1:Am c with
 | true=>
   have HL:oM (∀ W,Calls Tryz.prog 136 #[.int .u8 c] W fun e w'=>e = .returned (.bool true)∧w'=W):=⟨fun W=>h1 ▸ Am.c c W⟩;have HV:oM (AZ c=false):=⟨by rw[AZ,h1];rfl⟩;clear h1
   go_enter Tryz.func138,Tryz.ntmps138
   go_wp2_with (first|(go_at_call 136;(with_reducible refine (HL.o _).mono ?_);rintro e w1 ⟨rfl,rfl⟩))
   go_ret;exact⟨by rw[HV.o];rfl,rfl⟩
 | false=>
   have HL:oM (∀ W,Calls Tryz.prog 136 #[.int .u8 c] W fun e w'=>e = .returned (.bool false)∧w'=W):=⟨fun W=>h1 ▸ Am.c c W⟩;have HD:oM (∀ W,Calls Tryz.prog 139 #[.int .u8 c] W fun e w'=>e = .returned (.bool (Gf c))∧w'=W):=⟨Gf.c c⟩;have HV:oM (AZ c = !Gf c):=⟨by rw[AZ,h1];rfl⟩;clear h1
   go_enter Tryz.func138,Tryz.ntmps138
   go_wp2_with (first|(go_at_call 136;(with_reducible refine (HL.o _).mono ?_);rintro e w1 ⟨rfl,rfl⟩)|(go_at_call 139;(with_reducible refine (HD.o _).mono ?_);rintro e w1 ⟨rfl,rfl⟩))
   go_ret;exact⟨by rw[HV.o];rfl,rfl⟩
def xZ:List Int→Nat→Int
 | [],_ => -1
 | a::r,k=>if AZ a=true then (k:Int) else xZ r (k+1)
theorem MK (l:List Int)(k:Nat)(hk:k<l.length):xZ (l.drop k) k=if AZ (rd l (k:Int))=true then (k:Int) else xZ (l.drop (k+1)) (k+1):=by
 rw[VY l k hk];rfl
theorem Ib:∀ (l:List Int) (k:Nat),decide (0≤xZ l k)=l.any AZ
 | [],_=>rfl
 | a::r,k=>by
   rw[xZ,List.any_cons];cases h:AZ a with
   | true=>rw[au rfl];simp
   | false=>rw[av (by simp),Ib r (k+1)];rfl
theorem xZ.c (A0:Option Addr)(c0 n:Nat)(l:List Int)(w:World)(hn:l.length=n)(hr:Kd.C (Kd.int .u8) w A0 n l)(hlen:n≤1000000) :
 Calls Tryz.prog 154 #[.slice A0 n c0,.func (.func 138) #[] #[]] w fun e w'=>e = .returned (.int .i64 (xZ l 0))∧Below w.heap.size w w':=by
 subst hn;have HR:=Y7 hr;clear hr
 go_enter Tryz.func154,Tryz.ntmps154
 go_wp2
 go_loopw [8] (fun i wr=>∃ k:Nat,k≤l.length∧i = .int .i64 k∧oM (xZ l 0=xZ (l.drop k) k)∧oM (Below w.heap.size w wr)) (fun i _=>l.length-(intOf i).toNat)
 case atStart=>exact⟨0,bP _,rfl,⟨rfl⟩,⟨aU _ _⟩⟩
 case round=>
  obtain⟨k,hk,rfl,HE,HB⟩:=hrel
  by_cases hlt:k<l.length
  ·have hC:=Kd.o9 HR.o HB.o;obtain⟨bd,cb,rfl,_,hKb,hcb⟩:=Kd.CQ hC (0:Int) (k:Int) (by omega) (by omega);have hb0:wr.cell? (bd.add k)=some (.int .u8 (rd l (k:Int))):=by
    have:=hcb 0 (.int .u8 (rd l (k:Int))) (by rw[show cb=[Value.int .u8 (rd l (k:Int))] from hKb];rfl)
    simpa [show (Kd.int .u8).sz=1 from rfl] using this
   have HST:=Y7 (MK l k hlt);clear hcb hKb hC;generalize rd l (k:Int)=y at hb0 HST;cases hq:AZ y with
   | true=>
     have HN:oM (xZ l 0=(k:Int)):=⟨by rw[HE.o,HST.o,au hq]⟩;have HC:oM (∀ W,Calls Tryz.prog 138 #[.int .u8 y] W fun e w'=>e = .returned (.bool true)∧w'=W):=⟨fun W=>hq ▸ AZ.c y W⟩;clear hq
     go_wp2_with (first|(go_at_call 138;(with_reducible refine (HC.o _).mono ?_);rintro e w1 ⟨rfl,rfl⟩))
     go_ret;exact⟨by rw[HN.o];rfl,HB.o⟩
   | false=>
     have HN:oM (xZ l 0=xZ (l.drop (k+1)) (k+1)):=⟨by rw[HE.o,HST.o,av (by rw[hq];simp)]⟩;have HC:oM (∀ W,Calls Tryz.prog 138 #[.int .u8 y] W fun e w'=>e = .returned (.bool false)∧w'=W):=⟨fun W=>hq ▸ AZ.c y W⟩;clear hq
     go_wp2_with (first|(go_at_call 138;(with_reducible refine (HC.o _).mono ?_);rintro e w1 ⟨rfl,rfl⟩))
     go_roundw
     case rel=>exact⟨k+1,by omega,by go_num,HN,HB⟩
     case measure=>simp[intOf];omega
  ·obtain rfl:k=l.length:=by omega
   go_wp2;go_ret;exact⟨by rw[HE.o,lQ];rfl,HB.o⟩
theorem Xd.c (A0:Option Addr)(c0 n:Nat)(l:List Int)(w:World)(hn:l.length=n)(hr:Kd.C (Kd.int .u8) w A0 n l)(hlen:n≤1000000) :
 Calls Tryz.prog 137 #[.slice A0 n c0,.func (.func 138) #[] #[]] w fun e w'=>e = .returned (.bool (l.any AZ))∧Below w.heap.size w w':=by
 have HI:=Y7 (xZ.c A0 c0 n l w hn hr hlen);have HV:=Y7 (Ib l 0);clear hr hlen hn
 go_enter Tryz.func137,Tryz.ntmps137
 go_wp2_with (first|(go_at_call 154;(with_reducible refine HI.o.mono ?_);rintro e w1 ⟨rfl,hb⟩;have HB:=Y7 hb;clear hb))
 go_ret;exact⟨UG HV.o,HB.o⟩
def vk (s:ByteArray):Bool:=decide (1≤s.size)&&decide (s.size≤24)&&Am (bt s 0) && !(bytesOf s).any AZ
theorem UY (s:ByteArray):s.toList.isEmpty=decide (s.size=0):=by
 have h:s.toList.length=s.size:=by rw[iK];simp
 generalize s.toList=l at h;rw[← h];cases l with
 | nil=>rfl
 | cons a l=>rw[aD (by simp)];rfl
theorem vk.c (s:ByteArray)(w:World):Calls Tryz.prog 121 #[.string s] w fun e w'=>e = .returned (.bool (vk s))∧Below w.heap.size w w':=by
 have he:=UY s;have kb:=fun W=>Nk (P:=Tryz.prog) 9 24 5 Tryz.underlying9 Tryz.underlying24 Tryz.underlying5 s W
 by_cases h0:s.size=0
 ·rw[aC h0] at he;have HV:oM (vk s=false):=⟨by rw[vk,aD (by omega)];rfl⟩;clear h0
  go_enter Tryz.func121,Tryz.ntmps121
  go_wp2;go_ret;exact⟨by rw[HV.o];rfl,aU _ _⟩
 ·rw[aD h0] at he
  by_cases h1:s.size≤24
  ·have hp:0<s.size:=by omega
   have hb:((s[0]'hp).toNat:Int)=bt s 0:=wC s 0 hp;cases h2:Am (bt s 0) with
   | false=>
     have HV:oM (vk s=false):=⟨by rw[vk,h2];simp⟩;have HL:oM (∀ W,Calls Tryz.prog 136 #[.int .u8 (bt s 0)] W fun e w'=>e = .returned (.bool false)∧w'=W):=⟨fun W=>h2 ▸ Am.c _ W⟩;clear h2
     go_enter Tryz.func121,Tryz.ntmps121
     go_wp2_with (first|(go_at_call 136;(with_reducible refine (HL.o _).mono ?_);rintro e w1 ⟨rfl,rfl⟩))
     go_ret;exact⟨by rw[HV.o];rfl,aU _ _⟩
   | true=>
     have HV:oM (vk s = !(bytesOf s).any AZ):=⟨by rw[vk,h2,aC (by omega),aC h1];rfl⟩;have HL:oM (∀ W,Calls Tryz.prog 136 #[.int .u8 (bt s 0)] W fun e w'=>e = .returned (.bool true)∧w'=W):=⟨fun W=>h2 ▸ Am.c _ W⟩;have HC:oM (∀ c,Calls Tryz.prog 137 #[.slice (some ⟨w.heap.size,0,none⟩) s.size c,.func (.func 138) #[] #[]] (Lib.bytesWorld w 5 s) fun e w'=>e = .returned (.bool ((bytesOf s).any AZ))∧Below (Lib.bytesWorld w 5 s).heap.size (Lib.bytesWorld w 5 s) w'):=⟨fun c=>Xd.c _ c _ (bytesOf s) _ (bytesOf_length s) (Kd.GN (d:=(0:Int)) (h1:=fun _=>rfl) (Mc w 5 s (by omega))) (by omega)⟩;have HB0:=Y7 (Ma (aU w.heap.size w) (ay _) 5 s);clear h2
     go_enter Tryz.func121,Tryz.ntmps121
     go_wp2_with (first|(go_at_call 136;(with_reducible refine (HL.o _).mono ?_);rintro e w1 ⟨rfl,rfl⟩)|(go_at_call 137;(with_reducible refine (HC.o _).mono ?_);rintro e w1 ⟨rfl,hb⟩;have HB:=Y7 (oP HB0.o hb);clear hb))
     go_ret;exact⟨by rw[HV.o];rfl,HB.o⟩
  ·have HV:oM (vk s=false):=⟨by rw[vk,aD h1];simp⟩
   go_enter Tryz.func121,Tryz.ntmps121
   go_wp2;go_ret;exact⟨by rw[HV.o];rfl,aU _ _⟩
end Go.Proofs.Y.PA
