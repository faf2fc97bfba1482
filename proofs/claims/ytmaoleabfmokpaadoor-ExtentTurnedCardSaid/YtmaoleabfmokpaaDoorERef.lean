/- The contracts of the reference's Frame and Open. Its lines are written by wip/mk_eref.py of this session. -/
import Derived.Test.YtmaoleabfmokpaaDoorEOpen
import Derived.Test.YtmaoleabfmokpaaDoorGRefPut
import Derived.Test.YtmaoleabfmokpaaDoorGRefSum
import Derived.Deep.DeepMust
namespace Go.Proofs.YtmaoleabfmokpaaDoor.G
open Go.RowKit Go.Proofs.YtmaoleabfmokpaaDoorW.PrintWords Go.Proofs.YtmaoleabfmokpaaDoorW.PrintLast Go.Proofs.YtmaoleabfmokpaaDoorW.PrintMore
set_option linter.unusedVariables false
set_option linter.unusedSimpArgs false

theorem R_one (W : World) (base : Nat) (x : Int) (hb : base ≤ W.heap.size) : (Kd.int .u8).R 5 (W.alloc (.cells #[.int .u8 x] 5)) base (fun _ => True) (.slice (some ⟨W.heap.size, 0, none⟩) 1 1) [x] :=
  ⟨fun _ _ => trivial, OwnRow.lit W base (Kd.reps_scalar [x]) hb (by simp)⟩
theorem refSum_at {n : Nat} (A0 : Option Addr) (c0 : Nat) (l0 : List Int) (r : Int) (w : World) (hn : l0.length = n) (hr0 : Kd.C (Kd.int .u8) w A0 n l0) (hc0 : n ≤ c0) (h : dryrotref01_Sum.f l0 = some r) :
    Calls Tryd.prog 17 #[.slice A0 n c0] w fun e w' => e = .returned (.int .u32 r) ∧ Drawn0 w w' := by
  subst hn
  exact dryrotref01_Sum.calls A0 c0 l0 r w hr0 hc0 h
theorem put_g {q : Int} (h0 : 0 ≤ q) (h1 : q < 18446744073709551616) (n : Nat) (hn : n ≤ 8 := by decide) : crc_Put.f q n = some (beL q.toNat n) := by
  rw [crc_Put.f, if_pos ⟨h0, h1⟩]
  congr 2
  unfold wid
  omega
/-- so long is the slice -/
def lenV : Value → Nat
  | .slice _ n _ => n
  | _ => 0
/-- what stands ahead of the payload's end -/
def preB (s : ByteArray) (idx gen : Int) (l : List Int) : List Int := (((([229] ++ beL (CrcMath.more 0 (numsOf s)) 4) ++ beL idx.toNat 4) ++ beL gen.toNat 8) ++ [(l.length : Int)]) ++ l
theorem preB_length (s : ByteArray) (idx gen : Int) (l : List Int) : (preB s idx gen l).length = 18 + l.length := by
  simp only [preB, List.length_append, beL_length, List.length_cons, List.length_nil]
theorem preB_head (s : ByteArray) (idx gen : Int) (l : List Int) (hl : l.length ≤ 106) : preB s idx gen l ++ List.replicate (124 - (18 + l.length)) 0 = headB s idx gen l := by
  rw [show 124 - (18 + l.length) = 106 - l.length by omega]
  simp only [preB, headB, List.append_assoc, List.cons_append, List.nil_append]

set_option maxHeartbeats 4000000 in
set_option maxRecDepth 100000 in
theorem refFrame.calls_bad (s : ByteArray) (idx gen : Int) (A : Option Addr) (c n : Nat) (w : World) (h : okF idx gen n = false) :
    Calls Tryd.prog 26 #[.string s, .int .i64 idx, .int .i64 gen, .slice A n c] w fun e w' => e = .returned (.tuple #[.slice none 0 0, .int .i64 1]) ∧ Below w.heap.size w w' := by
  have H := Aside0.mk h
  clear h
  by_cases h1 : idx < 0
  · have d1 : decide (idx < 0) = true := decide_eq_true h1
    clear h1
    go_enter Tryd.func26, Tryd.ntmps26
    go_wp2
    refine bodyPost_ret (results_tmp2 rfl _ _ _) rfl ?_
    exact ⟨rfl, Below.refl _ _⟩
  have d1 : decide (idx < 0) = false := decide_eq_false h1
  by_cases h2 : 2147483647 < idx
  · have d2 : decide (2147483647 < idx) = true := decide_eq_true h2
    clear h1 h2
    go_enter Tryd.func26, Tryd.ntmps26
    go_wp2
    refine bodyPost_ret (results_tmp2 rfl _ _ _) rfl ?_
    exact ⟨rfl, Below.refl _ _⟩
  have d2 : decide (2147483647 < idx) = false := decide_eq_false h2
  by_cases h3 : gen < 0
  · have d3 : decide (gen < 0) = true := decide_eq_true h3
    clear h1 h2 h3
    go_enter Tryd.func26, Tryd.ntmps26
    go_wp2
    refine bodyPost_ret (results_tmp2 rfl _ _ _) rfl ?_
    exact ⟨rfl, Below.refl _ _⟩
  have d3 : decide (gen < 0) = false := decide_eq_false h3
  by_cases h4 : 4611686018427387904 < gen
  · have d4 : decide (4611686018427387904 < gen) = true := decide_eq_true h4
    clear h1 h2 h3 h4
    go_enter Tryd.func26, Tryd.ntmps26
    go_wp2
    refine bodyPost_ret (results_tmp2 rfl _ _ _) rfl ?_
    exact ⟨rfl, Below.refl _ _⟩
  have d4 : decide (4611686018427387904 < gen) = false := decide_eq_false h4
  have h5 : 106 < n := by
    have := H.out
    unfold okF at this
    simp only [Bool.and_eq_false_iff, decide_eq_false_iff_not] at this
    omega
  have d5 : decide ((106 : Int) < (n : Int)) = true := decide_eq_true (by omega)
  clear h1 h2 h3 h4 h5
  go_enter Tryd.func26, Tryd.ntmps26
  go_wp2
  refine bodyPost_ret (results_tmp2 rfl _ _ _) rfl ?_
  exact ⟨rfl, Below.refl _ _⟩

set_option maxHeartbeats 400000 in
set_option maxRecDepth 100000 in
theorem refFrame.calls_ok (s : ByteArray) (idx gen : Int) (A : Option Addr) (c : Nat) (l : List Int) (w : World) (hr : Kd.C (Kd.int .u8) w A l.length l) (hc : l.length ≤ c) (hok : okB l = true) (hs : s.size ≤ 140737488351232) (h : okF idx gen l.length = true) :
    Calls Tryd.prog 26 #[.string s, .int .i64 idx, .int .i64 gen, .slice A l.length c] w fun e w' => ∃ v, e = .returned (.tuple #[v, .int .i64 0]) ∧ Kd.R (Kd.int .u8) 5 w' w.heap.size (fun _ => True) v (imageB s idx gen l) ∧ Below w.heap.size w w' := by
  obtain ⟨hi, hg, hl⟩ := okF_iff.1 h
  have HRA := Aside0.mk hr
  have HC := Aside0.mk hc
  have HI := Aside0.mk hi
  have HG := Aside0.mk hg
  have HL := Aside0.mk hl
  have hl106 : (l.length : Int) ≤ 106 := by omega
  have d1 : decide (idx < 0) = false := decide_eq_false (by omega)
  have d2 : decide (2147483647 < idx) = false := decide_eq_false (by omega)
  have d3 : decide (gen < 0) = false := decide_eq_false (by omega)
  have d4 : decide (4611686018427387904 < gen) = false := decide_eq_false (by omega)
  have d5 : decide ((106 : Int) < (l.length : Int)) = false := decide_eq_false (by omega)
  have HPb2 : Aside0 (dryrotref01_Put.f idx 4 = some (beL idx.toNat 4)) := ⟨put_g (by omega) (by omega) 4⟩
  have HPb3 : Aside0 (dryrotref01_Put.f gen 8 = some (beL gen.toNat 8)) := ⟨put_g (by omega) (by omega) 8⟩
  have HP2 : Aside0 (dryrotref01_Put.f (IntKind.u64.wrap idx) 4 = some (beL idx.toNat 4)) := ⟨put_f (by omega) (by omega) 4⟩
  have HP3 : Aside0 (dryrotref01_Put.f (IntKind.u64.wrap gen) 8 = some (beL gen.toNat 8)) := ⟨put_f (by omega) (by omega) 8⟩
  obtain ⟨hi0, hi1⟩ := hi
  obtain ⟨hg0, hg1⟩ := hg
  clear hr hc hl h
  have HQ : Aside0 (∃ q : Int, crc_Sum.f (numsOf s) = some q ∧ 0 ≤ q ∧ q < 4294967296 ∧ beL q.toNat 4 = beL (CrcMath.more 0 (numsOf s)) 4) := ⟨⟨_, by rw [crc_Sum.f, if_pos (nums_ok s)], by omega, by have := CrcMath.more_lt (s := 0) (by decide) (l := numsOf s) (okB_iff.1 (nums_ok s)); omega, by rw [Int.toNat_natCast]⟩⟩
  obtain ⟨q, hq, hq0, hq1, hqb⟩ := HQ.out
  have HQ1 : Aside0 (dryrotref01_Sum.f (numsOf s) = some q) := ⟨hq⟩
  have HP1 : Aside0 (dryrotref01_Put.f (IntKind.u64.wrap q) 4 = some (beL (CrcMath.more 0 (numsOf s)) 4)) := ⟨(put_f hq0 (by omega) 4).trans (by rw [hqb])⟩
  have HPb1 : Aside0 (dryrotref01_Put.f q 4 = some (beL (CrcMath.more 0 (numsOf s)) 4)) := ⟨(put_g hq0 (by omega) 4).trans (by rw [hqb])⟩
  clear hq hqb
  have HQh : Aside0 (∃ q : Int, crc_Sum.f (headB s idx gen l) = some q ∧ 0 ≤ q ∧ q < 4294967296 ∧ beL q.toNat 4 = beL (CrcMath.more 0 (headB s idx gen l)) 4) := ⟨⟨_, by rw [crc_Sum.f, if_pos (head_ok s idx gen l hok HL.out)], by omega, by have := CrcMath.more_lt (s := 0) (by decide) (l := headB s idx gen l) (okB_iff.1 (head_ok s idx gen l hok HL.out)); omega, by rw [Int.toNat_natCast]⟩⟩
  obtain ⟨y, hy, hy0, hy1, hyb⟩ := HQh.out
  have HY1 : Aside0 (dryrotref01_Sum.f (headB s idx gen l) = some y) := ⟨hy⟩
  have HP4 : Aside0 (dryrotref01_Put.f (IntKind.u64.wrap y) 4 = some (beL (CrcMath.more 0 (headB s idx gen l)) 4)) := ⟨(put_f hy0 (by omega) 4).trans (by rw [hyb])⟩
  have HPb4 : Aside0 (dryrotref01_Put.f y 4 = some (beL (CrcMath.more 0 (headB s idx gen l)) 4)) := ⟨(put_g hy0 (by omega) 4).trans (by rw [hyb])⟩
  clear hy hyb
  have hcv := conv_text s
  have HR := Aside0.mk (Kd.R_below (R_one w w.heap.size 229 (Nat.le_refl _)) (text_below (w.alloc (.cells #[.int .u8 229] 5)) s))
  have HB := Aside0.mk (below_step (below_alloc (Below.refl w.heap.size w) (.cells #[.int .u8 229] 5)) (text_below (w.alloc (.cells #[.int .u8 229] 5)) s))
  have HCT := Aside0.mk (text_C (w.alloc (.cells #[.int .u8 229] 5)) s hs)
  go_enter Tryd.func26, Tryd.ntmps26
  go_upto_region 5 with (first
    | (go_at_call 17; (with_reducible refine (refSum_at (some ⟨w.heap.size + 1, 0, none⟩) _ (numsOf s) q _ (nums_len s) ?t1 ?t2 HQ1.out).mono ?_); (case t1 => (have := HCT.out; simpa using this)); (case t2 => first | exact grown_le _ _ | (exact (Kd.R_reads' HR.out).2.1)); rintro e w1 ⟨rfl, hd⟩; have hb := hd.below; clear hd; have HR' := Aside0.mk (Kd.R_below HR.out hb); have HB' := Aside0.mk (below_step HB.out hb); clear HR HB hb; have HR := HR'; have HB := HB'; clear HR' HB')
    | (go_at_call 22; (with_reducible refine (dryrotref01_Put.calls _ 4 (beL (CrcMath.more 0 (numsOf s)) 4) _ (by first | exact HP1.out | exact HPb1.out)).mono ?_); rintro e w2 ⟨v3, rfl, hr3, hb⟩; obtain ⟨A3, c3, rfl⟩ := Kd.R_slice hr3; have HC3 := Aside0.mk (Kd.R_reads' hr3).2.2; clear hr3; have HR' := Aside0.mk (Kd.R_below HR.out hb); have HB' := Aside0.mk (below_step HB.out hb); clear HR HB hb; have HR := HR'; have HB := HB'; clear HR' HB')
    | ((with_reducible refine gate_dst (N := 37) rfl ?_); refine Kd.R_append_row (w0 := w) (Value.int .u8) 0 (h1 := fun _ => rfl) w.heap.size rfl (.tmp 31) (.tmp 36) 22 5 (.int .u8 0) 1 rfl Tryd.underlying22 infoU8 rfl (by decide) _ ([229]) (beL (CrcMath.more 0 (numsOf s)) 4) A3 _ c3 (fun _ => True) rfl rfl (fun _ _ => trivial) HR.out HC3.out HB.out ?hb ?hl ?_; (case hb => (have := HB.out.size; (try simp); omega)); (case hl => ((try simp only [List.length_append, List.length_cons, List.length_nil, beL_length, List.length_replicate]); decide)); intro v1 w3 hR1 hB1 hg_ ho_; clear HR HB; have HR := Aside0.mk hR1; have HB := Aside0.mk hB1; clear hR1 hB1 hg_ ho_))
  clear HC3
  go_upto_region 6 with (first
    | (go_at_call 22; (with_reducible refine (dryrotref01_Put.calls _ 4 (beL idx.toNat 4) _ (by first | exact HP2.out | exact HPb2.out)).mono ?_); rintro e w4 ⟨v3, rfl, hr3, hb⟩; obtain ⟨A3, c3, rfl⟩ := Kd.R_slice hr3; have HC3 := Aside0.mk (Kd.R_reads' hr3).2.2; clear hr3; have HR' := Aside0.mk (Kd.R_below HR.out hb); have HB' := Aside0.mk (below_step HB.out hb); clear HR HB hb; have HR := HR'; have HB := HB'; clear HR' HB')
    | ((with_reducible refine gate_dst (N := 42) rfl ?_); refine Kd.R_append_row (w0 := w) (Value.int .u8) 0 (h1 := fun _ => rfl) w.heap.size rfl (.tmp 38) (.tmp 41) 22 5 (.int .u8 0) 1 rfl Tryd.underlying22 infoU8 rfl (by decide) _ (([229] ++ beL (CrcMath.more 0 (numsOf s)) 4)) (beL idx.toNat 4) A3 _ c3 (fun _ => True) rfl rfl (fun _ _ => trivial) HR.out HC3.out HB.out ?hb ?hl ?_; (case hb => (have := HB.out.size; (try simp); omega)); (case hl => ((try simp only [List.length_append, List.length_cons, List.length_nil, beL_length, List.length_replicate]); decide)); intro v1 w5 hR1 hB1 hg_ ho_; clear HR HB; have HR := Aside0.mk hR1; have HB := Aside0.mk hB1; clear hR1 hB1 hg_ ho_))
  clear HC3
  go_upto_region 7 with (first
    | (go_at_call 22; (with_reducible refine (dryrotref01_Put.calls _ 8 (beL gen.toNat 8) _ (by first | exact HP3.out | exact HPb3.out)).mono ?_); rintro e w6 ⟨v3, rfl, hr3, hb⟩; obtain ⟨A3, c3, rfl⟩ := Kd.R_slice hr3; have HC3 := Aside0.mk (Kd.R_reads' hr3).2.2; clear hr3; have HR' := Aside0.mk (Kd.R_below HR.out hb); have HB' := Aside0.mk (below_step HB.out hb); clear HR HB hb; have HR := HR'; have HB := HB'; clear HR' HB')
    | ((with_reducible refine gate_dst (N := 47) rfl ?_); refine Kd.R_append_row (w0 := w) (Value.int .u8) 0 (h1 := fun _ => rfl) w.heap.size rfl (.tmp 43) (.tmp 46) 22 5 (.int .u8 0) 1 rfl Tryd.underlying22 infoU8 rfl (by decide) _ ((([229] ++ beL (CrcMath.more 0 (numsOf s)) 4) ++ beL idx.toNat 4)) (beL gen.toNat 8) A3 _ c3 (fun _ => True) rfl rfl (fun _ _ => trivial) HR.out HC3.out HB.out ?hb ?hl ?_; (case hb => (have := HB.out.size; (try simp); omega)); (case hl => ((try simp only [List.length_append, List.length_cons, List.length_nil, beL_length, List.length_replicate]); decide)); intro v1 w7 hR1 hB1 hg_ ho_; clear HR HB; have HR := Aside0.mk hR1; have HB := Aside0.mk hB1; clear hR1 hB1 hg_ ho_))
  clear HC3
  go_wp2_with (first
    | ((with_reducible refine gate_dst (N := 53) rfl ?_); refine Kd.R_append_row (w0 := w) (Value.int .u8) 0 (h1 := fun _ => rfl) w.heap.size rfl (.tmp 48) (.tmp 52) 22 5 (.int .u8 0) 1 rfl Tryd.underlying22 infoU8 rfl (by decide) _ (((([229] ++ beL (CrcMath.more 0 (numsOf s)) 4) ++ beL idx.toNat 4) ++ beL gen.toNat 8)) ([(l.length : Int)]) _ 1 _ (fun _ => True) rfl rfl (fun _ _ => trivial) (Kd.R_alloc HR.out _) (C_lit_at (Value.int .u8) 0 (h1 := fun _ => rfl) _ 5 #[.int .u8 (l.length : Int)] (0, 0) [(l.length : Int)] _ 1 rfl (by simp) rfl rfl) (below_alloc HB.out _) ?hb ?hl ?_; (case hb => (have := HB.out.size; (try simp); omega)); (case hl => ((try simp only [List.length_append, List.length_cons, List.length_nil, beL_length, List.length_replicate]); decide)); intro v1 w8 hR1 hB1 hg_ ho_; clear HR HB; have HR := Aside0.mk hR1; have HB := Aside0.mk hB1; clear hR1 hB1 hg_ ho_)
    | ((with_reducible refine gate_dst (N := 55) rfl ?_); refine Kd.R_append_row (w0 := w) (Value.int .u8) 0 (h1 := fun _ => rfl) w.heap.size rfl (.tmp 53) (.tmp 54) 22 5 (.int .u8 0) 1 rfl Tryd.underlying22 infoU8 rfl (by decide) _ ((((([229] ++ beL (CrcMath.more 0 (numsOf s)) 4) ++ beL idx.toNat 4) ++ beL gen.toNat 8) ++ [(l.length : Int)])) (l) A _ c (fun _ => True) rfl rfl (fun _ _ => trivial) HR.out (Kd.C_below HRA.out HB.out) HB.out ?hb ?hl ?_; (case hb => (have := HB.out.size; (try simp); omega)); (case hl => ((try simp only [List.length_append, List.length_cons, List.length_nil, beL_length, List.length_replicate]); have := HL.out; omega)); intro v1 w9 hR1 hB1 hg_ ho_; clear HR HB; have HR := Aside0.mk hR1; have HB := Aside0.mk hB1; clear hR1 hB1 hg_ ho_))
  have HPL := Aside0.mk (preB_length s idx gen l)
  have HRP : Aside0 (Kd.R (Kd.int .u8) 5 w9 w.heap.size (fun _ => True) v1 (preB s idx gen l)) := HR
  clear HR
  go_loopw [10] (fun v wr => ∃ k : Nat, 18 + l.length + k ≤ 124 ∧ Aside0 (Kd.R (Kd.int .u8) 5 wr w.heap.size (fun _ => True) v (preB s idx gen l ++ List.replicate k 0)) ∧ Aside0 (Below w.heap.size w wr)) (fun v _ => 124 - lenV v)
  case atStart => exact ⟨0, by omega, ⟨by rw [List.replicate_zero, List.append_nil]; exact HRP.out⟩, HB⟩
  case round =>
    clear HB HRP
    obtain ⟨k, hk, HR, HB⟩ := hrel
    obtain ⟨A4, c4, rfl⟩ := Kd.R_slice HR.out
    have HLN : Aside0 ((preB s idx gen l ++ List.replicate k 0).length = 18 + l.length + k) := ⟨by rw [List.length_append, HPL.out, List.length_replicate]⟩
    generalize hLL : preB s idx gen l ++ List.replicate k 0 = LL at *
    have HLL := Aside0.mk hLL
    clear hLL
    have hlen : LL.length = 18 + l.length + k := HLN.out
    obtain ⟨nn, hnn⟩ : ∃ nn, LL.length = nn := ⟨_, rfl⟩
    rw [hnn] at hlen
    have HNN := Aside0.mk hnn
    have HR2 : Aside0 (Kd.R (Kd.int .u8) 5 wr w.heap.size (fun _ => True) (.slice A4 nn c4) LL) := ⟨by rw [← hnn]; exact HR.out⟩
    rw [hnn]
    clear hnn
    have HLEN := Aside0.mk hlen
    clear hlen
    by_cases hlt : nn < 124
    · have hltb : decide ((nn : Int) < 124) = true := decide_eq_true (by omega)
      have HLT := Aside0.mk hlt
      clear hlt
      go_wp2_with (first
        | ((with_reducible refine gate_dst (N := 61) rfl ?_); go_must (refine Kd.R_append_row (w0 := w) (Value.int .u8) 0 (h1 := fun _ => rfl) w.heap.size rfl (.tmp 59) (.tmp 60) 22 5 (.int .u8 0) 1 rfl Tryd.underlying22 infoU8 rfl (by decide) _ (LL) ([0]) _ 1 _ (fun _ => True) rfl rfl (fun _ _ => trivial) (Kd.R_alloc HR2.out _) (C_lit_at (Value.int .u8) 0 (h1 := fun _ => rfl) _ 5 #[.int .u8 0] (0, 0) [0] _ 1 rfl (by simp) rfl rfl) (below_alloc HB.out _) ?hb ?hl ?_); (case hb => (have := HB.out.size; (try simp); omega)); (case hl => ((try simp only [List.length_append, List.length_cons, List.length_nil, beL_length, List.length_replicate]); (have := HNN.out; have := HLT.out; omega))); intro v1 w8 hR1 hB1 hg_ ho_; clear HR2 HB; have HR := Aside0.mk hR1; have HB := Aside0.mk hB1; clear hR1 hB1 hg_ ho_))
      obtain ⟨A5, c5, rfl⟩ := Kd.R_slice HR.out
      go_roundw
      case rel =>
        refine ⟨k + 1, by have := HLT.out; have := HLEN.out; omega, ⟨?_⟩, HB⟩
        rw [show preB s idx gen l ++ List.replicate (k + 1) 0 = LL ++ [0] from by rw [← HLL.out, List.append_assoc, ← List.replicate_succ']]
        exact HR.out
      case measure =>
        have := HNN.out
        have := HLT.out
        simp only [lenV, List.length_append, List.length_cons, List.length_nil]
        omega
    · have hltb : decide ((nn : Int) < 124) = false := decide_eq_false (by omega)
      have HN4 : Aside0 (nn = 124) := ⟨by have := HLEN.out; omega⟩
      have HHN : Aside0 ((headB s idx gen l).length = nn) := ⟨by rw [headB_length s idx gen l HL.out]; have := HLEN.out; omega⟩
      have HLH : Aside0 (LL = headB s idx gen l) := ⟨by rw [← HLL.out, ← preB_head s idx gen l HL.out]; congr 2; have := HLEN.out; have := HN4.out; omega⟩
      have HR := HR2
      clear HR2
      go_wp2_with (first
        | (go_at_call 17; (with_reducible refine (refSum_at A4 _ (headB s idx gen l) y _ HHN.out ?t1 ?t2 HY1.out).mono ?_); (case t1 => (have := (Kd.R_reads' HR.out).2.2; rw [HNN.out] at this; rw [← HLH.out]; exact this)); (case t2 => first | exact grown_le _ _ | (exact (Kd.R_reads' HR.out).2.1)); rintro e w11 ⟨rfl, hd⟩; have hb := hd.below; clear hd; have HR' := Aside0.mk (Kd.R_below HR.out hb); have HB' := Aside0.mk (below_step HB.out hb); clear HR HB hb; have HR := HR'; have HB := HB'; clear HR' HB')
        | (go_at_call 22; (with_reducible refine (dryrotref01_Put.calls _ 4 (beL (CrcMath.more 0 (headB s idx gen l)) 4) _ (by first | exact HP4.out | exact HPb4.out)).mono ?_); rintro e w12 ⟨v3, rfl, hr3, hb⟩; obtain ⟨A3, c3, rfl⟩ := Kd.R_slice hr3; have HC3 := Aside0.mk (Kd.R_reads' hr3).2.2; clear hr3; have HR' := Aside0.mk (Kd.R_below HR.out hb); have HB' := Aside0.mk (below_step HB.out hb); clear HR HB hb; have HR := HR'; have HB := HB'; clear HR' HB')
        | ((with_reducible refine gate_dst (N := 67) rfl ?_); refine Kd.R_append_row (w0 := w) (Value.int .u8) 0 (h1 := fun _ => rfl) w.heap.size rfl (.tmp 62) (.tmp 66) 22 5 (.int .u8 0) 1 rfl Tryd.underlying22 infoU8 rfl (by decide) _ (LL) (beL (CrcMath.more 0 (headB s idx gen l)) 4) A3 _ c3 (fun _ => True) rfl rfl (fun _ _ => trivial) HR.out HC3.out HB.out ?hb ?hl ?_; (case hb => (have := HB.out.size; (try simp); omega)); (case hl => ((try simp only [List.length_append, List.length_cons, List.length_nil, beL_length, List.length_replicate]); (have := HNN.out; have := HN4.out; omega))); intro v1 w13 hR1 hB1 hg_ ho_; clear HR HB; have HR := Aside0.mk hR1; have HB := Aside0.mk hB1; clear hR1 hB1 hg_ ho_))
      refine bodyPost_ret (results_tmp2 rfl _ _ _) rfl ?_
      exact ⟨_, rfl, by have := HR.out; rw [HLH.out] at this; exact this, HB.out⟩
end Go.Proofs.YtmaoleabfmokpaaDoor.G
