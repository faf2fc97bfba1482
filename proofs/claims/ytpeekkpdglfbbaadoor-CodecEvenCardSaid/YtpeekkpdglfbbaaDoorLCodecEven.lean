/- The plain law CodecEven. -/
import Derived.Test.YtpeekkpdglfbbaaDoorKEnc
namespace Go.Proofs.YtpeekkpdglfbbaaDoor.G.CodecEven
open Go.RowKit Go.Proofs.YtpeekkpdglfbbaaDoor.PA Go.Proofs.YtpeekkpdglfbbaaDoor.G Go.Proofs.YtpeekkpdglfbbaaDoorW.PrintWords Go.Proofs.YtpeekkpdglfbbaaDoorW.PrintLast Go.Proofs.YtpeekkpdglfbbaaDoorW.PrintMore
set_option linter.unusedVariables false
set_option linter.unusedSimpArgs false

def evenL (F s v : Int) (k : Nat) : List S26 := (List.range k).map fun (i : Nat) => ⟨F + (i : Int) * s, v⟩
theorem evenL_succ (F s v : Int) (k : Nat) : evenL F s v (k + 1) = evenL F s v k ++ [⟨F + (k : Int) * s, v⟩] := by simp [evenL, List.range_succ]
theorem evenL_len (F s v : Int) (k : Nat) : (evenL F s v k).length = k := by simp [evenL]
theorem evenL_at (F s v : Int) (k i : Nat) (h : i < k) : rd_T26 (evenL F s v k) (i : Int) = ⟨F + (i : Int) * s, v⟩ := by
  simp [rd_T26, evenL, List.getD_eq_getElem?_getD, h]
theorem evenL_take (F s v : Int) (k : Nat) (h : 2 ≤ k) : (evenL F s v k).take 2 = evenL F s v 2 := by
  simp only [evenL, ← List.map_take, List.take_range, Nat.min_eq_left h]
theorem mul_le {s : Int} {a b : Nat} (hs : 0 ≤ s) (h : a ≤ b) : (a : Int) * s ≤ (b : Int) * s := Int.mul_le_mul_of_nonneg_right (by omega) hs
theorem even_range {F s : Int} (h1 : -549755813888 ≤ F) (h2 : F < 549755813888) (h3 : 1 ≤ s) (h4 : s ≤ 1073741824) (i : Nat) (hi : i ≤ 70) : 0 ≤ (i : Int) * s ∧ (i : Int) * s ≤ 75161927680 := by
  constructor
  · exact Int.mul_nonneg (by omega) (by omega)
  · exact Int.le_trans (Int.mul_le_mul (by omega : (i : Int) ≤ 70) h4 (by omega) (by omega)) (by decide)
theorem evenL_ok {F s v : Int} (h1 : -549755813888 ≤ F) (h2 : F < 549755813888) (h3 : 1 ≤ s) (h4 : s ≤ 1073741824) (hv : 0 ≤ v ∧ v < 18446744073709551616) (k : Nat) (hk : k ≤ 70) : ∀ x ∈ evenL F s v k, okS x := by
  intro x hx
  simp only [evenL, List.mem_map, List.mem_range] at hx
  obtain ⟨i, hi, rfl⟩ := hx
  have := even_range h1 h2 h3 h4 i (by omega)
  exact ⟨⟨by show _ ≤ F + (i : Int) * s; omega, by show F + (i : Int) * s ≤ _; omega⟩, hv⟩
theorem evenL_can {F s v : Int} (h3 : 1 ≤ s) (k : Nat) (hk : k ≤ 70) : canS (evenL F s v k) = true := by
  simp only [canS, Bool.and_eq_true, List.all_eq_true, List.mem_range, decide_eq_true_eq, evenL_len]
  refine ⟨fun i hi => ?_, by omega⟩
  rw [evenL_at _ _ _ _ _ (by omega), evenL_at _ _ _ _ _ (by omega)]
  show F + (i : Int) * s < F + ((i + 1 : Nat) : Int) * s
  have : ((i + 1 : Nat) : Int) * s = (i : Int) * s + s := by rw [show ((i + 1 : Nat) : Int) = (i : Int) + 1 by omega, Int.add_mul, Int.one_mul]
  omega
theorem evenL_step {F s v : Int} (h1 : -549755813888 ≤ F) (h2 : F < 549755813888) (h3 : 1 ≤ s) (h4 : s ≤ 1073741824) (k j : Nat) (hk : k ≤ 70) (hj : j + 1 < k) : wrap64 ((rd_T26 (evenL F s v k) ((j + 1 : Nat) : Int)).f0 - (rd_T26 (evenL F s v k) (j : Int)).f0) = s := by
  rw [evenL_at _ _ _ _ _ (by omega), evenL_at _ _ _ _ _ (by omega)]
  show wrap64 (F + ((j + 1 : Nat) : Int) * s - (F + (j : Int) * s)) = s
  have : ((j + 1 : Nat) : Int) * s = (j : Int) * s + s := by rw [show ((j + 1 : Nat) : Int) = (j : Int) + 1 by omega, Int.add_mul, Int.one_mul]
  rw [this, w64 (by omega) (by omega)]
  omega
theorem evenP {F s v : Int} (h1 : -549755813888 ≤ F) (h2 : F < 549755813888) (h3 : 1 ≤ s) (h4 : s ≤ 1073741824) (k : Nat) (hk : k ≤ 70) : ∀ j : Nat, j + 2 ≤ k → (encP (evenL F s v k) (j + 2)).length = (encP (evenL F s v k) 2).length + 2 * j
  | 0, _ => rfl
  | j + 1, h => by
    have ih := evenP (v := v) h1 h2 h3 h4 k hk j (by omega)
    have e1 := evenL_step (v := v) h1 h2 h3 h4 k (j + 1) hk (by omega)
    have e2 := evenL_step (v := v) h1 h2 h3 h4 k j hk (by omega)
    have e3 : stepP (evenL F s v k) (j + 2) = s := e2
    have e4 : wrap64 0 = 0 := w64 (by omega) (by omega)
    have e5 : (intBits 0).length = 1 := by decide
    have e6 : (xorBits 0).length = 1 := by decide
    show (encP (evenL F s v k) (j + 1 + 2)).length = _
    rw [encP, List.length_append, ih, difB, e1, e3, Int.sub_self, e4, List.length_append, e5, evenL_at _ _ _ _ _ (by omega), evenL_at _ _ _ _ _ (by omega), Nat.xor_self, e6]
    omega
theorem enc2 (l : List S26) : 128 ≤ (encP l 2).length := by
  simp only [encP, List.length_append, low_length]
  omega
theorem take_enc (F s v : Int) (k : Nat) (h : 2 ≤ k) : encP (evenL F s v 2) 2 = encP (evenL F s v k) 2 := by
  have h1 : (rd_T26 (evenL F s v 2) 0) = rd_T26 (evenL F s v k) 0 := (evenL_at F s v 2 0 (by omega)).trans (evenL_at F s v k 0 (by omega)).symm
  have h2 : (rd_T26 (evenL F s v 2) ((0 : Nat) : Int)) = rd_T26 (evenL F s v k) ((0 : Nat) : Int) := (evenL_at F s v 2 0 (by omega)).trans (evenL_at F s v k 0 (by omega)).symm
  have h3 : (rd_T26 (evenL F s v 2) ((0 + 1 : Nat) : Int)) = rd_T26 (evenL F s v k) ((0 + 1 : Nat) : Int) := (evenL_at F s v 2 1 (by omega)).trans (evenL_at F s v k 1 (by omega)).symm
  simp only [encP, h1, h2, h3, stepP]

theorem tmr (x m : Int) (hm : 0 < m) : 0 ≤ (IntKind.u64.wrap x).tmod m ∧ (IntKind.u64.wrap x).tmod m < m :=
  ⟨Int.tmod_nonneg _ (u64_wrap_range x).1, Int.tmod_lt_of_pos _ hm⟩
theorem encode_at {n : Nat} (A : Option Addr) (c : Nat) (l : List S26) (w : World) (hn : l.length = n) (hr : Kd.C k26 w A l.length l) (hc : l.length ≤ c) (hw : ∀ x ∈ l, okS x) (hlen : l.length ≤ 20000) (hT : TabZ w) (h : canS l = true) :
    Calls Tryd.prog 8 #[.slice A n c] w fun e w' => ∃ (v : Value) (b : List Int), e = .returned (.tuple #[v, .int .i64 0]) ∧ OkX b (encP l l.length).length ∧ Bs b (encP l l.length).length = encP l l.length ∧ Kd.R (Kd.int .u8) 5 w' w.heap.size (fun _ => True) v (beL l.length 2 ++ b) ∧ Below w.heap.size w w' := by
  subst hn
  exact codec_Encode.calls_ok A c l w hr hc hw hlen hT h
theorem R_len {w : World} {base m n c : Nat} {ok : Nat → Prop} {A : Option Addr} {b : List Int} (h : Kd.R (Kd.int .u8) 5 w base ok (.slice A n c) (beL m 2 ++ b)) : n = 2 + b.length := by
  have := (Kd.R_reads' h).1
  rw [this, List.length_append, beL_length]
set_option maxHeartbeats 4000000 in
set_option maxRecDepth 100000 in
theorem walk (first step v n : Int) (w : World) (hf : (Lit.int .i64 first).wf = true) (hs : (Lit.int .i64 step).wf = true) (hv : (Lit.int .u64 v).wf = true) (hn : (Lit.int .i64 n).wf = true) (hT : TabZ w) :
    Calls Tryd.prog 3 #[.int .i64 first, .int .i64 step, .int .u64 v, .int .i64 n] w fun e w' => e = .returned (.bool true) ∧ Below w.heap.size w w' := by
  have HT := Aside0.mk hT
  clear hT
  go_enter Tryd.func3, Tryd.ntmps3
  go_wp2
  have T1 := tmr first 1099511627776 (by decide)
  have T2 := tmr step 1073741824 (by decide)
  have T3 := tmr n 60 (by decide)
  have E1 : wrap64 ((IntKind.u64.wrap first).tmod 1099511627776) = (IntKind.u64.wrap first).tmod 1099511627776 := w64 (by omega) (by omega)
  have E2 : wrap64 ((IntKind.u64.wrap step).tmod 1073741824) = (IntKind.u64.wrap step).tmod 1073741824 := w64 (by omega) (by omega)
  have E3 : wrap64 ((IntKind.u64.wrap n).tmod 60) = (IntKind.u64.wrap n).tmod 60 := w64 (by omega) (by omega)
  obtain ⟨F, hF⟩ : ∃ F, wrap64 (wrap64 ((IntKind.u64.wrap first).tmod 1099511627776) - 549755813888) = F := ⟨_, rfl⟩
  obtain ⟨s, hs'⟩ : ∃ s, wrap64 (1 + wrap64 ((IntKind.u64.wrap step).tmod 1073741824)) = s := ⟨_, rfl⟩
  have F1 : -549755813888 ≤ F ∧ F < 549755813888 := by rw [← hF, E1, w64 (by omega) (by omega)]; omega
  have S1 : 1 ≤ s ∧ s ≤ 1073741824 := by rw [← hs', E2, w64 (by omega) (by omega)]; omega
  have V1 : 0 ≤ v ∧ v < 18446744073709551616 := by simp [Lit.wf, IntKind.min, IntKind.max, IntKind.signed, IntKind.bits] at hv; omega
  obtain ⟨N, hN, hN2⟩ : ∃ N : Nat, wrap64 (3 + wrap64 ((IntKind.u64.wrap n).tmod 60)) = (N : Int) ∧ 3 ≤ N ∧ N ≤ 62 := by
    rw [E3, w64 (by omega) (by omega)]
    exact ⟨(3 + (IntKind.u64.wrap n).tmod 60).toNat, by omega, by omega, by omega⟩
  simp only [hF, hs', hN]
  clear hF hs' hN E1 E2 E3 T1 T2 T3 hf hs hv hn
  have FS := Aside0.mk F1
  have SS := Aside0.mk S1
  have VS := Aside0.mk V1
  clear F1 S1 V1
  go_loopw [9, 33] (fun v9 i wr => ∃ k : Nat, k ≤ N ∧ i = .int .i64 k ∧ Aside0 (Kd.R k26 26 wr w.heap.size (fun _ => True) v9 (evenL F s v k)) ∧ Aside0 (Below w.heap.size w wr)) (fun _ i _ => N - (intOf i).toNat)
  case atStart => exact ⟨0, Nat.zero_le _, rfl, ⟨Kd.R_nil _ _ _ _ _⟩, ⟨Below.refl _ _⟩⟩
  case round =>
    obtain ⟨k, hk, rfl, HO, HB⟩ := hrel
    by_cases hlt : k < N
    · have hm := even_range FS.out.1 FS.out.2 SS.out.1 SS.out.2 k (by omega)
      have hm1 : wrap64 ((k : Int) * s) = (k : Int) * s := w64 (by omega) (by have := FS.out; omega)
      have hm2 : wrap64 (F + (k : Int) * s) = F + (k : Int) * s := w64 (by have := FS.out; omega) (by have := FS.out; omega)
      clear hm
      obtain ⟨A9, c9, e9⟩ := Kd.R_slice HO.out
      subst e9
      have HLK : Aside0 ((evenL F s v k).length = k) := ⟨evenL_len F s v k⟩
      go_wp2_with ((with_reducible refine gate_builtin (b := .append) (xs := #[.tmp 36, .tmp 44]) rfl ?_); at_builtin; refine Kd.R_append k26 (w0 := w) w.heap.size rfl (.tmp 36) (.tmp 44) 24 26 (.agg #[.int .i64 0, .int .u64 0]) 16 rfl Tryd.underlying24 info26 rfl (by decide) (by omega) (.slice A9 (evenL F s v k).length c9) (evenL F s v k) (⟨F + (k : Int) * s, v⟩ : S26) [.int .i64 (F + (k : Int) * s), .int .u64 v] (fun _ => True) (fun _ => False) rfl rfl ?aP (fun _ hk => hk.elim) (fun _ _ => trivial) HO.out HB.out HB.out.size ?aL ?_; (case aP => exact k26_mkM _ _ _ (⟨F + (k : Int) * s, v⟩ : S26)); (case aL => have := HLK.out; omega); intro v5 w5 ho hb hg hat; have HO5 := Aside0.mk ho; have HB5 := Aside0.mk hb; clear ho hb hg hat)
      go_roundw
      case rel => exact ⟨k + 1, by omega, by go_num, ⟨by rw [evenL_succ]; exact HO5.out⟩, HB5⟩
      case measure => simp [intOf]; omega
    · obtain rfl : k = N := by omega
      obtain ⟨A9, c9, e9⟩ := Kd.R_slice HO.out
      subst e9
      have HC := Aside0.mk (Kd.R_reads' HO.out)
      have hl := evenL_len F s v k
      rw [hl]
      obtain ⟨i06, hi06, _, hsz6, _⟩ := info_parts info26
      have hcut := cut_to (P := Tryd.prog) 24 26 .i64 Tryd.underlying24 hi06 A9 k c9 2 (by omega) (by omega) (by have := HC.out.2.1; omega)
      have HT2 := Aside0.mk (evenL_take F s v k (by omega))
      have HL2 := Aside0.mk (evenL_len F s v 2)
      have HLK := Aside0.mk hl
      have HCA : Aside0 (Kd.C k26 wr A9 (evenL F s v 2).length (evenL F s v 2) ∧ (evenL F s v 2).length ≤ c9) := ⟨by rw [← HT2.out]; exact Kd.C_take HC.out.2.2 (by omega), by rw [HL2.out]; have := HC.out.2.1; omega⟩
      have HOK2 := Aside0.mk (evenL_ok (v := v) FS.out.1 FS.out.2 SS.out.1 SS.out.2 VS.out 2 (by omega))
      have HOKK := Aside0.mk (evenL_ok (v := v) FS.out.1 FS.out.2 SS.out.1 SS.out.2 VS.out k (by omega))
      have HC2 := Aside0.mk (evenL_can (F := F) (v := v) SS.out.1 2 (by omega))
      have HCK := Aside0.mk (evenL_can (F := F) (v := v) SS.out.1 k (by omega))
      have HPL := Aside0.mk (evenP (v := v) FS.out.1 FS.out.2 SS.out.1 SS.out.2 k (by omega) (k - 2) (by omega))
      have HP2 := Aside0.mk (take_enc F s v k (by omega))
      clear hl hlt hk
      go_wp2_with (first
        | (go_at_call 8; (with_reducible refine (encode_at A9 c9 (evenL F s v 2) _ HL2.out HCA.out.1 HCA.out.2 HOK2.out (by rw [HL2.out]; decide) (HT.out.below HB.out) HC2.out).mono ?_); rintro e w2 ⟨v2, b2, rfl, ho2, hs2, hr2, hb⟩; obtain ⟨A2, c2, rfl⟩ := Kd.R_slice hr2; have hn2 := R_len hr2; have HB2 := Aside0.mk (below_step HB.out hb); have HO2 := Aside0.mk ho2; have HR2 := Aside0.mk (Kd.C_below HC.out.2.2 hb); clear hr2 hb hs2 ho2)
        | (go_at_call 8; (with_reducible refine (encode_at A9 c9 (evenL F s v k) _ HLK.out HR2.out HC.out.2.1 HOKK.out (by rw [HLK.out]; omega) (HT.out.below HB2.out) HCK.out).mono ?_); rintro e w3 ⟨v3, b3, rfl, ho3, hs3, hr3, hb⟩; obtain ⟨A3, c3, rfl⟩ := Kd.R_slice hr3; have hn3 := R_len hr3; have HB3 := Aside0.mk (below_step HB2.out hb); have hle := ho3.le; have hne := ho3.near; have hle2 := HO2.out.le; have hne2 := HO2.out.near; have h128 := enc2 (evenL F s v k); have hpl := HPL.out; clear hr3 hb hs3 ho3; rw [HLK.out] at hle hne; rw [HL2.out, HP2.out] at hle2 hne2; rw [show k - 2 + 2 = k by omega] at hpl; generalize (encP (evenL F s v k) k).length = PK at *; generalize (encP (evenL F s v k) 2).length = P2 at *; generalize b2.length = m2 at *; generalize b3.length = m3 at *; have d1 : decide (((2 + m2 : Nat) : Int) < 18) = false := decide_eq_false (by omega); have d2 : decide (((2 + m3 : Nat) : Int) < ((2 + m2 : Nat) : Int)) = false := decide_eq_false (by omega)))
      go_ret
      all_goals first
        | exact ⟨by first | rfl | (congr 2; simp; omega) | (simp; omega), HB3.out⟩
end Go.Proofs.YtpeekkpdglfbbaaDoor.G.CodecEven
