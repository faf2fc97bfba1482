/- The plain law ExtentBack. -/
import Derived.Test.YtmaoleabfmokpaaDoorLExtentOnce
namespace Go.Proofs.YtmaoleabfmokpaaDoor.G
open Go.RowKit Go.Proofs.YtmaoleabfmokpaaDoorW.PrintWords
theorem mod_bd (x N : Int) (h0 : 0 < N) (h1 : N ≤ 4611686018427387905) : 0 ≤ wrap64 ((IntKind.u64.wrap x).tmod N) ∧ wrap64 ((IntKind.u64.wrap x).tmod N) < N := by
  have e : 0 ≤ IntKind.u64.wrap x := by simp [IntKind.wrap, IntKind.signed, IntKind.bits]; omega
  have a := Int.tmod_nonneg N e
  have b := Int.tmod_lt_of_pos (IntKind.u64.wrap x) h0
  rw [w64 (by omega) (by omega)]
  exact ⟨a, b⟩
end Go.Proofs.YtmaoleabfmokpaaDoor.G
namespace Go.Proofs.YtmaoleabfmokpaaDoor.G.ExtentBack
open Go.RowKit Go.Proofs.YtmaoleabfmokpaaDoor.G Go.Proofs.YtmaoleabfmokpaaDoorW.PrintWords Go.Proofs.YtmaoleabfmokpaaDoorW.PrintLast Go.Proofs.YtmaoleabfmokpaaDoorW.PrintMore
set_option linter.unusedVariables false
set_option linter.unusedSimpArgs false
attribute [local go_sem] max2_int min2_int max_two min_two
set_option maxHeartbeats 2000000 in
set_option maxRecDepth 100000 in
theorem walk (s : ByteArray) (idx gen : Int) (A : Option Addr) (c : Nat) (l0 : List Int) (w : World) (hs : s.size ≤ 140737488351232) (hi : (Lit.int .i64 idx).wf = true) (hg : (Lit.int .i64 gen).wf = true) (hr : Kd.C (Kd.int .u8) w A l0.length l0) (hc : l0.length ≤ c) (hw : ∀ x ∈ l0, (Lit.int .u8 x).wf = true) (hy : l0.length * 1 ≤ 140737488351232) (hT : TabQ w) :
    Calls Tryd.prog 8 #[.string s, .int .i64 idx, .int .i64 gen, .slice A l0.length c] w fun e w' => e = .returned (.bool true) ∧ Below w.heap.size w w' := by
  obtain ⟨m, hm⟩ : ∃ m : Int, (if (106 : Int) < (l0.length : Int) then 106 else (l0.length : Int)) = m := ⟨_, rfl⟩
  have hm0 : 0 ≤ m := by rw [← hm]; split <;> omega
  have hm1 : m ≤ (l0.length : Int) := by rw [← hm]; split <;> omega
  have hm2 : m ≤ 106 := by rw [← hm]; split <;> omega
  obtain ⟨i05, hi05, _, hsz5, _⟩ := info_parts infoU8
  have hcut := cut_to (P := Tryd.prog) 22 5 .i64 Tryd.underlying22 hi05 A l0.length c m hm0 hm1 hc
  have hC := Kd.C_take (m := m.toNat) hr (by omega)
  clear hi05
  obtain ⟨l, hl⟩ : ∃ l, l0.take m.toNat = l := ⟨_, rfl⟩
  rw [hl] at hC
  have hll : l.length = m.toNat := by rw [← hl, List.length_take]; omega
  have hok : okB l = true := by
    rw [← hl]
    exact okB_iff.2 fun x hx => okB_iff.1 (okB_wf hw) x (List.mem_of_mem_take hx)
  obtain ⟨i, hii⟩ : ∃ i, wrap64 ((IntKind.u64.wrap idx).tmod 2147483648) = i := ⟨_, rfl⟩
  obtain ⟨g, hgg⟩ : ∃ g, wrap64 ((IntKind.u64.wrap gen).tmod 4611686018427387905) = g := ⟨_, rfl⟩
  have hib := mod_bd idx 2147483648 (by decide) (by decide)
  have hgb := mod_bd gen 4611686018427387905 (by decide) (by decide)
  rw [hii] at hib
  rw [hgg] at hgb
  obtain ⟨hi0, hi1⟩ := hib
  obtain ⟨hg0, hg1⟩ := hgb
  obtain ⟨j, hj⟩ : ∃ j, (i + 1).tmod 2147483648 = j := ⟨_, rfl⟩
  have hj0 : 0 ≤ j := by rw [← hj]; exact Int.tmod_nonneg _ (by omega)
  have hj1 : j < 2147483648 := by rw [← hj]; exact Int.tmod_lt_of_pos _ (by decide)
  have hjn : i ≠ j := by
    intro q
    rw [Int.tmod_eq_emod_of_nonneg (by omega)] at hj
    omega
  have hF : okF i g l.length = true := okF_iff.2 ⟨⟨hi0, by omega⟩, ⟨hg0, by omega⟩, by omega⟩
  obtain ⟨L, hL⟩ : ∃ L, imageB s i g l = L := ⟨_, rfl⟩
  have HO1 : Aside0 (openL L s i = (l, g, 0)) := ⟨by rw [← hL]; exact open_image s i g l hF⟩
  have HO2 : Aside0 (openL L s j = ([], 0, 40)) := ⟨by rw [← hL]; exact open_other s i j g l hF ⟨hj0, by omega⟩ hjn⟩
  have HLL : Aside0 (L.length = 128) := ⟨by rw [← hL]; exact image_length s i g l (by omega)⟩
  have HLK : Aside0 (okB L = true) := ⟨by rw [← hL]; exact image_okB s i g l hok (by omega)⟩
  have HL := Aside0.mk hL
  have HF : Aside0 (okF i g m.toNat = true) := ⟨by rw [← hll]; exact hF⟩
  have HN := Aside0.mk hll
  have HOK := Aside0.mk hok
  have HR := Aside0.mk hC
  have HC : Aside0 (m.toNat ≤ c) := ⟨by omega⟩
  have HT := Aside0.mk hT
  have HE := Aside0.mk (bytes_Equal.self hok)
  clear hr hC hw hy hT hi hg hl hll hok hjn hF hL hc
  go_enter Tryd.func8, Tryd.ntmps8
  go_wp2_with (first
    | (go_at_call 23; (with_reducible refine (extent_Frame.calls_at s i g _ _ l _ L HN.out HR.out HC.out HOK.out hs HT.out HF.out HL.out).mono ?_); rintro e w1 ⟨gg, hg, rfl, hblk, hb⟩; have HB1 := Aside0.mk hb; have HBK1 := Aside0.mk hblk; clear hg hblk hb)
    | (go_at_call 24; (with_reducible refine (extent_Open.calls_at _ _ L s i _ l g 0 HLL.out (row_C HBK1.out (by rw [HLL.out]; decide)) (by decide) HLK.out hs (HT.out.below HB1.out) HO1.out).mono ?_); rintro e w2 ⟨v2, rfl, hr2, hb⟩; obtain ⟨A2, c2, rfl⟩ := Kd.R_slice hr2; have HC2 := Aside0.mk (Kd.R_reads' hr2); have HB2 := Aside0.mk (below_step HB1.out hb); have HBK2 := Aside0.mk (blk_below HBK1.out hb); clear hr2 hb)
    | (go_at_call 18; (with_reducible refine (bytes_Equal.calls_at A2 _ l A _ l true _ rfl HN.out HC2.out.2.2 HC2.out.2.1 (Kd.C_below HR.out HB2.out) HC.out HE.out).mono ?_); rintro e w3 ⟨rfl, hb⟩; have HB3 := Aside0.mk (below_step HB2.out hb); have HBK3 := Aside0.mk (blk_below HBK2.out hb); clear hb)
    | (go_at_call 24; (with_reducible refine (extent_Open.calls_at _ _ L s j _ [] 0 40 HLL.out (row_C HBK3.out (by rw [HLL.out]; decide)) (by decide) HLK.out hs (HT.out.below HB3.out) HO2.out).mono ?_); rintro e w4 ⟨v4, rfl, hr4, hb⟩; have HB4 := Aside0.mk (below_step HB3.out hb); clear hr4 hb))
  go_ret
  exact ⟨rfl, HB4.out⟩
end Go.Proofs.YtmaoleabfmokpaaDoor.G.ExtentBack
