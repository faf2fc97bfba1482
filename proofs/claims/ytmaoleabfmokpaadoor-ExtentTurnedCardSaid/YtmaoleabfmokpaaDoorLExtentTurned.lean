/- The plain law ExtentTurned. -/
import Derived.Test.YtmaoleabfmokpaaDoorLExtentBack
import Derived.Test.YtmaoleabfmokpaaDoorGTurned
namespace Go.Proofs.YtmaoleabfmokpaaDoor.G
open Go.RowKit Go.Proofs.YtmaoleabfmokpaaDoorW.PrintWords Go.Proofs.YtmaoleabfmokpaaDoorW.PrintLast Go.Proofs.YtmaoleabfmokpaaDoorW.PrintMore
theorem put_turned {W : World} {g P : Nat} {L L' : List Int} {x k : Int} {t : TypeId} (h : W.heap[g]? = some (.cells (cellsOf L) t (0, 0))) (hx : rd L (P : Int) = x) (hL : turned L P k = L') :
    (W.setCell ⟨g, P, none⟩ (.int .u8 (Go.bits .xor .u8 x (Go.bits .or .u8 k 1)))).heap[g]? = some (.cells (cellsOf L') t (0, 0)) := by
  refine blk_put h P _ ?_
  rw [← hL, ← hx, turned]
  generalize Go.bits .xor .u8 (rd L (P : Int)) (Go.bits .or .u8 k 1) = v
  unfold cellsOf
  simp [List.map_set]
end Go.Proofs.YtmaoleabfmokpaaDoor.G
namespace Go.Proofs.YtmaoleabfmokpaaDoor.G.ExtentTurned
open Go.RowKit Go.Proofs.YtmaoleabfmokpaaDoor.G Go.Proofs.YtmaoleabfmokpaaDoorW.PrintWords Go.Proofs.YtmaoleabfmokpaaDoorW.PrintLast Go.Proofs.YtmaoleabfmokpaaDoorW.PrintMore
set_option linter.unusedVariables false
set_option linter.unusedSimpArgs false
attribute [local go_sem] max2_int min2_int max_two min_two
set_option maxHeartbeats 2000000 in
set_option maxRecDepth 100000 in
theorem walk (s : ByteArray) (idx : Int) (A : Option Addr) (c : Nat) (l0 : List Int) (at_ k : Int) (w : World) (hs : s.size ≤ 140737488351232) (hi : (Lit.int .i64 idx).wf = true) (hr : Kd.C (Kd.int .u8) w A l0.length l0) (hc : l0.length ≤ c) (hw : ∀ x ∈ l0, (Lit.int .u8 x).wf = true) (hy : l0.length * 1 ≤ 140737488351232) (hat : (Lit.int .i64 at_).wf = true) (hk : (Lit.int .u8 k).wf = true) (hT : TabQ w) :
    Calls Tryd.prog 7 #[.string s, .int .i64 idx, .slice A l0.length c, .int .i64 at_, .int .u8 k] w fun e w' => e = .returned (.bool true) ∧ Below w.heap.size w w' := by
  obtain ⟨m, hm⟩ : ∃ m : Int, (if (106 : Int) < (l0.length : Int) then 106 else (l0.length : Int)) = m := ⟨_, rfl⟩
  have hm0 : 0 ≤ m := by rw [← hm]; split <;> omega
  have hm1 : m ≤ (l0.length : Int) := by rw [← hm]; split <;> omega
  have hm2 : m ≤ 106 := by rw [← hm]; split <;> omega
  obtain ⟨i05, hi05, _, hsz5, _⟩ := info_parts infoU8
  have hcut := cut_to (P := Tryd.prog) 22 5 .i64 Tryd.underlying22 hi05 A l0.length c m hm0 hm1 hc
  have hC := Kd.C_take (m := m.toNat) hr (by omega)
  clear hi05
  obtain ⟨l, hl⟩ : ∃ l, l0.take m.toNat = l := ⟨_, rfl⟩
  rw [hl] at hC
  have hll : l.length = m.toNat := by rw [← hl, List.length_take]; omega
  have hok : okB l = true := by
    rw [← hl]
    exact okB_iff.2 fun x hx => okB_iff.1 (okB_wf hw) x (List.mem_of_mem_take hx)
  obtain ⟨i, hii⟩ : ∃ i, wrap64 ((IntKind.u64.wrap idx).tmod 2147483648) = i := ⟨_, rfl⟩
  obtain ⟨p, hpp⟩ : ∃ p, wrap64 ((IntKind.u64.wrap at_).tmod 128) = p := ⟨_, rfl⟩
  have hib := mod_bd idx 2147483648 (by decide) (by decide)
  have hpb := mod_bd at_ 128 (by decide) (by decide)
  rw [hii] at hib
  rw [hpp] at hpb
  obtain ⟨hi0, hi1⟩ := hib
  obtain ⟨hp0, hp1⟩ := hpb
  obtain ⟨P, hP⟩ := Int.eq_ofNat_of_zero_le hp0
  subst hP
  have hPl : P < 128 := by omega
  have hkb : 0 ≤ k ∧ k < 256 := by
    simp [Lit.wf, IntKind.min, IntKind.max, IntKind.signed, IntKind.bits] at hk
    omega
  have hF : okF i 3 l.length = true := okF_iff.2 ⟨⟨hi0, by omega⟩, ⟨by decide, by decide⟩, by omega⟩
  obtain ⟨L, hL⟩ : ∃ L, imageB s i 3 l = L := ⟨_, rfl⟩
  have HLL : Aside0 (L.length = 128) := ⟨by rw [← hL]; exact image_length s i 3 l (by omega)⟩
  have hLK : okB L = true := by rw [← hL]; exact image_okB s i 3 l hok (by omega)
  have hx := okB_iff.1 hLK _ (rd_mem L P (by have := HLL.out; omega))
  have hto := turned_ok L hLK P (by have := HLL.out; omega) k hkb
  obtain ⟨L', hL'⟩ : ∃ L', turned L P k = L' := ⟨_, rfl⟩
  rw [hL'] at hto
  have HO : Aside0 (openL L' s i = ([], 0, 40)) := ⟨by rw [← hL', ← hL]; exact turned_none s i 3 l hok hF P hPl k hkb⟩
  have HLL' : Aside0 (L'.length = 128) := ⟨by rw [← hL', turned, List.length_set]; exact HLL.out⟩
  have HLK' := Aside0.mk hto
  have HL' := Aside0.mk hL'
  have HL := Aside0.mk hL
  have HF : Aside0 (okF i 3 m.toNat = true) := ⟨by rw [← hll]; exact hF⟩
  have HN := Aside0.mk hll
  have HOK := Aside0.mk hok
  have HR := Aside0.mk hC
  have HC : Aside0 (m.toNat ≤ c) := ⟨by omega⟩
  have HT := Aside0.mk hT
  clear hr hC hw hy hT hi hat hk hl hll hok hF hL hL' hto hLK hc hp0
  obtain ⟨x, hxx⟩ : ∃ x, rd L (P : Int) = x := ⟨_, rfl⟩
  rw [hxx] at hx
  have HX := Aside0.mk hxx
  clear hxx
  go_enter Tryd.func7, Tryd.ntmps7
  go_wp2_with (first
    | (go_at_call 23; (with_reducible refine (extent_Frame.calls_at s i 3 _ _ l _ L HN.out HR.out HC.out HOK.out hs HT.out HF.out HL.out).mono ?_); rintro e w1 ⟨gg, hg, rfl, hblk, hb⟩; have HB1 := Aside0.mk hb; have HBK1 := Aside0.mk hblk; have HG1 := Aside0.mk hg; have hcell : w1.cell? ⟨gg, P, none⟩ = some (.int .u8 x) := (blk_cell hblk P).trans ((cells_get L P (by have := HLL.out; omega)).trans (by rw [HX.out])); have hfz := blk_frozen hblk P; clear hg hblk hb)
    | (go_at_call 24; have HB2 := Aside0.mk (below_set (g := gg) (j := P) (v := Value.int .u8 (Go.bits .xor .u8 x (Go.bits .or .u8 k 1))) HB1.out HG1.out); have HBK2 := Aside0.mk (put_turned HBK1.out HX.out HL'.out); refine (extent_Open.calls_at _ _ L' s i _ [] 0 40 HLL'.out (row_C HBK2.out (by rw [HLL'.out]; decide)) (by decide) HLK'.out hs (HT.out.below HB2.out) HO.out).mono ?_; rintro e w4 ⟨v4, rfl, hr4, hb⟩; have HB4 := Aside0.mk (below_step HB2.out hb); clear hr4 hb))
  go_ret
  exact ⟨rfl, HB4.out⟩
end Go.Proofs.YtmaoleabfmokpaaDoor.G.ExtentTurned
