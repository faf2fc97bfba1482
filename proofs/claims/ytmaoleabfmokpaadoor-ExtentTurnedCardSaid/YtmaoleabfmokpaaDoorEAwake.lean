/- The contract of the extents' awake: it answers true. -/
import Derived.Test.YtmaoleabfmokpaaDoorEMath
import Derived.Lib.SlBytesConst
namespace Go.Proofs.YtmaoleabfmokpaaDoor.G
open Go.RowKit Go.Proofs.YtmaoleabfmokpaaDoorW.PrintWords Go.Proofs.YtmaoleabfmokpaaDoorW.PrintLast Go.Proofs.YtmaoleabfmokpaaDoorW.PrintMore
set_option linter.unusedVariables false
set_option linter.unusedSimpArgs false

theorem extent_Open.calls_at {n : Nat} (A : Option Addr) (c : Nat) (b : List Int) (s : ByteArray) (idx : Int) (w : World) (p : List Int) (g e : Int) (hn : b.length = n) (hr : Kd.C (Kd.int .u8) w A b.length b) (hc : n ≤ c) (hok : okB b = true) (hs : s.size ≤ 140737488351232) (hT : TabQ w) (h : openL b s idx = (p, g, e)) :
    Calls Tryd.prog 24 #[.slice A n c, .string s, .int .i64 idx] w fun en w' => ∃ v, en = .returned (.tuple #[v, .int .i64 g, .int .i64 e]) ∧ Kd.R (Kd.int .u8) 5 w' w.heap.size (fun _ => True) v p ∧ Below w.heap.size w w' := by
  subst hn
  have := extent_Open.calls A c b s idx w hr hc hok hs hT
  rw [h] at this
  exact this
theorem refOpen.calls_at {n : Nat} (A : Option Addr) (c : Nat) (b : List Int) (s : ByteArray) (idx : Int) (w : World) (p : List Int) (g e : Int) (hn : b.length = n) (hr : Kd.C (Kd.int .u8) w A b.length b) (hc : n ≤ c) (hok : okB b = true) (hs : s.size ≤ 140737488351232) (h : openL b s idx = (p, g, e)) :
    Calls Tryd.prog 27 #[.slice A n c, .string s, .int .i64 idx] w fun en w' => ∃ v, en = .returned (.tuple #[v, .int .i64 g, .int .i64 e]) ∧ Kd.R (Kd.int .u8) 5 w' w.heap.size (fun _ => True) v p ∧ Below w.heap.size w w' := by
  subst hn
  have := refOpen.calls A c b s idx w hr hc hok hs
  rw [h] at this
  exact this
theorem extent_Frame.calls_at {n : Nat} (s : ByteArray) (idx gen : Int) (A : Option Addr) (c : Nat) (l : List Int) (w : World) (L : List Int) (hn : l.length = n) (hr : Kd.C (Kd.int .u8) w A l.length l) (hc : n ≤ c) (hok : okB l = true) (hs : s.size ≤ 140737488351232) (hT : TabQ w) (h : okF idx gen n = true) (hL : imageB s idx gen l = L) :
    Calls Tryd.prog 23 #[.string s, .int .i64 idx, .int .i64 gen, .slice A n c] w fun e w' => ∃ g, w.heap.size ≤ g ∧ e = .returned (.tuple #[.slice (some ⟨g, 0, none⟩) 128 128, .int .i64 0]) ∧ w'.heap[g]? = some (.cells (cellsOf L) 48 (0, 0)) ∧ Below w.heap.size w w' := by
  subst hn hL
  exact extent_Frame.calls_ok s idx gen A c l w hr hc hok hs hT h

set_option maxHeartbeats 1000000 in
set_option maxRecDepth 100000 in
theorem extent_awake.calls (w : World) (hT : TabQ w) : Calls Tryd.prog 25 #[] w fun e w' => e = .returned (.bool true) ∧ Below w.heap.size w w' := by
  have HT := Aside0.mk hT
  clear hT
  have HF : Aside0 (okF 1 2 2 = true) := ⟨by decide⟩
  obtain ⟨L, hL⟩ : ∃ L, imageB ⟨#[120]⟩ 1 2 [97, 98] = L := ⟨_, rfl⟩
  have HL := Aside0.mk hL
  have HO : Aside0 (openL L ⟨#[120]⟩ 1 = ([97, 98], 2, 0)) := ⟨by rw [← hL]; exact open_image _ 1 2 [97, 98] (by decide)⟩
  have HLL : Aside0 (L.length = 128) := ⟨by rw [← hL]; exact image_length _ 1 2 [97, 98] (by decide)⟩
  have HLK : Aside0 (okB L = true) := ⟨by rw [← hL]; exact image_okB _ 1 2 [97, 98] (by decide) (by decide)⟩
  clear hL
  have hsc : strOfNums [97, 98] = ⟨#[97, 98]⟩ := by decide
  have HA := Aside0.mk (below_alloc (Below.refl w.heap.size w) (.cells #[.int .u8 97, .int .u8 98] 5 (2, 3)))
  have HTA := Aside0.mk (HT.out.below HA.out)
  have hcb := Lib.run_convert_bytes_const (P := Tryd.prog) w 22 5 #[.int .u8 97, .int .u8 98] 2 2 Tryd.underlying22 Tryd.underlying5
  go_enter Tryd.func25, Tryd.ntmps25
  go_wp2_with (first
    | (go_at_call 23; refine (extent_Frame.calls_at ⟨#[120]⟩ 1 2 _ 2 [97, 98] _ L rfl (C_lit_at (Value.int .u8) 0 (h1 := fun _ => rfl) _ 5 #[.int .u8 97, .int .u8 98] (2, 3) [97, 98] _ 2 rfl (by simp) rfl rfl) (by decide) (by decide) (by decide) HTA.out HF.out HL.out).mono ?_; rintro e w1 ⟨g, hg, rfl, hblk, hb⟩; have HB1 := Aside0.mk (below_step HA.out hb); have HBK := Aside0.mk hblk; have HGG := Aside0.mk hg; clear hg hblk hb)
    | (go_at_call 24; refine (extent_Open.calls_at _ _ L ⟨#[120]⟩ 1 _ [97, 98] 2 0 HLL.out (row_C HBK.out (by have := HLL.out; omega)) (by decide) HLK.out (by decide) (HT.out.below HB1.out) HO.out).mono ?_; rintro e w2 ⟨v, rfl, hr, hb⟩; obtain ⟨A3, c3, rfl⟩ := Kd.R_slice hr; have HB2 := Aside0.mk (below_step HB1.out hb); have hs2 : (convert 22 9 (.slice A3 2 c3)).run Tryd.prog w2 = .ok (.string ⟨#[97, 98]⟩) w2 := hsc ▸ Kd.C_string (P := Tryd.prog) (c := c3) Tryd.underlying22 Tryd.underlying5 Tryd.underlying9 (Kd.R_reads' hr).2.2; clear hr hb))
  go_ret
  exact ⟨rfl, HB2.out⟩
end Go.Proofs.YtmaoleabfmokpaaDoor.G
