/- The contract of math/bits.TrailingZeros64, where its table lies as its text lays it. The sums of the table are the kit's (Derived/Shelf/Spec/TrailingZeros). -/
import Derived.Test.YtpeekkpdglfbbaaDoorGW
import Derived.Shelf.Spec.TrailingZeros
namespace Go.Proofs.YtpeekkpdglfbbaaDoor.PA
open Go.RowKit Go.Proofs.YtpeekkpdglfbbaaDoor.G Go.Proofs.YtpeekkpdglfbbaaDoorW.PrintWords Go.Proofs.YtpeekkpdglfbbaaDoorW.PrintLast Go.Proofs.YtpeekkpdglfbbaaDoorW.PrintMore
set_option linter.unusedVariables false
set_option linter.unusedSimpArgs false

/-- the table lies in its variable -/
structure TabZ (w : World) : Prop where mk :: (out : ∀ j, j < 64 → w.cell? ⟨0, j, none⟩ = some (.int .u8 (Lib.deBruijn64tab.getD j 0 : Nat)))
theorem TabZ.below {w w1 : World} (h : TabZ w) (hb : Below w.heap.size w w1) : TabZ w1 := ⟨fun j hj => pw_cell_below hb (h.out j hj)⟩
set_option maxHeartbeats 1000000 in
set_option maxRecDepth 100000 in
theorem tz_core (x k idx : Nat) (w : World) (hx0 : ((x : Int) == 0) = false)
    (key : IntKind.u64.wrap (bits BinOp.and IntKind.u64 (x : Int) (IntKind.u64.wrap (-(x : Int))) * 285870213051353865) / 288230376151711744 = (idx : Int))
    (hi : idx < 64) (hk : k < 64) (hcell : w.cell? ⟨0, idx, none⟩ = some (.int .u8 k)) :
    Calls Tryd.prog 41 #[.int .u64 x] w fun e w' => e = .returned (.int .i64 k) ∧ w' = w := by
  go_enter Tryd.func41, Tryd.ntmps41
  go_wp2_with (simp only [key])
  trace_state
  go_ret
  exact ⟨rfl, rfl⟩
set_option maxRecDepth 100000 in
theorem tz.calls (x : Nat) (hx : x < 18446744073709551616) (w : World) (hT : TabZ w) :
    Calls Tryd.prog 41 #[.int .u64 x] w fun e w' => e = .returned (.int .i64 (Lib.ctz 64 x : Nat)) ∧ w' = w := by
  by_cases hx0 : x = 0
  · subst hx0
    go_enter Tryd.func41, Tryd.ntmps41
    go_wp2
    go_ret
    exact ⟨rfl, rfl⟩
  · obtain ⟨hlow, hk⟩ := Lib.lowest_bit 64 x hx0 hx
    obtain ⟨hi, htab⟩ := Lib.deBruijn64_at _ hk
    have hcell := hT.out _ hi
    rw [htab] at hcell
    exact tz_core x _ _ w (by simp; omega) (tz64_key x _ hx hx0 hlow) hi hk hcell
end Go.Proofs.YtpeekkpdglfbbaaDoor.PA
