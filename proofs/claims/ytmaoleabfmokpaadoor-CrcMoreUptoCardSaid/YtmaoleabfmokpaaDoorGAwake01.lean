/- The contract of the awake of the laws of crc: it answers true. -/
import Derived.Test.YtmaoleabfmokpaaDoorGSum
import Derived.Test.YtmaoleabfmokpaaDoorGRefSum
import Derived.Test.YtmaoleabfmokpaaDoorGBytes
import Derived.Lib.SlBytesConst
namespace Go.Proofs.YtmaoleabfmokpaaDoor.G
open Go.RowKit Go.Proofs.YtmaoleabfmokpaaDoorW.PrintWords Go.Proofs.YtmaoleabfmokpaaDoorW.PrintLast Go.Proofs.YtmaoleabfmokpaaDoorW.PrintMore
set_option linter.unusedVariables false
set_option linter.unusedSimpArgs false
theorem awake_sum : crc_Sum.f [49, 50, 51, 52, 53, 54, 55, 56, 57] = some 3808858755 := by
  unfold crc_Sum.f
  rw [if_pos (by decide +kernel)]
  exact congrArg some (by decide +kernel)
theorem dryrotlaw01_awake.calls (w : World) (hT : TabQ w) :
    Calls Tryd.prog 16 #[] w fun e w' => e = .returned (.bool true) ∧ Below w.heap.size w w' := by
  have kc := fun (W : World) (C : Array Value) (n c : Nat) => Lib.run_convert_bytes_const (P := Tryd.prog) W 22 5 C n c Tryd.underlying22 Tryd.underlying5
  have HS := Aside0.mk awake_sum
  go_enter Tryd.func16, Tryd.ntmps16
  go_wp2_with fail
  clear kc
  have hT' := hT.below (below_alloc (Below.refl _ _) (.cells #[.int .u8 49, .int .u8 50, .int .u8 51, .int .u8 52, .int .u8 53, .int .u8 54, .int .u8 55, .int .u8 56, .int .u8 57] 5 (9, 10)))
  have hC := C_lit (Value.int .u8) 0 (h1 := fun _ => rfl) w 5 #[.int .u8 49, .int .u8 50, .int .u8 51, .int .u8 52, .int .u8 53, .int .u8 54, .int .u8 55, .int .u8 56, .int .u8 57] (9, 10) [49, 50, 51, 52, 53, 54, 55, 56, 57] rfl (by decide)
  refine (crc_Sum.calls _ 9 [49, 50, 51, 52, 53, 54, 55, 56, 57] _ _ hC (by decide) hT' HS.out).mono ?_
  rintro e w1 ⟨rfl, ⟨n1, rfl⟩⟩
  go_wp2
  go_ret
  exact ⟨rfl, pw_below_drewN (below_alloc (Below.refl _ _) _) _⟩
end Go.Proofs.YtmaoleabfmokpaaDoor.G
