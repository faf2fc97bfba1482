/- Lemmas and contracts that the law ChunkJoins leans on (packed by a program of this session out of its texts and the print's words). -/
import Derived.Test.YtbgmnmjokdfmlaaDoorZJ3
import Derived.Test.YtbgmnmjokdfmlaaDoorZJ2
import Derived.WalkMore
import Derived.Deep.RegionHeld3
import Derived.RangeFuncNested
import Derived.RangeFuncBound
import Derived.RangeFuncCalls
import Derived.RangeFuncLeaves
import Derived.Shelf.Abstract
import Derived.Shelf.RegionOpen
import Derived.WalkKit
import Derived.OwnWalkIn
import Derived.TacticsInMore
import Derived.LoopNIn
import Derived.LoopIn
import Derived.Lib.QuietBelowIn
import Derived.Deep.DeepMust
import Derived.OrdersHeld
import Derived.StillTailTactics
import Derived.OrdersIn
import Derived.RangeFuncKeeps
import Derived.Tactics2
import Derived.RegionTactic
import Derived.Laws.Cover1
import Derived.Deep.RegionLaw
namespace Go.Proofs.YtbgmnmjokdfmlaaDoor.PA
open Go.RowKit Go.Proofs.YtbgmnmjokdfmlaaDoor.G Go.Proofs.YtbgmnmjokdfmlaaDoorW.PrintWords Go.Proofs.YtbgmnmjokdfmlaaDoorW.PrintLast Go.Proofs.YtbgmnmjokdfmlaaDoorW.PrintMore
set_option linter.unusedVariables false
set_option linter.unusedSimpArgs false
def UP (W : World) (g : Nat) (A : Option Addr) (n c : Nat) (N p : Int) (bad : Bool) : Prop := W.heap[g]? = some (.cells #[.slice A n c, .int .i64 N, .int .i64 p, .bool bad] 128 (0, 0))
noncomputable def unT (l : List Int) (N : Int) (s : Int × Bool) (c : Int) : Int × Int × Bool := ((takeR l N s.1 c).1, wrap64 (s.1 + c), s.2 || (takeR l N s.1 c).2 != 0)
noncomputable def unN (l : List Int) (N : Int) (s : Int × Bool) : Int × Int × Bool := ((takeI l N s.1).1, (takeI l N s.1).2.1, s.2 || (takeI l N s.1).2.2 != 0)
set_option maxHeartbeats 2000000 in
set_option maxRecDepth 100000 in
theorem unpack_take.calls (g : Nat) (A : Option Addr) (c : Nat) (l : List Int) (N p k : Int) (bad : Bool) (w0 w : World) (hU : UP w g A l.length c N p bad) (hr : Kd.C (Kd.int .u8) w0 A l.length l) (hc : l.length ≤ c) (hB : Below w0.heap.size w0 w) (hg : w0.heap.size ≤ g)
    (hl : OkL l) (hn : l.length ≤ 1000000) (hN : -9223372036854775808 ≤ N ∧ N ≤ 9223372036854775807) :
    Calls Tryd.prog 89 #[.pointer (some ⟨g, 0, none⟩), .int .i64 k] w fun e w' => e = .returned (.int .u64 (unT l N (p, bad) k).1) ∧ UP w' g A l.length c N (unT l N (p, bad) k).2.1 (unT l N (p, bad) k).2.2 ∧ Below w0.heap.size w0 w' ∧ KeepBut w w' g none := by
  obtain ⟨r, e, hre⟩ : ∃ r e, takeR l N p k = (r, e) := ⟨_, _, rfl⟩
  have HF : Aside0 (bits_Take.f 100 l N p k = some (r, e)) := ⟨by rw [btake_eq hl (by omega) N p k hN.1 hN.2 100 (by decide), hre]⟩
  simp only [unT, hre]
  have HB := Aside0.mk hB
  have HC := Aside0.mk hc
  have HR := Aside0.mk hr
  have HU := Aside0.mk hU
  have HG := Aside0.mk hg
  have u0 : w.cell? ⟨g, 0, none⟩ = some (.slice A l.length c) := (blk_cell hU 0).trans rfl
  have u1 : w.cell? ⟨g, 1, none⟩ = some (.int .i64 N) := (blk_cell hU 1).trans rfl
  have u2 : w.cell? ⟨g, 2, none⟩ = some (.int .i64 p) := (blk_cell hU 2).trans rfl
  have hu44 := Tryd.underlying99
  clear hB hc hr hU hg hl hn hN hre
  go_enter Tryd.func89, Tryd.ntmps89
  go_wp2
  go_cut [5, 6] (fun v5 v6 wx => v5 = .int .u64 r ∧ v6 = .int .i64 e ∧ Aside0 (Below w.heap.size w wx))
  case first =>
    go_region_with (go_at_call 111; (refine (bits_Take.calls 100 A c l N p k r e _ ?s1 HC.out HF.out).mono ?_); (case s1 => exact Kd.C_drew (Kd.C_below HR.out HB.out)); rintro e_ wx ⟨rfl, hb⟩; have HX := Aside0.mk hb; clear hb)
    all_goals (go_wp2_with fail; go_meet; exact ⟨rfl, rfl, ⟨below_then (below_drew1 (Below.refl _ _)) (by simp) HX.out⟩⟩)
  case rest =>
    obtain ⟨rfl, rfl, HX⟩ := hcut
    have HU2 := Aside0.mk (blk_below HU.out HX.out)
    clear u0 u1 u2
    have u2 : wc.cell? ⟨g, 2, none⟩ = some (.int .i64 p) := (blk_cell HU2.out 2).trans rfl
    have u3 : wc.cell? ⟨g, 3, none⟩ = some (.bool bad) := (blk_cell HU2.out 3).trans rfl
    have f2 := blk_frozen HU2.out 2
    have f3 := blk_frozen HU2.out 3
    cases bad <;>
    · go_wp2
      go_ret
      refine ⟨rfl, ?_, ((below_step HB.out HX.out).setCell (p := ⟨g, 3, none⟩) HG.out _).setCell (p := ⟨g, 2, none⟩) HG.out _, ((KeepBut.of_below HX.out g none).set_ 3 _).set_ 2 _⟩
      first
        | exact blk_put (blk_put HU2.out 3 _ rfl) 2 _ rfl
        | (refine (blk_put (blk_put HU2.out 3 _ rfl) 2 _ rfl).trans ?_; simp; trace_state)
set_option maxHeartbeats 2000000 in
set_option maxRecDepth 100000 in
theorem unpack_number.calls (g : Nat) (A : Option Addr) (c : Nat) (l : List Int) (N p : Int) (bad : Bool) (w0 w : World) (hU : UP w g A l.length c N p bad) (hr : Kd.C (Kd.int .u8) w0 A l.length l) (hc : l.length ≤ c) (hB : Below w0.heap.size w0 w) (hg : w0.heap.size ≤ g)
    (hl : OkL l) (hn : l.length ≤ 1000000) (hN : -9223372036854775808 ≤ N ∧ N ≤ 9223372036854775807) :
    Calls Tryd.prog 90 #[.pointer (some ⟨g, 0, none⟩)] w fun e w' => e = .returned (.int .i64 (unN l N (p, bad)).1) ∧ UP w' g A l.length c N (unN l N (p, bad)).2.1 (unN l N (p, bad)).2.2 ∧ Below w0.heap.size w0 w' ∧ KeepBut w w' g none := by
  obtain ⟨r, q, e, hre⟩ : ∃ r q e, takeI l N p = (r, q, e) := ⟨_, _, _, rfl⟩
  have HF : Aside0 (bits_TakeInt.f 200 l N p = some (r, q, e)) := ⟨by rw [takeInt_eq hl hn N p hN.1 hN.2 200 (by decide), hre]⟩
  simp only [unN, hre]
  have HB := Aside0.mk hB
  have HC := Aside0.mk hc
  have HR := Aside0.mk hr
  have HU := Aside0.mk hU
  have HG := Aside0.mk hg
  have u0 : w.cell? ⟨g, 0, none⟩ = some (.slice A l.length c) := (blk_cell hU 0).trans rfl
  have u1 : w.cell? ⟨g, 1, none⟩ = some (.int .i64 N) := (blk_cell hU 1).trans rfl
  have u2 : w.cell? ⟨g, 2, none⟩ = some (.int .i64 p) := (blk_cell hU 2).trans rfl
  have hu44 := Tryd.underlying99
  clear hB hc hr hU hg hl hn hN hre
  go_enter Tryd.func90, Tryd.ntmps90
  go_wp2
  go_cut [3, 4, 5] (fun v3 v4 v5 wx => v3 = .int .i64 r ∧ v4 = .int .i64 q ∧ v5 = .int .i64 e ∧ Aside0 (Below w.heap.size w wx))
  case first =>
    go_region_with (go_at_call 112; (refine (bits_TakeInt.calls 200 A c l N p r q e _ ?s1 HC.out HF.out).mono ?_); (case s1 => exact Kd.C_drew (Kd.C_below HR.out HB.out)); rintro e_ wx ⟨rfl, hb⟩; have HX := Aside0.mk hb; clear hb)
    all_goals (go_wp2_with fail; go_meet; exact ⟨rfl, rfl, rfl, ⟨below_then (below_drew1 (Below.refl _ _)) (by simp) HX.out⟩⟩)
  case rest =>
    obtain ⟨rfl, rfl, rfl, HX⟩ := hcut
    have HU2 := Aside0.mk (blk_below HU.out HX.out)
    clear u0 u1 u2
    have u2 : wc.cell? ⟨g, 2, none⟩ = some (.int .i64 p) := (blk_cell HU2.out 2).trans rfl
    have u3 : wc.cell? ⟨g, 3, none⟩ = some (.bool bad) := (blk_cell HU2.out 3).trans rfl
    have f2 := blk_frozen HU2.out 2
    have f3 := blk_frozen HU2.out 3
    cases bad <;>
    · go_wp2
      go_ret
      refine ⟨rfl, ?_, ((below_step HB.out HX.out).setCell (p := ⟨g, 3, none⟩) HG.out _).setCell (p := ⟨g, 2, none⟩) HG.out _, ((KeepBut.of_below HX.out g none).set_ 3 _).set_ 2 _⟩
      first
        | exact blk_put (blk_put HU2.out 3 _ rfl) 2 _ rfl
        | (refine (blk_put (blk_put HU2.out 3 _ rfl) 2 _ rfl).trans ?_; simp; trace_state)
end Go.Proofs.YtbgmnmjokdfmlaaDoor.PA
namespace Go.Proofs.YtbgmnmjokdfmlaaDoor.PA
open Go.RowKit Go.Proofs.YtbgmnmjokdfmlaaDoor.G Go.Proofs.YtbgmnmjokdfmlaaDoorW.PrintWords Go.Proofs.YtbgmnmjokdfmlaaDoorW.PrintLast Go.Proofs.YtbgmnmjokdfmlaaDoorW.PrintMore
set_option linter.unusedVariables false
set_option linter.unusedSimpArgs false
noncomputable def packB (L : List Bool) : List Int := open Classical in if h : ∃ b, OkX b L.length ∧ Bs b L.length = L then h.choose else []
theorem packB_of {b : List Int} {L : List Bool} (h1 : OkX b L.length) (h2 : Bs b L.length = L) : packB L = b := by
  have h : ∃ b, OkX b L.length ∧ Bs b L.length = L := ⟨b, h1, h2⟩
  unfold packB
  rw [dif_pos h]
  exact OkX.ext h.choose_spec.1 h1 (h.choose_spec.2.trans h2.symm)
noncomputable def encL (l : List S54) : List Int := beL l.length 2 ++ packB (encP l l.length)
noncomputable def encF (l : List S54) : List Int × Int := if canS l = true then (encL l, 0) else ([], 1)
theorem headI_mono {l : List Int} {n n' : Nat} (hn : n ≤ n') {v q : Int} : ∀ (m p : Nat), headI l n m p = (v, q, 0) → headI l n' m p = (v, q, 0)
  | 0, p, h => by
    simp only [headI, tailI] at h ⊢
    split at h
    · simp at h
    · rw [if_neg (by omega)]
      exact h
  | m + 1, p, h => by
    simp only [headI] at h ⊢
    split at h
    · simp at h
    · rename_i h1
      rw [if_neg (by omega)]
      split at h
      · rename_i h2
        rw [if_pos h2]
        exact headI_mono hn m (p + 1) h
      · rename_i h2
        rw [if_neg h2]
        simp only [tailI] at h ⊢
        split at h
        · simp at h
        · rw [if_neg (by omega)]
          exact h
theorem Bs_take {l : List Int} {N m : Nat} {B Z : List Bool} (h : Bs l N = B ++ Z) (hm : B.length = m) : Bs l m = B := by
  have hN : m ≤ N := by have := congrArg List.length h; simp at this; omega
  have := win_Bs l N 0 m (by omega)
  rw [Nat.zero_add, List.drop_zero, h, ← hm, List.take_left'] at this
  · rw [← hm]; exact this
  · rfl
theorem takeI_part {l : List Int} {N : Nat} {B Z : List Bool} {v : Int} (hX : OkX l N) (hv : (Lit.int .i64 v).wf = true) (h : Bs l N = B ++ intBits v ++ Z) : takeI l (N : Int) (B.length : Int) = (v, ((B.length + (intBits v).length : Nat) : Int), 0) := by
  have hN : B.length + (intBits v).length ≤ N := by have := congrArg List.length h; simp at this; omega
  have h1 := Bs_take h (m := B.length + (intBits v).length) (by simp)
  have h2 := headI_mono hN 4 B.length (head_back v hv h1)
  unfold takeI
  rw [if_neg (by intro q; rcases q with q | q | q; exact q ⟨by omega, by simpa using hX⟩; all_goals omega), Int.toNat_natCast, Int.toNat_natCast]
  exact h2
theorem takeR_part {l : List Int} {N c : Nat} {B L Z : List Bool} (hX : OkX l N) (hL : L.length = c) (hc : c ≤ 64) (h : Bs l N = B ++ L ++ Z) : takeR l (N : Int) (B.length : Int) (c : Int) = (((num L : Nat) : Int), 0) := by
  have hN : B.length + L.length ≤ N := by have := congrArg List.length h; simp at this; omega
  have h1 := win_part h rfl hL
  unfold takeR
  rw [if_neg (by intro q; rcases q with q | q | q | q | q; exact q ⟨by omega, by simpa using hX⟩; all_goals omega), if_neg (by omega), Int.toNat_natCast, Int.toNat_natCast, h1]
theorem bitLen_up : ∀ x : Nat, x < 2 ^ 64 → x < 2 ^ Lib.bitLen x := by
  intro x
  induction x using Nat.strongRecOn with
  | _ x ih =>
    intro hx
    by_cases h0 : x = 0
    · subst h0
      exact Nat.two_pow_pos _
    · rw [Lib.bitLen_half x h0 hx, Nat.add_comm, Nat.pow_succ]
      have := ih (x / 2) (by omega) (by omega)
      omega
theorem w64nat {a : Nat} (h : a < 9000000000000000000) : wrap64 (a : Int) = (a : Int) := w64 (by omega) (by omega)
noncomputable def unV (l : List Int) (N : Int) (s : Int × Bool) : Int × Int × Bool :=
  if s.2 = true then (0, s.1, true) else
  if (unT l N s 1).1 = 0 then (0, (unT l N s 1).2) else
  if ((unT l N (unT l N (unT l N s 1).2 6).2 6).2.2 || decide (64 < wrap64 (wrap64 (unT l N (unT l N s 1).2 6).1 + wrap64 (wrap64 (unT l N (unT l N (unT l N s 1).2 6).2 6).1 + 1)))) = true then (0, (unT l N (unT l N (unT l N s 1).2 6).2 6).2.1, true) else
  (shl .u64 (unT l N (unT l N (unT l N (unT l N s 1).2 6).2 6).2 (wrap64 (wrap64 (unT l N (unT l N (unT l N s 1).2 6).2 6).1 + 1))).1 (wrap64 (wrap64 (64 - wrap64 (unT l N (unT l N s 1).2 6).1) - wrap64 (wrap64 (unT l N (unT l N (unT l N s 1).2 6).2 6).1 + 1))),
    (unT l N (unT l N (unT l N (unT l N s 1).2 6).2 6).2 (wrap64 (wrap64 (unT l N (unT l N (unT l N s 1).2 6).2 6).1 + 1))).2)
theorem unT_part {l : List Int} {N c : Nat} {B L Z : List Bool} (hX : OkX l N) (hL : L.length = c) (hc : c ≤ 64) (hb : B.length ≤ 100000000) (h : Bs l N = B ++ L ++ Z) : unT l (N : Int) ((B.length : Int), false) (c : Int) = (((num L : Nat) : Int), ((B.length + c : Nat) : Int), false) := by
  unfold unT
  rw [takeR_part hX hL hc h]
  rw [show ((B.length : Int) + (c : Int)) = ((B.length + c : Nat) : Int) by omega, w64nat (by omega)]
  rfl
theorem unV_part {l : List Int} {N x : Nat} {B Z : List Bool} (hX : OkX l N) (hx : x < 18446744073709551616) (hb : B.length ≤ 10000000) (h : Bs l N = B ++ xorBits x ++ Z) : unV l (N : Int) ((B.length : Int), false) = ((x : Int), ((B.length + (xorBits x).length : Nat) : Int), false) := by
  by_cases h0 : x = 0
  · have e : xorBits x = low 0 1 := by rw [xorBits, if_pos h0]
    rw [e] at h ⊢
    have h1 := unT_part hX (low_length 0 1) (by decide) (by omega) h
    rw [num_low] at h1
    unfold unV
    rw [if_neg (by simp), show ((1 : Nat) : Int) = 1 from rfl] at *
    rw [h1]
    simp [h0]
  · obtain ⟨z1, z2⟩ := zs hx h0
    obtain ⟨H, hH⟩ : ∃ H, hiZ x = H := ⟨_, rfl⟩
    obtain ⟨S, hS⟩ : ∃ S, loZ x = S := ⟨_, rfl⟩
    obtain ⟨D, hD⟩ : ∃ D, wdZ x = D := ⟨_, rfl⟩
    have hs : H + S + D = 64 := by rw [← hH, ← hS, ← hD]; unfold hiZ loZ wdZ; unfold loZ at z1; omega
    have hd : 1 ≤ D := by rw [← hD]; unfold wdZ; unfold loZ at z1; omega
    have e : xorBits x = low 1 1 ++ low (H * 64 + (D - 1)) 12 ++ low (x / 2 ^ S) D := by rw [xorBits, if_neg h0, hH, hS, hD]
    have e12 : low (H * 64 + (D - 1)) 12 = low H 6 ++ low (D - 1) 6 := by
      rw [low_split _ 12 6 (by decide), show (H * 64 + (D - 1)) / 2 ^ (12 - 6) % 2 ^ 6 = H by rw [show 2 ^ (12 - 6) = 64 from rfl, Nat.mul_comm H 64, Nat.mul_add_div (by decide), Nat.div_eq_of_lt (show D - 1 < 64 by omega), Nat.add_zero, Nat.mod_eq_of_lt (show H < 64 by omega)], ← low_mod (H * 64 + (D - 1)) 6, ← low_mod (D - 1) 6]
      congr 2
      omega
    have hxS : x / 2 ^ S * 2 ^ S = x := by
      have hc : Lib.ctz 64 x = Lib.ctzFrom 64 x := by unfold Lib.ctz; rw [if_neg h0]
      obtain ⟨m, hm, _⟩ := Lib.ctzFrom_spec 64 x (by omega) hx
      rw [← hc] at hm
      rw [show Lib.ctz 64 x = S from hS] at hm
      exact Nat.div_mul_cancel ⟨2 * m + 1, hm⟩
    have hxD : x / 2 ^ S < 2 ^ D := by
      have := bitLen_up x hx
      rw [Nat.div_lt_iff_lt_mul (Nat.two_pow_pos _), ← Nat.pow_add]
      rwa [show D + S = Lib.bitLen x by rw [← hS, ← hD]; unfold wdZ; unfold loZ at *; omega]
    rw [e, e12] at h ⊢
    clear e e12 z1 z2 hH hS hD
    have a1 := unT_part (c := 1) (B := B) (L := low 1 1) (Z := low H 6 ++ (low (D - 1) 6 ++ (low (x / 2 ^ S) D ++ Z))) hX (low_length _ _) (by decide) (by omega) (by rw [h]; simp only [List.append_assoc])
    have a2 := unT_part (c := 6) (B := B ++ low 1 1) (L := low H 6) (Z := low (D - 1) 6 ++ (low (x / 2 ^ S) D ++ Z)) hX (low_length _ _) (by decide) (by simp; omega) (by rw [h]; simp only [List.append_assoc])
    have a3 := unT_part (c := 6) (B := B ++ low 1 1 ++ low H 6) (L := low (D - 1) 6) (Z := low (x / 2 ^ S) D ++ Z) hX (low_length _ _) (by decide) (by simp; omega) (by rw [h]; simp only [List.append_assoc])
    have a4 := unT_part (c := D) (B := B ++ low 1 1 ++ low H 6 ++ low (D - 1) 6) (L := low (x / 2 ^ S) D) (Z := Z) hX (low_length _ _) (by omega) (by simp; omega) (by rw [h]; simp only [List.append_assoc])
    rw [num_low] at a1 a2 a3 a4
    simp only [List.length_append, low_length] at a1 a2 a3 a4
    rw [show 1 % 2 ^ 1 = 1 from rfl] at a1
    rw [show H % 2 ^ 6 = H by omega] at a2
    rw [show (D - 1) % 2 ^ 6 = D - 1 by omega] at a3
    rw [Nat.mod_eq_of_lt hxD] at a4
    rw [show ((1 : Nat) : Int) = 1 from rfl] at a1
    rw [show ((6 : Nat) : Int) = 6 from rfl] at a2 a3
    unfold unV
    simp only [a1, a2, a3]
    rw [w64nat (show H < 9000000000000000000 by omega), w64nat (show D - 1 < 9000000000000000000 by omega), show (((D - 1 : Nat) : Int) + 1) = ((D : Nat) : Int) by omega, w64nat (show D < 9000000000000000000 by omega), show ((H : Int) + (D : Int)) = ((H + D : Nat) : Int) by omega, w64nat (show H + D < 9000000000000000000 by omega), a4]
    rw [show (64 - (H : Int)) = ((64 - H : Nat) : Int) by omega, w64nat (show 64 - H < 9000000000000000000 by omega), show (((64 - H : Nat) : Int) - (D : Int)) = ((S : Nat) : Int) by omega, w64nat (show S < 9000000000000000000 by omega)]
    rw [if_neg (by simp), if_neg (by simp), if_neg (by simp; omega)]
    have e5 : shl .u64 ((x / 2 ^ S : Nat) : Int) (S : Int) = (x : Int) := by
      unfold shl
      rw [Int.toNat_natCast, Nat.min_eq_left (by simp [IntKind.bits]; omega)]
      have : ((x / 2 ^ S : Nat) : Int) * 2 ^ S = (x : Int) := by rw [show (2 : Int) ^ S = ((2 ^ S : Nat) : Int) by simp, ← Int.natCast_mul, hxS]
      rw [this]
      exact u64wrap hx
    rw [e5]
    simp only [List.length_append, low_length, Prod.mk.injEq, true_and, and_true]
    omega
end Go.Proofs.YtbgmnmjokdfmlaaDoor.PA
namespace Go.Proofs.YtbgmnmjokdfmlaaDoor.G
open Go.RowKit Go.Proofs.YtbgmnmjokdfmlaaDoorW.PrintWords Go.Proofs.YtbgmnmjokdfmlaaDoorW.PrintLast Go.Proofs.YtbgmnmjokdfmlaaDoorW.PrintMore
set_option linter.unusedVariables false
set_option linter.unusedSimpArgs false
def crc_Get.f (l : List Int) : Option (Int × Bool) := if okB l = true then (if 1 ≤ l.length ∧ l.length ≤ 8 then some ((beV 0 l : Nat), true) else some (0, false)) else none
theorem beV_take (l : List Int) (k : Nat) (hk : k < l.length) : beV 0 (l.take (k + 1)) = beV 0 (l.take k) * 256 + (rd l (k : Int)).toNat := by
  have e : rd l (k : Int) = l[k] := by simp [rd, List.getD_eq_getElem?_getD, List.getElem?_eq_getElem hk]
  rw [List.take_succ_eq_append_getElem hk, e]
  unfold beV
  rw [List.foldl_append]
  rfl
theorem beV_take_lt {l : List Int} (hl : okB l = true) (k : Nat) : beV 0 (l.take k) < 256 ^ k := by
  have h := beV_lt (l.take k) (fun x hx => okB_iff.1 hl x (List.mem_of_mem_take hx)) 0 0 (by simp)
  refine Nat.lt_of_lt_of_le h (Nat.pow_le_pow_right (by decide) ?_)
  rw [List.length_take]
  omega
set_option maxHeartbeats 800000 in
set_option maxRecDepth 100000 in
theorem crc_Get.calls (A0 : Option Addr) (c0 : Nat) (l0 : List Int) (r1 : Int) (r2 : Bool) (w : World) (hr0 : Kd.C (Kd.int .u8) w A0 l0.length l0) (hc0 : l0.length ≤ c0) (h : crc_Get.f l0 = some (r1, r2)) :
    Calls Tryd.prog 59 #[.slice A0 l0.length c0] w fun e w' => e = .returned (.tuple #[.int .u64 r1, .bool r2]) ∧ Drawn0 w w' := by
  have HR := Aside0.mk hr0
  clear hr0 hc0
  unfold crc_Get.f at h
  split at h
  case isFalse => cases h
  case isTrue hok =>
  by_cases hl : 1 ≤ l0.length ∧ l0.length ≤ 8
  case neg =>
    rw [if_neg hl] at h
    simp only [Option.some.injEq, Prod.mk.injEq] at h
    obtain ⟨rfl, rfl⟩ := h
    by_cases h0 : l0.length = 0
    · have e0 : ((l0.length : Int) == 0) = true := beq_iff_eq.2 (by omega)
      clear hl h0
      go_enter Tryd.func59, Tryd.ntmps59
      go_wp2
      go_ret2
      exact ⟨rfl, Drawn0.refl _⟩
    · have e0 : ((l0.length : Int) == 0) = false := beq_eq_false_iff_ne.2 (by omega)
      have e1 : decide ((8 : Int) < (l0.length : Int)) = true := decide_eq_true (by omega)
      clear hl h0
      go_enter Tryd.func59, Tryd.ntmps59
      go_wp2
      go_ret2
      exact ⟨rfl, Drawn0.refl _⟩
  case pos =>
    rw [if_pos hl] at h
    simp only [Option.some.injEq, Prod.mk.injEq] at h
    obtain ⟨rfl, rfl⟩ := h
    have e0 : ((l0.length : Int) == 0) = false := beq_eq_false_iff_ne.2 (by omega)
    have e1 : decide ((8 : Int) < (l0.length : Int)) = false := decide_eq_false (by omega)
    go_enter Tryd.func59, Tryd.ntmps59
    go_wp2
    go_loop [4, 17] (fun n i => ∃ k : Nat, k ≤ l0.length ∧ i = .int .i64 k ∧ n = .int .u64 (beV 0 (l0.take k) : Nat)) (fun _ i => l0.length - (intOf i).toNat)
    case atStart => exact ⟨0, Nat.zero_le _, rfl, rfl⟩
    case round =>
      obtain ⟨k, hk, rfl, rfl⟩ := hrel
      by_cases hlt : k < l0.length
      · obtain ⟨ad, rfl, hc⟩ := Kd.at_int HR.out (k : Int) (by omega) (by omega)
        rw [Int.toNat_natCast] at hc
        have hx := okB_iff.1 hok _ (rd_mem l0 k hlt)
        have HT := Aside0.mk (beV_take l0 k hlt)
        have hV := beV_take_lt hok k
        have h7 : beV 0 (l0.take k) < 256 ^ 7 := Nat.lt_of_lt_of_le hV (Nat.pow_le_pow_right (by decide) (by omega))
        have HO := Aside0.mk (or8 _ _ h7 hx.1 hx.2)
        have HV := Aside0.mk h7
        clear hV h7 hx
        go_wp2
        go_round
        case rel => exact ⟨k + 1, by omega, by go_num, by rw [HT.out, ← HO.out]⟩
        case measure => simp [intOf]; omega
      · obtain rfl : k = l0.length := by omega
        go_wp2
        go_ret2
        exact ⟨rfl, Drawn0.refl _⟩
end Go.Proofs.YtbgmnmjokdfmlaaDoor.G
namespace Go.Proofs.YtbgmnmjokdfmlaaDoor.PA
open Go.RowKit Go.Proofs.YtbgmnmjokdfmlaaDoor.G Go.Proofs.YtbgmnmjokdfmlaaDoorW.PrintWords Go.Proofs.YtbgmnmjokdfmlaaDoorW.PrintLast Go.Proofs.YtbgmnmjokdfmlaaDoorW.PrintMore
set_option linter.unusedVariables false
set_option linter.unusedSimpArgs false
theorem pack_ex (L : List Bool) (hL : L.length ≤ 7000000) : ∀ n, n ≤ L.length → ∃ b, OkX b n ∧ Bs b n = L.take n
  | 0, _ => ⟨[], okX_nil, rfl⟩
  | n + 1, h => by
    obtain ⟨b, hb, hbs⟩ := pack_ex L hL n (by omega)
    obtain ⟨b', _, h1, h2⟩ := put_ok hb (by have := hb.near; omega) (if L[n] = true then 1 else 0) 1 (by split <;> decide) (by decide)
    refine ⟨b', h1, ?_⟩
    rw [h2, hbs, List.take_succ_eq_append_getElem h]
    congr 1
    cases L[n] <;> rfl
theorem packB_ok (L : List Bool) (hL : L.length ≤ 7000000) : OkX (packB L) L.length ∧ Bs (packB L) L.length = L := by
  obtain ⟨b, h1, h2⟩ := pack_ex L hL L.length (Nat.le_refl _)
  rw [List.take_length] at h2
  rw [packB_of h1 h2]
  exact ⟨h1, h2⟩
theorem unT_range (l : List Int) (N c : Int) (s : Int × Bool) : 0 ≤ (unT l N s c).1 ∧ (unT l N s c).1 < 18446744073709551616 := by
  unfold unT takeR
  split
  · exact ⟨Int.le_refl _, by show (0 : Int) < _; decide⟩
  · rename_i h
    split
    · exact ⟨Int.le_refl _, by show (0 : Int) < _; decide⟩
    · have := num_lt64 (win l s.1.toNat c.toNat) (by rw [win_length]; omega)
      exact ⟨Int.natCast_nonneg _, by show ((num _ : Nat) : Int) < _; omega⟩
theorem unT_place {l : List Int} {N : Nat} {c : Int} {s : Int × Bool} (hN : N ≤ 100000000) (h : (unT l (N : Int) s c).2.2 = false) : s.2 = false ∧ (unT l (N : Int) s c).2.1 = s.1 + c ∧ 0 ≤ s.1 ∧ s.1 + c ≤ N ∧ 0 ≤ c := by
  obtain ⟨p, bad⟩ := s
  unfold unT takeR at *
  simp only [Bool.or_eq_false_iff] at h
  obtain ⟨hb, h⟩ := h
  split at h
  · simp at h
  · rename_i h1
    split at h
    · simp at h
    · rename_i h2
      simp only at h1 h2 ⊢
      exact ⟨hb, w64 (by omega) (by omega), by omega, by omega, by omega⟩
theorem headI_place {l : List Int} {n : Nat} {v q : Int} : ∀ (m p : Nat), p ≤ n → headI l n m p = (v, q, 0) → (p : Int) + (if m = 0 then 0 else 1) ≤ q ∧ q ≤ (n : Int)
  | 0, p, hp, h => by
    simp only [headI, tailI] at h
    split at h
    · simp at h
    · split at h
      · have hw := (width_le 4).1
        simp only [Prod.mk.injEq] at h
        rw [if_pos rfl]
        omega
      · simp at h
  | m + 1, p, hp, h => by
    rw [if_neg (by omega)]
    simp only [headI] at h
    split at h
    · simp at h
    · split at h
      · have := headI_place m (p + 1) (by omega) h
        split at this <;> omega
      · simp only [tailI] at h
        split at h
        · simp at h
        · split at h
          · have hw := (width_le (3 - (m : Int))).1
            simp only [Prod.mk.injEq] at h
            omega
          · simp at h
theorem unN_place {l : List Int} {N : Nat} {s : Int × Bool} (h : (unN l (N : Int) s).2.2 = false) : s.2 = false ∧ s.1 + 1 ≤ (unN l (N : Int) s).2.1 ∧ 0 ≤ s.1 ∧ (unN l (N : Int) s).2.1 ≤ N := by
  obtain ⟨p, bad⟩ := s
  unfold unN takeI at *
  simp only [Bool.or_eq_false_iff] at h ⊢
  obtain ⟨hb, h⟩ := h
  split at h
  · simp at h
  · rename_i h1
    rw [if_neg h1]
    have e : ¬ p < 0 ∧ ¬ (N : Int) < p := ⟨by omega, by omega⟩
    obtain ⟨v, q, z, hq⟩ : ∃ v q z, headI l ((N : Int)).toNat 4 p.toNat = (v, q, z) := ⟨_, _, _, rfl⟩
    rw [hq] at h ⊢
    have hz : z = 0 := by simpa using h
    subst hz
    have := headI_place 4 p.toNat (by simp; omega) hq
    rw [if_neg (by decide)] at this
    simp only [Int.toNat_natCast] at this
    refine ⟨hb, ?_, by omega, ?_⟩
    · show p + 1 ≤ q
      omega
    · show q ≤ _
      omega
theorem unV_range (l : List Int) (N : Int) (s : Int × Bool) : 0 ≤ (unV l N s).1 ∧ (unV l N s).1 < 18446744073709551616 := by
  unfold unV
  repeat' split
  · exact ⟨Int.le_refl _, by show (0 : Int) < _; decide⟩
  · exact ⟨Int.le_refl _, by show (0 : Int) < _; decide⟩
  · exact ⟨Int.le_refl _, by show (0 : Int) < _; decide⟩
  · unfold shl
    exact u64_wrap_range _
theorem unV_place {l : List Int} {N : Nat} {s : Int × Bool} (hN : N ≤ 100000000) (h : (unV l (N : Int) s).2.2 = false) : s.2 = false ∧ s.1 + 1 ≤ (unV l (N : Int) s).2.1 ∧ (unV l (N : Int) s).2.1 ≤ N := by
  cases hs : s.2 with
  | true => rw [unV, if_pos hs] at h; simp at h
  | false =>
    obtain ⟨a, ha⟩ : ∃ a, unT l (N : Int) s 1 = a := ⟨_, rfl⟩
    obtain ⟨b, hb⟩ : ∃ b, unT l (N : Int) a.2 6 = b := ⟨_, rfl⟩
    obtain ⟨d, hd⟩ : ∃ d, unT l (N : Int) b.2 6 = d := ⟨_, rfl⟩
    obtain ⟨w, hw⟩ : ∃ w, wrap64 (wrap64 d.1 + 1) = w := ⟨_, rfl⟩
    obtain ⟨t, ht⟩ : ∃ t, unT l (N : Int) d.2 w = t := ⟨_, rfl⟩
    unfold unV at h ⊢
    simp only [ha, hb, hd, hw, ht] at h ⊢
    rw [if_neg (by rw [hs]; simp)] at h ⊢
    by_cases c1 : a.1 = 0
    · rw [if_pos c1] at h ⊢
      have hpl := unT_place (l := l) (N := N) (c := 1) (s := s) hN (by rw [ha]; exact h)
      rw [ha] at hpl
      exact ⟨trivial, by show s.1 + 1 ≤ a.2.1; omega, by show a.2.1 ≤ _; omega⟩
    · rw [if_neg c1] at h ⊢
      by_cases c2 : (d.2.2 || decide (64 < wrap64 (wrap64 b.1 + w))) = true
      · rw [if_pos c2] at h
        simp at h
      · rw [if_neg c2] at h ⊢
        have p4 := unT_place (l := l) (N := N) (c := w) (s := d.2) hN (by rw [ht]; exact h)
        have p3 := unT_place (l := l) (N := N) (c := 6) (s := b.2) hN (by rw [hd]; exact p4.1)
        have p2 := unT_place (l := l) (N := N) (c := 6) (s := a.2) hN (by rw [hb]; exact p3.1)
        have p1 := unT_place (l := l) (N := N) (c := 1) (s := s) hN (by rw [ha]; exact p2.1)
        rw [ht] at p4
        rw [hd] at p3
        rw [hb] at p2
        rw [ha] at p1
        exact ⟨trivial, by show s.1 + 1 ≤ t.2.1; omega, by show t.2.1 ≤ _; omega⟩
noncomputable def decA (xb : List Int) (N p : Int) : Int × Int × Bool := unT xb N (p, false) 64
noncomputable def decB (xb : List Int) (N p : Int) : Int × Int × Bool := unT xb N (decA xb N p).2 64
noncomputable def decN (xb : List Int) (N p : Int) : Int × Int × Bool := unN xb N (p, false)
noncomputable def decV (xb : List Int) (N p : Int) : Int × Int × Bool := unV xb N (decN xb N p).2
noncomputable def decS (xb : List Int) (N : Int) : Nat → Int × Bool × List S54 × Int
  | 0 => (0, false, [], 0)
  | 1 => ((decB xb N 0).2.1, (decB xb N 0).2.2, if (decB xb N 0).2.2 = true then [] else [⟨wrap64 (decA xb N 0).1, (decB xb N 0).1⟩], 0)
  | k + 2 => if (decS xb N (k + 1)).2.1 = true then decS xb N (k + 1) else
      ((decV xb N (decS xb N (k + 1)).1).2.1, (decV xb N (decS xb N (k + 1)).1).2.2,
        if (decV xb N (decS xb N (k + 1)).1).2.2 = true then (decS xb N (k + 1)).2.2.1 else (decS xb N (k + 1)).2.2.1 ++ [⟨wrap64 ((rd_T54 (decS xb N (k + 1)).2.2.1 (k : Int)).f0 + wrap64 ((decS xb N (k + 1)).2.2.2 + (decN xb N (decS xb N (k + 1)).1).1)), Go.bits .xor .u64 (rd_T54 (decS xb N (k + 1)).2.2.1 (k : Int)).f1 (decV xb N (decS xb N (k + 1)).1).1⟩],
        wrap64 ((decS xb N (k + 1)).2.2.2 + (decN xb N (decS xb N (k + 1)).1).1))
noncomputable def decF (b : List Int) : List S54 × Int :=
  if b.length < 2 then ([], 5) else
  if (decS (b.drop 2) ((8 * (b.length - 2) : Nat) : Int) (beV 0 (b.take 2))).2.1 = false ∧ encF (decS (b.drop 2) ((8 * (b.length - 2) : Nat) : Int) (beV 0 (b.take 2))).2.2.1 = (b, 0)
    then ((decS (b.drop 2) ((8 * (b.length - 2) : Nat) : Int) (beV 0 (b.take 2))).2.2.1, 0) else ([], 5)
theorem wrap64_in (x : Int) : -9223372036854775808 ≤ wrap64 x ∧ wrap64 x ≤ 9223372036854775807 := by
  unfold wrap64
  omega
theorem xor_in {a b : Int} (ha : 0 ≤ a ∧ a < 18446744073709551616) (hb : 0 ≤ b ∧ b < 18446744073709551616) : Go.bits .xor .u64 a b = ((a.toNat ^^^ b.toNat : Nat) : Int) ∧ a.toNat ^^^ b.toNat < 18446744073709551616 := by
  refine ⟨?_, xor_lt ha hb⟩
  obtain ⟨x, hx⟩ := Int.eq_ofNat_of_zero_le ha.1
  obtain ⟨y, hy⟩ := Int.eq_ofNat_of_zero_le hb.1
  rw [hx, hy, u64_xor_nat x y (by omega) (by omega)]
  simp
theorem okS_rd {l : List S54} (h : ∀ x ∈ l, okS x) (i : Int) : okS (rd_T54 l i) := by
  unfold rd_T54
  rw [List.getD_eq_getElem?_getD]
  cases hq : l[i.toNat]? with
  | none => exact ⟨⟨by decide, by decide⟩, by decide, by decide⟩
  | some x => exact h x (List.mem_of_getElem? hq)
theorem decS_inv (xb : List Int) (N : Nat) (hN : N ≤ 100000000) : ∀ k, (∀ x ∈ (decS xb (N : Int) k).2.2.1, okS x) ∧ (decS xb (N : Int) k).2.2.1.length ≤ N ∧
    ((decS xb (N : Int) k).2.1 = false → (decS xb (N : Int) k).2.2.1.length = k ∧ (k : Int) ≤ (decS xb (N : Int) k).1 ∧ (decS xb (N : Int) k).1 ≤ N)
  | 0 => ⟨fun x hx => absurd hx (by simp [decS]), by simp [decS], fun _ => ⟨rfl, by simp [decS], by simp [decS]⟩⟩
  | 1 => by
    simp only [decS]
    cases hb : (decB xb (N : Int) 0).2.2 with
    | true => exact ⟨fun x hx => absurd hx (by simp), by simp, fun h => absurd h (by simp)⟩
    | false =>
      have p2 := unT_place (l := xb) (N := N) (c := 64) (s := (decA xb (N : Int) 0).2) hN hb
      have p1 := unT_place (l := xb) (N := N) (c := 64) (s := (0, false)) hN p2.1
      have e2 : unT xb (N : Int) (decA xb (N : Int) 0).2 64 = decB xb (N : Int) 0 := rfl
      have e1 : unT xb (N : Int) (0, false) 64 = decA xb (N : Int) 0 := rfl
      rw [e2] at p2
      rw [e1] at p1
      refine ⟨fun x hx => ?_, by simp; omega, fun _ => ⟨by simp, by omega, by omega⟩⟩
      rw [if_neg (by simp), List.mem_singleton] at hx
      subst hx
      exact ⟨wrap64_in _, unT_range xb (N : Int) 64 (decA xb (N : Int) 0).2⟩
  | k + 2 => by
    have ih := decS_inv xb N hN (k + 1)
    simp only [decS]
    obtain ⟨⟨p, bad, l, st⟩, hs⟩ : ∃ s, decS xb (N : Int) (k + 1) = s := ⟨_, rfl⟩
    rw [hs] at ih ⊢
    cases bad with
    | true => rw [if_pos rfl]; exact ⟨ih.1, ih.2.1, fun h => absurd h (by simp)⟩
    | false =>
      rw [if_neg (by simp)]
      obtain ⟨i1, i2, i3⟩ := ih
      obtain ⟨i3, i4, i5⟩ := i3 rfl
      simp only at i1 i2 i3 i4 i5 ⊢
      cases hb : (decV xb (N : Int) p).2.2 with
      | true => exact ⟨by rw [if_pos rfl]; exact i1, by rw [if_pos rfl]; exact i2, fun h => absurd h (by simp)⟩
      | false =>
        have p2 := unV_place hN (s := (decN xb (N : Int) p).2) hb
        have p1 := unN_place (l := xb) (N := N) (s := (p, false)) p2.1
        have e1 : unN xb (N : Int) (p, false) = decN xb (N : Int) p := rfl
        have e2 : unV xb (N : Int) (decN xb (N : Int) p).2 = decV xb (N : Int) p := rfl
        rw [e1] at p1
        rw [e2] at p2
        rw [if_neg (by simp)]
        refine ⟨fun x hx => ?_, by simp; omega, fun _ => ⟨by simp; omega, by omega, by omega⟩⟩
        rcases List.mem_append.1 hx with hx | hx
        · exact i1 x hx
        · rw [List.mem_singleton] at hx
          subst hx
          have hv := unV_range xb (N : Int) (decN xb (N : Int) p).2
          have hy := (okS_rd i1 (k : Int)).2
          have hxx := xor_in hy hv
          refine ⟨wrap64_in _, ?_⟩
          show 0 ≤ Go.bits .xor .u64 _ (unV xb (N : Int) (decN xb (N : Int) p).2).1 ∧ _
          constructor
          · show 0 ≤ Go.bits .xor .u64 _ (unV xb (N : Int) (decN xb (N : Int) p).2).1
            rw [hxx.1]; omega
          · show Go.bits .xor .u64 _ (unV xb (N : Int) (decN xb (N : Int) p).2).1 < _
            rw [hxx.1]; have := hxx.2; omega
end Go.Proofs.YtbgmnmjokdfmlaaDoor.PA
namespace Go.Proofs.YtbgmnmjokdfmlaaDoor.PA
open Go.RowKit Go.Proofs.YtbgmnmjokdfmlaaDoor.G Go.Proofs.YtbgmnmjokdfmlaaDoorW.PrintWords Go.Proofs.YtbgmnmjokdfmlaaDoorW.PrintLast Go.Proofs.YtbgmnmjokdfmlaaDoorW.PrintMore
set_option linter.unusedVariables false
set_option linter.unusedSimpArgs false
theorem unT_six (l : List Int) (N : Int) (s : Int × Bool) : 0 ≤ (unT l N s 6).1 ∧ (unT l N s 6).1 < 64 := by
  unfold unT takeR
  split
  · exact ⟨Int.le_refl _, by show (0 : Int) < _; decide⟩
  · split
    · exact ⟨Int.le_refl _, by show (0 : Int) < _; decide⟩
    · have := num_lt (win l s.1.toNat 6)
      rw [win_length] at this
      exact ⟨Int.natCast_nonneg _, by show ((num (win l s.1.toNat 6) : Nat) : Int) < _; omega⟩
theorem take_pair (g : Nat) (A : Option Addr) (c : Nat) (l : List Int) (N k : Int) (s r : Int × Int × Bool) (w0 w : World) (hr : Kd.C (Kd.int .u8) w0 A l.length l) (hc : l.length ≤ c) (hg : w0.heap.size ≤ g)
    (hl : OkL l) (hn : l.length ≤ 1000000) (hN : -9223372036854775808 ≤ N ∧ N ≤ 9223372036854775807) (hU : UP w g A l.length c N s.2.1 s.2.2) (hB : Below w0.heap.size w0 w) (he : unT l N s.2 k = r) :
    Calls Tryd.prog 89 #[.pointer (some ⟨g, 0, none⟩), .int .i64 k] w fun e w' => e = .returned (.int .u64 r.1) ∧ UP w' g A l.length c N r.2.1 r.2.2 ∧ Below w0.heap.size w0 w' ∧ KeepBut w w' g none := by
  subst he
  exact unpack_take.calls g A c l N s.2.1 k s.2.2 w0 w hU hr hc hB hg hl hn hN
set_option maxHeartbeats 4000000 in
set_option maxRecDepth 100000 in
theorem unpack_value.calls (g : Nat) (A : Option Addr) (c : Nat) (l : List Int) (N p : Int) (bad : Bool) (w0 w : World) (hU : UP w g A l.length c N p bad) (hr : Kd.C (Kd.int .u8) w0 A l.length l) (hc : l.length ≤ c) (hB : Below w0.heap.size w0 w) (hg : w0.heap.size ≤ g)
    (hl : OkL l) (hn : l.length ≤ 1000000) (hN : -9223372036854775808 ≤ N ∧ N ≤ 9223372036854775807) :
    Calls Tryd.prog 91 #[.pointer (some ⟨g, 0, none⟩)] w fun e w' => e = .returned (.int .u64 (unV l N (p, bad)).1) ∧ UP w' g A l.length c N (unV l N (p, bad)).2.1 (unV l N (p, bad)).2.2 ∧ Below w0.heap.size w0 w' ∧ KeepBut w w' g none := by
  have CT := Aside0.mk (fun k s r W hU hB he => take_pair g A c l N k s r w0 W hr hc hg hl hn hN hU hB he)
  have HB := Aside0.mk hB
  have HU := Aside0.mk hU
  have HG := Aside0.mk hg
  have u3 : w.cell? ⟨g, 3, none⟩ = some (.bool bad) := (blk_cell hU 3).trans rfl
  clear hU hr hc hB hg hl hn hN
  cases bad with
  | true =>
    rw [unV, if_pos rfl]
    go_enter Tryd.func91, Tryd.ntmps91
    go_wp2
    go_ret
    exact ⟨rfl, HU.out, HB.out, KeepBut.refl _ _ _⟩
  | false =>
    obtain ⟨a, ha⟩ : ∃ a, unT l N (p, false) 1 = a := ⟨_, rfl⟩
    obtain ⟨b, hb⟩ : ∃ b, unT l N a.2 6 = b := ⟨_, rfl⟩
    obtain ⟨d, hd⟩ : ∃ d, unT l N b.2 6 = d := ⟨_, rfl⟩
    obtain ⟨w_, hw⟩ : ∃ w, wrap64 (wrap64 d.1 + 1) = w := ⟨_, rfl⟩
    obtain ⟨t, ht⟩ : ∃ t, unT l N d.2 w_ = t := ⟨_, rfl⟩
    have HE : Aside0 (unV l N (p, false) = if a.1 = 0 then (0, a.2) else if (d.2.2 || decide (64 < wrap64 (wrap64 b.1 + w_))) = true then (0, d.2.1, true) else (shl .u64 t.1 (wrap64 (wrap64 (64 - wrap64 b.1) - w_)), t.2)) := ⟨by
      unfold unV
      simp only [ha, hb, hd, hw, ht]
      rw [if_neg (by simp)]⟩
    have hb6 := hb ▸ unT_six l N a.2
    have hd6 := hd ▸ unT_six l N b.2
    have hwv : w_ = d.1 + 1 := by rw [← hw, w64 (x := d.1) (by omega) (by omega), w64 (by omega) (by omega)]
    have HSH : Aside0 (¬ 64 < wrap64 (wrap64 b.1 + w_) → 0 ≤ wrap64 (wrap64 (64 - wrap64 b.1) - w_)) := ⟨fun h => by
      rw [w64 (x := b.1) (by omega) (by omega), w64 (by omega) (by omega)] at h
      rw [w64 (x := b.1) (by omega) (by omega), w64 (x := 64 - b.1) (by omega) (by omega), w64 (by omega) (by omega)]
      omega⟩
    clear hb6 hd6 hwv
    have HA := Aside0.mk ha
    have HBE := Aside0.mk hb
    have HD := Aside0.mk hd
    have HT := Aside0.mk ht
    clear ha hb hd ht
    by_cases c1 : a.1 = 0
    · have c1b : (a.1 == 0) = true := beq_iff_eq.2 c1
      have HC1 := Aside0.mk c1
      clear c1
      go_enter Tryd.func91, Tryd.ntmps91
      go_wp2_with (go_at_call 89; (with_reducible refine (CT.out 1 (0, p, false) a _ HU.out HB.out HA.out).mono ?_); rintro e w1 ⟨rfl, hu, hb, hk⟩; have HU1 := Aside0.mk hu; have HB1 := Aside0.mk hb; have HK1 := Aside0.mk hk; clear hu hb hk)
      go_ret
      rw [HE.out, if_pos HC1.out]
      exact ⟨rfl, HU1.out, HB1.out, HK1.out⟩
    · have c1b : (a.1 == 0) = false := beq_eq_false_iff_ne.2 c1
      have HC1 := Aside0.mk c1
      clear c1
      cases h2 : d.2.2 with
      | true =>
        go_enter Tryd.func91, Tryd.ntmps91
        go_wp2_with (first
            | (go_at_call 89; (with_reducible refine (CT.out 1 (0, p, false) a _ HU.out HB.out HA.out).mono ?_); rintro e w1 ⟨rfl, hu, hb, hk⟩; have HU1 := Aside0.mk hu; have HB1 := Aside0.mk hb; have HK1 := Aside0.mk hk; clear hu hb hk)
            | (go_at_call 89; (with_reducible refine (CT.out 6 a b _ HU1.out HB1.out HBE.out).mono ?_); rintro e w2 ⟨rfl, hu, hb, hk⟩; have HU2 := Aside0.mk hu; have HB2 := Aside0.mk hb; have HK2 := Aside0.mk (HK1.out.trans hk (.inl rfl)); clear hu hb hk)
            | (go_at_call 89; (with_reducible refine (CT.out 6 b d _ HU2.out HB2.out HD.out).mono ?_); rintro e w3 ⟨rfl, hu, hb, hk⟩; rw [h2] at hu; have HU3 := Aside0.mk hu; have HB3 := Aside0.mk hb; have HK3 := Aside0.mk (HK2.out.trans hk (.inl rfl)); have c3 := (blk_cell hu 3).trans rfl; have f3 := blk_frozen hu 3; clear hu hb hk))
        go_ret
        rw [HE.out, if_neg HC1.out, if_pos (by rw [h2]; rfl)]
        exact ⟨rfl, blk_put HU3.out 3 _ rfl, HB3.out.setCell (p := ⟨g, 3, none⟩) HG.out _, HK3.out.set_ 3 _⟩
      | false =>
        by_cases hq : 64 < wrap64 (wrap64 b.1 + w_)
        · have hqb : decide (64 < wrap64 (wrap64 b.1 + w_)) = true := decide_eq_true hq
          go_enter Tryd.func91, Tryd.ntmps91
          go_wp2_with (first
            | (go_at_call 89; (with_reducible refine (CT.out 1 (0, p, false) a _ HU.out HB.out HA.out).mono ?_); rintro e w1 ⟨rfl, hu, hb, hk⟩; have HU1 := Aside0.mk hu; have HB1 := Aside0.mk hb; have HK1 := Aside0.mk hk; clear hu hb hk)
            | (go_at_call 89; (with_reducible refine (CT.out 6 a b _ HU1.out HB1.out HBE.out).mono ?_); rintro e w2 ⟨rfl, hu, hb, hk⟩; have HU2 := Aside0.mk hu; have HB2 := Aside0.mk hb; have HK2 := Aside0.mk (HK1.out.trans hk (.inl rfl)); clear hu hb hk)
            | (go_at_call 89; (with_reducible refine (CT.out 6 b d _ HU2.out HB2.out HD.out).mono ?_); rintro e w3 ⟨rfl, hu, hb, hk⟩; rw [h2] at hu; have HU3 := Aside0.mk hu; have HB3 := Aside0.mk hb; have HK3 := Aside0.mk (HK2.out.trans hk (.inl rfl)); have c3 := (blk_cell hu 3).trans rfl; have f3 := blk_frozen hu 3; clear hu hb hk))
          go_ret
          rw [HE.out, if_neg HC1.out, if_pos (by rw [h2, hqb]; rfl)]
          exact ⟨rfl, blk_put HU3.out 3 _ rfl, HB3.out.setCell (p := ⟨g, 3, none⟩) HG.out _, HK3.out.set_ 3 _⟩
        · have hqb : decide (64 < wrap64 (wrap64 b.1 + w_)) = false := decide_eq_false hq
          have hsh := HSH.out hq
          have CT4 := Aside0.mk (fun W (hu : UP W g A l.length c N d.2.1 false) hB => CT.out w_ d t W (by rw [h2]; exact hu) hB HT.out)
          go_enter Tryd.func91, Tryd.ntmps91
          go_wp2_with (first
            | (go_at_call 89; (with_reducible refine (CT.out 1 (0, p, false) a _ HU.out HB.out HA.out).mono ?_); rintro e w1 ⟨rfl, hu, hb, hk⟩; have HU1 := Aside0.mk hu; have HB1 := Aside0.mk hb; have HK1 := Aside0.mk hk; clear hu hb hk)
            | (go_at_call 89; (with_reducible refine (CT.out 6 a b _ HU1.out HB1.out HBE.out).mono ?_); rintro e w2 ⟨rfl, hu, hb, hk⟩; have HU2 := Aside0.mk hu; have HB2 := Aside0.mk hb; have HK2 := Aside0.mk (HK1.out.trans hk (.inl rfl)); clear hu hb hk)
            | (go_at_call 89; (with_reducible refine (CT.out 6 b d _ HU2.out HB2.out HD.out).mono ?_); rintro e w3 ⟨rfl, hu, hb, hk⟩; rw [h2] at hu; have HU3 := Aside0.mk hu; have HB3 := Aside0.mk hb; have HK3 := Aside0.mk (HK2.out.trans hk (.inl rfl)); have c3 := (blk_cell hu 3).trans rfl; have f3 := blk_frozen hu 3; clear hu hb hk)
            | (go_at_call 89; (refine (CT4.out _ ?s1 ?s2).mono ?_); (case s1 => exact blk_put HU3.out 3 _ rfl); (case s2 => exact HB3.out.setCell (p := ⟨g, 3, none⟩) HG.out _); rintro e w4 ⟨rfl, hu, hb, hk⟩; have HU4 := Aside0.mk hu; have HB4 := Aside0.mk hb; have HK4 := Aside0.mk ((HK3.out.set_ 3 _).trans hk (.inl rfl)); clear hu hb hk))
          go_ret
          rw [HE.out, if_neg HC1.out, if_neg (by rw [h2, hqb]; simp)]
          exact ⟨rfl, HU4.out, HB4.out, HK4.out⟩
end Go.Proofs.YtbgmnmjokdfmlaaDoor.PA
namespace Go.Proofs.YtbgmnmjokdfmlaaDoor.PA
open Go.RowKit Go.Proofs.YtbgmnmjokdfmlaaDoor.G Go.Proofs.YtbgmnmjokdfmlaaDoorW.PrintWords Go.Proofs.YtbgmnmjokdfmlaaDoorW.PrintLast Go.Proofs.YtbgmnmjokdfmlaaDoorW.PrintMore
set_option linter.unusedVariables false
set_option linter.unusedSimpArgs false
theorem codec_Encode.calls (A : Option Addr) (c : Nat) (l : List S54) (w : World) (hr : Kd.C k54 w A l.length l) (hc : l.length ≤ c) (hw : ∀ x ∈ l, okS x) (hlen : l.length ≤ 20000) (hT : TabZ w) :
    Calls Tryd.prog 32 #[.slice A l.length c] w fun e w' => ∃ v : Value, e = .returned (.tuple #[v, .int .i64 (encF l).2]) ∧ Kd.R (Kd.int .u8) 5 w' w.heap.size (fun _ => True) v (encF l).1 ∧ Below w.heap.size w w' := by
  cases h : canS l with
  | true =>
    refine (codec_Encode.calls_ok A c l w hr hc hw hlen hT h).mono ?_
    rintro e w' ⟨v, b, rfl, h1, h2, h3, h4⟩
    have e1 : encF l = (beL l.length 2 ++ b, 0) := by rw [encF, if_pos h, encL, packB_of h1 h2]
    rw [e1]
    exact ⟨v, rfl, h3, h4⟩
  | false =>
    refine (codec_Encode.calls_bad A c l w hr hc hlen h).mono ?_
    rintro e w' ⟨rfl, h4⟩
    have e1 : encF l = ([], 1) := by rw [encF, if_neg (by rw [h]; simp)]
    rw [e1]
    exact ⟨_, rfl, Kd.R_nil _ _ _ _ _, h4⟩
theorem codec_Encode.calls_at {n : Nat} (A : Option Addr) (c : Nat) (l : List S54) (w : World) (eb : List Int) (ee : Int) (hn : l.length = n) (hr : Kd.C k54 w A l.length l) (hc : n ≤ c) (hw : ∀ x ∈ l, okS x) (hlen : n ≤ 20000) (hT : TabZ w) (he : encF l = (eb, ee)) :
    Calls Tryd.prog 32 #[.slice A n c] w fun e w' => ∃ v : Value, e = .returned (.tuple #[v, .int .i64 ee]) ∧ Kd.R (Kd.int .u8) 5 w' w.heap.size (fun _ => True) v eb ∧ Below w.heap.size w w' := by
  subst hn
  have := codec_Encode.calls A c l w hr hc hw hlen hT
  rw [he] at this
  exact this
theorem encF_okB (l : List S54) (hn : l.length ≤ 20000) (hw : ∀ x ∈ l, okS x) : okB (encF l).1 = true := by
  unfold encF
  split
  · have h1 := encP_len l hw l.length (Nat.le_refl _)
    have h2 := (packB_ok (encP l l.length) (by omega)).1.bytes
    refine okB_iff.2 fun x hx => ?_
    rcases List.mem_append.1 hx with hx | hx
    · exact okB_iff.1 (okB_beL _ _) x hx
    · exact h2 x hx
  · rfl
theorem Equal_at {n m : Nat} (A0 : Option Addr) (c0 : Nat) (l0 : List Int) (A1 : Option Addr) (c1 : Nat) (l1 : List Int) (r : Bool) (w : World) (hn : l0.length = n) (hm : l1.length = m) (hr0 : Kd.C (Kd.int .u8) w A0 l0.length l0) (hc0 : n ≤ c0) (hr1 : Kd.C (Kd.int .u8) w A1 l1.length l1) (hc1 : m ≤ c1) (h0 : okB l0 = true) (h1 : okB l1 = true) (h : decide (l0 = l1) = r) :
    Calls Tryd.prog 92 #[.slice A0 n c0, .slice A1 m c1] w fun e w' => e = .returned (.bool r) ∧ Below w.heap.size w w' := by
  subst hn hm
  exact (G.bytes_Equal.calls A0 c0 l0 A1 c1 l1 r w hr0 hc0 hr1 hc1 (by rw [G.bytes_Equal.f, if_pos ⟨h0, h1⟩, h])).mono fun e w' ⟨he, hd⟩ => ⟨he, hd.below⟩
theorem number_pair (g : Nat) (A : Option Addr) (c : Nat) (l : List Int) (N p : Int) (r : Int × Int × Bool) (w0 w : World) (hr : Kd.C (Kd.int .u8) w0 A l.length l) (hc : l.length ≤ c) (hg : w0.heap.size ≤ g)
    (hl : OkL l) (hn : l.length ≤ 1000000) (hN : -9223372036854775808 ≤ N ∧ N ≤ 9223372036854775807) (hU : UP w g A l.length c N p false) (hB : Below w0.heap.size w0 w) (he : decN l N p = r) :
    Calls Tryd.prog 90 #[.pointer (some ⟨g, 0, none⟩)] w fun e w' => e = .returned (.int .i64 r.1) ∧ UP w' g A l.length c N r.2.1 r.2.2 ∧ Below w0.heap.size w0 w' ∧ KeepBut w w' g none := by
  subst he
  exact unpack_number.calls g A c l N p false w0 w hU hr hc hB hg hl hn hN
theorem value_pair (g : Nat) (A : Option Addr) (c : Nat) (l : List Int) (N p : Int) (s r : Int × Int × Bool) (w0 w : World) (hr : Kd.C (Kd.int .u8) w0 A l.length l) (hc : l.length ≤ c) (hg : w0.heap.size ≤ g)
    (hl : OkL l) (hn : l.length ≤ 1000000) (hN : -9223372036854775808 ≤ N ∧ N ≤ 9223372036854775807) (hU : UP w g A l.length c N s.2.1 s.2.2) (hB : Below w0.heap.size w0 w) (hs : decN l N p = s) (he : decV l N p = r) :
    Calls Tryd.prog 91 #[.pointer (some ⟨g, 0, none⟩)] w fun e w' => e = .returned (.int .u64 r.1) ∧ UP w' g A l.length c N r.2.1 r.2.2 ∧ Below w0.heap.size w0 w' ∧ KeepBut w w' g none := by
  subst he
  subst hs
  exact unpack_value.calls g A c l N (decN l N p).2.1 (decN l N p).2.2 w0 w hU hr hc hB hg hl hn hN
theorem get2 {b : List Int} (h : okB b = true) (hl : 2 ≤ b.length) : crc_Get.f (b.take 2) = some (((beV 0 (b.take 2) : Nat) : Int), true) ∧ beV 0 (b.take 2) < 65536 := by
  refine ⟨?_, beV_take_lt h 2⟩
  have h1 : okB (b.take 2) = true := okB_iff.2 fun x hx => okB_iff.1 h x (List.mem_of_mem_take hx)
  rw [crc_Get.f, if_pos h1, if_pos (by rw [List.length_take]; omega)]
theorem Get_at {n : Nat} (A0 : Option Addr) (c0 : Nat) (l0 : List Int) (r1 : Int) (r2 : Bool) (w : World) (hn : l0.length = n) (hr0 : Kd.C (Kd.int .u8) w A0 l0.length l0) (hc0 : n ≤ c0) (h : crc_Get.f l0 = some (r1, r2)) :
    Calls Tryd.prog 59 #[.slice A0 n c0] w fun e w' => e = .returned (.tuple #[.int .u64 r1, .bool r2]) ∧ Below w.heap.size w w' := by
  subst hn
  exact (crc_Get.calls A0 c0 l0 r1 r2 w hr0 hc0 h).mono fun e w' ⟨he, hd⟩ => ⟨he, hd.below⟩
theorem decS_stay {xb : List Int} {N : Int} {k : Nat} (h : (decS xb N (k + 1)).2.1 = true) : ∀ d, decS xb N (k + 1 + d) = decS xb N (k + 1)
  | 0 => rfl
  | d + 1 => by
    have ih := decS_stay h d
    have e : decS xb N (k + d + 2) = decS xb N (k + d + 1) := by
      rw [decS, if_pos]
      rw [show k + d + 1 = k + 1 + d by omega, ih]
      exact h
    rw [show k + 1 + (d + 1) = k + d + 2 by omega, e, show k + d + 1 = k + 1 + d by omega, ih]
set_option maxHeartbeats 8000000 in
set_option maxRecDepth 100000 in
theorem codec_Decode.calls (A : Option Addr) (c : Nat) (b : List Int) (w : World) (hr : Kd.C (Kd.int .u8) w A b.length b) (hc : b.length ≤ c) (hok : okB b = true) (hlen : b.length ≤ 2500) (hT : TabZ w) :
    Calls Tryd.prog 61 #[.slice A b.length c] w fun e w' => ∃ v : Value, e = .returned (.tuple #[v, .int .i64 (decF b).2]) ∧ Kd.R k54 54 w' w.heap.size (fun _ => True) v (decF b).1 ∧ Below w.heap.size w w' := by
  by_cases h2 : b.length < 2
  · have e0 : decF b = ([], 5) := by rw [decF, if_pos h2]
    rw [e0]
    have d0 : decide ((b.length : Int) < 2) = true := decide_eq_true (by omega)
    clear e0 h2 hr hc hT
    go_enter Tryd.func61, Tryd.ntmps61
    go_wp2
    go_step3
    go_wp2
    try rw [Exit.noGoto_ret]
    refine bodyPost_ret (results_tmp2 rfl _ _ _) rfl ?_
    exact ⟨_, rfl, Kd.R_nil _ _ _ _ _, Below.refl _ _⟩
  have d0 : decide ((b.length : Int) < 2) = false := decide_eq_false (by omega)
  obtain ⟨xb, hxb⟩ : ∃ xb, b.drop 2 = xb := ⟨_, rfl⟩
  have hxl : xb.length = b.length - 2 := by rw [← hxb, List.length_drop]
  obtain ⟨hget, hn64⟩ := get2 hok (by omega)
  obtain ⟨n, hn⟩ : ∃ n, beV 0 (b.take 2) = n := ⟨_, rfl⟩
  rw [hn] at hget hn64
  obtain ⟨NN, hNN⟩ : ∃ N : Nat, 8 * (b.length - 2) = N := ⟨_, rfl⟩
  have HF : Aside0 (decF b = if (decS xb (NN : Int) n).2.1 = false ∧ encF (decS xb (NN : Int) n).2.2.1 = (b, 0) then ((decS xb (NN : Int) n).2.2.1, 0) else ([], 5)) := ⟨by rw [decF, if_neg h2, hxb, hNN, hn]⟩
  have hokx : OkL xb := fun x hx => okB_iff.1 hok x (List.mem_of_mem_drop (hxb ▸ hx))
  obtain ⟨i05, hi05, _, hsz5, _⟩ := info_parts infoU8
  have hto := cut_to (P := Tryd.prog) 22 5 .i64 Tryd.underlying22 hi05 A b.length c 2 (by omega) (by omega) hc
  have hfrom := cut_from (P := Tryd.prog) 22 5 .i64 Tryd.underlying22 hi05 1 hsz5 A b.length c 2 (by omega) (by omega)
  have hdr := Kd.C_drop (m := 2) (c := c) hr (by omega) hc
  rw [hxb] at hdr
  obtain ⟨A', hA'⟩ : ∃ A', (if c = (2 : Int).toNat then A else A.map (·.add ((2 : Int).toNat * 1))) = A' := ⟨_, rfl⟩
  rw [hA'] at hfrom
  have HX : Aside0 (Kd.C (Kd.int .u8) w A' xb.length xb) := ⟨by rw [← hA']; exact hdr⟩
  have HXC : Aside0 (xb.length ≤ c - 2) := ⟨by omega⟩
  have HTK := Aside0.mk (Kd.C_take hr (show 2 ≤ b.length by omega))
  have HTL : Aside0 ((b.take 2).length = 2) := ⟨by rw [List.length_take]; omega⟩
  have HGET := Aside0.mk hget
  have HRB := Aside0.mk hr
  have HC := Aside0.mk hc
  have HOK := Aside0.mk hok
  have HOX := Aside0.mk hokx
  have HT := Aside0.mk hT
  have HXL := Aside0.mk hxl
  have HNN := Aside0.mk hNN
  rw [show (2 : Int).toNat = 2 from rfl, ← hxl] at hfrom
  rw [show (2 : Int).toNat = 2 from rfl] at hto
  have hNe : wrap64 (8 * wrap64 ((b.length : Int) - 2)) = (NN : Int) := by rw [w64 (x := (b.length : Int) - 2) (by omega) (by omega), w64 (by omega) (by omega)]; omega
  clear hr hc hok hokx hT hA' hdr hget hxl hNN hn hxb
  go_enter Tryd.func61, Tryd.ntmps61
  go_wp2
  go_step3
  go_wp2_with (first
    | (go_at_call 59; (with_reducible refine (Get_at A c (b.take 2) (n : Int) true _ HTL.out HTK.out (by have := HC.out; omega) HGET.out).mono ?_); rintro e w1 ⟨rfl, hb⟩; have HB1 := Aside0.mk hb; clear hb)
    | ((with_reducible refine gate_dst (N := 30) rfl ?_); refine box_event ?hg (N := 30) ?hd (cs := #[.slice A' xb.length (c - 2), .int .i64 (NN : Int), .int .i64 0, .bool false]) (t := 128) ?hr ?_; (case hd => rfl); (case hg => rfl); (case hr => first | (go_simp; done) | (go_simp; rfl)); intro g hg w2 hbox hb; have HB2 := Aside0.mk (below_step HB1.out hb); have HBK := Aside0.mk hbox; have HG : Aside0 (w.heap.size ≤ g) := ⟨by have := HB1.out.size; omega⟩; clear hb hbox hg))
  go_step3
  go_wp2
  -- LOOP
  have hN2 : 8 * ((b.length : Int) - 2) = (NN : Int) := by have := HNN.out; omega
  simp only [hN2]
  have HU0 : Aside0 (UP (w1.alloc (.cells #[.slice A' xb.length (c - 2), .int .i64 (NN : Int), .int .i64 0, .bool false] 128)) w1.heap.size A' xb.length (c - 2) (NN : Int) 0 false) := ⟨blk_new _ _⟩
  have HB0 := Aside0.mk (below_alloc HB1.out (.cells #[.slice A' xb.length (c - 2), .int .i64 (NN : Int), .int .i64 0, .bool false] 128))
  have HG : Aside0 (w.heap.size ≤ w1.heap.size) := ⟨HB1.out.size⟩
  generalize w1.alloc (.cells #[.slice A' xb.length (c - 2), .int .i64 (NN : Int), .int .i64 0, .bool false] 128) = w2 at *
  generalize w1.heap.size = g at *
  clear hN2 hNe hto hfrom HB1 HTK HTL HGET
  have hNN : -9223372036854775808 ≤ (NN : Int) ∧ (NN : Int) ≤ 9223372036854775807 := by have := HNN.out; omega
  have hxbl : xb.length ≤ 1000000 := by have := HXL.out; omega
  have CT := Aside0.mk (fun k s r W hU hB he => take_pair g A' (c - 2) xb (NN : Int) k s r w W HX.out HXC.out HG.out HOX.out hxbl hNN hU hB he)
  have CN := Aside0.mk (fun p r W hU hB he => number_pair g A' (c - 2) xb (NN : Int) p r w W HX.out HXC.out HG.out HOX.out hxbl hNN hU hB he)
  have CV := Aside0.mk (fun p s r W hU hB hs he => value_pair g A' (c - 2) xb (NN : Int) p s r w W HX.out HXC.out HG.out HOX.out hxbl hNN hU hB hs he)
  have INV := Aside0.mk (decS_inv xb NN (by have := HNN.out; omega))
  clear hNN hxbl
  go_loopw [7, 8, 33] (fun v7 v8 i wr => ∃ (k : Nat) (l : List S54) (p st : Int), k ≤ n ∧ i = .int .i64 k ∧ v8 = .int .i64 st ∧ Aside0 (decS xb (NN : Int) k = (p, false, l, st)) ∧ Aside0 (Kd.R k54 54 wr w.heap.size (fun q => q ≠ g) v7 l) ∧ Aside0 (UP wr g A' xb.length (c - 2) (NN : Int) p false) ∧ Aside0 (Below w.heap.size w wr)) (fun _ _ i _ => n - (intOf i).toNat)
  case atStart => exact ⟨0, [], 0, 0, Nat.zero_le _, rfl, rfl, ⟨rfl⟩, ⟨Kd.R_nil _ _ _ _ _⟩, HU0, HB0⟩
  case round =>
    clear HU0 HB0
    obtain ⟨k, l, p, st, hk, rfl, rfl, HS, HOt, HUr, HBr⟩ := hrel
    obtain ⟨A7, c7, e7⟩ := Kd.R_slice HOt.out
    subst e7
    have hinv := INV.out k
    rw [HS.out] at hinv
    have HOKS : Aside0 (∀ x ∈ l, okS x) := ⟨hinv.1⟩
    have HLL : Aside0 (l.length = k) := ⟨(hinv.2.2 rfl).1⟩
    have HLEN : Aside0 (l.length ≤ 20000) := ⟨by have := hinv.2.1; have := HNN.out; simp only at *; omega⟩
    clear hinv
    by_cases hlt : k < n
    · have gne : Aside0 (wr.heap.size ≠ g) := ⟨by have := blk_lt HUr.out; omega⟩
      have HOA := Aside0.mk (Kd.R_alloc (Kd.R_mono (ok' := fun q => q ≠ g ∧ q ≠ wr.heap.size) (Kd.R_bound HOt.out) (fun q hq => ⟨hq.1, by have := hq.2; omega⟩)) (.cells #[.int .i64 0, .int .u64 0] 54))
      have HBA := Aside0.mk (below_alloc HBr.out (.cells #[.int .i64 0, .int .u64 0] 54))
      have HUA : Aside0 (UP (wr.alloc (.cells #[.int .i64 0, .int .u64 0] 54)) g A' xb.length (c - 2) (NN : Int) p false) := ⟨blk_alloc HUr.out _⟩
      have HXA := Aside0.mk (blk_new wr (.cells #[.int .i64 0, .int .u64 0] 54))
      have HSA : Aside0 (wr.heap.size < (wr.alloc (.cells #[.int .i64 0, .int .u64 0] 54)).heap.size) := ⟨by simp⟩
      have HBS : Aside0 (w.heap.size ≤ wr.heap.size) := ⟨HBr.out.size⟩
      clear HOt
      cases k with
      | zero =>
        have hs0 := HS.out
        simp only [decS, Prod.mk.injEq] at hs0
        obtain ⟨rfl, -, hl0, rfl⟩ := hs0
        obtain ⟨a, ha⟩ : ∃ a, unT xb (NN : Int) (0, false) 64 = a := ⟨_, rfl⟩
        obtain ⟨d, hd⟩ : ∃ d, unT xb (NN : Int) a.2 64 = d := ⟨_, rfl⟩
        have HST : Aside0 (decS xb (NN : Int) (0 + 1) = (d.2.1, d.2.2, if d.2.2 = true then l else l ++ [⟨wrap64 a.1, d.1⟩], 0)) := ⟨by
          rw [← hl0]
          have e1 : decA xb (NN : Int) 0 = a := ha
          have e2 : decB xb (NN : Int) 0 = d := by unfold decB; rw [e1]; exact hd
          simp only [decS, e1, e2, List.nil_append]⟩
        have HA := Aside0.mk ha
        have HD2 := Aside0.mk hd
        clear ha hd hl0
        cases hbad : d.2.2 with
        | true =>
          have HD : Aside0 (decS xb (NN : Int) n = (d.2.1, true, l, 0)) := ⟨by
            have h1 := HST.out
            rw [hbad, if_pos rfl] at h1
            have h2 := decS_stay (xb := xb) (N := (NN : Int)) (k := 0) (by rw [h1]) (n - (0 + 1))
            rw [show 0 + 1 + (n - (0 + 1)) = n by omega, h1] at h2
            exact h2⟩
          obtain ⟨eb, ee, henc⟩ : ∃ eb ee, encF l = (eb, ee) := ⟨_, _, rfl⟩
          have HENC := Aside0.mk henc
          have HEOK : Aside0 (okB eb = true) := ⟨by have := encF_okB l HLEN.out HOKS.out; rw [henc] at this; exact this⟩
          clear henc
          go_wp2_with (first
            | (go_at_call 89; (with_reducible refine (CT.out 64 (0, 0, false) a _ HUA.out HBA.out HA.out).mono ?_); rintro e w3 ⟨rfl, hu, hb, hk⟩; have HU3 := Aside0.mk hu; have HB3 := Aside0.mk hb; have HX3 := Aside0.mk ((hk.2 wr.heap.size HSA.out gne.out (by simp)).trans HXA.out); have HS3 : Aside0 (wr.heap.size < w3.heap.size) := ⟨Nat.lt_of_lt_of_le HSA.out hk.1⟩; have HO3 := Aside0.mk (Kd.R_keep HOA.out hk (fun _ q => q.1)); clear hu hb hk)
            | (go_at_call 89; (with_reducible refine (CT.out 64 a d _ HU3.out HB3.out HD2.out).mono ?_); rintro e w4 ⟨rfl, hu, hb, hk⟩; rw [hbad] at hu; have hx4 := (hk.2 wr.heap.size HS3.out gne.out (by simp)).trans HX3.out; have c40 := (blk_cell hx4 0).trans rfl; have c41 := (blk_cell hx4 1).trans rfl; have f40 := blk_frozen hx4 0; have f41 := blk_frozen hx4 1; have HXB : Aside0 (((w4.setCell ⟨wr.heap.size, 0, none⟩ (.int .i64 (wrap64 a.1))).setCell ⟨wr.heap.size, 1, none⟩ (.int .u64 d.1)).heap[wr.heap.size]? = some (.cells #[.int .i64 (wrap64 a.1), .int .u64 d.1] 54 (0, 0))) := ⟨blk_put (blk_put hx4 0 _ rfl) 1 _ rfl⟩; have HUt : Aside0 (UP ((w4.setCell ⟨wr.heap.size, 0, none⟩ (.int .i64 (wrap64 a.1))).setCell ⟨wr.heap.size, 1, none⟩ (.int .u64 d.1)) g A' xb.length (c - 2) (NN : Int) d.2.1 true) := ⟨blk_far (p := ⟨wr.heap.size, 1, none⟩) (blk_far (p := ⟨wr.heap.size, 0, none⟩) hu gne.out.symm _) gne.out.symm _⟩; have HOt : Aside0 (Kd.R k54 54 ((w4.setCell ⟨wr.heap.size, 0, none⟩ (.int .i64 (wrap64 a.1))).setCell ⟨wr.heap.size, 1, none⟩ (.int .u64 d.1)) w.heap.size (fun q => q ≠ g) (.slice A7 l.length c7) l) := ⟨Kd.R_mono (Kd.R_far (p := ⟨wr.heap.size, 1, none⟩) (Kd.R_far (p := ⟨wr.heap.size, 0, none⟩) (Kd.R_keep HO3.out hk (fun _ q => q.1)) (fun _ q => q.2) _) (fun _ q => q.2) _) (fun _ q => q.1)⟩; have HBt : Aside0 (Below w.heap.size w ((w4.setCell ⟨wr.heap.size, 0, none⟩ (.int .i64 (wrap64 a.1))).setCell ⟨wr.heap.size, 1, none⟩ (.int .u64 d.1))) := ⟨(hb.setCell (p := ⟨wr.heap.size, 0, none⟩) HBS.out _).setCell (p := ⟨wr.heap.size, 1, none⟩) HBS.out _⟩; have cx3 := (blk_cell HUt.out 3).trans rfl; have cs0 := (blk_cell HXB.out 0).trans rfl; have cs1 := (blk_cell HXB.out 1).trans rfl; clear hu hb hk hx4)
            | (go_at_call 32; (with_reducible refine (codec_Encode.calls_at A7 c7 l _ eb ee rfl (Kd.R_reads' HOt.out).2.2 (Kd.R_reads' HOt.out).2.1 HOKS.out HLEN.out (HT.out.below HBt.out) HENC.out).mono ?_); rintro e w6 ⟨v6, rfl, hr6, hb⟩; obtain ⟨A6, c6, rfl⟩ := Kd.R_slice hr6; have HR6 := Aside0.mk (Kd.R_reads' hr6); have HU6 := Aside0.mk (blk_below HUt.out hb); have HO6 := Aside0.mk (Kd.R_below HOt.out hb); have HB6 := Aside0.mk (below_step HBt.out hb); have c63 := (blk_cell HU6.out 3).trans rfl; clear hr6 hb))
          try rw [Exit.noGoto_ret]
          refine bodyPost_ret (results_tmp2 rfl _ _ _) rfl ?_
          rw [HF.out, HD.out, if_neg (by simp)]
          exact ⟨_, rfl, Kd.R_nil _ _ _ _ _, HB6.out⟩
        | false =>
          go_wp2_with (first
            | (go_at_call 89; (with_reducible refine (CT.out 64 (0, 0, false) a _ HUA.out HBA.out HA.out).mono ?_); rintro e w3 ⟨rfl, hu, hb, hk⟩; have HU3 := Aside0.mk hu; have HB3 := Aside0.mk hb; have HX3 := Aside0.mk ((hk.2 wr.heap.size HSA.out gne.out (by simp)).trans HXA.out); have HS3 : Aside0 (wr.heap.size < w3.heap.size) := ⟨Nat.lt_of_lt_of_le HSA.out hk.1⟩; have HO3 := Aside0.mk (Kd.R_keep HOA.out hk (fun _ q => q.1)); clear hu hb hk)
            | (go_at_call 89; (with_reducible refine (CT.out 64 a d _ HU3.out HB3.out HD2.out).mono ?_); rintro e w4 ⟨rfl, hu, hb, hk⟩; rw [hbad] at hu; have hx4 := (hk.2 wr.heap.size HS3.out gne.out (by simp)).trans HX3.out; have c40 := (blk_cell hx4 0).trans rfl; have c41 := (blk_cell hx4 1).trans rfl; have f40 := blk_frozen hx4 0; have f41 := blk_frozen hx4 1; have HXB : Aside0 (((w4.setCell ⟨wr.heap.size, 0, none⟩ (.int .i64 (wrap64 a.1))).setCell ⟨wr.heap.size, 1, none⟩ (.int .u64 d.1)).heap[wr.heap.size]? = some (.cells #[.int .i64 (wrap64 a.1), .int .u64 d.1] 54 (0, 0))) := ⟨blk_put (blk_put hx4 0 _ rfl) 1 _ rfl⟩; have HUt : Aside0 (UP ((w4.setCell ⟨wr.heap.size, 0, none⟩ (.int .i64 (wrap64 a.1))).setCell ⟨wr.heap.size, 1, none⟩ (.int .u64 d.1)) g A' xb.length (c - 2) (NN : Int) d.2.1 false) := ⟨blk_far (p := ⟨wr.heap.size, 1, none⟩) (blk_far (p := ⟨wr.heap.size, 0, none⟩) hu gne.out.symm _) gne.out.symm _⟩; have HOt : Aside0 (Kd.R k54 54 ((w4.setCell ⟨wr.heap.size, 0, none⟩ (.int .i64 (wrap64 a.1))).setCell ⟨wr.heap.size, 1, none⟩ (.int .u64 d.1)) w.heap.size (fun q => q ≠ g) (.slice A7 l.length c7) l) := ⟨Kd.R_mono (Kd.R_far (p := ⟨wr.heap.size, 1, none⟩) (Kd.R_far (p := ⟨wr.heap.size, 0, none⟩) (Kd.R_keep HO3.out hk (fun _ q => q.1)) (fun _ q => q.2) _) (fun _ q => q.2) _) (fun _ q => q.1)⟩; have HBt : Aside0 (Below w.heap.size w ((w4.setCell ⟨wr.heap.size, 0, none⟩ (.int .i64 (wrap64 a.1))).setCell ⟨wr.heap.size, 1, none⟩ (.int .u64 d.1))) := ⟨(hb.setCell (p := ⟨wr.heap.size, 0, none⟩) HBS.out _).setCell (p := ⟨wr.heap.size, 1, none⟩) HBS.out _⟩; have cx3 := (blk_cell HUt.out 3).trans rfl; have cs0 := (blk_cell HXB.out 0).trans rfl; have cs1 := (blk_cell HXB.out 1).trans rfl; clear hu hb hk hx4)
            | ((with_reducible refine gate_builtin (b := .append) (xs := #[.tmp 70, .tmp 72]) rfl ?_); at_builtin; refine Kd.R_append k54 (w0 := w) w.heap.size rfl (.tmp 70) (.tmp 72) 30 54 (.agg #[.int .i64 0, .int .u64 0]) 16 rfl Tryd.underlying30 info54 rfl (by decide) (by omega) (.slice A7 l.length c7) l (⟨wrap64 a.1, d.1⟩ : S54) [.int .i64 (wrap64 a.1), .int .u64 d.1] (fun q => q ≠ g) (fun _ => False) rfl ?hx ?aP (fun _ hk => hk.elim) ?aF HOt.out HBt.out HBt.out.size ?aL ?_; (case hx => first | rfl | (go_simp; done) | (show Value.slice _ 1 1 = Value.slice _ 1 1; simp; done)); (case aP => exact k54_mkM _ _ _ (⟨wrap64 a.1, d.1⟩ : S54)); (case aF => exact fun q hq e => by have := blk_lt HUt.out; omega); (case aL => have := HLEN.out; omega); intro v9 w9 ho hb hg9 hat; have HO9 := Aside0.mk ho; have HB9 := Aside0.mk hb; have HU9 := Aside0.mk (blk_grown HUt.out hg9 (Kd.R_ne HOt.out HUt.out (by decide))); clear ho hb hg9 hat))
          go_roundw
          case rel => exact ⟨0 + 1, l ++ [(⟨wrap64 a.1, d.1⟩ : S54)], d.2.1, 0, by omega, by go_num, rfl, ⟨by have h1 := HST.out; rw [hbad, if_neg (by simp)] at h1; exact h1⟩, HO9, HU9, HB9⟩
          case measure => simp [intOf]; omega
      | succ k =>
        rw [show ((k + 1 : Nat) : Int) = (k : Int) + 1 from by omega] at *
        obtain ⟨a, ha⟩ : ∃ a, decN xb (NN : Int) p = a := ⟨_, rfl⟩
        obtain ⟨d, hd⟩ : ∃ d, decV xb (NN : Int) p = d := ⟨_, rfl⟩
        obtain ⟨y, hy⟩ : ∃ y, rd_T54 l (k : Int) = y := ⟨_, rfl⟩
        have HST : Aside0 (decS xb (NN : Int) (k + 1 + 1) = (d.2.1, d.2.2, if d.2.2 = true then l else l ++ [⟨wrap64 (y.f0 + wrap64 (st + a.1)), Go.bits .xor .u64 y.f1 d.1⟩], wrap64 (st + a.1))) := ⟨by
          rw [decS, HS.out]
          simp only
          rw [if_neg (by simp), ha, hd, hy]⟩
        have hwk : wrap64 (k : Int) = (k : Int) := w64 (by omega) (by omega)
        have hwk' : IntKind.i64.wrap (k : Int) = (k : Int) := (i64_w _).trans hwk
        have HA := Aside0.mk ha
        have HD2 := Aside0.mk hd
        have HY := Aside0.mk hy
        clear ha hd hy
        go_wp2_with (go_at_call 90; (with_reducible refine (CN.out p a _ HUA.out HBA.out HA.out).mono ?_); rintro e w3 ⟨rfl, hu, hb, hk⟩; have HU3 := Aside0.mk hu; have HB3 := Aside0.mk hb; have HX3 := Aside0.mk ((hk.2 wr.heap.size HSA.out gne.out (by simp)).trans HXA.out); have HS3 : Aside0 (wr.heap.size < w3.heap.size) := ⟨Nat.lt_of_lt_of_le HSA.out hk.1⟩; have HO3 := Aside0.mk (Kd.R_keep HOA.out hk (fun _ q => q.1)); clear hu hb hk)
        go_cut [] (fun wx => Aside0 (wx.heap[wr.heap.size]? = some (.cells #[.int .i64 (wrap64 (y.f0 + wrap64 (st + a.1))), .int .u64 (Go.bits .xor .u64 y.f1 d.1)] 54 (0, 0))) ∧ Aside0 (UP wx g A' xb.length (c - 2) (NN : Int) d.2.1 d.2.2) ∧ Aside0 (Kd.R k54 54 wx w.heap.size (fun q => q ≠ g) (.slice A7 l.length c7) l) ∧ Aside0 (Below w.heap.size w wx))
        case first =>
          obtain ⟨ad, hh, y0, y1⟩ := at_T54 (Kd.R_reads' HO3.out).2.2 (k : Int) (by omega) (by have := HLL.out; omega)
          rw [Int.toNat_natCast, HY.out] at y0 y1
          have hk1 : (k : Int) + 1 = (l.length : Int) := by have := HLL.out; omega
          subst hh
          obtain ⟨inn, hown⟩ := Kd.R_own HO3.out
          have hn1 : ad.block ≠ g := own_blk hown (Kd.R_away HO3.out (fun q hq => hq.1))
          have hn2 : ad.block ≠ wr.heap.size := own_blk hown (Kd.R_away HO3.out (fun q hq => hq.2))
          have HN1 : Aside0 ((ad.add (k * 2)).block ≠ g ∧ (ad.add (k * 2)).block ≠ wr.heap.size) := ⟨by rw [add_block]; exact ⟨hn1, hn2⟩⟩
          clear hown hn1 hn2
          have hb0 : (0 : Int) ≤ (k : Int) := by omega
          have hb1 : (k : Int) < (l.length : Int) := by omega
          clear hk1
          go_region_held3 (fun W => W.cell? (ad.add (k * 2)) = some (.int .i64 y.f0) ∧ W.cell? ⟨(ad.add (k * 2)).block, (ad.add (k * 2)).off + 1, none⟩ = some (.int .u64 y.f1)) (first | exact ⟨y0, y1⟩ | exact ⟨z0, z1⟩ | exact ⟨(cell_far (p := ⟨wr.heap.size, 1, none⟩) HN1.out.2 _).trans ((cell_far (p := ⟨wr.heap.size, 0, none⟩) HN1.out.2 _).trans z0), (cell_far (p := ⟨wr.heap.size, 1, none⟩) (a := ⟨(ad.add (k * 2)).block, (ad.add (k * 2)).off + 1, none⟩) HN1.out.2 _).trans ((cell_far (p := ⟨wr.heap.size, 0, none⟩) (a := ⟨(ad.add (k * 2)).block, (ad.add (k * 2)).off + 1, none⟩) HN1.out.2 _).trans z1)⟩)
            (first | (go_at_call 91; (refine (CV.out p a d _ ?s1 ?s2 HA.out HD2.out).mono ?_); (case s1 => exact HU3.out); (case s2 => exact below_drew1 HB3.out); rintro e w4 ⟨rfl, hu, hb, hk⟩; have z0 := keep_cell hk y0 HN1.out.1; have z1 := keep_cell hk y1 HN1.out.1; have hx4 := (hk.2 wr.heap.size HS3.out gne.out (by simp)).trans HX3.out; have c40 := (blk_cell hx4 0).trans rfl; have c41 := (blk_cell hx4 1).trans rfl; have f40 := blk_frozen hx4 0; have f41 := blk_frozen hx4 1; have HX4 := Aside0.mk hx4; have HU4 := Aside0.mk hu; have HB4 := Aside0.mk hb; have HK4 := Aside0.mk hk; clear hx4 hu hb hk))
          all_goals
            go_wp2_with fail
            go_meet
            refine ⟨⟨?_⟩, ⟨?_⟩, ⟨?_⟩, ⟨?_⟩⟩
            · simp only [i64_w]
              exact blk_put (blk_put HX4.out 0 _ rfl) 1 _ rfl
            · exact blk_far (p := ⟨wr.heap.size, 1, none⟩) (blk_far (p := ⟨wr.heap.size, 0, none⟩) HU4.out gne.out.symm _) gne.out.symm _
            · exact Kd.R_mono (Kd.R_far (p := ⟨wr.heap.size, 1, none⟩) (Kd.R_far (p := ⟨wr.heap.size, 0, none⟩) (Kd.R_keep (Kd.R_drew HO3.out) HK4.out (fun _ q => q.1)) (fun _ q => q.2) _) (fun _ q => q.2) _) (fun _ q => q.1)
            · exact (HB4.out.setCell (p := ⟨wr.heap.size, 0, none⟩) HBS.out _).setCell (p := ⟨wr.heap.size, 1, none⟩) HBS.out _
        case rest =>
          obtain ⟨HXB, HUt, HOt, HBt⟩ := hcut
          have cx3 := (blk_cell HUt.out 3).trans rfl
          have cs0 : wc.cell? ⟨wr.heap.size, 0, none⟩ = some (.int .i64 (wrap64 (y.f0 + wrap64 (st + a.1)))) := (blk_cell HXB.out 0).trans rfl
          have cs1 : wc.cell? ⟨wr.heap.size, 1, none⟩ = some (.int .u64 (Go.bits .xor .u64 y.f1 d.1)) := (blk_cell HXB.out 1).trans rfl
          cases hbad : d.2.2 with
          | true =>
            rw [hbad] at cx3
            have HD : Aside0 (decS xb (NN : Int) n = (d.2.1, true, l, wrap64 (st + a.1))) := ⟨by
              have h1 := HST.out
              rw [hbad, if_pos rfl] at h1
              have h2 := decS_stay (xb := xb) (N := (NN : Int)) (k := k + 1) (by rw [h1]) (n - (k + 1 + 1))
              rw [show k + 1 + 1 + (n - (k + 1 + 1)) = n by omega, h1] at h2
              exact h2⟩
            obtain ⟨eb, ee, henc⟩ : ∃ eb ee, encF l = (eb, ee) := ⟨_, _, rfl⟩
            have HENC := Aside0.mk henc
            have HEOK : Aside0 (okB eb = true) := ⟨by have := encF_okB l HLEN.out HOKS.out; rw [henc] at this; exact this⟩
            clear henc
            go_wp2_with (first
              | (go_at_call 32; (with_reducible refine (codec_Encode.calls_at A7 c7 l _ eb ee rfl (Kd.R_reads' HOt.out).2.2 (Kd.R_reads' HOt.out).2.1 HOKS.out HLEN.out (HT.out.below HBt.out) HENC.out).mono ?_); rintro e w6 ⟨v6, rfl, hr6, hb⟩; obtain ⟨A6, c6, rfl⟩ := Kd.R_slice hr6; have HR6 := Aside0.mk (Kd.R_reads' hr6); have HU6 := Aside0.mk (blk_below HUt.out hb); have HO6 := Aside0.mk (Kd.R_below HOt.out hb); have HB6 := Aside0.mk (below_step HBt.out hb); have c63 := (blk_cell HU6.out 3).trans rfl; clear hr6 hb))
            try rw [Exit.noGoto_ret]
            refine bodyPost_ret (results_tmp2 rfl _ _ _) rfl ?_
            rw [HF.out, HD.out, if_neg (by simp)]
            exact ⟨_, rfl, Kd.R_nil _ _ _ _ _, HB6.out⟩
          | false =>
            rw [hbad] at cx3
            go_wp2_with (first
              | ((with_reducible refine gate_builtin (b := .append) (xs := #[.tmp 70, .tmp 72]) rfl ?_); at_builtin; refine Kd.R_append k54 (w0 := w) w.heap.size rfl (.tmp 70) (.tmp 72) 30 54 (.agg #[.int .i64 0, .int .u64 0]) 16 rfl Tryd.underlying30 info54 rfl (by decide) (by omega) (.slice A7 l.length c7) l (⟨wrap64 (y.f0 + wrap64 (st + a.1)), Go.bits .xor .u64 y.f1 d.1⟩ : S54) [.int .i64 (wrap64 (y.f0 + wrap64 (st + a.1))), .int .u64 (Go.bits .xor .u64 y.f1 d.1)] (fun q => q ≠ g) (fun _ => False) rfl ?hx ?aP (fun _ hk => hk.elim) ?aF HOt.out HBt.out HBt.out.size ?aL ?_; (case hx => first | rfl | (go_simp; done) | (show Value.slice _ 1 1 = Value.slice _ 1 1; simp; done)); (case aP => exact k54_mkM _ _ _ (⟨wrap64 (y.f0 + wrap64 (st + a.1)), Go.bits .xor .u64 y.f1 d.1⟩ : S54)); (case aF => exact fun q hq e => by have := blk_lt HUt.out; omega); (case aL => have := HLEN.out; omega); intro v9 w9 ho hb hg9 hat; have HO9 := Aside0.mk ho; have HB9 := Aside0.mk hb; have HU9 := Aside0.mk (blk_grown HUt.out hg9 (Kd.R_ne HOt.out HUt.out (by decide))); clear ho hb hg9 hat))
            go_roundw
            case rel => exact ⟨k + 1 + 1, l ++ [(⟨wrap64 (y.f0 + wrap64 (st + a.1)), Go.bits .xor .u64 y.f1 d.1⟩ : S54)], d.2.1, wrap64 (st + a.1), by omega, by go_num, rfl, ⟨by have h1 := HST.out; rw [hbad, if_neg (by simp)] at h1; exact h1⟩, HO9, ⟨by rw [← hbad]; exact HU9.out⟩, HB9⟩
            case measure => simp [intOf]; omega
    · obtain rfl : k = n := by omega
      have HD := Aside0.mk HS.out
      have HUt := HUr
      have HBt := HBr
      have cx3 := (blk_cell HUt.out 3).trans rfl
      obtain ⟨eb, ee, henc⟩ : ∃ eb ee, encF l = (eb, ee) := ⟨_, _, rfl⟩
      have HENC := Aside0.mk henc
      have HEOK : Aside0 (okB eb = true) := ⟨by have := encF_okB l HLEN.out HOKS.out; rw [henc] at this; exact this⟩
      clear henc
      by_cases hee : ee = 0
      · subst hee
        have hee0 : ((0 : Int) != 0) = false := rfl
        cases heq : decide (eb = b) with
        | false =>
          have HEQ := Aside0.mk heq
          go_wp2_with (first
            | (go_at_call 32; (with_reducible refine (codec_Encode.calls_at A7 c7 l _ eb 0 rfl (Kd.R_reads' HOt.out).2.2 (Kd.R_reads' HOt.out).2.1 HOKS.out HLEN.out (HT.out.below HBt.out) HENC.out).mono ?_); rintro e w6 ⟨v6, rfl, hr6, hb⟩; obtain ⟨A6, c6, rfl⟩ := Kd.R_slice hr6; have HR6 := Aside0.mk (Kd.R_reads' hr6); have HU6 := Aside0.mk (blk_below HUt.out hb); have HO6 := Aside0.mk (Kd.R_below HOt.out hb); have HB6 := Aside0.mk (below_step HBt.out hb); have c63 := (blk_cell HU6.out 3).trans rfl; clear hr6 hb)
            | (go_at_call 92; (with_reducible refine (Equal_at A6 c6 eb A c b false _ rfl rfl HR6.out.2.2 HR6.out.2.1 (Kd.C_below HRB.out HB6.out) HC.out HEOK.out HOK.out HEQ.out).mono ?_); rintro e w7 ⟨rfl, hb⟩; have HB7 := Aside0.mk (below_step HB6.out hb); clear hb))
          try rw [Exit.noGoto_ret]
          refine bodyPost_ret (results_tmp2 rfl _ _ _) rfl ?_
          rw [HF.out, HD.out, if_neg (by rw [HENC.out]; intro q; have := of_decide_eq_false HEQ.out; exact this (congrArg Prod.fst q.2))]
          exact ⟨_, rfl, Kd.R_nil _ _ _ _ _, HB7.out⟩
        | true =>
          have HEQ := Aside0.mk heq
          go_wp2_with (first
            | (go_at_call 32; (with_reducible refine (codec_Encode.calls_at A7 c7 l _ eb 0 rfl (Kd.R_reads' HOt.out).2.2 (Kd.R_reads' HOt.out).2.1 HOKS.out HLEN.out (HT.out.below HBt.out) HENC.out).mono ?_); rintro e w6 ⟨v6, rfl, hr6, hb⟩; obtain ⟨A6, c6, rfl⟩ := Kd.R_slice hr6; have HR6 := Aside0.mk (Kd.R_reads' hr6); have HU6 := Aside0.mk (blk_below HUt.out hb); have HO6 := Aside0.mk (Kd.R_below HOt.out hb); have HB6 := Aside0.mk (below_step HBt.out hb); have c63 := (blk_cell HU6.out 3).trans rfl; clear hr6 hb)
            | (go_at_call 92; (with_reducible refine (Equal_at A6 c6 eb A c b true _ rfl rfl HR6.out.2.2 HR6.out.2.1 (Kd.C_below HRB.out HB6.out) HC.out HEOK.out HOK.out HEQ.out).mono ?_); rintro e w7 ⟨rfl, hb⟩; have HB7 := Aside0.mk (below_step HB6.out hb); have HO7 := Aside0.mk (Kd.R_below HO6.out hb); clear hb))
          try rw [Exit.noGoto_ret]
          refine bodyPost_ret (results_tmp2 rfl _ _ _) rfl ?_
          rw [HF.out, HD.out, if_pos ⟨rfl, by rw [HENC.out]; exact congrArg (fun z => (z, (0 : Int))) (of_decide_eq_true HEQ.out)⟩]
          exact ⟨_, rfl, Kd.R_mono HO7.out (fun _ _ => trivial), HB7.out⟩
      · have hee0 : (ee != 0) = true := bne_iff_ne.2 hee
        have HEE := Aside0.mk hee
        clear hee
        go_wp2_with (first
          | (go_at_call 32; (with_reducible refine (codec_Encode.calls_at A7 c7 l _ eb ee rfl (Kd.R_reads' HOt.out).2.2 (Kd.R_reads' HOt.out).2.1 HOKS.out HLEN.out (HT.out.below HBt.out) HENC.out).mono ?_); rintro e w6 ⟨v6, rfl, hr6, hb⟩; obtain ⟨A6, c6, rfl⟩ := Kd.R_slice hr6; have HR6 := Aside0.mk (Kd.R_reads' hr6); have HU6 := Aside0.mk (blk_below HUt.out hb); have HO6 := Aside0.mk (Kd.R_below HOt.out hb); have HB6 := Aside0.mk (below_step HBt.out hb); have c63 := (blk_cell HU6.out 3).trans rfl; clear hr6 hb))
        try rw [Exit.noGoto_ret]
        refine bodyPost_ret (results_tmp2 rfl _ _ _) rfl ?_
        rw [HF.out, HD.out, if_neg (by rw [HENC.out]; intro q; exact HEE.out (congrArg Prod.snd q.2))]
        exact ⟨_, rfl, Kd.R_nil _ _ _ _ _, HB6.out⟩
end Go.Proofs.YtbgmnmjokdfmlaaDoor.PA
namespace Go.Proofs.YtbgmnmjokdfmlaaDoor.PA
open Go.RowKit Go.Proofs.YtbgmnmjokdfmlaaDoor.G Go.Proofs.YtbgmnmjokdfmlaaDoorW.PrintWords Go.Proofs.YtbgmnmjokdfmlaaDoorW.PrintLast Go.Proofs.YtbgmnmjokdfmlaaDoorW.PrintMore
set_option linter.unusedVariables false
set_option linter.unusedSimpArgs false
theorem okX_full {l : List Int} {n : Nat} (h : OkX l n) : OkX l (8 * l.length) :=
  ⟨h.bytes, Nat.le_refl _, by omega, fun i h1 h2 => absurd h2 (by omega)⟩
theorem encP_one (l : List S54) : ∀ k, ∃ Z, encP l (k + 1) = encP l k ++ Z
  | 0 => ⟨_, rfl⟩
  | k + 1 => ⟨_, rfl⟩
theorem encP_pre (l : List S54) (k : Nat) : ∀ d, ∃ Z, encP l (k + d) = encP l k ++ Z
  | 0 => ⟨[], by simp⟩
  | d + 1 => by
    obtain ⟨Z, hZ⟩ := encP_pre l k d
    obtain ⟨Y, hY⟩ := encP_one l (k + d)
    exact ⟨Z ++ Y, by rw [← Nat.add_assoc, hY, hZ, List.append_assoc]⟩
theorem Bs_full {l : List Int} {n : Nat} (h : OkX l n) : ∃ Z, Bs l (8 * l.length) = Bs l n ++ Z := by
  unfold Bs
  exact ⟨_, win_split l 0 (8 * l.length) n h.le⟩
theorem i64_wf {v : Int} (h : -9223372036854775808 ≤ v ∧ v ≤ 9223372036854775807) : (Lit.int .i64 v).wf = true := by
  simp [Lit.wf, IntKind.min, IntKind.max, IntKind.signed, IntKind.bits]
  omega
theorem unN_part {l : List Int} {N : Nat} {B Z : List Bool} {v : Int} (hX : OkX l N) (hv : (Lit.int .i64 v).wf = true) (h : Bs l N = B ++ intBits v ++ Z) : unN l (N : Int) ((B.length : Int), false) = (v, ((B.length + (intBits v).length : Nat) : Int), false) := by
  unfold unN
  rw [takeI_part hX hv h]
  rfl
theorem time_back (x y st : Int) (hx : -9223372036854775808 ≤ x ∧ x ≤ 9223372036854775807) (hs : -9223372036854775808 ≤ st ∧ st ≤ 9223372036854775807) : wrap64 (st + wrap64 (wrap64 (x - y) - st)) = wrap64 (x - y) ∧ wrap64 (y + wrap64 (x - y)) = x := by
  constructor
  · generalize hd : wrap64 (x - y) = d
    have : -9223372036854775808 ≤ d ∧ d ≤ 9223372036854775807 := hd ▸ wrap64_in _
    unfold wrap64
    omega
  · unfold wrap64
    omega
theorem stepP_in (l : List S54) : ∀ k, -9223372036854775808 ≤ stepP l k ∧ stepP l k ≤ 9223372036854775807
  | 0 => by simp [stepP]
  | 1 => by simp [stepP]
  | k + 2 => wrap64_in _
theorem first_back (x : Int) (hx : -9223372036854775808 ≤ x ∧ x ≤ 9223372036854775807) : wrap64 (((IntKind.u64.wrap x).toNat : Nat) : Int) = x := by
  rw [wrap_u64]
  unfold wrap64
  omega
theorem xor_back {x y : Int} (hx : 0 ≤ x ∧ x < 18446744073709551616) (hy : 0 ≤ y ∧ y < 18446744073709551616) : Go.bits .xor .u64 y ((x.toNat ^^^ y.toNat : Nat) : Int) = x := by
  obtain ⟨a, ha⟩ := Int.eq_ofNat_of_zero_le hx.1
  obtain ⟨b, hb⟩ := Int.eq_ofNat_of_zero_le hy.1
  subst ha hb
  rw [Int.toNat_natCast, Int.toNat_natCast, u64_xor_nat b (a ^^^ b) (by omega) (Nat.xor_lt_two_pow (n := 64) (by omega) (by omega)), Nat.xor_comm a b, ← Nat.xor_assoc, Nat.xor_self, Nat.zero_xor]
theorem take_succ54 (l : List S54) (k : Nat) (h : k < l.length) : l.take (k + 1) = l.take k ++ [rd_T54 l (k : Int)] := by
  have e : rd_T54 l (k : Int) = l[k] := by simp [rd_T54, List.getD_eq_getElem?_getD, List.getElem?_eq_getElem h]
  rw [List.take_succ_eq_append_getElem h, e]
theorem rd_take54 (l : List S54) (k m : Nat) (h : k < m) : rd_T54 (l.take m) (k : Int) = rd_T54 l (k : Int) := by
  simp only [rd_T54, Int.toNat_natCast, List.getD_eq_getElem?_getD, List.getElem?_take, if_pos h]
theorem decS_back {xb : List Int} {NN : Nat} {l : List S54} {Z : List Bool} (hok : ∀ x ∈ l, okS x) (hl : l.length ≤ 20000) (hX : OkX xb NN) (hB : Bs xb NN = encP l l.length ++ Z) : ∀ k, k ≤ l.length → decS xb (NN : Int) k = (((encP l k).length : Int), false, l.take k, stepP l k)
  | 0, _ => by simp [decS, encP, stepP]
  | 1, h => by
    obtain ⟨Y, hY⟩ := encP_pre l 1 (l.length - 1)
    rw [show 1 + (l.length - 1) = l.length by omega] at hY
    have hm := hok _ (rd_mem54 l 0 (by omega))
    have hu := u64_wrap_range (rd_T54 l 0).f0
    obtain ⟨u, eu⟩ := Int.eq_ofNat_of_zero_le hu.1
    obtain ⟨v, ev⟩ := Int.eq_ofNat_of_zero_le hm.2.1
    have ev' : (rd_T54 l 0).f1 = (v : Int) := ev
    have hv : v < 18446744073709551616 := by have := hm.2.2; rw [ev] at this; omega
    have huu : u < 18446744073709551616 := by rw [eu] at hu; omega
    have e1 : encP l 1 = low u 64 ++ low v 64 := by
      show low (IntKind.u64.wrap (rd_T54 l 0).f0).toNat 64 ++ low (rd_T54 l 0).f1.toNat 64 = _
      rw [eu, ev']
      rfl
    rw [hY, e1] at hB
    have a1 := unT_part (c := 64) (B := []) (L := low u 64) (Z := low v 64 ++ (Y ++ Z)) hX (low_length _ _) (by decide) (by simp) (by rw [hB]; simp only [List.nil_append, List.append_assoc])
    have a2 := unT_part (c := 64) (B := low u 64) (L := low v 64) (Z := Y ++ Z) hX (low_length _ _) (by decide) (by simp) (by rw [hB]; simp only [List.append_assoc])
    rw [num_low, Nat.mod_eq_of_lt huu] at a1
    rw [num_low, Nat.mod_eq_of_lt hv, low_length] at a2
    have eA : decA xb (NN : Int) 0 = ((u : Int), 64, false) := a1
    have eB : decB xb (NN : Int) 0 = ((v : Int), 128, false) := by
      unfold decB
      rw [eA]
      exact a2
    have ef : wrap64 (u : Int) = (rd_T54 l 0).f0 := by
      have := first_back (rd_T54 l 0).f0 hm.1
      rw [eu] at this
      exact this
    have et := take_succ54 l 0 (by omega)
    rw [decS, eB, eA, e1, et]
    rw [if_neg (by simp)]
    have es : (⟨wrap64 (u : Int), (v : Int)⟩ : S54) = rd_T54 l ((0 : Nat) : Int) := by
      rw [ef, ← ev']
      rfl
    simp only [es]
    simp [stepP]
  | k + 2, h => by
    have ih := decS_back hok hl hX hB (k + 1) (by omega)
    obtain ⟨Y, hY⟩ := encP_pre l (k + 2) (l.length - (k + 2))
    rw [show k + 2 + (l.length - (k + 2)) = l.length by omega] at hY
    have hlen := encP_len l hok (k + 1) (by omega)
    have hx := hok _ (rd_mem54 l (k + 1) (by omega))
    have hy := hok _ (rd_mem54 l k (by omega))
    have e2 : encP l (k + 2) = encP l (k + 1) ++ (intBits (wrap64 (wrap64 ((rd_T54 l ((k + 1 : Nat) : Int)).f0 - (rd_T54 l ((k : Nat) : Int)).f0) - stepP l (k + 1))) ++ xorBits ((rd_T54 l ((k + 1 : Nat) : Int)).f1.toNat ^^^ (rd_T54 l ((k : Nat) : Int)).f1.toNat)) := rfl
    have hst := stepP_in l (k + 1)
    have hsp : stepP l (k + 2) = wrap64 ((rd_T54 l ((k + 1 : Nat) : Int)).f0 - (rd_T54 l ((k : Nat) : Int)).f0) := rfl
    have et := take_succ54 l (k + 1) (by omega)
    have er := rd_take54 l k (k + 1) (by omega)
    obtain ⟨x, ex⟩ : ∃ x, rd_T54 l ((k + 1 : Nat) : Int) = x := ⟨_, rfl⟩
    obtain ⟨y, ey⟩ : ∃ y, rd_T54 l ((k : Nat) : Int) = y := ⟨_, rfl⟩
    rw [ex, ey] at e2 hsp
    rw [ex] at hx et
    rw [ey] at hy er
    obtain ⟨st, est⟩ : ∃ st, stepP l (k + 1) = st := ⟨_, rfl⟩
    rw [est] at e2 hst ih
    obtain ⟨v, ev⟩ : ∃ v, wrap64 (wrap64 (x.f0 - y.f0) - st) = v := ⟨_, rfl⟩
    have hv : (Lit.int .i64 v).wf = true := ev ▸ i64_wf (wrap64_in _)
    have hxx := xor_lt hx.2 hy.2
    have htb := time_back x.f0 y.f0 st hx.1 hst
    have hxb := xor_back hx.2 hy.2
    rw [ev] at e2 htb
    obtain ⟨X, eX⟩ : ∃ X, x.f1.toNat ^^^ y.f1.toNat = X := ⟨_, rfl⟩
    rw [eX] at e2 hxx hxb
    rw [hY, e2] at hB
    have a1 := unN_part (B := encP l (k + 1)) (Z := xorBits X ++ (Y ++ Z)) hX hv (by rw [hB]; simp only [List.append_assoc])
    have hil := intBits_len v
    have a2 := unV_part (x := X) (B := encP l (k + 1) ++ intBits v) (Z := Y ++ Z) hX hxx (by simp; omega) (by rw [hB]; simp only [List.append_assoc])
    rw [List.length_append] at a2
    have eN : decN xb (NN : Int) ((encP l (k + 1)).length : Int) = (v, (((encP l (k + 1)).length + (intBits v).length : Nat) : Int), false) := a1
    have eV : decV xb (NN : Int) ((encP l (k + 1)).length : Int) = ((X : Int), (((encP l (k + 1)).length + (intBits v).length + (xorBits X).length : Nat) : Int), false) := by
      unfold decV
      rw [eN]
      exact a2
    rw [decS, ih]
    simp only
    rw [if_neg (by simp), eV, eN, er, htb.1, htb.2, hxb, hsp, et, e2]
    simp only [List.length_append]
    rw [if_neg (by simp)]
    simp only [Prod.mk.injEq, true_and, and_true]
    omega
theorem beV_two (n : Nat) (h : n ≤ 65535) : beV 0 (beL n 2) = n := by
  rw [beV_beL]
  omega
theorem dec_enc (l : List S54) (hok : ∀ x ∈ l, okS x) (hl : l.length ≤ 20000) (hc : canS l = true) : encF l = (encL l, 0) ∧ decF (encL l) = (l, 0) ∧ (encL l).length ≤ 2 + 20 * l.length + 1 := by
  have e0 : encF l = (encL l, 0) := by rw [encF, if_pos hc]
  have hP := encP_len l hok l.length (Nat.le_refl _)
  obtain ⟨hX, hBs⟩ := packB_ok (encP l l.length) (by omega)
  obtain ⟨Z, hZ⟩ := Bs_full hX
  rw [hBs] at hZ
  have hbl : (encL l).length = 2 + (packB (encP l l.length)).length := by rw [encL, List.length_append, beL_length]
  have hn := hX.near
  refine ⟨e0, ?_, by omega⟩
  have hd : (encL l).drop 2 = packB (encP l l.length) := by rw [encL, List.drop_left' (beL_length _ _)]
  have ht : (encL l).take 2 = beL l.length 2 := by rw [encL, List.take_left' (beL_length _ _)]
  have hs := decS_back hok hl (okX_full hX) hZ l.length (Nat.le_refl _)
  rw [List.take_length] at hs
  have h8 : 8 * ((encL l).length - 2) = 8 * (packB (encP l l.length)).length := by omega
  rw [decF, if_neg (by omega), hd, ht, h8, beV_two _ (by omega), hs, if_pos ⟨rfl, e0⟩]
end Go.Proofs.YtbgmnmjokdfmlaaDoor.PA
namespace Go.Proofs.YtbgmnmjokdfmlaaDoor.PA
open Go.RowKit Go.Proofs.YtbgmnmjokdfmlaaDoor.G Go.Proofs.YtbgmnmjokdfmlaaDoorW.PrintWords Go.Proofs.YtbgmnmjokdfmlaaDoorW.PrintLast Go.Proofs.YtbgmnmjokdfmlaaDoorW.PrintMore
set_option linter.unusedVariables false
set_option linter.unusedSimpArgs false
theorem codec_Decode.calls_at {n : Nat} (A : Option Addr) (c : Nat) (b : List Int) (w : World) (rl : List S54) (re : Int) (hn : b.length = n) (hr : Kd.C (Kd.int .u8) w A b.length b) (hc : n ≤ c) (hok : okB b = true) (hlen : n ≤ 2500) (hT : TabZ w) (he : decF b = (rl, re)) :
    Calls Tryd.prog 61 #[.slice A n c] w fun e w' => ∃ v : Value, e = .returned (.tuple #[v, .int .i64 re]) ∧ Kd.R k54 54 w' w.heap.size (fun _ => True) v rl ∧ Below w.heap.size w w' := by
  subst hn
  have := codec_Decode.calls A c b w hr hc hok hlen hT
  rw [he] at this
  exact this
theorem encL_ok (l : List S54) (hl : l.length ≤ 20000) (hok : ∀ x ∈ l, okS x) (hc : canS l = true) : okB (encL l) = true := by
  have h := encF_okB l hl hok
  rw [(dec_enc l hok hl hc).1] at h
  exact h
end Go.Proofs.YtbgmnmjokdfmlaaDoor.PA
namespace Go.Proofs.YtbgmnmjokdfmlaaDoor.PA
open Go.RowKit Go.Proofs.YtbgmnmjokdfmlaaDoor.G Go.Proofs.YtbgmnmjokdfmlaaDoorW.PrintWords Go.Proofs.YtbgmnmjokdfmlaaDoorW.PrintLast Go.Proofs.YtbgmnmjokdfmlaaDoorW.PrintMore
set_option linter.unusedVariables false
set_option linter.unusedSimpArgs false
attribute [local go_sem] Oper.semAt_some
abbrev Part (len : Nat) := { j : Nat // j * 20 < len }
def plen (len j : Nat) : Nat := min 20 (len - j * 20)
def partsN {len : Nat} (ys : List (Part len)) : List Nat := ys.map fun y => y.1
theorem partsN_snoc {len : Nat} (ys : List (Part len)) (x : Part len) : partsN (ys ++ [x]) = partsN ys ++ [x.1] := by simp [partsN]
theorem partsN_length {len : Nat} (ys : List (Part len)) : (partsN ys).length = ys.length := by simp [partsN]
def KeepB (B1 B2 : Nat) (W W' : World) : Prop := W'.heap[B1]? = W.heap[B1]? ∧ W'.heap[B2]? = W.heap[B2]?
theorem KeepB.refl (B1 B2 : Nat) (W : World) : KeepB B1 B2 W W := ⟨rfl, rfl⟩
theorem KeepB.trans {B1 B2 : Nat} {a b c : World} (h : KeepB B1 B2 a b) (k : KeepB B1 B2 b c) : KeepB B1 B2 a c := ⟨k.1.trans h.1, k.2.trans h.2⟩
theorem KeepB.cell1 {B1 B2 : Nat} {a b : World} (h : KeepB B1 B2 a b) : b.cell? ⟨B1, 0, none⟩ = a.cell? ⟨B1, 0, none⟩ := World.cell?_of_block h.1
theorem KeepB.cell2 {B1 B2 : Nat} {a b : World} (h : KeepB B1 B2 a b) : b.cell? ⟨B2, 0, none⟩ = a.cell? ⟨B2, 0, none⟩ := World.cell?_of_block h.2
theorem keepB_b {B1 B2 : Nat} {w : World} (h1 : B1 < w.heap.size) (h2 : B2 < w.heap.size) (W : World) (l : Nat) (o o' : Obj) (hl : w.heap.size ≤ l) (h : W.heap[l]? = some o) (_ : o.isCells = false) (_ : o.isWalk = false) : KeepB B1 B2 W (W.putObj l o') :=
  ⟨World.putObj_heap_other (by omega), World.putObj_heap_other (by omega)⟩
def ItPost (len : Nat) (J Jx : List (Part len) → World → Prop) (e : Ending) (W' : World) : Prop := (∃ v, e = .returned v) ∧ ((∃ ys : List (Part len), partsN ys = List.range ((len + 19) / 20) ∧ J ys W') ∨ (∃ pre, True ∧ Jx pre W'))
def encPt (ad : Addr) (len : Nat) (x : Part len) : Array Value := #[.slice (some (ad.add (x.1 * 20 * 2))) (plen len x.1) (plen len x.1)]
theorem infoN54 : ∃ i, Tryd.prog.info? 54 = some i ∧ i.size = 2 := by
  obtain ⟨i, hi, hz⟩ := Option.map_eq_some_iff.1 info54
  simp only [Prod.mk.injEq] at hz
  exact ⟨i, hi, hz.2.1⟩
theorem cut3S (ad : Addr) (len c lo hi : Nat) (h1 : lo < hi) (h2 : hi ≤ len) (hc : len ≤ c) (i j : Int) (hi' : i = (lo : Int)) (hj' : j = (hi : Int)) (W : World) :
    (Instr.slice 30 (.slice (some ad) len c) (some (.int .i64 i)) (some (.int .i64 j)) (some (.int .i64 j))).run Tryd.prog W = .ok (.slice (some (ad.add (lo * 2))) (hi - lo) (hi - lo)) W := by
  subst hi' hj'
  obtain ⟨i0, hi0, hsz⟩ := infoN54
  have hu := Tryd.underlying30
  have hel : Tryd.prog.elem 30 = 54 := by simp [Program.elem, hu]
  have hu' : Tryd.prog.underlying 30 = some (.slice (Tryd.prog.elem 30)) := by rw [hel]; exact hu
  rw [run_slice_lhm W 30 (some ad) len c hu' .i64 .i64 .i64 (lo : Int) (hi : Int) (hi : Int) (by omega) (by omega) (by omega) (by omega), hel]
  simp [sizeOf, typeInfo, hi0, hsz, sliced, Result.andThen]
  omega
theorem tailS (ad : Addr) (len c lo : Nat) (h1 : lo ≤ len) (i : Int) (hi' : i = (lo : Int)) :
    ∃ (A : Option Addr) (c' : Nat), ∀ W : World, (Instr.slice 30 (.slice (some ad) len c) (some (.int .i64 i)) none none).run Tryd.prog W = .ok (.slice A (len - lo) c') W := by
  subst hi'
  refine ⟨if c = lo then some ad else some (ad.add (lo * 2)), c - lo, fun W => ?_⟩
  obtain ⟨i0, hi0, hsz⟩ := infoN54
  have hu := Tryd.underlying30
  have hel : Tryd.prog.elem 30 = 54 := by simp [Program.elem, hu]
  have hu' : Tryd.prog.underlying 30 = some (.slice (Tryd.prog.elem 30)) := by rw [hel]; exact hu
  rw [run_slice_l W 30 (some ad) len c hu' .i64 (lo : Int) (by omega) (by omega), hel]
  simp [sizeOf, typeInfo, hi0, hsz, sliced, Result.andThen]
set_option maxRecDepth 100000 in
set_option maxHeartbeats 4000000 in
theorem chunkIt_in (n : Nat) (hn : 1 ≤ n) (l B1 B2 : Nat) (ad : Addr) (len c : Nat) (hlen : len ≤ 1000000) (hc : len ≤ c) (J Jx : List (Part len) → World → Prop) (hJ : ∀ pre W (q : Nat), J pre W → J pre (W.drewN q))
    (hY : ∀ pre x W, J pre W → pre.length < (len + 19) / 20 → YieldAt Fence.wide (n - 1) Tryd.prog l (encPt ad len x) W fun e W' =>
      (e = .returned (.bool true) ∧ J (pre ++ [x]) W' ∧ KeepB B1 B2 W W') ∨ (e = .returned (.bool false) ∧ Jx (pre ++ [x]) W'))
    (W : World) (hB1 : W.cell? ⟨B1, 0, none⟩ = some (.slice (some ad) len c)) (hB2 : W.cell? ⟨B2, 0, none⟩ = some (.int .i64 20)) (h0 : J [] W) :
    CallsIn Fence.wide n Tryd.prog 62 #[.func (.yield l) #[] #[], .pointer (some ⟨B1, 0, none⟩), .pointer (some ⟨B2, 0, none⟩)] W (ItPost len J Jx) := by
  refine callsIn_of_wp Tryd.func62 rfl trivial ?_ rfl
  simp only [Tryd.ntmps62, List.size_toArray, List.length_cons, List.length_nil, Nat.reduceAdd, Nat.reduceSub, Array.replicate_succ, Array.replicate_zero, List.push_toArray, List.append_toArray, List.nil_append, List.cons_append]
  gi_wp2
  gi_loopw [4] (fun i wr => ∃ (k : Nat) (pre : List (Part len)), k ≤ (len + 19) / 20 ∧ i = .int .i64 ((20 * k : Nat) : Int) ∧ partsN pre = List.range k ∧ J pre wr ∧ KeepB B1 B2 W wr)
    (fun i _ => len + 20 - (intOf i).toNat)
  case atStart => exact ⟨0, [], Nat.zero_le _, rfl, rfl, h0, KeepB.refl _ _ _⟩
  case round =>
    obtain ⟨k, pre, hk, rfl, hpre, hJs, hnx⟩ := hrel
    have b1 := hnx.cell1.trans hB1
    have b2 := hnx.cell2.trans hB2
    by_cases hlt : 20 * k < len
    · have hlen1 : pre.length < (len + 19) / 20 := by
        have := partsN_length pre
        rw [hpre, List.length_range] at this
        omega
      obtain ⟨q, hq⟩ : ∃ q, plen len k = q := ⟨_, rfl⟩
      have hq1 : 1 ≤ q ∧ q ≤ 20 ∧ 20 * k + q ≤ len := by unfold plen at hq; omega
      have hqm : min (20 : Int) ((len - k * 20 : Nat) : Int) = (q : Int) := by unfold plen at hq; omega
      obtain ⟨AT, cT, hT⟩ := tailS ad len c (20 * k) (by omega) ((20 * k : Nat) : Int) rfl
      have hmid := fun W => cut3S ad len c (20 * k) (20 * k + q) (by omega) (by omega) hc ((20 * k : Nat) : Int) (((20 * k : Nat) : Int) + (q : Int)) rfl (by omega) W
      rw [Nat.add_sub_cancel_left, Nat.mul_comm 20 k] at hmid
      rw [Nat.mul_comm 20 k] at hT
      have hq0 := hq1.1
      have hq2 := hq1.2.1
      have hq3 := hq1.2.2
      have hw1 : IntKind.i64.wrap (((k * 20 : Nat) : Int) + (q : Int)) = ((k * 20 : Nat) : Int) + (q : Int) := by rw [IntKind.wrap_i64]; omega
      have hw2 : IntKind.i64.wrap (((k * 20 : Nat) : Int) + 20) = ((k * 20 : Nat) : Int) + 20 := by rw [IntKind.wrap_i64]; omega
      rw [Nat.mul_comm 20 k] at *
      have hkl : ((k * 20 : Nat) : Int) < (len : Int) := by omega
      have HN := Aside0.mk hnx
      have HQ := Aside0.mk hq
      have HP := Aside0.mk hpre
      have HJ := Aside0.mk hJs
      have HQI := Aside0.mk hq1
      have HL1 := Aside0.mk hlen1
      clear hnx hq1 hJs hpre hq hlen1
      gi_wp2
      refine wpIn_wide.2 ?_
      by_cases hm : len - k * 20 < 20
      · obtain rfl : q = len - k * 20 := by have := HQ.out; unfold plen at this; omega
        go_quiet (fail)
        generalize hwq : wr.drewN nq = wq
        have HJq : Aside0 (J pre wq) := ⟨hwq ▸ hJ _ _ _ HJ.out⟩
        have HNq : Aside0 (KeepB B1 B2 W wq) := ⟨hwq ▸ HN.out⟩
        have b1q : wq.cell? ⟨B1, 0, none⟩ = some (.slice (some ad) len c) := hwq ▸ b1
        have b2q : wq.cell? ⟨B2, 0, none⟩ = some (.int .i64 20) := hwq ▸ b2
        clear hwq b1 b2 hm
        obtain ⟨fn, tmps, assign, body, hy, hR⟩ := hY pre ⟨k, by omega⟩ wq HJq.out HL1.out
        dsimp only [encPt] at hy
        rw [HQ.out] at hy
        gi_wp2
        refine hR.mono ?_
        rintro e W3 (⟨rfl, hJ3, hk3⟩ | ⟨rfl, hJx3⟩)
        · have b2r := hk3.cell2.trans b2q
          have HJ3 := Aside0.mk hJ3
          have HN3 := Aside0.mk (HNq.out.trans hk3)
          clear hJ3 hk3
          gi_wp2
          go_roundw
          case rel => exact ⟨k + 1, pre ++ [⟨k, by omega⟩], by omega, by first | (congr 1; omega) | (simp; omega), by rw [partsN_snoc, HP.out, List.range_succ], HJ3.out, HN3.out⟩
          case measure => simp [intOf]; omega
        · gi_wp2
          refine bodyPost_ret (results_none rfl _ _ _) rfl ?_
          exact ⟨⟨_, rfl⟩, .inr ⟨_, trivial, hJx3⟩⟩
      · obtain rfl : q = 20 := by have := HQ.out; unfold plen at this; omega
        go_quiet (fail)
        generalize hwq : wr.drewN nq = wq
        have HJq : Aside0 (J pre wq) := ⟨hwq ▸ hJ _ _ _ HJ.out⟩
        have HNq : Aside0 (KeepB B1 B2 W wq) := ⟨hwq ▸ HN.out⟩
        have b1q : wq.cell? ⟨B1, 0, none⟩ = some (.slice (some ad) len c) := hwq ▸ b1
        have b2q : wq.cell? ⟨B2, 0, none⟩ = some (.int .i64 20) := hwq ▸ b2
        clear hwq b1 b2 hm
        obtain ⟨fn, tmps, assign, body, hy, hR⟩ := hY pre ⟨k, by omega⟩ wq HJq.out HL1.out
        dsimp only [encPt] at hy
        rw [HQ.out] at hy
        gi_wp2
        refine hR.mono ?_
        rintro e W3 (⟨rfl, hJ3, hk3⟩ | ⟨rfl, hJx3⟩)
        · have b2r := hk3.cell2.trans b2q
          have HJ3 := Aside0.mk hJ3
          have HN3 := Aside0.mk (HNq.out.trans hk3)
          clear hJ3 hk3
          gi_wp2
          go_roundw
          case rel => exact ⟨k + 1, pre ++ [⟨k, by omega⟩], by omega, by first | (congr 1; omega) | (simp; omega), by rw [partsN_snoc, HP.out, List.range_succ], HJ3.out, HN3.out⟩
          case measure => simp [intOf]; omega
        · gi_wp2
          refine bodyPost_ret (results_none rfl _ _ _) rfl ?_
          exact ⟨⟨_, rfl⟩, .inr ⟨_, trivial, hJx3⟩⟩
    · have hlt' : ¬ ((20 * k : Nat) : Int) < (len : Int) := by omega
      have HN := Aside0.mk hnx
      have HJ := Aside0.mk hJs
      have HP : Aside0 (partsN pre = List.range ((len + 19) / 20)) := ⟨by rw [hpre]; congr 1; omega⟩
      clear hnx hJs hpre
      gi_wp2
      go_end0
      exact ⟨⟨_, rfl⟩, .inl ⟨pre, HP.out, HJ.out⟩⟩
theorem chunkIt_stops (n : Nat) (hn : 1 ≤ n) (B1 B2 : Nat) (ad : Addr) (len c : Nat) (hlen : len ≤ 1000000) (hc : len ≤ c) (w : World) (h1 : B1 < w.heap.size) (h2 : B2 < w.heap.size) (hB1 : w.cell? ⟨B1, 0, none⟩ = some (.slice (some ad) len c)) (hB2 : w.cell? ⟨B2, 0, none⟩ = some (.int .i64 20)) :
    SeqStopsK Fence.wide n Tryd.prog 62 #[.pointer (some ⟨B1, 0, none⟩), .pointer (some ⟨B2, 0, none⟩)] (encPt ad len) (KeepB B1 B2) (fun ys => partsN ys = List.range ((len + 19) / 20)) (fun _ => True) ((len + 19) / 20) w := by
  intro l J Jx W hb hJ _ hY h0
  exact chunkIt_in n hn l B1 B2 ad len c hlen hc J Jx (fun pre W' q h => hJ pre W' _ none h ⟨rfl, rfl, rfl, Nat.le_refl _, fun _ _ _ => rfl⟩ (fun _ e => by cases e)) hY W ((hb.cell (p := ⟨B1, 0, none⟩) h1).trans hB1) ((hb.cell (p := ⟨B2, 0, none⟩) h2).trans hB2) h0
end Go.Proofs.YtbgmnmjokdfmlaaDoor.PA
namespace Go
section
variable {P : Program} {ops : Array Oper} {Q : Exit → Act → World → Prop} {md : Region.Mode} {S : World → Prop}
def wpAnyG (P : Program) (md : Region.Mode) (ops : Array Oper) (Q : Exit → Act → World → Prop) (S : World → Prop) (n : Nat) (L : Array Bool → Act → World → Prop) : Nat → Array Bool → Act → World → Prop
  | 0, listed, a, w => L listed a w
  | f + 1, listed, a, w =>
    Region.ready md ops listed ≠ [] ∧ ∀ i ∈ Region.ready md ops listed, i < n ∧ wpOp P ops Q i (fun a' w' => S w' ∧ wpAnyG P md ops Q S n L f (listed.setIfInBounds i true) a' w') a w
theorem wpAny_of_G {n g : Nat} {L : Array Bool → Act → World → Prop} (hL : ∀ listed a w, L listed a w → wpAny P md ops Q g listed a w) :
    ∀ (f : Nat) (listed : Array Bool) (a : Act) (w : World), wpAnyG P md ops Q S n L f listed a w → wpAny P md ops Q (f + g) listed a w
  | 0, listed, a, w, h => by rw [Nat.zero_add]; exact hL _ _ _ h
  | f + 1, listed, a, w, h => by
    rw [show f + 1 + g = (f + g) + 1 by omega]
    exact ⟨fun h0 => absurd h0 h.1, fun i hi => wpOp_mono (fun a' w' h' => wpAny_of_G hL f _ a' w' h'.2) (h.2 i hi).2⟩
theorem wpAnyG_first {n i : Nat} {oi : Oper} {v : Value} {L : Array Bool → Act → World → Prop} (hi : ops[i]? = some oi) (hsel : ∀ (j : Nat) (o : Oper) cs b, ops[j]? = some o → o.op ≠ .select cs b)
    (hs : Region.sinkB md ops n = true) (hc : Region.chainB md ops n = true) (hn : n < ops.size) (hin : i < n) (hQ : ∀ c a w, Q (.panic c) (a.put oi.dst v) w → Q (.panic c) a w)
    (hdone : ∀ listed a w, L listed a w → ∀ j ∈ Region.ready md ops listed, n ≤ j) :
    ∀ (f : Nat) (listed : Array Bool) (a : Act) (w : World), HeadInv md ops n listed →
      (∀ j oj, ops[j]? = some oj → j ≠ i → listed.getD j true = false → (∀ e ∈ oj.after, Region.binds md e = true → e.on ≠ i) → oi.apart ops oj = true) →
      i ∈ Region.ready md ops listed → YieldsIf P ops S oi v a → S w →
      wpAnyG P md ops Q S n L f (listed.setIfInBounds i true) (a.put oi.dst v) w → wpAnyG P md ops Q S n L (f + 1) listed a w := by
  intro f
  induction f with
  | zero =>
    intro listed a w inv _ hr hy hS H
    have hun := (mem_ready.1 hr).1
    refine ⟨fun h => (by rw [h] at hr; cases hr), fun j hj => ?_⟩
    have hjn : j < n := by
      rcases Nat.lt_or_ge j n with h | h
      · exact h
      · exact absurd hj (tail_waits hs hc hn inv _ i rfl hin hun j h)
    refine ⟨hjn, ?_⟩
    by_cases hji : j = i
    · subst hji; exact hy.wpOp hi hS ⟨hS, H⟩
    · have := hdone _ _ _ H j (ready_mono hj hji)
      omega
  | succ f ih =>
    intro listed a w inv hfree hr hy hS H
    have hun := (mem_ready.1 hr).1
    refine ⟨fun h => (by rw [h] at hr; cases hr), fun j hj => ?_⟩
    have hjn : j < n := by
      rcases Nat.lt_or_ge j n with h | h
      · exact h
      · exact absurd hj (tail_waits hs hc hn inv _ i rfl hin hun j h)
    refine ⟨hjn, ?_⟩
    by_cases hji : j = i
    · subst hji; exact hy.wpOp hi hS ⟨hS, H⟩
    · have h1 := (H.2 j (ready_mono hj hji)).2
      obtain ⟨hjun, oj, hoj, hall⟩ := mem_ready.1 hj
      have hnot : ∀ e ∈ oj.after, Region.binds md e = true → e.on ≠ i := fun e he hb heq => by
        have h1 := hall e he hb
        rw [heq, getD_both hun] at h1
        cases h1
      have h2 := wpOp_putIf hoj (hfree j oj hoj hji hjun hnot) (fun cs b => hsel i oi cs b hi) (fun cs b => hsel j oj cs b hoj) hQ hy h1
      have hfree' : ∀ k ok, ops[k]? = some ok → k ≠ i → (listed.setIfInBounds j true).getD k true = false →
          (∀ e ∈ ok.after, Region.binds md e = true → e.on ≠ i) → oi.apart ops ok = true := fun k ok hk hki hun hno => by
        refine hfree k ok hk hki ?_ hno
        by_cases hjk : j = k
        · subst hjk; exact hjun
        · rw [getD_set_ne true hjk] at hun; exact hun
      refine wpOp_mono (fun a' w' h3 => ⟨h3.2.1, ih (listed.setIfInBounds j true) a' w' (inv.set hj hjn) hfree' (ready_mono hr (Ne.symm hji)) h3.1 h3.2.1 ?_⟩) h2
      rw [Array.setIfInBounds_comm _ _ hji]
      exact h3.2.2
def GEnd (P : Program) (ops : Array Oper) (Q : Exit → Act → World → Prop) (n : Nat) (listed : Array Bool) (a : Act) (w : World) : Prop :=
  Region.seqB .any ops (ops.size - n) n listed = true ∧ wpList P ops Q (ops.toList.drop n) a w
def GHead (P : Program) (ops : Array Oper) (Q : Exit → Act → World → Prop) (S : World → Prop) (n f : Nat) (listed : Array Bool) (a : Act) (w : World) : Prop :=
  HeadInv .any ops n listed → wpAnyG P .any ops Q S n (GEnd P ops Q n) f listed a w
theorem GHead.take {n f i : Nat} {oi : Oper} {v : Value} {listed : Array Bool} {a : Act} {w : World} (hi : ops[i]? = some oi)
    (hB : (Region.noSelect ops && decide (n < ops.size) && Region.sinkB .any ops n && Region.chainB .any ops n && decide (i < n) && Region.free .any ops listed i && (Region.ready .any ops listed).contains i) = true)
    (hQ : ∀ c a w, Q (.panic c) (a.put oi.dst v) w → Q (.panic c) a w) (hy : YieldsIf P ops S oi v a) (hS : S w)
    (h : GHead P ops Q S n f (listed.setIfInBounds i true) (a.put oi.dst v) w) : GHead P ops Q S n (f + 1) listed a w := fun inv => by
  simp only [Bool.and_eq_true, decide_eq_true_eq] at hB
  obtain ⟨⟨⟨⟨⟨⟨hsel, hn⟩, hs⟩, hc⟩, hin⟩, hf⟩, hr⟩ := hB
  have hr' : i ∈ Region.ready .any ops listed := by simpa using hr
  exact wpAnyG_first hi (Region.noSelect_spec hsel) hs hc hn hin hQ (fun listed' a' w' hL => seqB_ready hL.1) f listed a w inv (Region.free_spec hi hf) hr' hy hS (h (inv.set hr' hin))
theorem GHead.take' {n f i d : Nat} {oi : Oper} {v : Value} {listed : Array Bool} {a : Act} {w : World} (hi : ops[i]? = some oi) (hd : oi.dst = some d)
    (hB : (Region.noSelect ops && decide (n < ops.size) && Region.sinkB .any ops n && Region.chainB .any ops n && decide (i < n) && Region.free .any ops listed i && (Region.ready .any ops listed).contains i) = true)
    (hQ : ∀ c a w, Q (.panic c) (a.put oi.dst v) w → Q (.panic c) a w) (hy : YieldsIf P ops S oi v a) (hS : S w)
    (h : GHead P ops Q S n f (listed.setIfInBounds i true) { a with tmps := a.tmps.setIfInBounds d v } w) : GHead P ops Q S n (f + 1) listed a w :=
  GHead.take hi hB hQ hy hS (by rw [hd]; exact h)
theorem GHead.one {n f i : Nat} {oi : Oper} {listed : Array Bool} {a : Act} {w : World} (hi : ops[i]? = some oi)
    (hB : (decide (Region.ready .any ops listed = [i]) && decide (i < n)) = true) (hw : Region.wanted oi (yielded ops a.tmps) = true)
    (h : ∀ K : Act → World → Prop, (∀ a' w', S w' → GHead P ops Q S n f (listed.setIfInBounds i true) a' w' → K a' w') → Oper.wp P oi a w K Q) : GHead P ops Q S n (f + 1) listed a w := fun inv => by
  simp only [Bool.and_eq_true, decide_eq_true_eq] at hB
  obtain ⟨hr, hin⟩ := hB
  refine ⟨fun h0 => (by rw [hr] at h0; cases h0), fun j hj => ?_⟩
  have hji : j = i := by rw [hr] at hj; simpa using hj
  subst hji
  refine ⟨hin, ?_⟩
  refine wpOp_step hi fun K hK => ?_
  rw [if_pos hw]
  exact h K fun a' w' hS' hG => hK a' w' ⟨hS', hG (inv.set hj hin)⟩
theorem GHead.nil {n : Nat} {listed : Array Bool} {a : Act} {w : World} (hB : Region.seqB .any ops (ops.size - n) n listed = true) (h : wpList P ops Q (ops.toList.drop n) a w) : GHead P ops Q S n 0 listed a w := fun _ => ⟨hB, h⟩
theorem GHead.last {n : Nat} {oi : Oper} {listed : Array Bool} {a : Act} {w : World} (hi : ops[n]? = some oi) (hB : (Region.seqB .any ops (ops.size - n) n listed && decide (ops.size = n + 1)) = true) (hw : Region.wanted oi (yielded ops a.tmps) = true)
    (h : ∀ K : Act → World → Prop, (∀ a' w', Q .normal a' w' → K a' w') → Oper.wp P oi a w K Q) : GHead P ops Q S n 0 listed a w := by
  simp only [Bool.and_eq_true, decide_eq_true_eq] at hB
  refine GHead.nil hB.1 ?_
  have hl : ops.toList.drop n = [oi] := by
    obtain ⟨hlt, he⟩ := Array.getElem?_eq_some_iff.1 hi
    rw [List.drop_eq_getElem_cons (by simpa using hlt), List.drop_eq_nil_of_le (by simp [hB.2])]
    simp [he]
  rw [hl]
  simp only [wpList, if_pos hw]
  exact .inl (h _ (fun _ _ h => h))
theorem GHead.start {n : Nat} {a : Act} {w : World} (hn : n ≤ ops.size) (h : GHead P ops Q S n n (Array.replicate ops.size false) a w) : wpAny P .any ops Q ops.size (Array.replicate ops.size false) a w := by
  have inv0 : HeadInv .any ops n (Array.replicate ops.size false) :=
    ⟨by simp, fun j oj _ hl => (by rw [getD_replicate_false] at hl; cases hl), fun t _ ht => getD_in (by simpa using ht) (getD_replicate_false _ _)⟩
  have H := wpAny_of_G (Q := Q) (g := ops.size - n) (fun listed a' w' (hL : GEnd P ops Q n listed a' w') => by
    have hlen : (ops.toList.drop n).length = ops.size - n := by simp
    have := wpAny_of_seq (md := .any) (Q' := Q) (ops.toList.drop n) n listed a' w' (fun j => by simp [List.getElem?_drop]) (by rw [hlen]; exact hL.1) hL.2
    rwa [hlen] at this) n _ a w (h inv0)
  rwa [Nat.add_sub_cancel' hn] at H
end
section
variable {P : Program} {ops : Array Oper} {Q : Exit → Act → World → Prop} {md : Region.Mode}
theorem wpOpIn_of_wide (l n : Nat) (hnl : ¬ LetsOut Q) (hnd : ∀ (j : Nat) (o : Oper) c, ops[j]? = some o → o.op ≠ .defer c) {i : Nat} {K K' : Act → World → Prop} {a : Act} {w : World} (hK : ∀ a w, K a w → K' a w) (h : wpOp P ops Q i K a w) : wpOpIn (Fence.wide.inRound l) n P ops Q i K' a w := by
  unfold wpOp at h
  unfold wpOpIn
  split
  · rename_i ho; simp only [ho] at h; exact hK _ _ h
  · rename_i o ho
    simp only [ho] at h
    split
    · rename_i hw
      simp only [hw, if_true] at h
      rcases h with h | ⟨_, h⟩
      · refine ⟨fun _ _ => trivial, ?_⟩
        rw [Oper.semAt_eq _ _ _ (fun c => hnd i o c ho)]
        unfold Oper.wp at h
        generalize (execOp a.eval o).run P w = r at *
        cases r with
        | ok x w' =>
          cases x <;> simp only [Oper.upon] at h <;> simp only [Oper.uponIn]
          case value v => exact hK _ _ h
          case skip => exact hK _ _ h
          case defer d => exact hK _ _ h
          case enter f args =>
            refine ⟨fun hd => by simp [Fence.wide] at hd, (CallsIn.inRound l (callsIn_wide.2 h)).mono fun e w'' he => ?_⟩
            cases e with
            | returned u => exact hK _ _ he
            | panicked c => exact he
            | outgrown => exact he
          case row row args =>
            refine ⟨fun hd => by simp [Fence.wide] at hd, ?_⟩
            intro c cs _
            obtain ⟨v, w'', hR, hs⟩ := h c cs
            exact ⟨v, w'', hK _ _ hR, stepsIn_wide.2 hs⟩
        | halt x w' => cases x <;> simp only [Oper.upon] at h <;> simp only [Oper.uponIn] <;> exact h
      · exact absurd h hnl
    · rename_i hw
      simp only [hw] at h
      exact ⟨fun _ _ => trivial, hK _ _ h⟩
theorem wpAnyIn_of_wide (l n : Nat) (hnl : ¬ LetsOut Q) (hnd : ∀ (j : Nat) (o : Oper) c, ops[j]? = some o → o.op ≠ .defer c) : ∀ (fuel : Nat) (listed : Array Bool) (a : Act) (w : World),
    wpAny P md ops Q fuel listed a w → wpAnyIn (Fence.wide.inRound l) n P md ops Q fuel listed a w
  | 0, _, _, _, h => h
  | fuel + 1, _, _, _, h => ⟨h.1, fun i hi => wpOpIn_of_wide l n hnl hnd (fun a' w' h' => wpAnyIn_of_wide l n hnl hnd fuel _ a' w' h') (h.2 i hi)⟩
def noDefer (ops : Array Oper) : Bool := ops.all fun o => match o.op with | .defer _ => false | _ => true
theorem noDefer_spec (h : noDefer ops = true) (j : Nat) (o : Oper) (c : Call) (ho : ops[j]? = some o) : o.op ≠ .defer c := by
  intro hc
  have := Array.all_eq_true'.1 h o (Array.mem_of_getElem? ho)
  rw [hc] at this
  cases this
theorem wpIn_region_wide {id : Nat} (l n : Nat) {a : Act} {w : World} (hnl : ¬ LetsOut Q) (hm : P.follows .mixedOrders = true) (hd : noDefer ops = true)
    (h : wpAny P .any ops Q ops.size (Array.replicate ops.size false) a w.drew) : (Code.region id ops true).wpIn (Fence.wide.inRound l) n P Q a w :=
  wpIn_region_any hm (wpAnyIn_of_wide l n hnl (noDefer_spec hd) _ _ _ _ h)
theorem wpIn_region_wide0 {id : Nat} (l n : Nat) {a : Act} {w : World} (hm : P.follows .mixedOrders = true) (hd : noDefer ops = true)
    (h : wpAny P .any ops (fun e a w => e = .normal ∧ Q .normal a w) ops.size (Array.replicate ops.size false) a w.drew) : (Code.region id ops true).wpIn (Fence.wide.inRound l) n P Q a w :=
  wpIn_mono (Q := fun e a w => e = .normal ∧ Q .normal a w) (wpIn_region_wide l n (fun hl => by obtain ⟨_, _, h, _⟩ := hl; cases h) hm hd h) (fun e a w he => by obtain ⟨h1, h2⟩ := he; subst h1; exact h2)
end
end Go
namespace Go.Proofs.YtbgmnmjokdfmlaaDoor.PA
open Go.RowKit Go.Proofs.YtbgmnmjokdfmlaaDoor.G Go.Proofs.YtbgmnmjokdfmlaaDoorW.PrintWords Go.Proofs.YtbgmnmjokdfmlaaDoorW.PrintLast Go.Proofs.YtbgmnmjokdfmlaaDoorW.PrintMore
set_option linter.unusedVariables false
set_option linter.unusedSimpArgs false
set_option maxHeartbeats 2000000 in
set_option maxRecDepth 100000 in
theorem growB.calls (n : Int) (w : World) (h0 : 0 ≤ n) (h1 : n ≤ 1000000) :
    Calls Tryd.prog 66 #[.slice none 0 0, .int .i64 n] w fun e w' => ∃ v : Value, e = .returned v ∧ Kd.R (Kd.int .u8) 5 w' w.heap.size (fun _ => True) v [] ∧ Below w.heap.size w w' := by
  have hneg : decide (n < 0) = false := decide_eq_false (by omega)
  have hw : IntKind.i64.wrap n = n := by rw [IntKind.wrap_i64]; omega
  have HB0 : Aside0 (Below w.heap.size w w) := ⟨Below.refl _ _⟩
  obtain ⟨i05, hi05, _, hsz5, _⟩ := info_parts infoU8
  have hcut0 := cut_to (P := Tryd.prog) 22 5 .i64 Tryd.underlying22 hi05 none 0 0 0 (by omega) (by omega) (by omega)
  have HN0 : Aside0 (0 ≤ n ∧ n ≤ 1000000) := ⟨h0, h1⟩
  clear h0 h1
  go_enter Tryd.func66, Tryd.ntmps66
  by_cases hp : 0 < n
  · have hd : decide (0 < n) = true := decide_eq_true hp
    have HP := Aside0.mk hp
    clear hp
    go_wp2_with (first | ((with_reducible refine gate_dst (N := 22) rfl ?_); go_must (refine Kd.R_append_zeros (Kd.int .u8) (w0 := w) w.heap.size rfl (.tmp 20) (.tmp 21) 22 3 5 (.int .u8 0) 1 rfl Tryd.underlying22 Tryd.underlying3 infoU8 rfl (by decide) (by omega) (.slice none 0 0) [] 0 n (fun _ => True) rfl rfl rfl (fun _ _ => trivial) (Kd.R_nil _ _ _ _ _) HN0.out.1 (Below.refl _ _) (Nat.le_refl _) ?h6 ?_); (case h6 => (have := HN0.out; simp only [List.length_nil]; omega)); intro v4 w4 hR4 hB4 hg4 ho4; obtain ⟨g4, c4, rfl, hb4, hl4, _⟩ := Kd.R_form hR4 (by have := HP.out; simp only [List.nil_append, List.length_replicate]; omega); have hcc := (Kd.R_reads' hR4).2.1; have hcut4 := cut_to (P := Tryd.prog) 22 5 .i64 Tryd.underlying22 hi05 (some ⟨g4, 0, none⟩) _ c4 0 (by omega) (by omega) hcc; have HR4 := Aside0.mk (Kd.R_take hR4 (Nat.zero_le _)); have HB4 := Aside0.mk hB4; clear hR4 hB4 hg4 ho4))
    go_ret
    exact ⟨_, rfl, HR4.out, HB4.out⟩
  · obtain rfl : n = 0 := by have := HN0.out; omega
    go_wp2
    go_ret
    exact ⟨_, rfl, Kd.R_nil _ _ _ _ _, Below.refl _ _⟩
theorem flatB_step (Ls : List (List Int)) (k : Nat) (hk : k < Ls.length) : (Ls.take (k + 1)).flatten = (Ls.take k).flatten ++ rd_L6 Ls (k : Int) := by
  have e : rd_L6 Ls (k : Int) = Ls[k] := by simp [rd_L6, List.getD_eq_getElem?_getD, List.getElem?_eq_getElem hk]
  rw [List.take_succ_eq_append_getElem hk, List.flatten_append, e]
  simp
theorem flatB_le (Ls : List (List Int)) (k : Nat) : (Ls.take k).flatten.length ≤ Ls.flatten.length := by
  have : Ls.flatten.length = (Ls.take k).flatten.length + (Ls.drop k).flatten.length := by rw [← List.length_append, ← List.flatten_append, List.take_append_drop]
  omega
set_option maxHeartbeats 2000000 in
set_option maxRecDepth 100000 in
theorem concatB.calls (A0 : Option Addr) (c0 n : Nat) (Ls : List (List Int)) (w : World) (hn : Ls.length = n) (hr0 : Kd.C (Kd.slice 5 (Kd.int .u8)) w A0 n Ls) (hlen : n ≤ 1000000) (hflat : Ls.flatten.length ≤ 1000000) :
    Calls Tryd.prog 33 #[.slice A0 n c0] w fun e w' => ∃ v : Value, e = .returned v ∧ Kd.R (Kd.int .u8) 5 w' w.heap.size (fun _ => True) v Ls.flatten ∧ Below w.heap.size w w' := by
  subst hn
  have HR := Aside0.mk hr0
  have HL := Aside0.mk hflat
  clear hr0 hflat
  go_enter Tryd.func33, Tryd.ntmps33
  go_wp2
  go_loopw [3, 11] (fun s i wr => ∃ k : Nat, k ≤ Ls.length ∧ i = .int .i64 k ∧ s = .int .i64 (((Ls.take k).flatten.length : Nat) : Int) ∧ Aside0 (Below w.heap.size w wr)) (fun _ i _ => Ls.length - (intOf i).toNat)
  case atStart => exact ⟨0, Nat.zero_le _, rfl, rfl, ⟨Below.refl _ _⟩⟩
  case round =>
    obtain ⟨k, hk, rfl, rfl, HB⟩ := hrel
    by_cases hlt : k < Ls.length
    · obtain ⟨ad, A1, c1, rfl, h0, _, _⟩ := at_L6 (Kd.C_below HR.out HB.out) (k : Int) (by omega) (by omega)
      rw [Int.toNat_natCast] at h0
      have hst := flatB_step Ls k hlt
      have hle1 := flatB_le Ls (k + 1)
      have hlL := HL.out
      have HST : Aside0 ((((Ls.take (k + 1)).flatten.length : Nat) : Int) = ((Ls.take k).flatten.length : Int) + ((rd_L6 Ls (k : Int)).length : Int)) := ⟨by rw [hst, List.length_append]; omega⟩
      have hneg : decide (((Ls.take k).flatten.length : Int) + ((rd_L6 Ls (k : Int)).length : Int) < 0) = false := decide_eq_false (by omega)
      have hw : IntKind.i64.wrap (((Ls.take k).flatten.length : Int) + ((rd_L6 Ls (k : Int)).length : Int)) = ((Ls.take k).flatten.length : Int) + ((rd_L6 Ls (k : Int)).length : Int) := by rw [IntKind.wrap_i64]; have := HST.out; omega
      clear hst hle1 hlL
      generalize rd_L6 Ls (k : Int) = y at h0 HST hneg hw
      generalize (Ls.take k).flatten.length = m at HST hneg hw
      go_wp2
      go_roundw
      case rel => exact ⟨k + 1, by omega, by go_num, by rw [HST.out], HB⟩
      case measure => simp [intOf]; omega
    · obtain rfl : k = Ls.length := by omega
      rw [List.take_length]
      have HL0 : Aside0 ((0 : Int) ≤ (Ls.flatten.length : Int) ∧ (Ls.flatten.length : Int) ≤ 1000000) := ⟨by have := HL.out; omega⟩
      generalize Ls.flatten.length = N at HL0 ⊢
      go_wp2_with (first | (go_at_call 66; (with_reducible refine (growB.calls (N : Int) _ HL0.out.1 HL0.out.2).mono ?_); rintro e w2 ⟨v2, rfl, hr2, hb2⟩; have HR2 := Aside0.mk (Kd.R_lower hr2 HB.out.size); have HB2 := Aside0.mk (below_step HB.out hb2); clear hr2 hb2))
      go_loopw [6, 27] (fun v i wq => ∃ k : Nat, k ≤ Ls.length ∧ i = .int .i64 k ∧ Aside0 (Kd.R (Kd.int .u8) 5 wq w.heap.size (fun _ => True) v (Ls.take k).flatten) ∧ Aside0 (Below w.heap.size w wq)) (fun _ i _ => Ls.length - (intOf i).toNat)
      case atStart => exact ⟨0, Nat.zero_le _, rfl, HR2, HB2⟩
      case round =>
        clear HR2 HB2 HB
        obtain ⟨k, hk, rfl, HO, HB⟩ := hrel
        by_cases hlt : k < Ls.length
        · obtain ⟨ad, A1, c1, rfl, h0, _, hC⟩ := at_L6 HR.out (k : Int) (by omega) (by omega)
          rw [Int.toNat_natCast] at h0
          have h0' := pw_cell_below HB.out h0
          have HF := Aside0.mk (Kd.C_below hC HB.out)
          have HST := Aside0.mk (flatB_step Ls k hlt)
          have HLE := Aside0.mk (flatB_le Ls (k + 1))
          clear h0 hC
          generalize rd_L6 Ls (k : Int) = y at h0' HST HF
          go_wp2_with (first | ((with_reducible refine gate_dst (N := 33) rfl ?_); go_must (refine Kd.R_append_row (Value.int .u8) 0 (h1 := fun _ => rfl) (w0 := w) w.heap.size rfl (.tmp 31) (.tmp 32) 22 5 (.int .u8 0) 1 rfl Tryd.underlying22 infoU8 rfl (by decide) _ (Ls.take k).flatten y A1 y.length c1 (fun _ => True) rfl rfl (fun _ _ => trivial) HO.out HF.out HB.out HB.out.size ?h6 ?_); (case h6 => (have h1 := HST.out; have h2 := HLE.out; have h3 := HL.out; rw [h1, List.length_append] at h2; omega)); intro v4 w4 hR4 hB4 hg4 ho4; have HR4 := Aside0.mk hR4; have HB4 := Aside0.mk hB4; clear hR4 hB4 hg4 ho4))
          go_roundw
          case rel => exact ⟨k + 1, by omega, by go_num, ⟨by rw [HST.out]; exact HR4.out⟩, HB4⟩
          case measure => simp [intOf]; omega
        · obtain rfl : k = Ls.length := by omega
          go_wp2
          go_ret
          exact ⟨_, rfl, by have := HO.out; rwa [List.take_length] at this, HB.out⟩
theorem four_C (W : World) (g : Nat) (A1 A2 A3 A4 : Option Addr) (c1 c2 c3 c4 : Nat) (l1 l2 l3 l4 : List Int) (t : Nat) (fr : Nat × Nat) (hb : W.heap[g]? = some (.cells #[.slice A1 l1.length c1, .slice A2 l2.length c2, .slice A3 l3.length c3, .slice A4 l4.length c4] t fr))
    (h1 : Kd.C (Kd.int .u8) W A1 l1.length l1) (k1 : l1.length ≤ c1) (h2 : Kd.C (Kd.int .u8) W A2 l2.length l2) (k2 : l2.length ≤ c2) (h3 : Kd.C (Kd.int .u8) W A3 l3.length l3) (k3 : l3.length ≤ c3) (h4 : Kd.C (Kd.int .u8) W A4 l4.length l4) (k4 : l4.length ≤ c4) :
    Kd.C (Kd.slice 5 (Kd.int .u8)) W (some ⟨g, 0, none⟩) 4 [l1, l2, l3, l4] := by
  have key : ∀ (j : Nat) (u : Value), #[Value.slice A1 l1.length c1, .slice A2 l2.length c2, .slice A3 l3.length c3, .slice A4 l4.length c4][j]? = some u → W.cell? (Addr.add ⟨g, 0, none⟩ j) = some u := fun j u hu => by
    rw [add_plain]
    exact (cell_of_row W g j _ t fr hb).trans hu
  have one : ∀ (j : Nat) (u : Value), #[Value.slice A1 l1.length c1, .slice A2 l2.length c2, .slice A3 l3.length c3, .slice A4 l4.length c4][j]? = some u → ∀ i v, [u][i]? = some v → W.cell? (Addr.add ⟨g, 0, none⟩ (j * 1 + i)) = some v := fun j u hu i v hv => by
    match i, hv with
    | 0, hv =>
      injection hv with hv
      subst hv
      rw [Nat.mul_one, Nat.add_zero]
      exact key j u hu
    | n + 1, hv => simp at hv
  refine ⟨rfl, by decide, fun _ => ⟨_, rfl, fun j p hj => ?_⟩⟩
  match j, hj with
  | 0, hj => injection hj with hj; subst hj; exact ⟨_, rfl, ⟨A1, c1, rfl, k1, h1⟩, one 0 _ rfl⟩
  | 1, hj => injection hj with hj; subst hj; exact ⟨_, rfl, ⟨A2, c2, rfl, k2, h2⟩, one 1 _ rfl⟩
  | 2, hj => injection hj with hj; subst hj; exact ⟨_, rfl, ⟨A3, c3, rfl, k3, h3⟩, one 2 _ rfl⟩
  | 3, hj => injection hj with hj; subst hj; exact ⟨_, rfl, ⟨A4, c4, rfl, k4, h4⟩, one 3 _ rfl⟩
  | n + 4, hj => simp at hj
end Go.Proofs.YtbgmnmjokdfmlaaDoor.PA
namespace Go.Proofs.YtbgmnmjokdfmlaaDoor.PA
open Go.RowKit Go.Proofs.YtbgmnmjokdfmlaaDoorW.PrintWords Go.Proofs.YtbgmnmjokdfmlaaDoorW.PrintLast Go.Proofs.YtbgmnmjokdfmlaaDoorW.PrintMore
attribute [local go_sem] max2_int min2_int max_two min_two max_three min_three max_four min_four   -- for this text's walks alone
set_option linter.unusedVariables false
set_option linter.unusedSimpArgs false
def dryrotref07_Name.l0 : Nat → ByteArray → Int → Option (Bool)
  | 0, _, _ => none
  | k + 1, x0, x3 => if x3 < (x0.size : Int) then (if 0 ≤ x3 then (if (bt x0 x3) ≥ 97 then (if (bt x0 x3) ≤ 122 then (dryrotref07_Name.l0 k x0 (wrap64 (x3 + 1))) else (if (bt x0 x3) ≥ 65 then (if (bt x0 x3) ≤ 90 then (dryrotref07_Name.l0 k x0 (wrap64 (x3 + 1))) else (if ((bt x0 x3) = 95) then (dryrotref07_Name.l0 k x0 (wrap64 (x3 + 1))) else (if x3 = 0 then (some false) else (if (bt x0 x3) < 48 then (some false) else (if (bt x0 x3) > 57 then (some false) else (dryrotref07_Name.l0 k x0 (wrap64 (x3 + 1)))))))) else (if ((bt x0 x3) = 95) then (dryrotref07_Name.l0 k x0 (wrap64 (x3 + 1))) else (if x3 = 0 then (some false) else (if (bt x0 x3) < 48 then (some false) else (if (bt x0 x3) > 57 then (some false) else (dryrotref07_Name.l0 k x0 (wrap64 (x3 + 1))))))))) else (if (bt x0 x3) ≥ 65 then (if (bt x0 x3) ≤ 90 then (dryrotref07_Name.l0 k x0 (wrap64 (x3 + 1))) else (if ((bt x0 x3) = 95) then (dryrotref07_Name.l0 k x0 (wrap64 (x3 + 1))) else (if x3 = 0 then (some false) else (if (bt x0 x3) < 48 then (some false) else (if (bt x0 x3) > 57 then (some false) else (dryrotref07_Name.l0 k x0 (wrap64 (x3 + 1)))))))) else (if ((bt x0 x3) = 95) then (dryrotref07_Name.l0 k x0 (wrap64 (x3 + 1))) else (if x3 = 0 then (some false) else (if (bt x0 x3) < 48 then (some false) else (if (bt x0 x3) > 57 then (some false) else (dryrotref07_Name.l0 k x0 (wrap64 (x3 + 1))))))))) else (none)) else (if (x0.size : Int) ≥ 1 then (some (decide ((x0.size : Int) ≤ 24))) else (some false))
def dryrotref07_Name.f (k : Nat) (a0 : ByteArray) : Option (Bool) := dryrotref07_Name.l0 k a0 0
theorem dryrotref07_Name.mono_l : ∀ k, (∀ y0 y1, LeO (dryrotref07_Name.l0 k y0 y1) (dryrotref07_Name.l0 (k + 1) y0 y1))
  | 0 => fun _ _ r h => by simp [dryrotref07_Name.l0] at h
  | k + 1 => by
    have ih0 := dryrotref07_Name.mono_l k
    · intro y0 y1
      unfold dryrotref07_Name.l0
      repeat' first
      | (with_reducible exact ih0 _ _)
      | (with_reducible exact LeO.refl _)
      | (with_reducible exact LeO.none _)
      | (with_reducible refine LeO.ite ?_ ?_)
      | (with_reducible refine LeO.bind ?_ (fun _ => ?_))
      | exact ih0 _ _
      | exact LeO.none _
      | refine LeO.ite ?_ ?_
      | refine LeO.bind ?_ (fun _ => ?_)
theorem dryrotref07_Name.mono : ∀ a0 k, LeO (dryrotref07_Name.f k a0) (dryrotref07_Name.f (k + 1) a0) := by
  intro a0 k
  have ih0 := dryrotref07_Name.mono_l k
  unfold dryrotref07_Name.f
  repeat' first
      | (with_reducible exact ih0 _ _)
      | (with_reducible exact LeO.refl _)
      | (with_reducible exact LeO.none _)
      | (with_reducible refine LeO.ite ?_ ?_)
      | (with_reducible refine LeO.bind ?_ (fun _ => ?_))
      | exact ih0 _ _
      | exact LeO.none _
      | refine LeO.ite ?_ ?_
      | refine LeO.bind ?_ (fun _ => ?_)
set_option maxHeartbeats 8000000 in
set_option maxRecDepth 100000 in
theorem dryrotref07_Name.calls (k : Nat) (a0 : ByteArray) (r : Bool) (w : World) (h : dryrotref07_Name.f k a0 = some r) :
    Calls Tryd.prog 57 #[.string a0] w fun e w' => e = .returned (.bool r) ∧ Drawn0 w w' := by
  have H : (dryrotref07_Name.l0 k a0 0) = some r := h
  clear h
  have H' := Aside0.mk H
  clear H
  go_enter Tryd.func57, Tryd.ntmps57
  go_wp2
  go_loopg [3] k (fun kq v3 w' => ∃ (x3_1 : Int), v3 = .int .i64 x3_1 ∧ Aside0 (dryrotref07_Name.l0 kq a0 x3_1 = some r) ∧ Aside0 (kq ≤ k) ∧ Drawn0 w w')
  case atStart => exact ⟨(0), (by first | rfl | (simp; done) | (simp [*]; done)), H', ⟨Nat.le_refl _⟩, by repeat (first | exact Drawn0.refl _ | apply Drawn0.step)⟩
  case round =>
    clear H'
    obtain ⟨x3_1, rfl, HA, HK1, ⟨m1, rfl⟩⟩ := hrel
    cases gk with
    | zero => exact absurd HA.out (by simp [dryrotref07_Name.l0])
    | succ k1 =>
      have H := HA.out
      clear HA
      simp only [dryrotref07_Name.l0] at H
      by_cases c2 : x3_1 < (a0.size : Int)
      · rw [if_pos c2] at H
        have c2b0 : decide (x3_1 < (a0.size : Int)) = true := decide_eq_true c2
        clear c2
        by_cases c3 : 0 ≤ x3_1
        · rw [if_pos c3] at H
          have c3b0 : decide (0 ≤ x3_1) = true := decide_eq_true c3
          clear c3
          by_cases c5 : (bt a0 x3_1) ≥ 97
          · rw [if_pos c5] at H
            have c5b0 : decide (97 ≤ (bt a0 x3_1)) = true := decide_eq_true c5
            clear c5
            by_cases c6 : (bt a0 x3_1) ≤ 122
            · rw [if_pos c6] at H
              have c6b0 : decide ((bt a0 x3_1) ≤ 122) = true := decide_eq_true c6
              clear c6
              have H' := Aside0.mk H
              clear H
              have p4 : 0 ≤ (x3_1 : Int) := of_decide_eq_true (by first | (with_reducible assumption) | assumption)
              have q4 : x3_1 < (a0.size : Int) := of_decide_eq_true (by first | (with_reducible assumption) | assumption)
              have hx4 := bt_at a0 x3_1
              replace p4 := eq_true p4
              replace q4 := eq_true q4
              go_wp2
              go_roundg k1
              case measure => have := HK1.out; omega
              case rel => exact ⟨(wrap64 (x3_1 + 1)), (by first | rfl | (simp; done) | (simp [*]; done)), H', ⟨by have := HK1.out; omega⟩, by repeat (first | exact Drawn0.refl _ | apply Drawn0.step)⟩
            · rw [if_neg c6] at H
              have c6b0 : decide ((bt a0 x3_1) ≤ 122) = false := decide_eq_false c6
              clear c6
              by_cases c7 : (bt a0 x3_1) ≥ 65
              · rw [if_pos c7] at H
                have c7b0 : decide (65 ≤ (bt a0 x3_1)) = true := decide_eq_true c7
                clear c7
                by_cases c8 : (bt a0 x3_1) ≤ 90
                · rw [if_pos c8] at H
                  have c8b0 : decide ((bt a0 x3_1) ≤ 90) = true := decide_eq_true c8
                  clear c8
                  have H' := Aside0.mk H
                  clear H
                  have p4 : 0 ≤ (x3_1 : Int) := of_decide_eq_true (by first | (with_reducible assumption) | assumption)
                  have q4 : x3_1 < (a0.size : Int) := of_decide_eq_true (by first | (with_reducible assumption) | assumption)
                  have hx4 := bt_at a0 x3_1
                  replace p4 := eq_true p4
                  replace q4 := eq_true q4
                  go_wp2
                  go_roundg k1
                  case measure => have := HK1.out; omega
                  case rel => exact ⟨(wrap64 (x3_1 + 1)), (by first | rfl | (simp; done) | (simp [*]; done)), H', ⟨by have := HK1.out; omega⟩, by repeat (first | exact Drawn0.refl _ | apply Drawn0.step)⟩
                · rw [if_neg c8] at H
                  have c8b0 : decide ((bt a0 x3_1) ≤ 90) = false := decide_eq_false c8
                  clear c8
                  by_cases c9 : ((bt a0 x3_1) = 95)
                  · rw [if_pos c9] at H
                    have c9b0 : ((bt a0 x3_1) == 95) = true := beq_iff_eq.mpr c9
                    have c9b1 : ((bt a0 x3_1) != 95) = false := bne_eq_false_iff_eq.mpr c9
                    clear c9
                    have H' := Aside0.mk H
                    clear H
                    have p4 : 0 ≤ (x3_1 : Int) := of_decide_eq_true (by first | (with_reducible assumption) | assumption)
                    have q4 : x3_1 < (a0.size : Int) := of_decide_eq_true (by first | (with_reducible assumption) | assumption)
                    have hx4 := bt_at a0 x3_1
                    replace p4 := eq_true p4
                    replace q4 := eq_true q4
                    go_wp2
                    go_roundg k1
                    case measure => have := HK1.out; omega
                    case rel => exact ⟨(wrap64 (x3_1 + 1)), (by first | rfl | (simp; done) | (simp [*]; done)), H', ⟨by have := HK1.out; omega⟩, by repeat (first | exact Drawn0.refl _ | apply Drawn0.step)⟩
                  · rw [if_neg c9] at H
                    have c9b0 : ((bt a0 x3_1) == 95) = false := beq_eq_false_iff_ne.mpr c9
                    have c9b1 : ((bt a0 x3_1) != 95) = true := bne_iff_ne.mpr c9
                    by_cases c10 : x3_1 = 0
                    · rw [if_pos c10] at H
                      have c10b0 : (x3_1 == 0) = true := beq_iff_eq.mpr c10
                      have c10b1 : (x3_1 != 0) = false := bne_eq_false_iff_eq.mpr c10
                      clear c10
                      obtain rfl := Option.some.inj H
                      have p4 : 0 ≤ (x3_1 : Int) := of_decide_eq_true (by first | (with_reducible assumption) | assumption)
                      have q4 : x3_1 < (a0.size : Int) := of_decide_eq_true (by first | (with_reducible assumption) | assumption)
                      have hx4 := bt_at a0 x3_1
                      replace p4 := eq_true p4
                      replace q4 := eq_true q4
                      go_wp2
                      go_ret
                      exact ⟨by first | rfl | (simp; done) | (simp [*]; done) | (simp; decide +kernel), by repeat (first | exact Drawn0.refl _ | apply Drawn0.step)⟩
                    · rw [if_neg c10] at H
                      have c10b0 : (x3_1 == 0) = false := beq_eq_false_iff_ne.mpr c10
                      have c10b1 : (x3_1 != 0) = true := bne_iff_ne.mpr c10
                      by_cases c11 : (bt a0 x3_1) < 48
                      · rw [if_pos c11] at H
                        have c11b0 : decide ((bt a0 x3_1) < 48) = true := decide_eq_true c11
                        clear c11
                        obtain rfl := Option.some.inj H
                        have p4 : 0 ≤ (x3_1 : Int) := of_decide_eq_true (by first | (with_reducible assumption) | assumption)
                        have q4 : x3_1 < (a0.size : Int) := of_decide_eq_true (by first | (with_reducible assumption) | assumption)
                        have hx4 := bt_at a0 x3_1
                        replace p4 := eq_true p4
                        replace q4 := eq_true q4
                        go_wp2
                        go_ret
                        exact ⟨by first | rfl | (simp; done) | (simp [*]; done) | (simp; decide +kernel), by repeat (first | exact Drawn0.refl _ | apply Drawn0.step)⟩
                      · rw [if_neg c11] at H
                        have c11b0 : decide ((bt a0 x3_1) < 48) = false := decide_eq_false c11
                        clear c11
                        by_cases c12 : (bt a0 x3_1) > 57
                        · rw [if_pos c12] at H
                          have c12b0 : decide (57 < (bt a0 x3_1)) = true := decide_eq_true c12
                          clear c12
                          obtain rfl := Option.some.inj H
                          have p4 : 0 ≤ (x3_1 : Int) := of_decide_eq_true (by first | (with_reducible assumption) | assumption)
                          have q4 : x3_1 < (a0.size : Int) := of_decide_eq_true (by first | (with_reducible assumption) | assumption)
                          have hx4 := bt_at a0 x3_1
                          replace p4 := eq_true p4
                          replace q4 := eq_true q4
                          go_wp2
                          go_ret
                          exact ⟨by first | rfl | (simp; done) | (simp [*]; done) | (simp; decide +kernel), by repeat (first | exact Drawn0.refl _ | apply Drawn0.step)⟩
                        · rw [if_neg c12] at H
                          have c12b0 : decide (57 < (bt a0 x3_1)) = false := decide_eq_false c12
                          clear c12
                          have H' := Aside0.mk H
                          clear H
                          have p4 : 0 ≤ (x3_1 : Int) := of_decide_eq_true (by first | (with_reducible assumption) | assumption)
                          have q4 : x3_1 < (a0.size : Int) := of_decide_eq_true (by first | (with_reducible assumption) | assumption)
                          have hx4 := bt_at a0 x3_1
                          replace p4 := eq_true p4
                          replace q4 := eq_true q4
                          go_wp2
                          go_roundg k1
                          case measure => have := HK1.out; omega
                          case rel => exact ⟨(wrap64 (x3_1 + 1)), (by first | rfl | (simp; done) | (simp [*]; done)), H', ⟨by have := HK1.out; omega⟩, by repeat (first | exact Drawn0.refl _ | apply Drawn0.step)⟩
              · rw [if_neg c7] at H
                have c7b0 : decide (65 ≤ (bt a0 x3_1)) = false := decide_eq_false c7
                clear c7
                by_cases c13 : ((bt a0 x3_1) = 95)
                · rw [if_pos c13] at H
                  have c13b0 : ((bt a0 x3_1) == 95) = true := beq_iff_eq.mpr c13
                  have c13b1 : ((bt a0 x3_1) != 95) = false := bne_eq_false_iff_eq.mpr c13
                  clear c13
                  have H' := Aside0.mk H
                  clear H
                  have p4 : 0 ≤ (x3_1 : Int) := of_decide_eq_true (by first | (with_reducible assumption) | assumption)
                  have q4 : x3_1 < (a0.size : Int) := of_decide_eq_true (by first | (with_reducible assumption) | assumption)
                  have hx4 := bt_at a0 x3_1
                  replace p4 := eq_true p4
                  replace q4 := eq_true q4
                  go_wp2
                  go_roundg k1
                  case measure => have := HK1.out; omega
                  case rel => exact ⟨(wrap64 (x3_1 + 1)), (by first | rfl | (simp; done) | (simp [*]; done)), H', ⟨by have := HK1.out; omega⟩, by repeat (first | exact Drawn0.refl _ | apply Drawn0.step)⟩
                · rw [if_neg c13] at H
                  have c13b0 : ((bt a0 x3_1) == 95) = false := beq_eq_false_iff_ne.mpr c13
                  have c13b1 : ((bt a0 x3_1) != 95) = true := bne_iff_ne.mpr c13
                  by_cases c14 : x3_1 = 0
                  · rw [if_pos c14] at H
                    have c14b0 : (x3_1 == 0) = true := beq_iff_eq.mpr c14
                    have c14b1 : (x3_1 != 0) = false := bne_eq_false_iff_eq.mpr c14
                    clear c14
                    obtain rfl := Option.some.inj H
                    have p4 : 0 ≤ (x3_1 : Int) := of_decide_eq_true (by first | (with_reducible assumption) | assumption)
                    have q4 : x3_1 < (a0.size : Int) := of_decide_eq_true (by first | (with_reducible assumption) | assumption)
                    have hx4 := bt_at a0 x3_1
                    replace p4 := eq_true p4
                    replace q4 := eq_true q4
                    go_wp2
                    go_ret
                    exact ⟨by first | rfl | (simp; done) | (simp [*]; done) | (simp; decide +kernel), by repeat (first | exact Drawn0.refl _ | apply Drawn0.step)⟩
                  · rw [if_neg c14] at H
                    have c14b0 : (x3_1 == 0) = false := beq_eq_false_iff_ne.mpr c14
                    have c14b1 : (x3_1 != 0) = true := bne_iff_ne.mpr c14
                    by_cases c15 : (bt a0 x3_1) < 48
                    · rw [if_pos c15] at H
                      have c15b0 : decide ((bt a0 x3_1) < 48) = true := decide_eq_true c15
                      clear c15
                      obtain rfl := Option.some.inj H
                      have p4 : 0 ≤ (x3_1 : Int) := of_decide_eq_true (by first | (with_reducible assumption) | assumption)
                      have q4 : x3_1 < (a0.size : Int) := of_decide_eq_true (by first | (with_reducible assumption) | assumption)
                      have hx4 := bt_at a0 x3_1
                      replace p4 := eq_true p4
                      replace q4 := eq_true q4
                      go_wp2
                      go_ret
                      exact ⟨by first | rfl | (simp; done) | (simp [*]; done) | (simp; decide +kernel), by repeat (first | exact Drawn0.refl _ | apply Drawn0.step)⟩
                    · rw [if_neg c15] at H
                      have c15b0 : decide ((bt a0 x3_1) < 48) = false := decide_eq_false c15
                      clear c15
                      by_cases c16 : (bt a0 x3_1) > 57
                      · rw [if_pos c16] at H
                        have c16b0 : decide (57 < (bt a0 x3_1)) = true := decide_eq_true c16
                        clear c16
                        obtain rfl := Option.some.inj H
                        have p4 : 0 ≤ (x3_1 : Int) := of_decide_eq_true (by first | (with_reducible assumption) | assumption)
                        have q4 : x3_1 < (a0.size : Int) := of_decide_eq_true (by first | (with_reducible assumption) | assumption)
                        have hx4 := bt_at a0 x3_1
                        replace p4 := eq_true p4
                        replace q4 := eq_true q4
                        go_wp2
                        go_ret
                        exact ⟨by first | rfl | (simp; done) | (simp [*]; done) | (simp; decide +kernel), by repeat (first | exact Drawn0.refl _ | apply Drawn0.step)⟩
                      · rw [if_neg c16] at H
                        have c16b0 : decide (57 < (bt a0 x3_1)) = false := decide_eq_false c16
                        clear c16
                        have H' := Aside0.mk H
                        clear H
                        have p4 : 0 ≤ (x3_1 : Int) := of_decide_eq_true (by first | (with_reducible assumption) | assumption)
                        have q4 : x3_1 < (a0.size : Int) := of_decide_eq_true (by first | (with_reducible assumption) | assumption)
                        have hx4 := bt_at a0 x3_1
                        replace p4 := eq_true p4
                        replace q4 := eq_true q4
                        go_wp2
                        go_roundg k1
                        case measure => have := HK1.out; omega
                        case rel => exact ⟨(wrap64 (x3_1 + 1)), (by first | rfl | (simp; done) | (simp [*]; done)), H', ⟨by have := HK1.out; omega⟩, by repeat (first | exact Drawn0.refl _ | apply Drawn0.step)⟩
          · rw [if_neg c5] at H
            have c5b0 : decide (97 ≤ (bt a0 x3_1)) = false := decide_eq_false c5
            clear c5
            by_cases c17 : (bt a0 x3_1) ≥ 65
            · rw [if_pos c17] at H
              have c17b0 : decide (65 ≤ (bt a0 x3_1)) = true := decide_eq_true c17
              clear c17
              by_cases c18 : (bt a0 x3_1) ≤ 90
              · rw [if_pos c18] at H
                have c18b0 : decide ((bt a0 x3_1) ≤ 90) = true := decide_eq_true c18
                clear c18
                have H' := Aside0.mk H
                clear H
                have p4 : 0 ≤ (x3_1 : Int) := of_decide_eq_true (by first | (with_reducible assumption) | assumption)
                have q4 : x3_1 < (a0.size : Int) := of_decide_eq_true (by first | (with_reducible assumption) | assumption)
                have hx4 := bt_at a0 x3_1
                replace p4 := eq_true p4
                replace q4 := eq_true q4
                go_wp2
                go_roundg k1
                case measure => have := HK1.out; omega
                case rel => exact ⟨(wrap64 (x3_1 + 1)), (by first | rfl | (simp; done) | (simp [*]; done)), H', ⟨by have := HK1.out; omega⟩, by repeat (first | exact Drawn0.refl _ | apply Drawn0.step)⟩
              · rw [if_neg c18] at H
                have c18b0 : decide ((bt a0 x3_1) ≤ 90) = false := decide_eq_false c18
                clear c18
                by_cases c19 : ((bt a0 x3_1) = 95)
                · rw [if_pos c19] at H
                  have c19b0 : ((bt a0 x3_1) == 95) = true := beq_iff_eq.mpr c19
                  have c19b1 : ((bt a0 x3_1) != 95) = false := bne_eq_false_iff_eq.mpr c19
                  clear c19
                  have H' := Aside0.mk H
                  clear H
                  have p4 : 0 ≤ (x3_1 : Int) := of_decide_eq_true (by first | (with_reducible assumption) | assumption)
                  have q4 : x3_1 < (a0.size : Int) := of_decide_eq_true (by first | (with_reducible assumption) | assumption)
                  have hx4 := bt_at a0 x3_1
                  replace p4 := eq_true p4
                  replace q4 := eq_true q4
                  go_wp2
                  go_roundg k1
                  case measure => have := HK1.out; omega
                  case rel => exact ⟨(wrap64 (x3_1 + 1)), (by first | rfl | (simp; done) | (simp [*]; done)), H', ⟨by have := HK1.out; omega⟩, by repeat (first | exact Drawn0.refl _ | apply Drawn0.step)⟩
                · rw [if_neg c19] at H
                  have c19b0 : ((bt a0 x3_1) == 95) = false := beq_eq_false_iff_ne.mpr c19
                  have c19b1 : ((bt a0 x3_1) != 95) = true := bne_iff_ne.mpr c19
                  by_cases c20 : x3_1 = 0
                  · rw [if_pos c20] at H
                    have c20b0 : (x3_1 == 0) = true := beq_iff_eq.mpr c20
                    have c20b1 : (x3_1 != 0) = false := bne_eq_false_iff_eq.mpr c20
                    clear c20
                    obtain rfl := Option.some.inj H
                    have p4 : 0 ≤ (x3_1 : Int) := of_decide_eq_true (by first | (with_reducible assumption) | assumption)
                    have q4 : x3_1 < (a0.size : Int) := of_decide_eq_true (by first | (with_reducible assumption) | assumption)
                    have hx4 := bt_at a0 x3_1
                    replace p4 := eq_true p4
                    replace q4 := eq_true q4
                    go_wp2
                    go_ret
                    exact ⟨by first | rfl | (simp; done) | (simp [*]; done) | (simp; decide +kernel), by repeat (first | exact Drawn0.refl _ | apply Drawn0.step)⟩
                  · rw [if_neg c20] at H
                    have c20b0 : (x3_1 == 0) = false := beq_eq_false_iff_ne.mpr c20
                    have c20b1 : (x3_1 != 0) = true := bne_iff_ne.mpr c20
                    by_cases c21 : (bt a0 x3_1) < 48
                    · rw [if_pos c21] at H
                      have c21b0 : decide ((bt a0 x3_1) < 48) = true := decide_eq_true c21
                      clear c21
                      obtain rfl := Option.some.inj H
                      have p4 : 0 ≤ (x3_1 : Int) := of_decide_eq_true (by first | (with_reducible assumption) | assumption)
                      have q4 : x3_1 < (a0.size : Int) := of_decide_eq_true (by first | (with_reducible assumption) | assumption)
                      have hx4 := bt_at a0 x3_1
                      replace p4 := eq_true p4
                      replace q4 := eq_true q4
                      go_wp2
                      go_ret
                      exact ⟨by first | rfl | (simp; done) | (simp [*]; done) | (simp; decide +kernel), by repeat (first | exact Drawn0.refl _ | apply Drawn0.step)⟩
                    · rw [if_neg c21] at H
                      have c21b0 : decide ((bt a0 x3_1) < 48) = false := decide_eq_false c21
                      clear c21
                      by_cases c22 : (bt a0 x3_1) > 57
                      · rw [if_pos c22] at H
                        have c22b0 : decide (57 < (bt a0 x3_1)) = true := decide_eq_true c22
                        clear c22
                        obtain rfl := Option.some.inj H
                        have p4 : 0 ≤ (x3_1 : Int) := of_decide_eq_true (by first | (with_reducible assumption) | assumption)
                        have q4 : x3_1 < (a0.size : Int) := of_decide_eq_true (by first | (with_reducible assumption) | assumption)
                        have hx4 := bt_at a0 x3_1
                        replace p4 := eq_true p4
                        replace q4 := eq_true q4
                        go_wp2
                        go_ret
                        exact ⟨by first | rfl | (simp; done) | (simp [*]; done) | (simp; decide +kernel), by repeat (first | exact Drawn0.refl _ | apply Drawn0.step)⟩
                      · rw [if_neg c22] at H
                        have c22b0 : decide (57 < (bt a0 x3_1)) = false := decide_eq_false c22
                        clear c22
                        have H' := Aside0.mk H
                        clear H
                        have p4 : 0 ≤ (x3_1 : Int) := of_decide_eq_true (by first | (with_reducible assumption) | assumption)
                        have q4 : x3_1 < (a0.size : Int) := of_decide_eq_true (by first | (with_reducible assumption) | assumption)
                        have hx4 := bt_at a0 x3_1
                        replace p4 := eq_true p4
                        replace q4 := eq_true q4
                        go_wp2
                        go_roundg k1
                        case measure => have := HK1.out; omega
                        case rel => exact ⟨(wrap64 (x3_1 + 1)), (by first | rfl | (simp; done) | (simp [*]; done)), H', ⟨by have := HK1.out; omega⟩, by repeat (first | exact Drawn0.refl _ | apply Drawn0.step)⟩
            · rw [if_neg c17] at H
              have c17b0 : decide (65 ≤ (bt a0 x3_1)) = false := decide_eq_false c17
              clear c17
              by_cases c23 : ((bt a0 x3_1) = 95)
              · rw [if_pos c23] at H
                have c23b0 : ((bt a0 x3_1) == 95) = true := beq_iff_eq.mpr c23
                have c23b1 : ((bt a0 x3_1) != 95) = false := bne_eq_false_iff_eq.mpr c23
                clear c23
                have H' := Aside0.mk H
                clear H
                have p4 : 0 ≤ (x3_1 : Int) := of_decide_eq_true (by first | (with_reducible assumption) | assumption)
                have q4 : x3_1 < (a0.size : Int) := of_decide_eq_true (by first | (with_reducible assumption) | assumption)
                have hx4 := bt_at a0 x3_1
                replace p4 := eq_true p4
                replace q4 := eq_true q4
                go_wp2
                go_roundg k1
                case measure => have := HK1.out; omega
                case rel => exact ⟨(wrap64 (x3_1 + 1)), (by first | rfl | (simp; done) | (simp [*]; done)), H', ⟨by have := HK1.out; omega⟩, by repeat (first | exact Drawn0.refl _ | apply Drawn0.step)⟩
              · rw [if_neg c23] at H
                have c23b0 : ((bt a0 x3_1) == 95) = false := beq_eq_false_iff_ne.mpr c23
                have c23b1 : ((bt a0 x3_1) != 95) = true := bne_iff_ne.mpr c23
                by_cases c24 : x3_1 = 0
                · rw [if_pos c24] at H
                  have c24b0 : (x3_1 == 0) = true := beq_iff_eq.mpr c24
                  have c24b1 : (x3_1 != 0) = false := bne_eq_false_iff_eq.mpr c24
                  clear c24
                  obtain rfl := Option.some.inj H
                  have p4 : 0 ≤ (x3_1 : Int) := of_decide_eq_true (by first | (with_reducible assumption) | assumption)
                  have q4 : x3_1 < (a0.size : Int) := of_decide_eq_true (by first | (with_reducible assumption) | assumption)
                  have hx4 := bt_at a0 x3_1
                  replace p4 := eq_true p4
                  replace q4 := eq_true q4
                  go_wp2
                  go_ret
                  exact ⟨by first | rfl | (simp; done) | (simp [*]; done) | (simp; decide +kernel), by repeat (first | exact Drawn0.refl _ | apply Drawn0.step)⟩
                · rw [if_neg c24] at H
                  have c24b0 : (x3_1 == 0) = false := beq_eq_false_iff_ne.mpr c24
                  have c24b1 : (x3_1 != 0) = true := bne_iff_ne.mpr c24
                  by_cases c25 : (bt a0 x3_1) < 48
                  · rw [if_pos c25] at H
                    have c25b0 : decide ((bt a0 x3_1) < 48) = true := decide_eq_true c25
                    clear c25
                    obtain rfl := Option.some.inj H
                    have p4 : 0 ≤ (x3_1 : Int) := of_decide_eq_true (by first | (with_reducible assumption) | assumption)
                    have q4 : x3_1 < (a0.size : Int) := of_decide_eq_true (by first | (with_reducible assumption) | assumption)
                    have hx4 := bt_at a0 x3_1
                    replace p4 := eq_true p4
                    replace q4 := eq_true q4
                    go_wp2
                    go_ret
                    exact ⟨by first | rfl | (simp; done) | (simp [*]; done) | (simp; decide +kernel), by repeat (first | exact Drawn0.refl _ | apply Drawn0.step)⟩
                  · rw [if_neg c25] at H
                    have c25b0 : decide ((bt a0 x3_1) < 48) = false := decide_eq_false c25
                    clear c25
                    by_cases c26 : (bt a0 x3_1) > 57
                    · rw [if_pos c26] at H
                      have c26b0 : decide (57 < (bt a0 x3_1)) = true := decide_eq_true c26
                      clear c26
                      obtain rfl := Option.some.inj H
                      have p4 : 0 ≤ (x3_1 : Int) := of_decide_eq_true (by first | (with_reducible assumption) | assumption)
                      have q4 : x3_1 < (a0.size : Int) := of_decide_eq_true (by first | (with_reducible assumption) | assumption)
                      have hx4 := bt_at a0 x3_1
                      replace p4 := eq_true p4
                      replace q4 := eq_true q4
                      go_wp2
                      go_ret
                      exact ⟨by first | rfl | (simp; done) | (simp [*]; done) | (simp; decide +kernel), by repeat (first | exact Drawn0.refl _ | apply Drawn0.step)⟩
                    · rw [if_neg c26] at H
                      have c26b0 : decide (57 < (bt a0 x3_1)) = false := decide_eq_false c26
                      clear c26
                      have H' := Aside0.mk H
                      clear H
                      have p4 : 0 ≤ (x3_1 : Int) := of_decide_eq_true (by first | (with_reducible assumption) | assumption)
                      have q4 : x3_1 < (a0.size : Int) := of_decide_eq_true (by first | (with_reducible assumption) | assumption)
                      have hx4 := bt_at a0 x3_1
                      replace p4 := eq_true p4
                      replace q4 := eq_true q4
                      go_wp2
                      go_roundg k1
                      case measure => have := HK1.out; omega
                      case rel => exact ⟨(wrap64 (x3_1 + 1)), (by first | rfl | (simp; done) | (simp [*]; done)), H', ⟨by have := HK1.out; omega⟩, by repeat (first | exact Drawn0.refl _ | apply Drawn0.step)⟩
        · rw [if_neg c3] at H
          exact absurd H (by simp)
      · rw [if_neg c2] at H
        have c2b0 : decide (x3_1 < (a0.size : Int)) = false := decide_eq_false c2
        clear c2
        by_cases c27 : (a0.size : Int) ≥ 1
        · rw [if_pos c27] at H
          have c27b0 : decide (1 ≤ (a0.size : Int)) = true := decide_eq_true c27
          have c27b1 : decide (1 ≤ a0.size) = true := decide_eq_true (by omega)
          clear c27
          obtain rfl := Option.some.inj H
          go_wp2
          go_ret
          exact ⟨by first | rfl | (simp; done) | (simp [*]; done) | (simp; decide +kernel), by repeat (first | exact Drawn0.refl _ | apply Drawn0.step)⟩
        · rw [if_neg c27] at H
          have c27b0 : decide (1 ≤ (a0.size : Int)) = false := decide_eq_false c27
          have c27b1 : decide (1 ≤ a0.size) = false := decide_eq_false (by omega)
          clear c27
          obtain rfl := Option.some.inj H
          go_wp2
          go_ret
          exact ⟨by first | rfl | (simp; done) | (simp [*]; done) | (simp; decide +kernel), by repeat (first | exact Drawn0.refl _ | apply Drawn0.step)⟩
end Go.Proofs.YtbgmnmjokdfmlaaDoor.PA
namespace Go.Proofs.YtbgmnmjokdfmlaaDoor.PA
open Go.RowKit Go.Proofs.YtbgmnmjokdfmlaaDoor.G Go.Proofs.YtbgmnmjokdfmlaaDoorW.PrintWords Go.Proofs.YtbgmnmjokdfmlaaDoorW.PrintLast Go.Proofs.YtbgmnmjokdfmlaaDoorW.PrintMore
set_option linter.unusedVariables false
set_option linter.unusedSimpArgs false
def letR (c : Int) : Bool := (decide (97 ≤ c) && decide (c ≤ 122)) || (decide (65 ≤ c) && decide (c ≤ 90)) || decide (c = 95)
theorem letB_letR_nat : ∀ n : Fin 256, letB ((n.1 : Nat) : Int) = letR ((n.1 : Nat) : Int) := by decide +kernel
theorem letB_letR (s : ByteArray) (i : Int) : letB (bt s i) = letR (bt s i) := by
  obtain ⟨h0, h1⟩ := bt_range s i
  obtain ⟨n, hn⟩ := Int.eq_ofNat_of_zero_le h0
  rw [hn]
  exact letB_letR_nat ⟨n, by omega⟩
def okN (s : ByteArray) (j : Nat) : Bool := letR (bt s (j : Int)) || (decide (j ≠ 0) && digB (bt s (j : Int)))
theorem rname_step (s : ByteArray) (i k : Nat) (hi : i < s.size) (hs : s.size ≤ 140737488355328) : dryrotref07_Name.l0 (k + 1) s (i : Int) = if okN s i = true then dryrotref07_Name.l0 k s ((i + 1 : Nat) : Int) else some false := by
  have e : wrap64 ((i : Int) + 1) = ((i + 1 : Nat) : Int) := by rw [w64 (by omega) (by omega)]; omega
  rw [dryrotref07_Name.l0, e, if_pos (by omega), if_pos (by omega)]
  have hr := bt_range s (i : Int)
  unfold okN letR digB
  generalize bt s (i : Int) = c at hr
  generalize dryrotref07_Name.l0 k s ((i + 1 : Nat) : Int) = z
  by_cases hi0 : i = 0
  · subst hi0
    repeat' split
    all_goals first | rfl | (exfalso; simp at *; done) | (exfalso; simp at *; omega)
  · repeat' split
    all_goals first | rfl | (exfalso; simp [hi0] at *; done) | (exfalso; simp [hi0] at *; omega)
theorem rname_from (s : ByteArray) (hs : s.size ≤ 140737488355328) : ∀ d i k, i + d = s.size → d < k → dryrotref07_Name.l0 k s (i : Int) = some ((List.range d).all (fun j => okN s (i + j)) && (decide (1 ≤ s.size) && decide (s.size ≤ 24)))
  | 0, i, k + 1, h, hk => by
    rw [dryrotref07_Name.l0, if_neg (by omega)]
    by_cases h1 : (s.size : Int) ≥ 1
    · rw [if_pos h1, decide_eq_true (show 1 ≤ s.size by omega)]
      simp
      omega
    · rw [if_neg h1, decide_eq_false (show ¬ 1 ≤ s.size by omega)]
      simp
  | d + 1, i, k + 1, h, hk => by
    rw [rname_step s i k (by omega) hs, List.range_succ_eq_map, List.all_cons, List.all_map]
    cases ho : okN s i with
    | false => rw [if_neg (by simp)]; simp [ho]
    | true =>
      rw [if_pos rfl, rname_from s hs d (i + 1) k (by omega) (by omega)]
      simp only [Nat.add_zero, ho, Bool.true_and]
      congr 3
      funext j
      simp only [Function.comp, Nat.succ_eq_add_one, show i + 1 + j = i + (j + 1) by omega]
theorem any_bytes (s : ByteArray) (p : Int → Bool) : (bytesOf s).any p = (List.range s.size).any (fun j => p (bt s (j : Int))) := by
  rw [Bool.eq_iff_iff, List.any_eq_true, List.any_eq_true]
  constructor
  · rintro ⟨x, hx, hp⟩
    obtain ⟨j, hj, rfl⟩ := List.getElem_of_mem hx
    have hj' : j < s.size := by rw [← bytesOf_length]; exact hj
    refine ⟨j, List.mem_range.2 hj', ?_⟩
    rw [← rd_bytesOf]
    simpa [rd, List.getD_eq_getElem?_getD, List.getElem?_eq_getElem hj] using hp
  · rintro ⟨j, hj, hp⟩
    have hj' : j < (bytesOf s).length := by rw [bytesOf_length]; exact List.mem_range.1 hj
    refine ⟨_, List.getElem_mem hj', ?_⟩
    rw [← rd_bytesOf] at hp
    simpa [rd, List.getD_eq_getElem?_getD, List.getElem?_eq_getElem hj'] using hp
theorem rname_eq (s : ByteArray) (hs : s.size ≤ 140737488355328) (k : Nat) (hk : s.size < k) : dryrotref07_Name.f k s = some (nameB s) := by
  unfold dryrotref07_Name.f
  have := rname_from s hs s.size 0 k (by omega) hk
  rw [show ((0 : Nat) : Int) = 0 from rfl] at this
  rw [this]
  congr 1
  by_cases hz : 1 ≤ s.size ∧ s.size ≤ 24
  · rw [nameB, decide_eq_true hz.1, decide_eq_true hz.2]
    simp only [Bool.and_true, Bool.true_and, Nat.zero_add]
    rw [any_bytes, letB_letR, Bool.eq_iff_iff]
    simp only [List.all_eq_true, List.mem_range, Bool.and_eq_true, Bool.not_eq_true', List.any_eq_false, badB, Bool.not_eq_false']
    have hb : ∀ j : Nat, letB (bt s (j : Int)) = letR (bt s (j : Int)) := fun j => letB_letR s j
    constructor
    · intro h
      refine ⟨?_, fun j hj => ?_⟩
      · have := h 0 (by omega)
        simpa [okN] using this
      · have := h j hj
        rw [hb j]
        simp only [okN, Bool.or_eq_true, Bool.and_eq_true] at this
        rcases this with h1 | h1
        · simp [h1]
        · simp [h1.2]
    · rintro ⟨h0, h⟩ j hj
      by_cases hj0 : j = 0
      · subst hj0
        simp [okN]
        simpa using h0
      · have := h j hj
        rw [hb j] at this
        simp only [okN, Bool.or_eq_true, Bool.and_eq_true, decide_eq_true_eq]
        cases h1 : letR (bt s (j : Int)) with
        | true => simp
        | false =>
          right
          refine ⟨hj0, ?_⟩
          simpa [h1] using this
  · rw [nameB]
    have : (decide (1 ≤ s.size) && decide (s.size ≤ 24)) = false := by
      rw [Bool.and_eq_false_iff]
      by_cases h1 : 1 ≤ s.size
      · exact .inr (decide_eq_false (fun h2 => hz ⟨h1, h2⟩))
      · exact .inl (decide_eq_false h1)
    rw [this]
    simp
theorem rname.calls (s : ByteArray) (b : Bool) (h : nameB s = b) (hs : s.size ≤ 140737488355328) (w : World) : Calls Tryd.prog 57 #[.string s] w fun e w' => e = .returned (.bool b) ∧ Below w.heap.size w w' :=
  (dryrotref07_Name.calls (s.size + 1) s b w (by rw [rname_eq s hs _ (by omega), h])).mono fun e w' ⟨he, hd⟩ => ⟨he, hd.below⟩
end Go.Proofs.YtbgmnmjokdfmlaaDoor.PA
namespace Go.Proofs.YtbgmnmjokdfmlaaDoor.PA
open Go.RowKit Go.Proofs.YtbgmnmjokdfmlaaDoorW.PrintWords Go.Proofs.YtbgmnmjokdfmlaaDoorW.PrintLast Go.Proofs.YtbgmnmjokdfmlaaDoorW.PrintMore
attribute [local go_sem] max2_int min2_int max_two min_two max_three min_three max_four min_four   -- for this text's walks alone
set_option linter.unusedVariables false
set_option linter.unusedSimpArgs false
def dryrotref07_Value.f (a0 : ByteArray) : Option (Bool) := if (a0.size : Int) ≥ 1 then (if (a0.size : Int) ≤ 40 then ((dryrotref07_Plain.f a0).bind fun t191 => (some t191)) else (some false)) else (some false)
set_option maxHeartbeats 8000000 in
set_option maxRecDepth 100000 in
theorem dryrotref07_Value.calls (a0 : ByteArray) (r : Bool) (w : World) (h : dryrotref07_Value.f a0 = some r) :
    Calls Tryd.prog 58 #[.string a0] w fun e w' => e = .returned (.bool r) ∧ Below w.heap.size w w' := by
  have HB := Aside0.mk (Below.refl w.heap.size w)
  have H : (if (a0.size : Int) ≥ 1 then (if (a0.size : Int) ≤ 40 then ((dryrotref07_Plain.f a0).bind fun t191 => (some t191)) else (some false)) else (some false)) = some r := h
  clear h
  by_cases c2 : (a0.size : Int) ≥ 1
  · rw [if_pos c2] at H
    have c2b0 : decide (1 ≤ (a0.size : Int)) = true := decide_eq_true c2
    have c2b1 : decide (1 ≤ a0.size) = true := decide_eq_true (by omega)
    clear c2
    by_cases c3 : (a0.size : Int) ≤ 40
    · rw [if_pos c3] at H
      have c3b0 : decide ((a0.size : Int) ≤ 40) = true := decide_eq_true c3
      have c3b1 : decide (a0.size ≤ 40) = true := decide_eq_true (by omega)
      clear c3
      replace H := Option.bind_eq_some_iff.mp H
      obtain ⟨t191, A40, H⟩ := H
      replace H : (some t191) = some r := H
      have A4 := Aside0.mk A40
      clear A40
      obtain rfl := Option.some.inj H
      go_enter Tryd.func58, Tryd.ntmps58
      go_wp2_with (first | (go_at_call 88; (with_reducible refine (dryrotref07_Plain.calls a0 t191 _ A4.out).mono ?_); rintro e w5 ⟨rfl, hb⟩; have n0_ := Aside0.mk (below_step (by repeat (first | (with_reducible first | exact HB.out | apply below_alloc | apply pw_below_drewN | apply below_drew1) | exact HB.out)) hb); clear HB; have HB := n0_; clear n0_; (try clear hb); (try clear hb2); (try clear hk); (try clear hi)))
      go_ret
      exact ⟨by first | rfl | (simp [errW_none, errW_some] <;> rfl) | (simp [*, errW_none, errW_some] <;> rfl), by repeat (first | (with_reducible first | exact HB.out | apply below_alloc | apply pw_below_drewN | apply below_drew1) | exact HB.out)⟩
    · rw [if_neg c3] at H
      have c3b0 : decide ((a0.size : Int) ≤ 40) = false := decide_eq_false c3
      have c3b1 : decide (a0.size ≤ 40) = false := decide_eq_false (by omega)
      clear c3
      obtain rfl := Option.some.inj H
      go_enter Tryd.func58, Tryd.ntmps58
      go_wp2
      go_ret
      exact ⟨by first | rfl | (simp [errW_none, errW_some] <;> rfl) | (simp [*, errW_none, errW_some] <;> rfl), by repeat (first | (with_reducible first | exact HB.out | apply below_alloc | apply pw_below_drewN | apply below_drew1) | exact HB.out)⟩
  · rw [if_neg c2] at H
    have c2b0 : decide (1 ≤ (a0.size : Int)) = false := decide_eq_false c2
    have c2b1 : decide (1 ≤ a0.size) = false := decide_eq_false (by omega)
    clear c2
    obtain rfl := Option.some.inj H
    go_enter Tryd.func58, Tryd.ntmps58
    go_wp2
    go_ret
    exact ⟨by first | rfl | (simp [errW_none, errW_some] <;> rfl) | (simp [*, errW_none, errW_some] <;> rfl), by repeat (first | (with_reducible first | exact HB.out | apply below_alloc | apply pw_below_drewN | apply below_drew1) | exact HB.out)⟩
end Go.Proofs.YtbgmnmjokdfmlaaDoor.PA
namespace Go.Proofs.YtbgmnmjokdfmlaaDoor.PA
open Go.RowKit Go.Proofs.YtbgmnmjokdfmlaaDoor.G Go.Proofs.YtbgmnmjokdfmlaaDoorW.PrintWords Go.Proofs.YtbgmnmjokdfmlaaDoorW.PrintLast Go.Proofs.YtbgmnmjokdfmlaaDoorW.PrintMore
set_option linter.unusedVariables false
set_option linter.unusedSimpArgs false
theorem rvalue_f (s : ByteArray) : dryrotref07_Value.f s = some (valueB s) := by
  unfold dryrotref07_Value.f valueB dryrotref07_Plain.f
  by_cases h1 : 1 ≤ s.size
  · rw [if_pos (by omega), decide_eq_true h1]
    by_cases h2 : s.size ≤ 40
    · rw [if_pos (by omega), decide_eq_true h2]; rfl
    · rw [if_neg (by omega), decide_eq_false h2]; rfl
  · rw [if_neg (by omega), decide_eq_false h1]; rfl
theorem rvalue.calls (s : ByteArray) (b : Bool) (h : valueB s = b) (w : World) : Calls Tryd.prog 58 #[.string s] w fun e w' => e = .returned (.bool b) ∧ Below w.heap.size w w' :=
  dryrotref07_Value.calls s b w (by rw [rvalue_f, h])
def okLs (l : List S65) : Prop := ∀ x ∈ l, x.f0.size ≤ 140737488355328 ∧ x.f1.size ≤ 140737488355328
theorem rd_memL (l : List S65) (k : Nat) (h : k < l.length) : rd_T65 l (k : Int) ∈ l := by
  have e : rd_T65 l (k : Int) = l[k] := by simp [rd_T65, List.getD_eq_getElem?_getD, List.getElem?_eq_getElem h]
  rw [e]
  exact List.getElem_mem h
theorem cell_alloc_oldR {w : World} {a : Addr} {v : Value} (o : Obj) (h : w.cell? a = some v) : (w.alloc o).cell? a = some v := pw_cell_below (below_alloc (Below.refl _ _) o) h
set_option maxHeartbeats 4000000 in
set_option maxRecDepth 100000 in
theorem rcanL.calls (A : Option Addr) (c n : Nat) (l : List S65) (w : World) (hn : l.length = n) (hr : Kd.C k65 w A n l) (hc : n ≤ c) (hok : okLs l) :
    Calls Tryd.prog 28 #[.slice A n c] w fun e w' => e = .returned (.bool (canL l)) ∧ Below w.heap.size w w' := by
  subst hn
  by_cases hlen : 1 ≤ l.length ∧ l.length ≤ 8
  · have h0 : decide ((l.length : Int) < 1) = false := decide_eq_false (by omega)
    have h8 : decide ((8 : Int) < (l.length : Int)) = false := decide_eq_false (by omega)
    have HR := Aside0.mk hr
    have HL := Aside0.mk hlen
    have HK := Aside0.mk hok
    have hl8 := hlen.2
    clear hr hc hlen hok
    go_enter Tryd.func28, Tryd.ntmps28
    go_wp2
    go_loopw [15] (fun i wr => ∃ (k : Nat), k ≤ l.length ∧ i = .int .i64 k ∧ Aside0 (∀ j, j < k → okAt l j = true) ∧ Aside0 (Below w.heap.size w wr)) (fun i _ => l.length - (intOf i).toNat)
    case atStart => exact ⟨0, Nat.zero_le _, rfl, ⟨fun j hj => by omega⟩, ⟨Below.refl _ _⟩⟩
    case round =>
      obtain ⟨k, hk, rfl, HO, HB⟩ := hrel
      by_cases hlt : k < l.length
      · have hC := Kd.C_below HR.out HB.out
        obtain ⟨ad, rfl, c0, c1⟩ := at_T65 hC (k : Int) (by omega) (by omega)
        rw [Int.toNat_natCast] at c0 c1
        have HBAD := Aside0.mk (fun h => canL_bad (l := l) (k := k) hlt h)
        have HS := Aside0.mk (fun h => upto_step (l := l) (k := k) HO.out h)
        have HSZ := Aside0.mk (HK.out _ (rd_memL l k hlt)).1
        cases k with
        | zero =>
          obtain ⟨x, ex⟩ : ∃ x, rd_T65 l ((0 : Nat) : Int) = x := ⟨_, rfl⟩
          have EX := Aside0.mk ex
          rw [ex] at c0 c1 HSZ
          clear hC ex
          have c0z : wr.cell? ad = some (.string x.f0) := by simpa [Addr.add] using c0
          have c1z : wr.cell? ⟨ad.block, ad.off + 1, none⟩ = some (.string x.f1) := by simpa [Addr.add] using c1
          clear c0 c1
          have HBA := Aside0.mk (below_alloc HB.out (.cells #[.string x.f0, .string x.f1] 65 (0, 0)))
          have BK := blk_new wr (.cells #[.string x.f0, .string x.f1] 65 (0, 0))
          have aA := BW.cell ((blk_cell BK 0).trans rfl)
          have bA := BW.cell ((blk_cell BK 1).trans rfl)
          clear BK
          cases h1 : nameB x.f0 with
          | false =>
            have HF : Aside0 (canL l = false) := ⟨HBAD.out (okAt_name (EX.out ▸ h1))⟩
            have C1 := Aside0.mk (rname.calls x.f0 false h1 HSZ.out)
            clear h1
            go_wp2_with fail
            refine wp_region_bw (by kernel_rfl) (by kernel_rfl) ?_
            repeat (any_goals (first | go_big_quiet_step (first | (go_at_call 57; refine bw_of (C1.out _))) | quiet_step (first | (go_at_call 57; refine bw_of (C1.out _)))))
            all_goals (refine wpQuiet_nil ?_; intro _ hw'; obtain ⟨⟨w2, hb⟩, hw''⟩ := hw'; subst hw''; have HB2 := Aside0.mk (below_step HBA.out hb); clear hb)
            go_wp2
            go_ret
            exact ⟨by rw [HF.out]; rfl, HB2.out⟩
          | true =>
            have C1 := Aside0.mk (rname.calls x.f0 true h1 HSZ.out)
            cases h2 : valueB x.f1 with
            | false =>
              have HF : Aside0 (canL l = false) := ⟨HBAD.out (okAt_value (EX.out ▸ h2))⟩
              have C2 := Aside0.mk (rvalue.calls x.f1 false h2)
              clear h1 h2
              go_wp2_with fail
              refine wp_region_bw (by kernel_rfl) (by kernel_rfl) ?_
              repeat (any_goals (first | go_big_quiet_step (first | (go_at_call 57; refine bw_of (C1.out _)) | (go_at_call 58; refine bw_of (C2.out _))) | quiet_step (first | (go_at_call 57; refine bw_of (C1.out _)) | (go_at_call 58; refine bw_of (C2.out _)))))
              all_goals (refine wpQuiet_nil ?_; intro _ hw'; obtain ⟨⟨w2, hb⟩, hw''⟩ := hw'; subst hw''; have HB2 := Aside0.mk (below_step HBA.out hb); clear hb)
              go_wp2
              go_ret
              exact ⟨by rw [HF.out]; rfl, HB2.out⟩
            | true =>
              have C2 := Aside0.mk (rvalue.calls x.f1 true h2)
              have HG := Aside0.mk (HS.out (okAt_zero (EX.out ▸ h1) (EX.out ▸ h2)))
              clear h1 h2
              go_wp2_with fail
              refine wp_region_bw (by kernel_rfl) (by kernel_rfl) ?_
              repeat (any_goals (first | go_big_quiet_step (first | (go_at_call 57; refine bw_of (C1.out _)) | (go_at_call 58; refine bw_of (C2.out _))) | quiet_step (first | (go_at_call 57; refine bw_of (C1.out _)) | (go_at_call 58; refine bw_of (C2.out _)))))
              all_goals (refine wpQuiet_nil ?_; intro _ hw'; obtain ⟨⟨w2, hb⟩, hw''⟩ := hw'; subst hw''; have HB2 := Aside0.mk (below_step HBA.out hb); clear hb)
              go_wp2
              go_roundw
              case rel => exact ⟨0 + 1, by omega, by go_num, HG, HB2⟩
              case measure => simp [intOf] <;> omega
        | succ k =>
          obtain ⟨ad_, ea, q0, q1⟩ := at_T65 hC ((k : Nat) : Int) (by omega) (by omega)
          obtain rfl := Option.some.inj ea
          rw [Int.toNat_natCast] at q0 q1
          obtain ⟨x, ex⟩ : ∃ x, rd_T65 l ((k + 1 : Nat) : Int) = x := ⟨_, rfl⟩
          obtain ⟨y, ey⟩ : ∃ y, rd_T65 l ((k : Nat) : Int) = y := ⟨_, rfl⟩
          have EY := Aside0.mk ey
          rw [ey] at q0 q1
          have EX := Aside0.mk ex
          rw [ex] at c0 c1 HSZ
          clear hC ex ey q1 ea
          have HBA := Aside0.mk (below_alloc HB.out (.cells #[.string x.f0, .string x.f1] 65 (0, 0)))
          have BK := blk_new wr (.cells #[.string x.f0, .string x.f1] 65 (0, 0))
          have aA := BW.cell ((blk_cell BK 0).trans rfl)
          have bA := BW.cell ((blk_cell BK 1).trans rfl)
          clear BK
          have pA := BW.cell (cell_alloc_oldR (.cells #[.string x.f0, .string x.f1] 65 (0, 0)) q0)
          rw [show ((k + 1 : Nat) : Int) = (k : Int) + 1 from by omega] at *
          have g0 : decide ((0 : Int) < (k : Int) + 1) = true := decide_eq_true (by omega)
          have hwk : IntKind.i64.wrap ((k : Int) + 1 - 1) = (k : Int) := by rw [IntKind.wrap_i64]; omega
          have g1 : (0 : Int) ≤ (k : Int) := by omega
          have g2 : (k : Int) < (l.length : Int) := by omega
          cases h1 : nameB x.f0 with
          | false =>
            have HF : Aside0 (canL l = false) := ⟨HBAD.out (okAt_name (EX.out ▸ h1))⟩
            have C1 := Aside0.mk (rname.calls x.f0 false h1 HSZ.out)
            clear h1
            go_wp2_with fail
            refine wp_region_bw (by kernel_rfl) (by kernel_rfl) ?_
            repeat (any_goals (first | go_big_quiet_step (first | (go_at_call 57; refine bw_of (C1.out _))) | quiet_step (first | (go_at_call 57; refine bw_of (C1.out _)))))
            all_goals (refine wpQuiet_nil ?_; intro _ hw'; obtain ⟨⟨w2, hb⟩, hw''⟩ := hw'; subst hw''; have HB2 := Aside0.mk (below_step HBA.out hb); clear hb)
            go_wp2
            go_ret
            exact ⟨by rw [HF.out]; rfl, HB2.out⟩
          | true =>
            have C1 := Aside0.mk (rname.calls x.f0 true h1 HSZ.out)
            cases h2 : valueB x.f1 with
            | false =>
              have HF : Aside0 (canL l = false) := ⟨HBAD.out (okAt_value (EX.out ▸ h2))⟩
              have C2 := Aside0.mk (rvalue.calls x.f1 false h2)
              clear h1 h2
              go_wp2_with fail
              refine wp_region_bw (by kernel_rfl) (by kernel_rfl) ?_
              repeat (any_goals (first | go_big_quiet_step (first | (go_at_call 57; refine bw_of (C1.out _)) | (go_at_call 58; refine bw_of (C2.out _))) | quiet_step (first | (go_at_call 57; refine bw_of (C1.out _)) | (go_at_call 58; refine bw_of (C2.out _)))))
              all_goals (refine wpQuiet_nil ?_; intro _ hw'; obtain ⟨⟨w2, hb⟩, hw''⟩ := hw'; subst hw''; have HB2 := Aside0.mk (below_step HBA.out hb); clear hb)
              go_wp2
              go_ret
              exact ⟨by rw [HF.out]; rfl, HB2.out⟩
            | true =>
              have C2 := Aside0.mk (rvalue.calls x.f1 true h2)
              have HQ := okAt_geq (l := l) (k := k) (EX.out ▸ h1) (EX.out ▸ h2)
              rw [show ((k + 1 : Nat) : Int) = (k : Int) + 1 from by omega, EX.out, EY.out] at HQ
              clear h1 h2
              cases d1 : Op.bytesLess y.f0.toList x.f0.toList with
              | false =>
                have HF : Aside0 (canL l = false) := ⟨HBAD.out (by rw [HQ, d1])⟩
                clear HQ
                go_wp2_with fail
                refine wp_region_bw (by kernel_rfl) (by kernel_rfl) ?_
                repeat (any_goals (first | go_big_quiet_step (first | (go_at_call 57; refine bw_of (C1.out _)) | (go_at_call 58; refine bw_of (C2.out _))) | quiet_step (first | (go_at_call 57; refine bw_of (C1.out _)) | (go_at_call 58; refine bw_of (C2.out _)))))
                all_goals (refine wpQuiet_nil ?_; intro _ hw'; obtain ⟨⟨w2, hb⟩, hw''⟩ := hw'; subst hw''; have HB2 := Aside0.mk (below_step HBA.out hb); clear hb)
                go_wp2
                go_ret
                exact ⟨by rw [HF.out]; rfl, HB2.out⟩
              | true =>
                have HG := Aside0.mk (HS.out (by rw [HQ, d1]))
                clear HQ
                go_wp2_with fail
                refine wp_region_bw (by kernel_rfl) (by kernel_rfl) ?_
                repeat (any_goals (first | go_big_quiet_step (first | (go_at_call 57; refine bw_of (C1.out _)) | (go_at_call 58; refine bw_of (C2.out _))) | quiet_step (first | (go_at_call 57; refine bw_of (C1.out _)) | (go_at_call 58; refine bw_of (C2.out _)))))
                all_goals (refine wpQuiet_nil ?_; intro _ hw'; obtain ⟨⟨w2, hb⟩, hw''⟩ := hw'; subst hw''; have HB2 := Aside0.mk (below_step HBA.out hb); clear hb)
                go_wp2
                go_roundw
                case rel => exact ⟨k + 1 + 1, by omega, by go_num, HG, HB2⟩
                case measure => simp [intOf] <;> omega
      · obtain rfl : k = l.length := by omega
        have HF : Aside0 (canL l = true) := ⟨canL_ok HL.out.1 HL.out.2 HO.out⟩
        go_wp2
        go_ret
        exact ⟨by rw [HF.out]; rfl, HB.out⟩
  · have HF : Aside0 (canL l = false) := ⟨canL_len hlen⟩
    by_cases h0 : (l.length : Int) < 1
    · have h1 : decide ((l.length : Int) < 1) = true := decide_eq_true h0
      clear h0 hlen
      go_enter Tryd.func28, Tryd.ntmps28
      go_wp2
      go_ret
      exact ⟨by rw [HF.out]; rfl, Below.refl _ _⟩
    · have h1 : decide ((l.length : Int) < 1) = false := decide_eq_false h0
      have h2 : decide ((8 : Int) < (l.length : Int)) = true := decide_eq_true (by omega)
      clear h0 hlen
      go_enter Tryd.func28, Tryd.ntmps28
      go_wp2
      go_ret
      exact ⟨by rw [HF.out]; rfl, Below.refl _ _⟩
end Go.Proofs.YtbgmnmjokdfmlaaDoor.PA
namespace Go.Proofs.YtbgmnmjokdfmlaaDoor.PA
open Go.RowKit Go.Proofs.YtbgmnmjokdfmlaaDoor.G Go.Proofs.YtbgmnmjokdfmlaaDoorW.PrintWords Go.Proofs.YtbgmnmjokdfmlaaDoorW.PrintLast Go.Proofs.YtbgmnmjokdfmlaaDoorW.PrintMore
set_option linter.unusedVariables false
set_option linter.unusedSimpArgs false
def cmpOr (a b : Int) : Int := if a ≠ 0 then a else b
def cmpX (x y : S65) : Int := cmpOr (txt x.f0 y.f0) (txt x.f1 y.f1)
set_option maxHeartbeats 1000000 in
theorem cmpOr.calls (a b : Int) (w : World) (g : Nat) (h0 : w.cell? ⟨g, 0, none⟩ = some (.int .i64 a)) (h1 : w.cell? ⟨g, 1, none⟩ = some (.int .i64 b)) : Calls Tryd.prog 74 #[.slice (some ⟨g, 0, none⟩) 2 2] w fun e w' => e = .returned (.int .i64 (cmpOr a b)) ∧ w' = w := by
  cases ha : (a != 0) with
  | true =>
    have HV : Aside0 (cmpOr a b = a) := ⟨by rw [cmpOr, if_pos (bne_iff_ne.1 ha)]⟩
    go_enter Tryd.func74, Tryd.ntmps74
    go_wp2
    refine wp_loop_rounds 1 ?_
    rw [rounds_succ]
    go_wp2
    go_ret
    exact ⟨by rw [HV.out]; rfl, rfl⟩
  | false =>
    have HV : Aside0 (cmpOr a b = b) := ⟨by rw [cmpOr, if_neg (by simpa using ha)]⟩
    cases hb : (b != 0) with
    | true =>
      go_enter Tryd.func74, Tryd.ntmps74
      go_wp2
      refine wp_loop_rounds 2 ?_
      rw [rounds_succ]
      go_wp2
      rw [rounds_succ]
      go_wp2
      go_ret
      exact ⟨by rw [HV.out]; rfl, rfl⟩
    | false =>
      have hz : b = 0 := by simpa using hb
      have HV2 : Aside0 (cmpOr a b = 0) := ⟨by rw [HV.out, hz]⟩
      clear hz
      go_enter Tryd.func74, Tryd.ntmps74
      go_wp2
      refine wp_loop_rounds 3 ?_
      rw [rounds_succ]
      go_wp2
      rw [rounds_succ]
      go_wp2
      rw [rounds_succ]
      go_wp2
      go_ret
      exact ⟨by rw [HV2.out]; rfl, rfl⟩
set_option maxHeartbeats 4000000 in
set_option maxRecDepth 100000 in
theorem cmpX.calls (x y : S65) (w : World) : Calls Tryd.prog 73 #[.agg #[.string x.f0, .string x.f1], .agg #[.string y.f0, .string y.f1]] w fun e w' => e = .returned (.int .i64 (cmpX x y)) ∧ Below w.heap.size w w' := by
  have bx := blk_alloc (blk_new w (.cells #[.string x.f0, .string x.f1] 65 (0, 0))) (.cells #[.string y.f0, .string y.f1] 65 (0, 0))
  have by_ := blk_new (w.alloc (.cells #[.string x.f0, .string x.f1] 65 (0, 0))) (.cells #[.string y.f0, .string y.f1] 65 (0, 0))
  rw [show (w.alloc (.cells #[.string x.f0, .string x.f1] 65 (0, 0))).heap.size = w.heap.size + 1 by simp] at by_
  have HB := Aside0.mk (below_drew1 (below_alloc (below_alloc (Below.refl w.heap.size w) (.cells #[.string x.f0, .string x.f1] 65 (0, 0))) (.cells #[.string y.f0, .string y.f1] 65 (0, 0))))
  have a0 : ∀ W, W = ((w.alloc (.cells #[.string x.f0, .string x.f1] 65 (0, 0))).alloc (.cells #[.string y.f0, .string y.f1] 65 (0, 0))).drew → W.cell? ⟨w.heap.size, 0, none⟩ = some (.string x.f0) ∧ W.cell? ⟨w.heap.size, 1, none⟩ = some (.string x.f1) ∧ W.cell? ⟨w.heap.size + 1, 0, none⟩ = some (.string y.f0) ∧ W.cell? ⟨w.heap.size + 1, 1, none⟩ = some (.string y.f1) ∧ W.heap.size = w.heap.size + 1 + 1 := fun W hW => by
    subst hW
    exact ⟨blk_cell (blk_drew bx) 0, blk_cell (blk_drew bx) 1, blk_cell (blk_drew by_) 0, blk_cell (blk_drew by_) 1, by simp⟩
  have HA := Aside0.mk a0
  clear a0 bx by_
  go_enter Tryd.func73, Tryd.ntmps73
  go_wp2_with fail
  refine wp_region_st 10 (by kernel_rfl) (by kernel_rfl) ?_
  intro W hW
  obtain ⟨a0, a1, a2, a3, hz⟩ := HA.out W hW
  rw [← hW] at HB
  have HB1 := Aside0.mk (below_alloc HB.out (.cells #[.int .i64 (txt x.f0 y.f0), .int .i64 (txt x.f1 y.f1)] 3 (0, 0)))
  have HN := Aside0.mk (blk_new W (.cells #[.int .i64 (txt x.f0 y.f0), .int .i64 (txt x.f1 y.f1)] 3 (0, 0)))
  clear hW HA hz
  simp only [List.take_succ_cons, List.take_zero, List.drop_succ_cons, List.drop_zero]
  repeat (first | still_step | still_call (cmpStr.calls _ _ _))
  refine wpStill_nil ?_
  go_wp2_with (first | (go_at_call 74; refine (cmpOr.calls (txt x.f0 y.f0) (txt x.f1 y.f1) _ _ (blk_cell HN.out 0) (blk_cell HN.out 1)).mono ?_; rintro e w1 ⟨rfl, rfl⟩))
  go_ret
  exact ⟨rfl, HB1.out⟩
def cmpL : List S65 → List S65 → Int
  | [], [] => 0
  | [], _ :: _ => -1
  | _ :: _, [] => 1
  | x :: a, y :: b => cmpOr (cmpX x y) (cmpL a b)
theorem drop_T65 (l : List S65) (k : Nat) (h : k < l.length) : l.drop k = rd_T65 l (k : Int) :: l.drop (k + 1) := by
  rw [List.drop_eq_getElem_cons h]
  simp [rd_T65, List.getD_eq_getElem?_getD, List.getElem?_eq_getElem h]
theorem cmpL_step (a b : List S65) (k : Nat) (h1 : k < a.length) (h2 : k < b.length) : cmpL (a.drop k) (b.drop k) = cmpOr (cmpX (rd_T65 a (k : Int)) (rd_T65 b (k : Int))) (cmpL (a.drop (k + 1)) (b.drop (k + 1))) := by
  rw [drop_T65 a k h1, drop_T65 b k h2]
  rfl
theorem cmpL_gt (a b : List S65) (k : Nat) (h1 : k < a.length) (h2 : b.length ≤ k) : cmpL (a.drop k) (b.drop k) = 1 := by
  rw [drop_T65 a k h1, List.drop_eq_nil_of_le h2]
  rfl
theorem cmpL_lt (a b : List S65) (k : Nat) (h1 : a.length ≤ k) (h2 : k < b.length) : cmpL (a.drop k) (b.drop k) = -1 := by
  rw [drop_T65 b k h2, List.drop_eq_nil_of_le h1]
  rfl
theorem cmpL_eq (a b : List S65) (k : Nat) (h1 : a.length ≤ k) (h2 : b.length ≤ k) : cmpL (a.drop k) (b.drop k) = 0 := by
  rw [List.drop_eq_nil_of_le h2, List.drop_eq_nil_of_le h1]
  rfl
set_option maxHeartbeats 2000000 in
set_option maxRecDepth 100000 in
theorem cmpF.calls (A B : Option Addr) (c e0 n m : Nat) (a b : List S65) (w : World) (hn : a.length = n) (hm : b.length = m) (hr : Kd.C k65 w A n a) (hs : Kd.C k65 w B m b) (hl : n ≤ 1000000) :
    Calls Tryd.prog 72 #[.slice A n c, .slice B m e0, .func (.func 73) #[] #[]] w fun e w' => e = .returned (.int .i64 (cmpL a b)) ∧ Below w.heap.size w w' := by
  subst hn hm
  have HR := Aside0.mk hr
  have HS := Aside0.mk hs
  clear hr hs
  go_enter Tryd.func72, Tryd.ntmps72
  go_wp2
  go_loopw [13] (fun j wr => ∃ k : Nat, k ≤ a.length ∧ k ≤ b.length ∧ j = .int .i64 k ∧ Aside0 (cmpL a b = cmpL (a.drop k) (b.drop k)) ∧ Aside0 (Below w.heap.size w wr)) (fun j _ => a.length - (intOf j).toNat)
  case atStart => exact ⟨0, Nat.zero_le _, Nat.zero_le _, rfl, ⟨rfl⟩, ⟨Below.refl _ _⟩⟩
  case round =>
    obtain ⟨k, hk, hk2, rfl, HE, HB⟩ := hrel
    by_cases hlt : k < a.length
    · obtain ⟨ad, rfl, h0, h1⟩ := at_T65 (Kd.C_below HR.out HB.out) (k : Int) (by omega) (by omega)
      rw [Int.toNat_natCast] at h0 h1
      by_cases hlt2 : k < b.length
      · obtain ⟨bd, rfl, i0, i1⟩ := at_T65 (Kd.C_below HS.out HB.out) (k : Int) (by omega) (by omega)
        rw [Int.toNat_natCast] at i0 i1
        have HST := Aside0.mk (cmpL_step a b k hlt hlt2)
        generalize rd_T65 a (k : Int) = x at *
        generalize rd_T65 b (k : Int) = y at *
        have j0 := pw_cell_below (below_alloc (Below.refl _ _) (.cells #[.string x.f0, .string x.f1] 65 (0, 0))) i0
        have j1 := pw_cell_below (below_alloc (Below.refl _ _) (.cells #[.string x.f0, .string x.f1] 65 (0, 0))) i1
        have HB0 := Aside0.mk (below_alloc (below_alloc HB.out (.cells #[.string x.f0, .string x.f1] 65 (0, 0))) (.cells #[.string y.f0, .string y.f1] 65 (0, 0)))
        cases hc : (cmpX x y != 0) with
        | true =>
          have HV : Aside0 (cmpL a b = cmpX x y) := ⟨by rw [HE.out, HST.out, cmpOr, if_pos (bne_iff_ne.1 hc)]⟩
          go_wp2_with (first | (go_at_call 73; (with_reducible refine (cmpX.calls x y _).mono ?_); rintro e w1 ⟨rfl, hb⟩; have HB1 := Aside0.mk (below_step HB0.out hb); clear hb))
          go_ret
          exact ⟨by rw [HV.out]; rfl, HB1.out⟩
        | false =>
          have HV : Aside0 (cmpL a b = cmpL (a.drop (k + 1)) (b.drop (k + 1))) := ⟨by rw [HE.out, HST.out, cmpOr, if_neg (by simpa using hc)]⟩
          go_wp2_with (first | (go_at_call 73; (with_reducible refine (cmpX.calls x y _).mono ?_); rintro e w1 ⟨rfl, hb⟩; have HB1 := Aside0.mk (below_step HB0.out hb); clear hb))
          go_roundw
          case rel => exact ⟨k + 1, by omega, by omega, by go_num, HV, HB1⟩
          case measure => simp [intOf]; omega
      · have HV : Aside0 (cmpL a b = 1) := ⟨by rw [HE.out, cmpL_gt a b k hlt (by omega)]⟩
        have HB0 := Aside0.mk (below_alloc HB.out (.cells #[.string (rd_T65 a (k : Int)).f0, .string (rd_T65 a (k : Int)).f1] 65 (0, 0)))
        have hge : ((b.length : Nat) : Int) ≤ (k : Int) := by omega
        go_wp2
        go_ret
        exact ⟨by rw [HV.out]; rfl, HB0.out⟩
    · obtain rfl : k = a.length := by omega
      by_cases hlt2 : a.length < b.length
      · have HV : Aside0 (cmpL a b = -1) := ⟨by rw [HE.out, cmpL_lt a b _ (Nat.le_refl _) hlt2]⟩
        have hge : ((a.length : Nat) : Int) < (b.length : Int) := by omega
        go_wp2
        go_ret
        exact ⟨by rw [HV.out]; rfl, HB.out⟩
      · have HV : Aside0 (cmpL a b = 0) := ⟨by rw [HE.out, cmpL_eq a b _ (Nat.le_refl _) (by omega)]⟩
        have hge : decide (((a.length : Nat) : Int) < (b.length : Int)) = false := decide_eq_false (by omega)
        go_wp2
        go_ret
        exact ⟨by rw [HV.out]; rfl, HB.out⟩
theorem cmpL.calls (A B : Option Addr) (c e0 n m : Nat) (a b : List S65) (w : World) (hn : a.length = n) (hm : b.length = m) (hr : Kd.C k65 w A n a) (hs : Kd.C k65 w B m b) (hl : n ≤ 1000000) :
    Calls Tryd.prog 40 #[.slice A n c, .slice B m e0] w fun e w' => e = .returned (.int .i64 (cmpL a b)) ∧ Below w.heap.size w w' := by
  have HC := Aside0.mk (cmpF.calls A B c e0 n m a b w hn hm hr hs hl)
  clear hn hm hr hs hl
  go_enter Tryd.func40, Tryd.ntmps40
  go_wp2_with (first | (go_at_call 72; (with_reducible refine HC.out.mono ?_); rintro e w1 ⟨rfl, hb⟩; have HB := Aside0.mk hb; clear hb))
  go_ret
  exact ⟨rfl, HB.out⟩
end Go.Proofs.YtbgmnmjokdfmlaaDoor.PA
namespace Go.Proofs.YtbgmnmjokdfmlaaDoor.PA
open Go.RowKit Go.Proofs.YtbgmnmjokdfmlaaDoor.G Go.Proofs.YtbgmnmjokdfmlaaDoorW.PrintWords Go.Proofs.YtbgmnmjokdfmlaaDoorW.PrintLast Go.Proofs.YtbgmnmjokdfmlaaDoorW.PrintMore
set_option linter.unusedVariables false
set_option linter.unusedSimpArgs false
set_option maxHeartbeats 4000000 in
set_option maxRecDepth 100000 in
theorem rcmpL.calls (A B : Option Addr) (c e0 n m : Nat) (a b : List S65) (w : World) (hn : a.length = n) (hm : b.length = m) (hr : Kd.C k65 w A n a) (hs : Kd.C k65 w B m b) (hl : n ≤ 1000000) :
    Calls Tryd.prog 42 #[.slice A n c, .slice B m e0] w fun e w' => e = .returned (.int .i64 (cmpL a b)) ∧ Below w.heap.size w w' := by
  subst hn hm
  have HR := Aside0.mk hr
  have HS := Aside0.mk hs
  clear hr hs
  by_cases hba : b.length < a.length
  · have HQ : Aside0 (b.length = min a.length b.length) := ⟨by omega⟩
    have hqa : b.length ≤ a.length := by omega
    have hqb : b.length ≤ b.length := by omega
    go_enter Tryd.func42, Tryd.ntmps42
    go_wp2
    go_loopw [13] (fun j wr => ∃ k : Nat, k ≤ b.length ∧ j = .int .i64 k ∧ Aside0 (cmpL a b = cmpL (a.drop k) (b.drop k)) ∧ Aside0 (Below w.heap.size w wr)) (fun j _ => b.length - (intOf j).toNat)
    case atStart => exact ⟨0, Nat.zero_le _, rfl, ⟨rfl⟩, ⟨Below.refl _ _⟩⟩
    case round =>
      obtain ⟨k, hk, rfl, HE, HB⟩ := hrel
      by_cases hlt : k < b.length
      · obtain ⟨ad, rfl, h0, h1⟩ := at_T65 (Kd.C_below HR.out HB.out) (k : Int) (by omega) (by omega)
        rw [Int.toNat_natCast] at h0 h1
        obtain ⟨bd, rfl, i0, i1⟩ := at_T65 (Kd.C_below HS.out HB.out) (k : Int) (by omega) (by omega)
        rw [Int.toNat_natCast] at i0 i1
        have HST := Aside0.mk (cmpL_step a b k (by omega) (by omega))
        have k0 : (0 : Int) ≤ (k : Int) := by omega
        have k1 : (k : Int) < (a.length : Int) := by omega
        have k2 : (k : Int) < (b.length : Int) := by omega
        have k3 : (k : Int) < (b.length : Int) := by omega
        generalize rd_T65 a (k : Int) = x at *
        generalize rd_T65 b (k : Int) = y at *
        cases hc : (txt x.f0 y.f0 != 0) with
        | true =>
          have HV : Aside0 (cmpL a b = txt x.f0 y.f0) := ⟨by
            have h_ : txt x.f0 y.f0 ≠ 0 := bne_iff_ne.1 hc
            rw [HE.out, HST.out, cmpX, cmpOr, cmpOr, if_pos h_, if_pos h_]⟩
          go_wp2_with fail
          go_quiet ((go_at_call 76; exact Calls.quiet_of_same (texts.calls _ _ _)))
          go_wp2
          go_ret
          exact ⟨by rw [HV.out]; rfl, pw_below_drewN HB.out _⟩
        | false =>
          have hz : txt x.f0 y.f0 = 0 := by simpa using hc
          cases hd : (txt x.f1 y.f1 != 0) with
          | true =>
            have HV : Aside0 (cmpL a b = txt x.f1 y.f1) := ⟨by
              have h_ : txt x.f1 y.f1 ≠ 0 := bne_iff_ne.1 hd
              rw [HE.out, HST.out, cmpX, cmpOr, cmpOr, hz, if_neg (show ¬ (0 : Int) ≠ 0 by simp), if_pos h_]⟩
            clear hz
            go_wp2_with fail
            go_quiet ((go_at_call 76; exact Calls.quiet_of_same (texts.calls _ _ _)))
            go_wp2_with fail
            generalize hw1 : wr.drewN nq = w1
            have HW1 : Aside0 (Below w.heap.size w w1) := ⟨hw1 ▸ pw_below_drewN HB.out _⟩
            have h1' : w1.cell? ⟨(ad.add (k * 2)).block, (ad.add (k * 2)).off + 1, none⟩ = some (.string x.f1) := hw1 ▸ h1
            have i1' : w1.cell? ⟨(bd.add (k * 2)).block, (bd.add (k * 2)).off + 1, none⟩ = some (.string y.f1) := hw1 ▸ i1
            clear hw1
            go_quiet ((go_at_call 76; exact Calls.quiet_of_same (texts.calls _ _ _)))
            go_wp2
            go_ret
            exact ⟨by rw [HV.out]; rfl, pw_below_drewN HW1.out _⟩
          | false =>
            have hy : txt x.f1 y.f1 = 0 := by simpa using hd
            have HV : Aside0 (cmpL a b = cmpL (a.drop (k + 1)) (b.drop (k + 1))) := ⟨by
              rw [HE.out, HST.out, cmpX, cmpOr, cmpOr, hz, hy, if_neg (show ¬ (0 : Int) ≠ 0 by simp), if_neg (show ¬ (0 : Int) ≠ 0 by simp)]⟩
            clear hz hy
            go_wp2_with fail
            go_quiet ((go_at_call 76; exact Calls.quiet_of_same (texts.calls _ _ _)))
            go_wp2_with fail
            generalize hw1 : wr.drewN nq = w1
            have HW1 : Aside0 (Below w.heap.size w w1) := ⟨hw1 ▸ pw_below_drewN HB.out _⟩
            have h1' : w1.cell? ⟨(ad.add (k * 2)).block, (ad.add (k * 2)).off + 1, none⟩ = some (.string x.f1) := hw1 ▸ h1
            have i1' : w1.cell? ⟨(bd.add (k * 2)).block, (bd.add (k * 2)).off + 1, none⟩ = some (.string y.f1) := hw1 ▸ i1
            clear hw1
            go_quiet ((go_at_call 76; exact Calls.quiet_of_same (texts.calls _ _ _)))
            go_wp2
            go_roundw
            case rel => exact ⟨k + 1, by omega, by go_num, HV, ⟨pw_below_drewN HW1.out _⟩⟩
            case measure => simp [intOf]; omega
      · obtain rfl : k = b.length := by omega
        have hqm := HQ.out
        by_cases hlt2 : a.length < b.length
        · have HV : Aside0 (cmpL a b = -1) := ⟨by rw [HE.out, cmpL_lt a b _ (by omega) (by omega)]⟩
          have hge : decide (a.length < b.length) = true := decide_eq_true (by omega)
          clear hqm hlt2
          go_wp2
          go_ret
          exact ⟨by rw [HV.out]; rfl, HB.out⟩
        · by_cases hlt3 : b.length < a.length
          · have HV : Aside0 (cmpL a b = 1) := ⟨by rw [HE.out, cmpL_gt a b _ (by omega) (by omega)]⟩
            have hge : decide (a.length < b.length) = false := decide_eq_false (by omega)
            have hge2 : decide (b.length < a.length) = true := decide_eq_true (by omega)
            clear hqm hlt2 hlt3
            go_wp2
            go_ret
            first | exact ⟨by rw [HV.out]; rfl, HB.out⟩ | exact absurd hba (of_decide_eq_false hge2) | exact absurd (of_decide_eq_true hge2) hba
          · have HV : Aside0 (cmpL a b = 0) := ⟨by rw [HE.out, cmpL_eq a b _ (by omega) (by omega)]⟩
            have hge : decide (a.length < b.length) = false := decide_eq_false (by omega)
            have hge2 : decide (b.length < a.length) = false := decide_eq_false (by omega)
            clear hqm hlt2 hlt3
            go_wp2
            go_ret
            first | exact ⟨by rw [HV.out]; rfl, HB.out⟩ | exact absurd hba (of_decide_eq_false hge2) | exact absurd (of_decide_eq_true hge2) hba
  · have HQ : Aside0 (a.length = min a.length b.length) := ⟨by omega⟩
    have hqa : a.length ≤ a.length := by omega
    have hqb : a.length ≤ b.length := by omega
    go_enter Tryd.func42, Tryd.ntmps42
    go_wp2
    go_loopw [13] (fun j wr => ∃ k : Nat, k ≤ a.length ∧ j = .int .i64 k ∧ Aside0 (cmpL a b = cmpL (a.drop k) (b.drop k)) ∧ Aside0 (Below w.heap.size w wr)) (fun j _ => a.length - (intOf j).toNat)
    case atStart => exact ⟨0, Nat.zero_le _, rfl, ⟨rfl⟩, ⟨Below.refl _ _⟩⟩
    case round =>
      obtain ⟨k, hk, rfl, HE, HB⟩ := hrel
      by_cases hlt : k < a.length
      · obtain ⟨ad, rfl, h0, h1⟩ := at_T65 (Kd.C_below HR.out HB.out) (k : Int) (by omega) (by omega)
        rw [Int.toNat_natCast] at h0 h1
        obtain ⟨bd, rfl, i0, i1⟩ := at_T65 (Kd.C_below HS.out HB.out) (k : Int) (by omega) (by omega)
        rw [Int.toNat_natCast] at i0 i1
        have HST := Aside0.mk (cmpL_step a b k (by omega) (by omega))
        have k0 : (0 : Int) ≤ (k : Int) := by omega
        have k1 : (k : Int) < (a.length : Int) := by omega
        have k2 : (k : Int) < (b.length : Int) := by omega
        have k3 : (k : Int) < (a.length : Int) := by omega
        generalize rd_T65 a (k : Int) = x at *
        generalize rd_T65 b (k : Int) = y at *
        cases hc : (txt x.f0 y.f0 != 0) with
        | true =>
          have HV : Aside0 (cmpL a b = txt x.f0 y.f0) := ⟨by
            have h_ : txt x.f0 y.f0 ≠ 0 := bne_iff_ne.1 hc
            rw [HE.out, HST.out, cmpX, cmpOr, cmpOr, if_pos h_, if_pos h_]⟩
          go_wp2_with fail
          go_quiet ((go_at_call 76; exact Calls.quiet_of_same (texts.calls _ _ _)))
          go_wp2
          go_ret
          exact ⟨by rw [HV.out]; rfl, pw_below_drewN HB.out _⟩
        | false =>
          have hz : txt x.f0 y.f0 = 0 := by simpa using hc
          cases hd : (txt x.f1 y.f1 != 0) with
          | true =>
            have HV : Aside0 (cmpL a b = txt x.f1 y.f1) := ⟨by
              have h_ : txt x.f1 y.f1 ≠ 0 := bne_iff_ne.1 hd
              rw [HE.out, HST.out, cmpX, cmpOr, cmpOr, hz, if_neg (show ¬ (0 : Int) ≠ 0 by simp), if_pos h_]⟩
            clear hz
            go_wp2_with fail
            go_quiet ((go_at_call 76; exact Calls.quiet_of_same (texts.calls _ _ _)))
            go_wp2_with fail
            generalize hw1 : wr.drewN nq = w1
            have HW1 : Aside0 (Below w.heap.size w w1) := ⟨hw1 ▸ pw_below_drewN HB.out _⟩
            have h1' : w1.cell? ⟨(ad.add (k * 2)).block, (ad.add (k * 2)).off + 1, none⟩ = some (.string x.f1) := hw1 ▸ h1
            have i1' : w1.cell? ⟨(bd.add (k * 2)).block, (bd.add (k * 2)).off + 1, none⟩ = some (.string y.f1) := hw1 ▸ i1
            clear hw1
            go_quiet ((go_at_call 76; exact Calls.quiet_of_same (texts.calls _ _ _)))
            go_wp2
            go_ret
            exact ⟨by rw [HV.out]; rfl, pw_below_drewN HW1.out _⟩
          | false =>
            have hy : txt x.f1 y.f1 = 0 := by simpa using hd
            have HV : Aside0 (cmpL a b = cmpL (a.drop (k + 1)) (b.drop (k + 1))) := ⟨by
              rw [HE.out, HST.out, cmpX, cmpOr, cmpOr, hz, hy, if_neg (show ¬ (0 : Int) ≠ 0 by simp), if_neg (show ¬ (0 : Int) ≠ 0 by simp)]⟩
            clear hz hy
            go_wp2_with fail
            go_quiet ((go_at_call 76; exact Calls.quiet_of_same (texts.calls _ _ _)))
            go_wp2_with fail
            generalize hw1 : wr.drewN nq = w1
            have HW1 : Aside0 (Below w.heap.size w w1) := ⟨hw1 ▸ pw_below_drewN HB.out _⟩
            have h1' : w1.cell? ⟨(ad.add (k * 2)).block, (ad.add (k * 2)).off + 1, none⟩ = some (.string x.f1) := hw1 ▸ h1
            have i1' : w1.cell? ⟨(bd.add (k * 2)).block, (bd.add (k * 2)).off + 1, none⟩ = some (.string y.f1) := hw1 ▸ i1
            clear hw1
            go_quiet ((go_at_call 76; exact Calls.quiet_of_same (texts.calls _ _ _)))
            go_wp2
            go_roundw
            case rel => exact ⟨k + 1, by omega, by go_num, HV, ⟨pw_below_drewN HW1.out _⟩⟩
            case measure => simp [intOf]; omega
      · obtain rfl : k = a.length := by omega
        have hqm := HQ.out
        by_cases hlt2 : a.length < b.length
        · have HV : Aside0 (cmpL a b = -1) := ⟨by rw [HE.out, cmpL_lt a b _ (by omega) (by omega)]⟩
          have hge : decide (a.length < b.length) = true := decide_eq_true (by omega)
          clear hqm hlt2
          go_wp2
          go_ret
          exact ⟨by rw [HV.out]; rfl, HB.out⟩
        · by_cases hlt3 : b.length < a.length
          · have HV : Aside0 (cmpL a b = 1) := ⟨by rw [HE.out, cmpL_gt a b _ (by omega) (by omega)]⟩
            have hge : decide (a.length < b.length) = false := decide_eq_false (by omega)
            have hge2 : decide (b.length < a.length) = true := decide_eq_true (by omega)
            clear hqm hlt2 hlt3
            go_wp2
            go_ret
            first | exact ⟨by rw [HV.out]; rfl, HB.out⟩ | exact absurd hba (of_decide_eq_false hge2) | exact absurd (of_decide_eq_true hge2) hba
          · have HV : Aside0 (cmpL a b = 0) := ⟨by rw [HE.out, cmpL_eq a b _ (by omega) (by omega)]⟩
            have hge : decide (a.length < b.length) = false := decide_eq_false (by omega)
            have hge2 : decide (b.length < a.length) = false := decide_eq_false (by omega)
            clear hqm hlt2 hlt3
            go_wp2
            go_ret
            first | exact ⟨by rw [HV.out]; rfl, HB.out⟩ | exact absurd hba (of_decide_eq_false hge2) | exact absurd (of_decide_eq_true hge2) hba
end Go.Proofs.YtbgmnmjokdfmlaaDoor.PA
namespace Go.Proofs.YtbgmnmjokdfmlaaDoor.PA
open Go.RowKit Go.Proofs.YtbgmnmjokdfmlaaDoor.G Go.Proofs.YtbgmnmjokdfmlaaDoorW.PrintWords Go.Proofs.YtbgmnmjokdfmlaaDoorW.PrintLast Go.Proofs.YtbgmnmjokdfmlaaDoorW.PrintMore
set_option linter.unusedVariables false
set_option linter.unusedSimpArgs false
def OU (B : Nat) (W : World) (g : Nat) (L : List Bool) : Prop := ∃ u : Value, W.heap[g]? = some (.cells #[u] 109 (0, 0)) ∧ Kd.R Kd.bool 4 W B (fun _ => True) u L
def KeepO (g : Nat) (w w' : World) : Prop := ∀ (q : Nat) (cs : Array Value) (t : Nat), q ≠ g → 4 ≠ t → w.heap[q]? = some (.cells cs t (0, 0)) → w'.heap[q]? = some (.cells cs t (0, 0))
theorem KeepO.refl (g : Nat) (w : World) : KeepO g w w := fun _ _ _ _ _ h => h
theorem KeepO.trans {g : Nat} {a b c : World} (h : KeepO g a b) (k : KeepO g b c) : KeepO g a c := fun q cs t h1 h2 h3 => k q cs t h1 h2 (h q cs t h1 h2 h3)
theorem infoBool : (Tryd.prog.info? 4).map (fun i => (i.zero, i.size, i.bytes)) = some (some (.bool false), 1, 1) := by kernel_rfl
theorem and_one (v i : Nat) (hv : v < 18446744073709551616) (hi : i ≤ 64) : (Go.bits .and .u64 ((v : Int) / 2 ^ i) 1 == 1) = v.testBit i := by
  have := one_bit v i hv hi
  rw [shr_nat .u64 v i (by simpa [IntKind.bits] using hi)] at this
  rw [← this]
  simp
set_option maxHeartbeats 4000000 in
set_option maxRecDepth 100000 in
theorem out_put.calls (B g : Nat) (L : List Bool) (v c : Nat) (w0 w : World) (hO : OU B w g L) (hB : Below B w0 w) (hgB : B ≤ g) (hv : v < 18446744073709551616) (hc : c ≤ 64) (hL : L.length ≤ 7000000) :
    Calls Tryd.prog 67 #[.pointer (some ⟨g, 0, none⟩), .int .u64 (v : Int), .int .i64 (c : Int)] w fun e w' => e = .returned (.tuple #[]) ∧ OU B w' g (L ++ low v c) ∧ Below B w0 w' ∧ KeepO g w w' := by
  obtain ⟨u, hblk, hR⟩ := hO
  have HB0 := Aside0.mk hB
  have HBK0 := Aside0.mk hblk
  have HR0 := Aside0.mk hR
  have HGB := Aside0.mk hgB
  have HV := Aside0.mk hv
  have HL := Aside0.mk hL
  have hcn : (0 : Int) ≤ (c : Int) := Int.natCast_nonneg _
  clear hB hblk hR hgB hv hL
  go_enter Tryd.func67, Tryd.ntmps67
  go_wp2_with fail
  go_loopw [6] (fun v6 wr => ∃ (I : Int) (j : Nat) (u : Value), v6 = .int .i64 I ∧ Aside0 (I = (c : Int) - 1 - (j : Int) ∧ j ≤ c) ∧ Aside0 (Kd.R Kd.bool 4 wr B (fun _ => True) u (L ++ (low v c).take j)) ∧ Aside0 (wr.heap[g]? = some (.cells #[u] 109 (0, 0))) ∧ Aside0 (Below B w0 wr) ∧ Aside0 (KeepO g w wr)) (fun i _ => (intOf i + 1).toNat)
  case atStart => exact ⟨_, 0, u, rfl, ⟨by omega, by omega⟩, ⟨by simpa using HR0.out⟩, HBK0, HB0, ⟨KeepO.refl _ _⟩⟩
  case round =>
    clear HBK0 HB0 HR0
    obtain ⟨I, j, u, rfl, HI, HO, BK, HB, HK⟩ := hrel
    by_cases hlt : 0 ≤ I
    · obtain ⟨i, rfl⟩ := Int.eq_ofNat_of_zero_le hlt
      have hi := HI.out
      have hi64 : i < 64 := by omega
      have hz0 : wr.cell? ⟨g, 0, none⟩ = some u := blk_cell BK.out 0
      have hf0 := blk_frozen BK.out 0
      have HB1 := Aside0.mk (and_one v i HV.out (by omega))
      have HST : Aside0 (L ++ (low v c).take (j + 1) = L ++ (low v c).take j ++ [v.testBit i] ∧ (L ++ (low v c).take j).length ≤ 8000000) := ⟨by
        have hj : j < (low v c).length := by rw [low_length]; omega
        rw [List.take_succ_eq_append_getElem hj, low_get v c j (by omega), show c - 1 - j = i by omega, List.append_assoc]
        refine ⟨rfl, ?_⟩
        rw [List.length_append, List.length_take, low_length]
        have := HL.out
        omega⟩
      generalize L ++ (low v c).take j = X at HO HST
      obtain ⟨A, cc, rfl⟩ := Kd.R_slice HO.out
      have hbit := HB1.out
      clear hlt hi
      go_wp2_with fail
      have HO2 := Aside0.mk (Kd.R_drew HO.out)
      have BK2 := Aside0.mk (blk_drew BK.out)
      have HB2 := Aside0.mk (below_drew1 HB.out)
      have hz3 : (wr.alloc (.cells #[.bool (v.testBit i)] 4)).cell? ⟨g, 0, none⟩ = some (.slice A X.length cc) := pw_cell_below (below_alloc (Below.refl _ _) _) hz0
      go_region_law
        ((refine Kd.R_append_step Kd.bool (w0 := w0) (W := wr.drew) B ?_ (.tmp 17) (.tmp 23) 107 4 (.bool false) 1 ?_ Tryd.underlying107 infoBool rfl (by decide) (by omega) (.slice A X.length cc) X (v.testBit i) [.bool (v.testBit i)] (fun _ => True) (fun _ => False) ?_ ?_ ?_ (fun _ hk => hk.elim) (fun _ _ => trivial) HO2.out HB2.out ?_ ?_ ?_
          · rfl
          · rfl
          · rfl
          · rfl
          · exact rfl
          · have h_ := HGB.out; have h2_ := blk_lt BK2.out; omega
          · have := HST.out.2; omega
          intro v4 w4 ho hb hg hat
          obtain ⟨A4, c4, rfl⟩ := Kd.R_slice ho
          have BK4 := Aside0.mk (blk_grown (g := g) BK2.out hg (Kd.R_ne HO2.out BK2.out (by decide)))
          have HO4 := Aside0.mk ho
          have HB4 := Aside0.mk hb
          have HG4 := Aside0.mk hg
          have hz4 := (blk_cell BK4.out 0).trans rfl
          have hf4 := blk_frozen BK4.out 0
          clear ho hb hg hat))
      all_goals
        go_wp2_with fail
        go_roundw
        case rel =>
          have hl : (X ++ [v.testBit i]).length = X.length + 1 := by simp
          have HO5 := HO4.out
          rw [hl] at HO5
          refine ⟨_, j + 1, .slice A4 (X.length + 1) c4, rfl, ⟨by have := HI.out; omega⟩, ⟨?_⟩, ⟨blk_put BK4.out 0 _ rfl⟩, ⟨HB4.out.setCell (p := ⟨g, 0, none⟩) HGB.out _⟩, ⟨fun q cs t hq ht hh => ?_⟩⟩
          · rw [HST.out.1]
            exact Kd.R_mono (Kd.R_far (p := ⟨g, 0, none⟩) (Kd.R_types HO5 BK4.out (by decide)) (fun _ hk => hk.2) _) (fun _ _ => trivial)
          · have h1 := HK.out q cs t hq ht hh
            exact blk_far (p := ⟨g, 0, none⟩) (blk_grown (blk_drew h1) HG4.out (Kd.R_ne HO2.out (blk_drew h1) ht)) hq _
        case measure => simp [intOf] <;> omega
    · have hd : decide (0 ≤ I) = false := decide_eq_false hlt
      have HJ : Aside0 (j = c) := ⟨by have := HI.out; omega⟩
      clear hlt
      go_wp2_with fail
      refine bodyPost_end (results_none rfl _ _ _) rfl ?_
      refine ⟨rfl, ⟨u, BK.out, ?_⟩, HB.out, HK.out⟩
      have := HO.out
      rwa [HJ.out, List.take_of_length_le (by rw [low_length]; omega)] at this
end Go.Proofs.YtbgmnmjokdfmlaaDoor.PA
