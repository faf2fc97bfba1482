/- The law CrcTells answers true for every bytes, place and mask: texts of one length that part in one byte alone have unlike sums. No condition; the table of crc lies as its text lays it. -/
import Derived.Test.YtmaoleabfmokpaaDoorGAwake01
namespace Go.Proofs.YtmaoleabfmokpaaDoor.G
open Go.RowKit Go.Proofs.YtmaoleabfmokpaaDoorW.PrintWords Go.Proofs.YtmaoleabfmokpaaDoorW.PrintLast Go.Proofs.YtmaoleabfmokpaaDoorW.PrintMore
set_option linter.unusedVariables false
set_option linter.unusedSimpArgs false
/-- a byte, turned -/
def turned (l : List Int) (i : Nat) (m : Int) : List Int := l.set i (Go.bits .xor .u8 (rd l (i : Int)) (Go.bits .or .u8 m 1))
theorem turned_byte (x m : Int) (hx : 0 ≤ x ∧ x < 256) (hm : 0 ≤ m ∧ m < 256) :
    0 ≤ Go.bits .xor .u8 x (Go.bits .or .u8 m 1) ∧ Go.bits .xor .u8 x (Go.bits .or .u8 m 1) < 256 ∧ Go.bits .xor .u8 x (Go.bits .or .u8 m 1) ≠ x := by
  obtain ⟨X, rfl⟩ := Int.eq_ofNat_of_zero_le hx.1
  obtain ⟨M, rfl⟩ := Int.eq_ofNat_of_zero_le hm.1
  have hX : X < 256 := by omega
  have hM : M < 256 := by omega
  rw [show (1 : Int) = ((1 : Nat) : Int) from rfl, u8_or_nat M 1 hM (by omega)]
  have h1 : M ||| 1 < 256 := Nat.or_lt_two_pow (n := 8) hM (by decide)
  rw [u8_xor_nat X (M ||| 1) hX h1]
  have h2 : X ^^^ (M ||| 1) < 256 := Nat.xor_lt_two_pow (n := 8) hX h1
  refine ⟨by omega, by omega, fun h => ?_⟩
  have h3 : X ^^^ (M ||| 1) = X := by omega
  have h4 : M ||| 1 = 0 := CrcMath.xor_lc (c := X) (by rw [h3, Nat.xor_zero])
  have h5 : (M ||| 1) % 2 = 1 := by
    rw [Nat.or_mod_two_eq_one]
    exact .inr rfl
  rw [h4] at h5
  exact absurd h5 (by decide)
theorem nat_split (l : List Int) (i : Nat) (hi : i < l.length) (y : Int) : CrcMath.nat (l.set i y) = CrcMath.nat (l.take i) ++ y.toNat :: CrcMath.nat (l.drop (i + 1)) := by
  rw [List.set_eq_take_append_cons_drop, if_pos hi]
  unfold CrcMath.nat
  rw [List.map_append, List.map_cons]
theorem set_self (l : List Int) (i : Nat) (hi : i < l.length) : l.set i (rd l (i : Int)) = l := by
  have : rd l (i : Int) = l[i] := by simp [rd, List.getD_eq_getElem?_getD, List.getElem?_eq_getElem hi]
  rw [this, List.set_getElem_self]
theorem sums_part (l : List Int) (hl : okB l = true) (i : Nat) (hi : i < l.length) (m : Int) (hm : 0 ≤ m ∧ m < 256) :
    okB (turned l i m) = true ∧ CrcMath.more 0 (turned l i m) ≠ CrcMath.more 0 l := by
  have hb := okB_iff.1 hl
  have hx := hb _ (rd_mem l i hi)
  obtain ⟨t0, t1, t2⟩ := turned_byte _ m hx hm
  refine ⟨okB_iff.2 fun y hy => ?_, fun h => ?_⟩
  · rcases List.mem_or_eq_of_mem_set hy with hy | rfl
    · exact hb y hy
    · exact ⟨t0, t1⟩
  · have h := CrcMath.inv_inj h
    have e := nat_split l i hi (rd l (i : Int))
    rw [set_self l i hi] at e
    unfold turned at h
    rw [nat_split l i hi, e] at h
    refine CrcMath.run_tells (CrcMath.inv_lt (by omega)) ?_ ?_ ?_ ?_ ?_ h
    · exact CrcMath.nat_byte fun y hy => hb y (List.mem_of_mem_take hy)
    · exact CrcMath.nat_byte fun y hy => hb y (List.mem_of_mem_drop hy)
    · omega
    · omega
    · omega
theorem sum_nil : crc_Sum.f [] = some 0 := by
  unfold crc_Sum.f
  rw [if_pos (show okB [] = true from rfl)]
  exact congrArg some (by decide +kernel)
set_option maxHeartbeats 1000000 in
set_option maxRecDepth 100000 in
theorem CrcTells.walk (A0 : Option Addr) (c0 : Nat) (l0 : List Int) (a1 a2 : Int) (w : World) (hr0 : Kd.C (Kd.int .u8) w A0 l0.length l0) (hc0 : l0.length ≤ c0) (hw0 : ∀ x ∈ l0, (Lit.int .u8 x).wf = true) (hs0 : l0.length * 1 ≤ 140737488351232)
    (w1 : (Lit.int .i64 a1).wf = true) (w2 : (Lit.int .u8 a2).wf = true) (hT : TabQ w) :
    Calls Tryd.prog 4 #[.slice A0 l0.length c0, .int .i64 a1, .int .u8 a2] w fun e w' => e = .returned (.bool true) ∧ Below w.heap.size w w' := by
  have hok := okB_wf hw0
  have hm : 0 ≤ a2 ∧ a2 < 256 := by
    simp [Lit.wf, IntKind.min, IntKind.max, IntKind.signed, IntKind.bits] at w2
    omega
  have HR := Aside0.mk hr0
  have HC := Aside0.mk hc0
  have HS := Aside0.mk hs0
  clear hr0 hc0 hw0 hs0 w1 w2
  by_cases h0 : l0.length = 0
  · obtain rfl := List.eq_nil_of_length_eq_zero h0
    clear h0 hok
    have HN := Aside0.mk sum_nil
    go_enter Tryd.func4, Tryd.ntmps4
    go_wp2_with fail
    refine (crc_Sum.calls A0 c0 [] _ _ HR.out HC.out hT HN.out).mono ?_
    rintro e w2 ⟨rfl, ⟨n2, rfl⟩⟩
    go_wp2_with fail
    refine (dryrotlaw01_awake.calls _ (hT.drewN _)).mono ?_
    rintro e w5 ⟨rfl, hB5⟩
    have HB5 := Aside0.mk hB5
    clear hB5
    go_wp2
    go_ret
    exact ⟨rfl, below_step (pw_below_drewN (Below.refl _ _) _) HB5.out⟩
  · have e0 : ((l0.length : Int) == 0) = false := beq_eq_false_iff_ne.2 (by omega)
    have hu : 0 ≤ IntKind.u64.wrap a1 := by simp [IntKind.wrap, IntKind.bits, IntKind.signed]; omega
    obtain ⟨U, hU⟩ := Int.eq_ofNat_of_zero_le hu
    clear hu
    obtain ⟨i, hi⟩ : ∃ i, U % l0.length = i := ⟨_, rfl⟩
    have hlt : i < l0.length := by rw [← hi]; exact Nat.mod_lt _ (by omega)
    have HI := Aside0.mk hi
    obtain ⟨tb, tn⟩ := sums_part l0 hok i hlt a2 hm
    have HSP := Aside0.mk tn
    have HTB := Aside0.mk tb
    have HOK := Aside0.mk hok
    clear tb tn hok hi
    go_enter Tryd.func4, Tryd.ntmps4
    go_wp2_with fail
    refine (bytes_Clone.calls _ _ _ _ _ HR.out HC.out (show bytes_Clone.f l0 = some l0 from if_pos (by have := HS.out; omega))).mono ?_
    rintro e w1 ⟨v1, rfl, hR1, hB1⟩
    obtain ⟨g, c1, rfl, hg1, _, _⟩ := Kd.R_form hR1 (by omega)
    obtain ⟨hc, hf⟩ := Kd.R_celln 0 hR1 (i : Int) (by omega) (by omega)
    have hc : w1.cell? ⟨g, (i : Int).toNat, none⟩ = some (.int .u8 (rd l0 (i : Int))) := hc
    obtain ⟨Y, hY⟩ : ∃ Y, Go.bits .xor .u8 (rd l0 (i : Int)) (Go.bits .or .u8 a2 1) = Y := ⟨_, rfl⟩
    have hP := Kd.R_putg hR1 (i : Int) Y
    rw [Int.toNat_natCast] at hc hf hP
    have ht : turned l0 i a2 = l0.set i Y := by rw [← hY]; rfl
    rw [ht] at HSP HTB
    clear ht
    obtain ⟨A2, c2, e2, hl2, hC2⟩ := Kd.R_reads hP.1
    have e2' : A2 = some ⟨g, 0, none⟩ ∧ c2 = c1 := by
      injection e2 with h1 _ h2
      exact ⟨h1.symm, h2.symm⟩
    obtain ⟨rfl, rfl⟩ := e2'
    clear e2
    rw [List.length_set] at hC2 hl2
    have HC2 := Aside0.mk hC2
    have HL2 := Aside0.mk hl2
    have HP2 := Aside0.mk hP.2
    have hs1 : crc_Sum.f (l0.set i Y) = some ((CrcMath.more 0 (l0.set i Y) : Nat) : Int) := if_pos HTB.out
    have hs2 : crc_Sum.f l0 = some ((CrcMath.more 0 l0 : Nat) : Int) := if_pos HOK.out
    have hne := HSP.out
    generalize CrcMath.more 0 (l0.set i Y) = S1 at hs1 hne
    generalize CrcMath.more 0 l0 = S2 at hs2 hne
    have HS1 := Aside0.mk hs1
    have HS2 := Aside0.mk hs2
    have hne : ((S1 : Int) != (S2 : Int)) = true := by rw [bne_iff_ne]; omega
    clear hP hC2 hl2 hs1 hs2
    have hlen : (l0.length : Int) ≤ 140737488351232 := by have := HS.out; omega
    have hmod : (U : Int) % (l0.length : Int) = (i : Int) := by rw [← HI.out]; simp
    have hw : IntKind.u64.wrap (l0.length : Int) = (l0.length : Int) := by
      simp [IntKind.wrap, IntKind.bits, IntKind.signed]; omega
    have hT1 := hT.below hB1
    have HB1 := Aside0.mk hB1
    have HG := Aside0.mk hg1
    have hi0 : (0 : Int) ≤ (i : Int) := by omega
    have hi1 : (i : Int) < (l0.length : Int) := by omega
    have hTw := Aside0.mk hT
    clear hR1 hB1 hg1 hT
    go_wp2_with fail
    have hB2 := below_set (j := i) (v := .int .u8 Y) HB1.out HG.out
    have hT2 : TabQ (w1.setCell ⟨g, i, none⟩ (.int .u8 Y)) := by
      refine ⟨fun j hj => ?_⟩
      rw [cell_far]
      · exact hT1.out j hj
      · show 0 ≠ g
        have h0 := World.block_lt_of_cell? w _ (hTw.out.out 0 (by omega))
        have := HG.out
        simp at h0
        omega
    have HR2 := Aside0.mk (Kd.C_below HR.out hB2)
    have HB2 := Aside0.mk hB2
    clear hB2
    refine (crc_Sum.calls_at _ _ _ _ _ List.length_set HC2.out HL2.out hT2 HS1.out).mono ?_
    rintro e w2 ⟨rfl, ⟨n2, rfl⟩⟩
    go_wp2_with fail
    refine (crc_Sum.calls _ _ _ _ _ (Kd.C_drewN HR2.out n2) HC.out (hT2.drewN _) HS2.out).mono ?_
    rintro e w3 ⟨rfl, ⟨n3, rfl⟩⟩
    go_wp2
    go_ret
    exact ⟨rfl, pw_below_drewN HB2.out _⟩
end Go.Proofs.YtmaoleabfmokpaaDoor.G
