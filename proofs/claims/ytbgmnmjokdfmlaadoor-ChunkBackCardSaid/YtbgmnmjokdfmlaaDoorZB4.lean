/- Lemmas and contracts that the law ChunkBack leans on (packed by a program of this session out of its texts and the print's words). -/
import Derived.Test.YtbgmnmjokdfmlaaDoorZB3
import Derived.Deep.RegionLaw
import Derived.Test.YtbgmnmjokdfmlaaDoorZB2
import Derived.Deep.RegionHeld3
namespace Go.Proofs.YtbgmnmjokdfmlaaDoor.PA
open Go.RowKit Go.Proofs.YtbgmnmjokdfmlaaDoor.G Go.Proofs.YtbgmnmjokdfmlaaDoorW.PrintWords Go.Proofs.YtbgmnmjokdfmlaaDoorW.PrintLast Go.Proofs.YtbgmnmjokdfmlaaDoorW.PrintMore
set_option linter.unusedVariables false
set_option linter.unusedSimpArgs false
theorem pack_put.calls_at (g : Nat) (L : List Bool) (V C : Int) (v c : Nat) (w : World) (hP : PK w g L) (hV : V = (v : Int)) (hC : C = (c : Int)) (hv : v < 18446744073709551616) (hc : c ≤ 64) (hL : L.length ≤ 7000000) :
    Calls Tryd.prog 63 #[.pointer (some ⟨g, 0, none⟩), .int .u64 V, .int .i64 C] w fun e w' => e = .returned (.tuple #[]) ∧ PK w' g (L ++ low v c) ∧ KeepBut w w' g none ∧ w'.os = w.os ∧ w'.tape = w.tape ∧ w'.output = w.output := by
  subst hV hC
  exact pack_put.calls g L v c w hP hv hc hL
def hiZ (x : Nat) : Nat := 64 - Lib.bitLen x
def loZ (x : Nat) : Nat := Lib.ctz 64 x
def wdZ (x : Nat) : Nat := Lib.bitLen x - Lib.ctz 64 x
def xorBits (x : Nat) : List Bool := if x = 0 then low 0 1 else low 1 1 ++ low (hiZ x * 64 + (wdZ x - 1)) 12 ++ low (x / 2 ^ loZ x) (wdZ x)
theorem lz.calls' (x : Nat) (w : World) (h1 : x < 18446744073709551616) :
    Calls Tryd.prog 95 #[.int .u64 x] w fun e w' => e = .returned (.int .i64 (hiZ x : Nat)) ∧ w' = w := lz.calls x w h1
theorem tz.calls' (x : Nat) (hx : x < 18446744073709551616) (w : World) (hT : TabZ w) :
    Calls Tryd.prog 96 #[.int .u64 x] w fun e w' => e = .returned (.int .i64 (loZ x : Nat)) ∧ w' = w := tz.calls x hx w hT
theorem zs {x : Nat} (hx : x < 18446744073709551616) (h0 : x ≠ 0) : loZ x < Lib.bitLen x ∧ Lib.bitLen x ≤ 64 := by
  obtain ⟨_, hk⟩ := Lib.lowest_bit 64 x h0 hx
  refine ⟨?_, Lib.bitLen_le x 64 (by decide) hx⟩
  unfold loZ
  have hc : Lib.ctz 64 x = Lib.ctzFrom 64 x := by unfold Lib.ctz; rw [if_neg h0]
  obtain ⟨m, hm, _⟩ := Lib.ctzFrom_spec 64 x (by omega) hx
  rw [← hc] at hm
  have hp : 2 ^ Lib.ctz 64 x ≤ x := by
    conv => rhs; rw [hm]
    exact Nat.le_mul_of_pos_right _ (by omega)
  have h1 := Lib.bitLen_shift (Lib.ctz 64 x) x hp hx
  have h2 : x / 2 ^ Lib.ctz 64 x ≠ 0 := by
    have := Nat.div_pos hp (Nat.two_pow_pos _)
    omega
  have h3 := Lib.bitLen_half (x / 2 ^ Lib.ctz 64 x) h2 (Nat.lt_of_le_of_lt (Nat.div_le_self _ _) hx)
  omega
theorem or_add {H S D : Nat} (hs : H + S + D = 64) (hd : 1 ≤ D) (hh : H < 64) : Go.bits .or .u64 ((H : Int) * 64) (64 - (H : Int) - (S : Int) - 1) = ((H * 64 + (D - 1) : Nat) : Int) := by
  have e1 : (64 - (H : Int) - (S : Int) - 1) = ((D - 1 : Nat) : Int) := by omega
  have e2 : (H : Int) * 64 = ((H * 64 : Nat) : Int) := by omega
  rw [e1, e2, u64_or_nat (H * 64) (D - 1) (by omega) (by omega)]
  have := Nat.shiftLeft_add_eq_or_of_lt (a := H) (b := D - 1) (i := 6) (by omega)
  rw [Nat.shiftLeft_eq] at this
  rw [← this]
set_option maxHeartbeats 2000000 in
set_option maxRecDepth 100000 in
theorem pack_value.calls (g : Nat) (L : List Bool) (x : Nat) (w : World) (hP : PK w g L) (hx : x < 18446744073709551616) (hL : L.length ≤ 6000000) (hT : TabZ w) :
    Calls Tryd.prog 65 #[.pointer (some ⟨g, 0, none⟩), .int .u64 (x : Int)] w fun e w' => e = .returned (.tuple #[]) ∧ PK w' g (L ++ xorBits x) ∧ KeepBut w w' g none ∧ w'.os = w.os ∧ w'.tape = w.tape ∧ w'.output = w.output := by
  have HP := Aside0.mk hP
  have HT := Aside0.mk hT
  have HL := Aside0.mk hL
  clear hP hT hL
  by_cases h0 : x = 0
  · have hb : ((x : Int) == 0) = true := beq_iff_eq.2 (by omega)
    have HX : Aside0 (xorBits x = low 0 1) := ⟨by rw [xorBits, if_pos h0]⟩
    clear h0
    go_enter Tryd.func65, Tryd.ntmps65
    go_wp2_with (go_at_call 63; refine (pack_put.calls_at g L 0 1 0 1 _ HP.out rfl rfl (by decide) (by decide) (by have := HL.out; omega)).mono ?_; rintro e w1 ⟨rfl, hp, hk, ho, ht, hu⟩; have HP1 := Aside0.mk hp; have HK1 := Aside0.mk hk; have HO1 := Aside0.mk (And.intro ho (And.intro ht hu)); clear hp hk ho ht hu)
    refine bodyPost_ret (results_none rfl _ _ _) rfl ?_
    exact ⟨rfl, by rw [HX.out]; exact HP1.out, HK1.out, HO1.out⟩
  · have hb : ((x : Int) == 0) = false := beq_eq_false_iff_ne.2 (by omega)
    obtain ⟨z1, z2⟩ := zs hx h0
    obtain ⟨H, hH⟩ : ∃ H, hiZ x = H := ⟨_, rfl⟩
    obtain ⟨S, hS⟩ : ∃ S, loZ x = S := ⟨_, rfl⟩
    obtain ⟨D, hD⟩ : ∃ D, wdZ x = D := ⟨_, rfl⟩
    have hs : H + S + D = 64 := by rw [← hH, ← hS, ← hD]; unfold hiZ loZ wdZ; unfold loZ at z1; omega
    have hd : 1 ≤ D := by rw [← hD]; unfold wdZ; unfold loZ at z1; omega
    have HX : Aside0 (xorBits x = low 1 1 ++ low (H * 64 + (D - 1)) 12 ++ low (x / 2 ^ S) D) := ⟨by rw [xorBits, if_neg h0, hH, hS, hD]⟩
    have HLZ := Aside0.mk (fun W => hH ▸ lz.calls' x W hx)
    have HTZ := Aside0.mk (fun W (h : TabZ W) => hS ▸ tz.calls' x hx W h)
    clear h0 z1 z2 hH hS hD
    have CA := Aside0.mk (fun W (h : PK W g L) => pack_put.calls_at g L 1 1 1 1 W h rfl rfl (by decide) (by decide) (by have := HL.out; omega))
    have hor : Go.bits .or .u64 ((H : Int) * 64) (64 - (H : Int) - (S : Int) - 1) = ((H * 64 + (D - 1) : Nat) : Int) := or_add (by omega) (by omega) (by omega)
    have CB := Aside0.mk (fun W (h : PK W g (L ++ low 1 1)) => pack_put.calls_at g (L ++ low 1 1) (Go.bits .or .u64 ((H : Int) * 64) (64 - (H : Int) - (S : Int) - 1)) 12 (H * 64 + (D - 1)) 12 W h hor rfl (by omega) (by decide) (by have := HL.out; simp; omega))
    clear hor
    have hsh : (x : Int) / 2 ^ S = ((x / 2 ^ S : Nat) : Int) := by simp
    have CD := Aside0.mk (fun W (h : PK W g (L ++ low 1 1 ++ low (H * 64 + (D - 1)) 12)) => pack_put.calls_at g (L ++ low 1 1 ++ low (H * 64 + (D - 1)) 12) ((x : Int) / 2 ^ S) (64 - (H : Int) - (S : Int)) (x / 2 ^ S) D W h hsh (by omega) (Nat.lt_of_le_of_lt (Nat.div_le_self _ _) hx) (by omega) (by have := HL.out; simp; omega))
    clear hsh
    go_enter Tryd.func65, Tryd.ntmps65
    go_wp2_with (first
      | (go_at_call 95; refine (HLZ.out _).mono ?_; rintro e wa ⟨rfl, hw⟩; rw [hw]; clear hw wa)
      | (go_at_call 96; refine (HTZ.out _ HT.out).mono ?_; rintro e wa ⟨rfl, hw⟩; rw [hw]; clear hw wa)
      | (go_at_call 63; (with_reducible refine (CA.out _ HP.out).mono ?_); rintro e w1 ⟨rfl, hp, hk, ho, ht, hu⟩; have HP1 := Aside0.mk hp; have HK1 := Aside0.mk hk; have HO1 := Aside0.mk (And.intro ho (And.intro ht hu)); clear hp hk ho ht hu)
      | (go_at_call 63; (with_reducible refine (CB.out _ HP1.out).mono ?_); rintro e w2 ⟨rfl, hp, hk, ho, ht, hu⟩; have HP2 := Aside0.mk hp; have HK2 := Aside0.mk (HK1.out.trans hk (.inl rfl)); have HO2 := Aside0.mk (And.intro (ho.trans HO1.out.1) (And.intro (ht.trans HO1.out.2.1) (hu.trans HO1.out.2.2))); clear hp hk ho ht hu)
      | (go_at_call 63; (with_reducible refine (CD.out _ HP2.out).mono ?_); rintro e w3 ⟨rfl, hp, hk, ho, ht, hu⟩; have HP3 := Aside0.mk hp; have HK3 := Aside0.mk (HK2.out.trans hk (.inl rfl)); have HO3 := Aside0.mk (And.intro (ho.trans HO2.out.1) (And.intro (ht.trans HO2.out.2.1) (hu.trans HO2.out.2.2))); clear hp hk ho ht hu))
    refine bodyPost_end (results_none rfl _ _ _) rfl ?_
    exact ⟨rfl, by rw [HX.out, ← List.append_assoc, ← List.append_assoc]; exact HP3.out, HK3.out, HO3.out⟩
end Go.Proofs.YtbgmnmjokdfmlaaDoor.PA
namespace Go.Proofs.YtbgmnmjokdfmlaaDoor.PA
open Go.RowKit Go.Proofs.YtbgmnmjokdfmlaaDoor.G Go.Proofs.YtbgmnmjokdfmlaaDoorW.PrintWords Go.Proofs.YtbgmnmjokdfmlaaDoorW.PrintLast Go.Proofs.YtbgmnmjokdfmlaaDoorW.PrintMore
set_option linter.unusedVariables false
set_option linter.unusedSimpArgs false
def OU (B : Nat) (W : World) (g : Nat) (L : List Bool) : Prop := ∃ u : Value, W.heap[g]? = some (.cells #[u] 109 (0, 0)) ∧ Kd.R Kd.bool 4 W B (fun _ => True) u L
def KeepO (g : Nat) (w w' : World) : Prop := ∀ (q : Nat) (cs : Array Value) (t : Nat), q ≠ g → 4 ≠ t → w.heap[q]? = some (.cells cs t (0, 0)) → w'.heap[q]? = some (.cells cs t (0, 0))
theorem KeepO.refl (g : Nat) (w : World) : KeepO g w w := fun _ _ _ _ _ h => h
theorem KeepO.trans {g : Nat} {a b c : World} (h : KeepO g a b) (k : KeepO g b c) : KeepO g a c := fun q cs t h1 h2 h3 => k q cs t h1 h2 (h q cs t h1 h2 h3)
theorem infoBool : (Tryd.prog.info? 4).map (fun i => (i.zero, i.size, i.bytes)) = some (some (.bool false), 1, 1) := by kernel_rfl
theorem and_one (v i : Nat) (hv : v < 18446744073709551616) (hi : i ≤ 64) : (Go.bits .and .u64 ((v : Int) / 2 ^ i) 1 == 1) = v.testBit i := by
  have := one_bit v i hv hi
  rw [shr_nat .u64 v i (by simpa [IntKind.bits] using hi)] at this
  rw [← this]
  simp
set_option maxHeartbeats 4000000 in
set_option maxRecDepth 100000 in
theorem out_put.calls (B g : Nat) (L : List Bool) (v c : Nat) (w0 w : World) (hO : OU B w g L) (hB : Below B w0 w) (hgB : B ≤ g) (hv : v < 18446744073709551616) (hc : c ≤ 64) (hL : L.length ≤ 7000000) :
    Calls Tryd.prog 67 #[.pointer (some ⟨g, 0, none⟩), .int .u64 (v : Int), .int .i64 (c : Int)] w fun e w' => e = .returned (.tuple #[]) ∧ OU B w' g (L ++ low v c) ∧ Below B w0 w' ∧ KeepO g w w' := by
  obtain ⟨u, hblk, hR⟩ := hO
  have HB0 := Aside0.mk hB
  have HBK0 := Aside0.mk hblk
  have HR0 := Aside0.mk hR
  have HGB := Aside0.mk hgB
  have HV := Aside0.mk hv
  have HL := Aside0.mk hL
  have hcn : (0 : Int) ≤ (c : Int) := Int.natCast_nonneg _
  clear hB hblk hR hgB hv hL
  go_enter Tryd.func67, Tryd.ntmps67
  go_wp2_with fail
  go_loopw [6] (fun v6 wr => ∃ (I : Int) (j : Nat) (u : Value), v6 = .int .i64 I ∧ Aside0 (I = (c : Int) - 1 - (j : Int) ∧ j ≤ c) ∧ Aside0 (Kd.R Kd.bool 4 wr B (fun _ => True) u (L ++ (low v c).take j)) ∧ Aside0 (wr.heap[g]? = some (.cells #[u] 109 (0, 0))) ∧ Aside0 (Below B w0 wr) ∧ Aside0 (KeepO g w wr)) (fun i _ => (intOf i + 1).toNat)
  case atStart => exact ⟨_, 0, u, rfl, ⟨by omega, by omega⟩, ⟨by simpa using HR0.out⟩, HBK0, HB0, ⟨KeepO.refl _ _⟩⟩
  case round =>
    clear HBK0 HB0 HR0
    obtain ⟨I, j, u, rfl, HI, HO, BK, HB, HK⟩ := hrel
    by_cases hlt : 0 ≤ I
    · obtain ⟨i, rfl⟩ := Int.eq_ofNat_of_zero_le hlt
      have hi := HI.out
      have hi64 : i < 64 := by omega
      have hz0 : wr.cell? ⟨g, 0, none⟩ = some u := blk_cell BK.out 0
      have hf0 := blk_frozen BK.out 0
      have HB1 := Aside0.mk (and_one v i HV.out (by omega))
      have HST : Aside0 (L ++ (low v c).take (j + 1) = L ++ (low v c).take j ++ [v.testBit i] ∧ (L ++ (low v c).take j).length ≤ 8000000) := ⟨by
        have hj : j < (low v c).length := by rw [low_length]; omega
        rw [List.take_succ_eq_append_getElem hj, low_get v c j (by omega), show c - 1 - j = i by omega, List.append_assoc]
        refine ⟨rfl, ?_⟩
        rw [List.length_append, List.length_take, low_length]
        have := HL.out
        omega⟩
      generalize L ++ (low v c).take j = X at HO HST
      obtain ⟨A, cc, rfl⟩ := Kd.R_slice HO.out
      have hbit := HB1.out
      clear hlt hi
      go_wp2_with fail
      have HO2 := Aside0.mk (Kd.R_drew HO.out)
      have BK2 := Aside0.mk (blk_drew BK.out)
      have HB2 := Aside0.mk (below_drew1 HB.out)
      have hz3 : (wr.alloc (.cells #[.bool (v.testBit i)] 4)).cell? ⟨g, 0, none⟩ = some (.slice A X.length cc) := pw_cell_below (below_alloc (Below.refl _ _) _) hz0
      go_region_law
        ((refine Kd.R_append_step Kd.bool (w0 := w0) (W := wr.drew) B ?_ (.tmp 17) (.tmp 23) 107 4 (.bool false) 1 ?_ Tryd.underlying107 infoBool rfl (by decide) (by omega) (.slice A X.length cc) X (v.testBit i) [.bool (v.testBit i)] (fun _ => True) (fun _ => False) ?_ ?_ ?_ (fun _ hk => hk.elim) (fun _ _ => trivial) HO2.out HB2.out ?_ ?_ ?_
          · rfl
          · rfl
          · rfl
          · rfl
          · exact rfl
          · have h_ := HGB.out; have h2_ := blk_lt BK2.out; omega
          · have := HST.out.2; omega
          intro v4 w4 ho hb hg hat
          obtain ⟨A4, c4, rfl⟩ := Kd.R_slice ho
          have BK4 := Aside0.mk (blk_grown (g := g) BK2.out hg (Kd.R_ne HO2.out BK2.out (by decide)))
          have HO4 := Aside0.mk ho
          have HB4 := Aside0.mk hb
          have HG4 := Aside0.mk hg
          have hz4 := (blk_cell BK4.out 0).trans rfl
          have hf4 := blk_frozen BK4.out 0
          clear ho hb hg hat))
      all_goals
        go_wp2_with fail
        go_roundw
        case rel =>
          have hl : (X ++ [v.testBit i]).length = X.length + 1 := by simp
          have HO5 := HO4.out
          rw [hl] at HO5
          refine ⟨_, j + 1, .slice A4 (X.length + 1) c4, rfl, ⟨by have := HI.out; omega⟩, ⟨?_⟩, ⟨blk_put BK4.out 0 _ rfl⟩, ⟨HB4.out.setCell (p := ⟨g, 0, none⟩) HGB.out _⟩, ⟨fun q cs t hq ht hh => ?_⟩⟩
          · rw [HST.out.1]
            exact Kd.R_mono (Kd.R_far (p := ⟨g, 0, none⟩) (Kd.R_types HO5 BK4.out (by decide)) (fun _ hk => hk.2) _) (fun _ _ => trivial)
          · have h1 := HK.out q cs t hq ht hh
            exact blk_far (p := ⟨g, 0, none⟩) (blk_grown (blk_drew h1) HG4.out (Kd.R_ne HO2.out (blk_drew h1) ht)) hq _
        case measure => simp [intOf] <;> omega
    · have hd : decide (0 ≤ I) = false := decide_eq_false hlt
      have HJ : Aside0 (j = c) := ⟨by have := HI.out; omega⟩
      clear hlt
      go_wp2_with fail
      refine bodyPost_end (results_none rfl _ _ _) rfl ?_
      refine ⟨rfl, ⟨u, BK.out, ?_⟩, HB.out, HK.out⟩
      have := HO.out
      rwa [HJ.out, List.take_of_length_le (by rw [low_length]; omega)] at this
end Go.Proofs.YtbgmnmjokdfmlaaDoor.PA
namespace Go.Proofs.YtbgmnmjokdfmlaaDoor.G
open Go.RowKit Go.Proofs.YtbgmnmjokdfmlaaDoorW.PrintWords Go.Proofs.YtbgmnmjokdfmlaaDoorW.PrintLast Go.Proofs.YtbgmnmjokdfmlaaDoorW.PrintMore
set_option linter.unusedVariables false
set_option linter.unusedSimpArgs false
attribute [local go_sem] max2_int min2_int max_two min_two
def crc_Put.f (a0 a1 : Int) : Option (List Int) := if 0 ≤ a0 ∧ a0 < 18446744073709551616 then some (beL a0.toNat (wid a1)) else none
theorem crc_Put.step {N m k : Nat} (hk : k < m) : (List.replicate (m - k) (0 : Int) ++ beL N k).set (m - 1 - k) ((N / 256 ^ k % 256 : Nat) : Int) = List.replicate (m - (k + 1)) 0 ++ beL N (k + 1) := by
  obtain ⟨d, rfl⟩ : ∃ d, m = k + 1 + d := ⟨m - (k + 1), by omega⟩
  rw [show k + 1 + d - k = d + 1 from by omega, show k + 1 + d - 1 - k = d from by omega, show k + 1 + d - (k + 1) = d from by omega, set_at]
  rfl
theorem shr_byte (N : Nat) (k : Nat) : ((N : Int) / 2 ^ (8 * k)) % 256 = ((N / 256 ^ k % 256 : Nat) : Int) := by
  have h : (2 : Int) ^ (8 * k) = ((256 ^ k : Nat) : Int) := by
    rw [Int.pow_mul]
    simp
  rw [h, ← Int.natCast_ediv]
  rfl
set_option maxHeartbeats 800000 in
set_option maxRecDepth 100000 in
theorem crc_Put.calls (a0 a1 : Int) (r : List Int) (w : World) (h : crc_Put.f a0 a1 = some r) :
    Calls Tryd.prog 34 #[.int .u64 a0, .int .i64 a1] w fun e w' => ∃ v0_ : Value, e = .returned (v0_) ∧ Kd.R (Kd.int .u8) 5 w' w.heap.size (fun _ => True) v0_ r ∧ Below w.heap.size w w' := by
  unfold crc_Put.f at h
  split at h
  case isFalse => cases h
  case isTrue hN =>
    obtain rfl := Option.some.inj h
    clear h
    obtain ⟨N, rfl⟩ := Int.eq_ofNat_of_zero_le hN.1
    rw [Int.toNat_natCast]
    obtain ⟨j, hj⟩ : ∃ j : Int, (if a1 < 0 then 0 else a1) = j := ⟨_, rfl⟩
    obtain ⟨m, hm8, hm, hw⟩ : ∃ m : Nat, m ≤ 8 ∧ (if 8 < j then 8 else j) = (m : Int) ∧ wid a1 = m := ⟨wid a1, wid_le _, by unfold wid; split at hj <;> split <;> omega, rfl⟩
    rw [hw]
    clear hw
    have hm0 : (m : Int) ≤ 8 := by omega
    go_enter Tryd.func34, Tryd.ntmps34
    go_wp2_with ((with_reducible refine gate_dst (N := 10) rfl ?_); refine Kd.R_make (Kd.int .u8) _ 5 rfl (N := 10) rfl 22 _ _ rfl (m : Int) rfl rfl Tryd.underlying22 (.int .u8 0) 1 infoU8 rfl (by decide) (by omega) 0 (ok := fun _ => True) (okp := fun _ => True) rfl (fun _ hk => hk) trivial (by omega) (by omega) (Below.refl _ _) (Nat.le_refl _) ?_; intro v103 w7 ho8 hb hg_ hnew_; rw [Int.toNat_natCast] at ho8; obtain ⟨g, c9, e9, hgb⟩ := made_form ho8 hnew_; rw [List.length_replicate] at e9; subst e9; have HO := Aside0.mk ho8; have HB := Aside0.mk hb; clear ho8 hb hg_ hnew_)
    go_loopw [13] (fun i wr => ∃ k : Nat, k ≤ m ∧ i = .int .i64 k ∧ Aside0 (Kd.R (Kd.int .u8) 5 wr w.heap.size (fun _ => True) (.slice (some ⟨g, 0, none⟩) m c9) (List.replicate (m - k) 0 ++ beL N k)) ∧ Aside0 (Below w.heap.size w wr)) (fun i _ => m - (intOf i).toNat)
    case atStart => exact ⟨0, Nat.zero_le _, rfl, ⟨by simpa [beL] using HO.out⟩, HB⟩
    case round =>
      clear HO HB
      obtain ⟨k, hk, rfl, HO, HB⟩ := hrel
      by_cases hlt : k < m
      · have e1 : ((m : Int) - 1 - (k : Int)) = ((m - 1 - k : Nat) : Int) := by omega
        obtain ⟨hc, hf⟩ := Kd.R_celln 0 HO.out ((m - 1 - k : Nat) : Int) (by omega) (by omega)
        have HP := Aside0.mk (Kd.R_putg HO.out ((m - 1 - k : Nat) : Int) ((N / 256 ^ k % 256 : Nat) : Int))
        rw [Int.toNat_natCast] at hc hf HP
        have HS := Aside0.mk (crc_Put.step (N := N) hlt)
        have HV := Aside0.mk (shr_byte N k)
        go_wp2
        go_roundw
        case rel =>
          refine ⟨k + 1, by omega, by go_num, ⟨?_⟩, ⟨?_⟩⟩
          · rw [HV.out, ← HS.out]
            exact HP.out.1
          · exact below_set HB.out (by omega)
        case measure => simp [intOf]; omega
      · obtain rfl : k = m := by omega
        go_wp2
        go_ret
        exact ⟨_, rfl, by simpa using HO.out, HB.out⟩
end Go.Proofs.YtbgmnmjokdfmlaaDoor.G
namespace Go.Proofs.YtbgmnmjokdfmlaaDoor.PA
open Go.RowKit Go.Proofs.YtbgmnmjokdfmlaaDoorW.PrintWords Go.Proofs.YtbgmnmjokdfmlaaDoorW.PrintLast Go.Proofs.YtbgmnmjokdfmlaaDoorW.PrintMore
attribute [local go_sem] max2_int min2_int max_two min_two max_three min_three max_four min_four   -- for this text's walks alone
set_option linter.unusedVariables false
set_option linter.unusedSimpArgs false
def codec_Can.l0 : Nat → List (S54) → Int → Option (Bool)
  | 0, _, _ => none
  | k + 1, x0, x3 => if x3 < (x0.length : Int) then (if 0 ≤ x3 then (if 0 ≤ (wrap64 (x3 - 1)) then (if (wrap64 (x3 - 1)) < (x0.length : Int) then (if ((rd_T54 x0 x3).f0) ≤ ((rd_T54 x0 (wrap64 (x3 - 1))).f0) then (some false) else (codec_Can.l0 k x0 (wrap64 (x3 + 1)))) else (none)) else (none)) else (none)) else (some (decide ((x0.length : Int) ≤ 65535)))
def codec_Can.f (k : Nat) (l0 : List (S54)) : Option (Bool) := codec_Can.l0 k l0 1
theorem codec_Can.mono_l : ∀ k, (∀ y0 y1, LeO (codec_Can.l0 k y0 y1) (codec_Can.l0 (k + 1) y0 y1))
  | 0 => fun _ _ r h => by simp [codec_Can.l0] at h
  | k + 1 => by
    have ih0 := codec_Can.mono_l k
    · intro y0 y1
      unfold codec_Can.l0
      repeat' first
      | (with_reducible exact ih0 _ _)
      | (with_reducible exact LeO.refl _)
      | (with_reducible exact LeO.none _)
      | (with_reducible refine LeO.ite ?_ ?_)
      | (with_reducible refine LeO.bind ?_ (fun _ => ?_))
      | exact ih0 _ _
      | exact LeO.none _
      | refine LeO.ite ?_ ?_
      | refine LeO.bind ?_ (fun _ => ?_)
theorem codec_Can.mono : ∀ a0 k, LeO (codec_Can.f k a0) (codec_Can.f (k + 1) a0) := by
  intro a0 k
  have ih0 := codec_Can.mono_l k
  unfold codec_Can.f
  repeat' first
      | (with_reducible exact ih0 _ _)
      | (with_reducible exact LeO.refl _)
      | (with_reducible exact LeO.none _)
      | (with_reducible refine LeO.ite ?_ ?_)
      | (with_reducible refine LeO.bind ?_ (fun _ => ?_))
      | exact ih0 _ _
      | exact LeO.none _
      | refine LeO.ite ?_ ?_
      | refine LeO.bind ?_ (fun _ => ?_)
set_option maxHeartbeats 8000000 in
set_option maxRecDepth 100000 in
theorem codec_Can.calls (k : Nat) (A0 : Option Addr) (c0 : Nat) (l0 : List (S54)) (r : Bool) (w : World) (hr0 : Kd.C k54 w A0 l0.length l0) (hc0 : l0.length ≤ c0) (h : codec_Can.f k l0 = some r) :
    Calls Tryd.prog 39 #[.slice A0 l0.length c0] w fun e w' => e = .returned (.bool r) ∧ Drawn0 w w' := by
  have HR0 := Aside0.mk hr0
  have HC0 := Aside0.mk hc0
  clear hr0 hc0
  have H : (codec_Can.l0 k l0 1) = some r := h
  clear h
  have H' := Aside0.mk H
  clear H
  go_enter Tryd.func39, Tryd.ntmps39
  go_wp2
  repeat (go_quiet (fail); try go_wp2)
  go_loopg [3] k (fun kq v3 w' => ∃ (x3_1 : Int), v3 = .int .i64 x3_1 ∧ Aside0 (codec_Can.l0 kq l0 x3_1 = some r) ∧ Aside0 (kq ≤ k) ∧ Drawn0 w w')
  case atStart => exact ⟨(1), (by first | rfl | (simp; done) | (simp [*]; done)), H', ⟨Nat.le_refl _⟩, by repeat (first | exact Drawn0.refl _ | apply Drawn0.step)⟩
  case round =>
    clear H'
    obtain ⟨x3_1, rfl, HA, HK1, ⟨m1, rfl⟩⟩ := hrel
    cases gk with
    | zero => exact absurd HA.out (by simp [codec_Can.l0])
    | succ k1 =>
      have H := HA.out
      clear HA
      simp only [codec_Can.l0] at H
      by_cases c2 : x3_1 < (l0.length : Int)
      · rw [if_pos c2] at H
        have c2b0 : decide (x3_1 < (l0.length : Int)) = true := decide_eq_true c2
        clear c2
        by_cases c3 : 0 ≤ x3_1
        · rw [if_pos c3] at H
          have c3b0 : decide (0 ≤ x3_1) = true := decide_eq_true c3
          clear c3
          obtain ⟨ji4, hji4⟩ : ∃ j_ : Int, (wrap64 (x3_1 - 1)) = j_ := ⟨_, rfl⟩
          replace H : (if 0 ≤ (ji4) then (if (ji4) < (l0.length : Int) then (if ((rd_T54 l0 x3_1).f0) ≤ ((rd_T54 l0 (ji4)).f0) then (some false) else (codec_Can.l0 k1 l0 (wrap64 (x3_1 + 1)))) else (none)) else (none)) = some r := by first | (rw [hji4] at H; exact H) | (simp only [hji4] at H ⊢; exact H)
          have hji4w : (IntKind.i64.wrap (x3_1 - 1)) = ji4 := (i64_w _).trans hji4
          by_cases c5 : 0 ≤ (ji4)
          · rw [if_pos c5] at H
            have c5b0 : decide (0 ≤ (ji4)) = true := decide_eq_true c5
            clear c5
            by_cases c6 : (ji4) < (l0.length : Int)
            · rw [if_pos c6] at H
              have c6b0 : decide ((ji4) < (l0.length : Int)) = true := decide_eq_true c6
              clear c6
              by_cases c7 : ((rd_T54 l0 x3_1).f0) ≤ ((rd_T54 l0 (ji4)).f0)
              · rw [if_pos c7] at H
                have c7b0 : decide (((rd_T54 l0 x3_1).f0) ≤ ((rd_T54 l0 (ji4)).f0)) = true := decide_eq_true c7
                clear c7
                obtain rfl := Option.some.inj H
                have p111 : 0 ≤ (x3_1 : Int) := of_decide_eq_true (by first | (with_reducible assumption) | assumption)
                have q111 : x3_1 < (l0.length : Int) := of_decide_eq_true (by first | (with_reducible assumption) | assumption)
                obtain ⟨ad111, e111, hx111_0, hx111_1⟩ := at_T54 HR0.out x3_1 p111 q111
                cases e111
                replace p111 := eq_true p111
                replace q111 := eq_true q111
                have p112 : 0 ≤ ((ji4) : Int) := of_decide_eq_true (by first | (with_reducible assumption) | assumption)
                have q112 : (ji4) < (l0.length : Int) := of_decide_eq_true (by first | (with_reducible assumption) | assumption)
                obtain ⟨ad112, e112, hx112_0, hx112_1⟩ := at_T54 HR0.out (ji4) p112 q112
                obtain rfl : ad111 = ad112 := (by injection e112)
                replace p112 := eq_true p112
                replace q112 := eq_true q112
                go_wp2
                repeat (go_quiet (fail); try go_wp2)
                go_ret
                exact ⟨by first | rfl | (simp; done) | (simp only [← hji4] <;> (first | rfl | simp)) | (simp [*]; done), by repeat (first | exact Drawn0.refl _ | apply Drawn0.step)⟩
              · rw [if_neg c7] at H
                have c7b0 : decide (((rd_T54 l0 x3_1).f0) ≤ ((rd_T54 l0 (ji4)).f0)) = false := decide_eq_false c7
                clear c7
                have H' := Aside0.mk H
                clear H
                have p111 : 0 ≤ (x3_1 : Int) := of_decide_eq_true (by first | (with_reducible assumption) | assumption)
                have q111 : x3_1 < (l0.length : Int) := of_decide_eq_true (by first | (with_reducible assumption) | assumption)
                obtain ⟨ad111, e111, hx111_0, hx111_1⟩ := at_T54 HR0.out x3_1 p111 q111
                cases e111
                replace p111 := eq_true p111
                replace q111 := eq_true q111
                have p112 : 0 ≤ ((ji4) : Int) := of_decide_eq_true (by first | (with_reducible assumption) | assumption)
                have q112 : (ji4) < (l0.length : Int) := of_decide_eq_true (by first | (with_reducible assumption) | assumption)
                obtain ⟨ad112, e112, hx112_0, hx112_1⟩ := at_T54 HR0.out (ji4) p112 q112
                obtain rfl : ad111 = ad112 := (by injection e112)
                replace p112 := eq_true p112
                replace q112 := eq_true q112
                go_wp2
                repeat (go_quiet (fail); try go_wp2)
                go_roundg k1
                case measure => have := HK1.out; omega
                case rel => exact ⟨(wrap64 (x3_1 + 1)), (by first | rfl | (simp; done) | (simp [*]; done)), H', ⟨by have := HK1.out; omega⟩, by repeat (first | exact Drawn0.refl _ | apply Drawn0.step)⟩
            · rw [if_neg c6] at H
              exact absurd H (by simp)
          · rw [if_neg c5] at H
            exact absurd H (by simp)
        · rw [if_neg c3] at H
          exact absurd H (by simp)
      · rw [if_neg c2] at H
        have c2b0 : decide (x3_1 < (l0.length : Int)) = false := decide_eq_false c2
        clear c2
        obtain rfl := Option.some.inj H
        go_wp2
        repeat (go_quiet (fail); try go_wp2)
        go_ret
        exact ⟨by first | rfl | (simp; done) | (simp [*]; done) | (simp; decide +kernel), by repeat (first | exact Drawn0.refl _ | apply Drawn0.step)⟩
end Go.Proofs.YtbgmnmjokdfmlaaDoor.PA
namespace Go.Proofs.YtbgmnmjokdfmlaaDoor.PA
open Go.RowKit Go.Proofs.YtbgmnmjokdfmlaaDoor.G Go.Proofs.YtbgmnmjokdfmlaaDoorW.PrintWords Go.Proofs.YtbgmnmjokdfmlaaDoorW.PrintLast Go.Proofs.YtbgmnmjokdfmlaaDoorW.PrintMore
set_option linter.unusedVariables false
set_option linter.unusedSimpArgs false
def okS (x : S54) : Prop := (-9223372036854775808 ≤ x.f0 ∧ x.f0 ≤ 9223372036854775807) ∧ 0 ≤ x.f1 ∧ x.f1 < 18446744073709551616
def difB (y x : S54) (step : Int) : List Bool := intBits (wrap64 (wrap64 (x.f0 - y.f0) - step)) ++ xorBits (x.f1.toNat ^^^ y.f1.toNat)
def stepP (l : List S54) : Nat → Int
  | 0 => 0
  | 1 => 0
  | k + 2 => wrap64 ((rd_T54 l ((k + 1 : Nat) : Int)).f0 - (rd_T54 l ((k : Nat) : Int)).f0)
def encP (l : List S54) : Nat → List Bool
  | 0 => []
  | 1 => low (IntKind.u64.wrap (rd_T54 l 0).f0).toNat 64 ++ low (rd_T54 l 0).f1.toNat 64
  | k + 2 => encP l (k + 1) ++ difB (rd_T54 l ((k : Nat) : Int)) (rd_T54 l ((k + 1 : Nat) : Int)) (stepP l (k + 1))
theorem intBits_len (v : Int) : (intBits v).length ≤ 80 := by
  have h1 := width_le (classN v)
  have h2 := classN_range v
  unfold intBits
  split <;> simp <;> omega
theorem xorBits_len (x : Nat) (hx : x < 18446744073709551616) : (xorBits x).length ≤ 80 := by
  unfold xorBits
  split
  · simp
  · have : wdZ x ≤ 64 := by
      have := Lib.bitLen_le x 64 (by decide) hx
      unfold wdZ
      omega
    simp
    omega
theorem xor_lt {a b : Int} (ha : 0 ≤ a ∧ a < 18446744073709551616) (hb : 0 ≤ b ∧ b < 18446744073709551616) : a.toNat ^^^ b.toNat < 18446744073709551616 :=
  Nat.xor_lt_two_pow (n := 64) (by omega) (by omega)
theorem encP_len (l : List S54) (hl : ∀ x ∈ l, okS x) : ∀ k, k ≤ l.length → (encP l k).length ≤ 160 * k
  | 0, _ => by simp [encP]
  | 1, _ => by simp [encP]
  | k + 2, h => by
    have ih := encP_len l hl (k + 1) (by omega)
    have h1 := intBits_len (wrap64 (wrap64 ((rd_T54 l ((k + 1 : Nat) : Int)).f0 - (rd_T54 l ((k : Nat) : Int)).f0) - stepP l (k + 1)))
    have hm : ∀ j, j < l.length → okS (rd_T54 l ((j : Nat) : Int)) := fun j hj => by
      have e : rd_T54 l ((j : Nat) : Int) = l[j] := by simp [rd_T54, List.getD_eq_getElem?_getD, List.getElem?_eq_getElem hj]
      rw [e]
      exact hl _ (List.getElem_mem hj)
    have h2 := xorBits_len _ (xor_lt (hm (k + 1) (by omega)).2 (hm k (by omega)).2)
    simp only [encP, difB, List.length_append]
    omega
def canS (l : List S54) : Bool := ((List.range (l.length - 1)).all fun i => decide ((rd_T54 l ((i : Nat) : Int)).f0 < (rd_T54 l ((i + 1 : Nat) : Int)).f0)) && decide (l.length ≤ 65535)
theorem can_from (l : List S54) (hl : l.length ≤ 1000000) : ∀ d i, i + 1 + d = l.length → ∀ k, d < k → codec_Can.l0 k l ((i + 1 : Nat) : Int) = some (((List.range d).all fun q => decide ((rd_T54 l ((i + q : Nat) : Int)).f0 < (rd_T54 l ((i + q + 1 : Nat) : Int)).f0)) && decide (l.length ≤ 65535))
  | 0, i, h, k + 1, hk => by
    unfold codec_Can.l0
    rw [if_neg (by omega)]
    simp
    omega
  | d + 1, i, h, k + 1, hk => by
    unfold codec_Can.l0
    have e1 : wrap64 (((i + 1 : Nat) : Int) - 1) = ((i : Nat) : Int) := by rw [w64 (by omega) (by omega)]; omega
    have e2 : wrap64 (((i + 1 : Nat) : Int) + 1) = ((i + 1 + 1 : Nat) : Int) := by rw [w64 (by omega) (by omega)]; omega
    rw [if_pos (by omega), if_pos (by omega), e1, if_pos (by omega), if_pos (by omega), e2, List.range_succ_eq_map, List.all_cons, List.all_map]
    by_cases hh : (rd_T54 l ((i + 1 : Nat) : Int)).f0 ≤ (rd_T54 l ((i : Nat) : Int)).f0
    · rw [if_pos hh]
      have h2 : ¬ (rd_T54 l ((i : Nat) : Int)).f0 < (rd_T54 l ((i + 1 : Nat) : Int)).f0 := by omega
      have e3 : decide ((rd_T54 l ((i + 0 : Nat) : Int)).f0 < (rd_T54 l ((i + 0 + 1 : Nat) : Int)).f0) = false := decide_eq_false h2
      rw [e3, Bool.false_and, Bool.false_and]
    · rw [if_neg hh, can_from l hl d (i + 1) (by omega) k (by omega)]
      have h2 : (rd_T54 l ((i : Nat) : Int)).f0 < (rd_T54 l ((i + 1 : Nat) : Int)).f0 := by omega
      have e3 : decide ((rd_T54 l ((i + 0 : Nat) : Int)).f0 < (rd_T54 l ((i + 0 + 1 : Nat) : Int)).f0) = true := decide_eq_true h2
      rw [e3, Bool.true_and]
      congr 3
      funext q
      simp only [Function.comp, show i + 1 + q = i + (q + 1) by omega, Nat.succ_eq_add_one]
theorem can_S (l : List S54) (hl : l.length ≤ 1000000) (k : Nat) (hk : l.length < k) : codec_Can.f k l = some (canS l) := by
  unfold codec_Can.f canS
  by_cases h : 0 < l.length
  · have := can_from l hl (l.length - 1) 0 (by omega) k (by omega)
    simp only [Nat.zero_add] at this
    exact this
  · obtain ⟨k, rfl⟩ : ∃ k', k = k' + 1 := ⟨k - 1, by omega⟩
    unfold codec_Can.l0
    rw [if_neg (by omega), show l.length - 1 = 0 by omega]
    simp
    omega
theorem below_keep {w W W' : World} {g : Nat} (h : Below w.heap.size w W) (hk : KeepBut W W' g none) (hg : w.heap.size ≤ g) (ho : W'.os = W.os) (ht : W'.tape = W.tape) (hu : W'.output = W.output) : Below w.heap.size w W' :=
  ⟨ho.trans h.os, ht.trans h.tape, hu.trans h.output, Nat.le_trans h.size hk.1, fun q hq => (hk.2 q (Nat.lt_of_lt_of_le hq h.size) (by omega) (by simp)).trans (h.block q hq)⟩
set_option maxHeartbeats 2000000 in
set_option maxRecDepth 100000 in
theorem codec_Encode.calls_bad (A : Option Addr) (c : Nat) (l : List S54) (w : World) (hr : Kd.C k54 w A l.length l) (hc : l.length ≤ c) (hlen : l.length ≤ 20000) (h : canS l = false) :
    Calls Tryd.prog 32 #[.slice A l.length c] w fun e w' => e = .returned (.tuple #[.slice none 0 0, .int .i64 1]) ∧ Below w.heap.size w w' := by
  have HR := Aside0.mk hr
  have HC := Aside0.mk hc
  have HF : Aside0 (codec_Can.f 100000 l = some false) := ⟨by rw [can_S l (by omega) _ (by omega), h]⟩
  clear hr hc hlen h
  go_enter Tryd.func32, Tryd.ntmps32
  go_wp2_with (go_at_call 39; (with_reducible refine (codec_Can.calls 100000 _ _ l false _ HR.out HC.out HF.out).mono ?_); rintro e w1 ⟨rfl, hd⟩; have HB := Aside0.mk hd.below; clear hd)
  refine bodyPost_ret (results_tmp2 rfl _ _ _) rfl ?_
  exact ⟨rfl, HB.out⟩
theorem okX_nil : OkX [] 0 where
  bytes := fun x hx => absurd hx (by simp)
  le := by simp
  near := by simp
  tail := fun i _ h => by simp at h
theorem pk_new {W : World} {g : Nat} (h : W.heap[g]? = some (.cells #[.slice none 0 0, .int .i64 0] 101 (0, 0))) : PK W g [] :=
  ⟨none, 0, [], h, Kd.R_nil _ _ _ _ _, okX_nil, rfl⟩
theorem cell_alloc_old {w : World} {a : Addr} {v : Value} (o : Obj) (h : w.cell? a = some v) : (w.alloc o).cell? a = some v := pw_cell_below (below_alloc (Below.refl _ _) o) h
theorem PK.lt {W : World} {g : Nat} {L : List Bool} (h : PK W g L) : g < W.heap.size := by
  obtain ⟨A, c, l, h1, _⟩ := h
  exact blk_lt h1
theorem rd_mem54 (l : List S54) (k : Nat) (h : k < l.length) : rd_T54 l (k : Int) ∈ l := by
  have e : rd_T54 l (k : Int) = l[k] := by simp [rd_T54, List.getD_eq_getElem?_getD, List.getElem?_eq_getElem h]
  rw [e]
  exact List.getElem_mem h
theorem put_f {q : Int} (h0 : 0 ≤ q) (h1 : q < 18446744073709551616) (n : Nat) (hn : n ≤ 8 := by decide) : crc_Put.f (IntKind.u64.wrap q) n = some (beL q.toNat n) := by
  have e : IntKind.u64.wrap q = q := by rw [wrap_u64]; omega
  rw [e, crc_Put.f, if_pos ⟨h0, h1⟩]
  congr 2
  unfold wid
  omega
theorem u64_wrap_range (x : Int) : 0 ≤ IntKind.u64.wrap x ∧ IntKind.u64.wrap x < 18446744073709551616 := by
  rw [wrap_u64]
  omega
set_option maxHeartbeats 4000000 in
set_option maxRecDepth 100000 in
theorem codec_Encode.calls_ok (A : Option Addr) (c : Nat) (l : List S54) (w : World) (hr : Kd.C k54 w A l.length l) (hc : l.length ≤ c) (hw : ∀ x ∈ l, okS x) (hlen : l.length ≤ 20000) (hT : TabZ w) (h : canS l = true) :
    Calls Tryd.prog 32 #[.slice A l.length c] w fun e w' => ∃ (v : Value) (b : List Int), e = .returned (.tuple #[v, .int .i64 0]) ∧ OkX b (encP l l.length).length ∧ Bs b (encP l l.length).length = encP l l.length ∧ Kd.R (Kd.int .u8) 5 w' w.heap.size (fun _ => True) v (beL l.length 2 ++ b) ∧ Below w.heap.size w w' := by
  have HR := Aside0.mk hr
  have HC := Aside0.mk hc
  have HT := Aside0.mk hT
  have HW := Aside0.mk hw
  have HLN := Aside0.mk hlen
  have HF : Aside0 (codec_Can.f 100000 l = some true) := ⟨by rw [can_S l (by omega) _ (by omega), h]⟩
  clear hr hc hT hw h hlen
  go_enter Tryd.func32, Tryd.ntmps32
  go_wp2_with (first
    | (go_at_call 39; (with_reducible refine (codec_Can.calls 100000 _ _ l true _ HR.out HC.out HF.out).mono ?_); rintro e w1 ⟨rfl, hd⟩; have HB1 := Aside0.mk hd.below; clear hd)
    | ((with_reducible refine gate_dst (N := 4) rfl ?_); refine box_event ?hg (N := 4) ?hd (cs := #[.slice none 0 0, .int .i64 0]) (t := 101) ?hr ?_; (case hd => rfl); (case hg => rfl); (case hr => first | (go_simp; done) | (go_simp; rfl)); intro g hg w2 hbox hb; have HB2 := Aside0.mk (below_step HB1.out hb); have HBK := Aside0.mk hbox; have HG : Aside0 (w.heap.size ≤ g) := ⟨by have := HB1.out.size; omega⟩; clear hb hbox hg))
  have HPK : Aside0 (PK w2 g (encP l 0)) := ⟨pk_new HBK.out⟩
  go_loopw [5, 14] (fun v i wr => ∃ k : Nat, k ≤ l.length ∧ i = .int .i64 k ∧ v = .int .i64 (stepP l k) ∧ Aside0 (PK wr g (encP l k)) ∧ Aside0 (Below w.heap.size w wr)) (fun _ i _ => l.length - (intOf i).toNat)
  case atStart => exact ⟨0, Nat.zero_le _, rfl, rfl, HPK, HB2⟩
  case round =>
    clear HPK HBK HB2
    obtain ⟨k, hk, rfl, rfl, HP, HB⟩ := hrel
    have hl2 : l.length ≤ 20000 := HLN.out
    by_cases hlt : k < l.length
    · have hC := Kd.C_below HR.out HB.out
      obtain ⟨ad, rfl, h0, h1⟩ := at_T54 hC (k : Int) (by omega) (by omega)
      rw [Int.toNat_natCast] at h0 h1
      have hx := HW.out _ (rd_mem54 l k hlt)
      have HRD := Aside0.mk hC
      have hgw := (HP.out).lt
      clear hC
      cases k with
      | zero =>
        obtain ⟨v0, hv0⟩ := Int.eq_ofNat_of_zero_le (u64_wrap_range (rd_T54 l 0).f0).1
        obtain ⟨v1, hv1⟩ := Int.eq_ofNat_of_zero_le hx.2.1
        have CA := Aside0.mk (fun W (h : PK W g (encP l 0)) => pack_put.calls_at g [] (IntKind.u64.wrap (rd_T54 l 0).f0) 64 v0 64 W h hv0 rfl (by have := (u64_wrap_range (rd_T54 l 0).f0).2; omega) (by decide) (by simp))
        have CB := Aside0.mk (fun W (h : PK W g ([] ++ low v0 64)) => pack_put.calls_at g ([] ++ low v0 64) (rd_T54 l 0).f1 64 v1 64 W h hv1 rfl (by have := hx.2.2; omega) (by decide) (by simp))
        have EV : Aside0 ((IntKind.u64.wrap (rd_T54 l 0).f0).toNat = v0 ∧ (rd_T54 l 0).f1.toNat = v1) := ⟨by rw [hv0]; rfl, by have h_ : (rd_T54 l 0).f1 = (v1 : Int) := hv1; rw [h_]; rfl⟩
        clear hv0 hv1 hx
        have h0' : wr.cell? ad = some (.int .i64 (rd_T54 l 0).f0) := by simpa [Addr.add] using h0
        have h1' : wr.cell? ⟨ad.block, ad.off + 1, none⟩ = some (.int .u64 (rd_T54 l 0).f1) := by simpa [Addr.add] using h1
        clear h0 h1
        go_wp2_with (first
          | (go_at_call 63; (with_reducible refine (CA.out _ ?s1).mono ?_); (case s1 => exact HP.out.keep (by repeat (first | exact Below.refl _ _ | apply below_alloc | apply below_drew1))); rintro e w3 ⟨rfl, hp, hk, ho, ht, hu⟩; have HP3 := Aside0.mk hp; have BX := (hk.2 wr.heap.size (by simp) (by omega) (by simp)).trans (blk_new wr _); have f1 := (blk_cell BX 1).trans rfl; have HB3 := Aside0.mk (below_keep (below_alloc HB.out _) hk (by have := HG.out; exact this) ho ht hu); clear hp hk ho ht hu BX)
          | (go_at_call 63; (with_reducible refine (CB.out _ HP3.out).mono ?_); rintro e w4 ⟨rfl, hp, hk, ho, ht, hu⟩; have HP4 := Aside0.mk hp; have HB4 := Aside0.mk (below_keep HB3.out hk (by have := HG.out; exact this) ho ht hu); clear hp hk ho ht hu)
          )
        go_roundw
        case rel =>
          refine ⟨1, by omega, by go_num, rfl, ⟨?_⟩, HB4⟩
          have := HP4.out
          rw [List.nil_append, ← EV.out.1, ← EV.out.2] at this
          exact this
        case measure => simp [intOf]; omega
      | succ k =>
        obtain ⟨ad', hh, y0, y1⟩ := at_T54 HRD.out (k : Int) (by omega) (by omega)
        obtain rfl := Option.some.inj hh
        rw [Int.toNat_natCast] at y0 y1
        have hy := HW.out _ (rd_mem54 l k (by omega))
        have HST : Aside0 (encP l (k + 2) = encP l (k + 1) ++ difB (rd_T54 l (k : Int)) (rd_T54 l ((k + 1 : Nat) : Int)) (stepP l (k + 1)) ∧ stepP l (k + 2) = wrap64 ((rd_T54 l ((k + 1 : Nat) : Int)).f0 - (rd_T54 l (k : Int)).f0) ∧ (encP l (k + 1)).length ≤ 160 * (k + 1)) := ⟨⟨rfl, rfl, encP_len l HW.out _ (by omega)⟩⟩
        clear hh
        generalize hye : rd_T54 l (k : Int) = y at *
        have HYE := Aside0.mk hye
        clear hye
        generalize rd_T54 l ((k + 1 : Nat) : Int) = x at *
        generalize stepP l (k + 1) = st at *
        have hwk : wrap64 (k : Int) = (k : Int) := w64 (by omega) (by omega)
        rw [show ((k + 1 : Nat) : Int) = (k : Int) + 1 from by omega] at *
        go_wp2
        have y0' := cell_alloc_old (.cells #[.int .i64 x.f0, .int .u64 x.f1] 54) y0
        have y1' := cell_alloc_old (.cells #[.int .i64 x.f0, .int .u64 x.f1] 54) y1
        have HPA := Aside0.mk (HP.out.keep (below_alloc (Below.refl _ _) (.cells #[.int .i64 x.f0, .int .u64 x.f1] 54)))
        have HBA := Aside0.mk (below_alloc HB.out (.cells #[.int .i64 x.f0, .int .u64 x.f1] 54))
        have HXB := Aside0.mk (blk_new wr (.cells #[.int .i64 x.f0, .int .u64 x.f1] 54))
        go_cut [5] (fun v wx => v = .int .i64 (wrap64 (x.f0 - y.f0)) ∧ Aside0 (Below (wr.heap.size + 1) (wr.alloc (.cells #[.int .i64 x.f0, .int .u64 x.f1] 54)) wx))
        case first =>
          go_region
          all_goals (go_wp2_with fail; go_meet; exact ⟨rfl, ⟨by repeat (first | exact Below.refl _ _ | apply below_alloc | apply below_drew1)⟩⟩)
        case rest =>
          obtain ⟨rfl, HBc⟩ := hcut
          have hbc : Below (wr.alloc (.cells #[.int .i64 x.f0, .int .u64 x.f1] 54)).heap.size (wr.alloc (.cells #[.int .i64 x.f0, .int .u64 x.f1] 54)) wc := by simpa using HBc.out
          have HPc := Aside0.mk (HPA.out.keep hbc)
          have BXc := Aside0.mk (blk_below HXB.out hbc)
          have HBw := Aside0.mk (below_step HBA.out hbc)
          clear hbc
          have HGX : Aside0 (wr.heap.size < wc.heap.size ∧ wr.heap.size ≠ g) := ⟨by have := blk_lt BXc.out; exact this, by omega⟩
          have hln := HST.out.2.2
          have hln2 := HLN.out
          have CN := Aside0.mk (fun W (h : PK W g (encP l (k + 1))) => pack_number.calls g (encP l (k + 1)) (wrap64 (wrap64 (x.f0 - y.f0) - st)) W h (by omega))
          obtain ⟨xv, hxv⟩ : ∃ n : Nat, x.f1.toNat ^^^ y.f1.toNat = n := ⟨_, rfl⟩
          have hxl : xv < 18446744073709551616 := hxv ▸ xor_lt hx.2 hy.2
          have hxe : Go.bits .xor .u64 x.f1 y.f1 = (xv : Int) := by
            rw [← hxv]
            obtain ⟨a, ha⟩ := Int.eq_ofNat_of_zero_le hx.2.1
            obtain ⟨b, hb⟩ := Int.eq_ofNat_of_zero_le hy.2.1
            rw [ha, hb, u64_xor_nat a b (by have := hx.2.2; omega) (by have := hy.2.2; omega)]
            simp
          have hib := intBits_len (wrap64 (wrap64 (x.f0 - y.f0) - st))
          have CV := Aside0.mk (fun W (h : PK W g (encP l (k + 1) ++ intBits (wrap64 (wrap64 (x.f0 - y.f0) - st)))) (ht : TabZ W) => pack_value.calls g _ xv W h hxl (by rw [List.length_append]; omega) ht)
          have HXV := Aside0.mk hxv
          clear y0 y1 y0' y1' h0 h1 HPA HBA HXB hib hxv HP hln hln2
          go_wp2_with (go_at_call 64; (with_reducible refine (CN.out _ HPc.out).mono ?_); rintro e w5 ⟨rfl, hp, hk, ho, ht, hu⟩; have HP5 := Aside0.mk hp; have BX5 := Aside0.mk ((hk.2 wr.heap.size HGX.out.1 HGX.out.2 (by simp)).trans BXc.out); have HB5 := Aside0.mk (below_keep HBw.out hk (by have := HG.out; exact this) ho ht hu); clear hp hk ho ht hu)
          have xb1 : w5.cell? ⟨wr.heap.size, 1, none⟩ = some (.int .u64 x.f1) := (blk_cell BX5.out 1).trans rfl
          have hkl : (k : Int) < (l.length : Int) := by omega
          have hwk' : IntKind.i64.wrap (k : Int) = (k : Int) := (i64_w _).trans hwk
          obtain ⟨ad', hh, y0, y1⟩ := at_T54 (Kd.C_below HR.out HB5.out) (k : Int) (by omega) (by omega)
          obtain rfl := Option.some.inj hh
          rw [Int.toNat_natCast] at y0 y1
          rw [HYE.out] at y1
          clear hh y0 hx hy
          have y1' : w5.drew.cell? ⟨(ad.add (k * 2)).block, (ad.add (k * 2)).off + 1, none⟩ = some (Value.int IntKind.u64 y.f1) := y1
          go_region_with (go_at_call 65; (refine (CV.out _ ?s1 ?s2).mono ?_); (case s1 => exact HP5.out.keep (by repeat (first | exact Below.refl _ _ | apply below_alloc | apply below_drew1))); (case s2 => exact HT.out.below (by repeat (first | exact HB5.out | apply below_alloc | apply below_drew1))); rintro e w6 ⟨rfl, hp, hk, ho, ht, hu⟩; have HP6 := Aside0.mk hp; have HB6 := Aside0.mk (below_keep (below_drew1 HB5.out) hk (by have := HG.out; exact this) ho ht hu); clear hp hk ho ht hu)
          all_goals
            go_wp2_with fail
            go_wp2_with fail
            go_wp2_with fail
            go_wp2_with fail
            go_wp2_with fail
            go_roundw
            case rel =>
              refine ⟨k + 2, by omega, by go_num, by rw [HST.out.2.1], ⟨?_⟩, HB6⟩
              have := HP6.out
              rw [HST.out.1, difB, HXV.out, ← List.append_assoc]
              exact this
            case measure => simp [intOf]; omega
    · obtain rfl : k = l.length := by omega
      go_wp2
      obtain ⟨Ax, cx, lx, hblk, hRx, hokx, hbsx⟩ := HP.out
      have h0 : wr.cell? ⟨g, 0, none⟩ = some (.slice Ax lx.length cx) := (blk_cell hblk 0).trans rfl
      have BG := Aside0.mk hblk
      have HNX : Aside0 (lx.length ≤ 400001) := ⟨by have := encP_len l HW.out l.length (Nat.le_refl _); have := hokx.near; omega⟩
      have HOX := Aside0.mk hokx
      have HBX := Aside0.mk hbsx
      have HRX := Aside0.mk (Kd.R_reads' hRx).2.2
      have HPT : Aside0 (crc_Put.f (IntKind.u64.wrap (l.length : Int)) 2 = some (beL l.length 2)) := ⟨put_f (by omega) (by omega) 2⟩
      have hbs2 : (beL l.length 2).length = 2 := beL_length _ _
      have HL2 := Aside0.mk hbs2
      have HBD := Aside0.mk (below_drew1 HB.out)
      clear hblk hRx hokx hbsx hbs2 hlt hk
      refine start_ (n := 10) (ds := []) (S := fun W => W.cell? ⟨g, 0, none⟩ = some (.slice Ax lx.length cx)) #[false, false, false, false, false, false, false, false, false, false] rfl rfl rfl h0 (fun hS => ?_)
      refine pure_ (i := 0) (N := some 53) (v := ?_) (a' := ?_) #[true, false, false, false, false, false, false, false, false, false] rfl rfl (by kernel_rfl) (fun _ _ _ h => h) (Or.inl ⟨by rfl, ?_⟩) ?_ ?_
      rotate_left
      · intro w'
        go_simp
        with_reducible rfl
      rotate_left
      · simp only [Act.put, List.setIfInBounds_toArray, List.set_cons_zero, List.set_cons_succ, i64_w, i32_w]
        rfl
      refine pure_ (i := 1) (N := some 54) (v := ?_) (a' := ?_) #[true, true, false, false, false, false, false, false, false, false] rfl rfl (by kernel_rfl) (fun _ _ _ h => h) (Or.inl ⟨by rfl, ?_⟩) ?_ ?_
      rotate_left
      · intro w'
        go_simp
        with_reducible rfl
      rotate_left
      · simp only [Act.put, List.setIfInBounds_toArray, List.set_cons_zero, List.set_cons_succ, i64_w, i32_w]
        rfl
      refine pure_ (i := 2) (N := some 55) (v := ?_) (a' := ?_) #[true, true, true, false, false, false, false, false, false, false] rfl rfl (by kernel_rfl) (fun _ _ _ h => h) (Or.inl ⟨by rfl, ?_⟩) ?_ ?_
      rotate_left
      · intro w'
        go_simp
        with_reducible rfl
      rotate_left
      · simp only [Act.put, List.setIfInBounds_toArray, List.set_cons_zero, List.set_cons_succ, i64_w, i32_w]
        rfl
      refine pure_ (i := 4) (N := some 57) (v := ?_) (a' := ?_) #[true, true, true, false, true, false, false, false, false, false] rfl rfl (by kernel_rfl) (fun _ _ _ h => h) (Or.inl ⟨by rfl, ?_⟩) ?_ ?_
      rotate_left
      · intro w'
        go_simp
        with_reducible rfl
      rotate_left
      · simp only [Act.put, List.setIfInBounds_toArray, List.set_cons_zero, List.set_cons_succ, i64_w, i32_w]
        rfl
      refine pure_ (i := 5) (N := some 58) (v := ?_) (a' := ?_) #[true, true, true, false, true, true, false, false, false, false] rfl rfl (by kernel_rfl) (fun _ _ _ h => h) (Or.inl ⟨by rfl, ?_⟩) ?_ ?_
      rotate_left
      · intro w'
        go_simp
        with_reducible rfl
      rotate_left
      · simp only [Act.put, List.setIfInBounds_toArray, List.set_cons_zero, List.set_cons_succ, i64_w, i32_w]
        rfl
      refine take_ (i := 6) (N := some 59) (v := ?_) (a' := ?_) #[true, true, true, false, true, true, true, false, false, false] rfl rfl (by kernel_rfl) (fun _ _ _ h => h) (Or.inl ⟨by rfl, ?_⟩) hS ?_ ?_
      rotate_left
      · rintro w' s0
        go_simp
        with_reducible rfl
      rotate_left
      · simp only [Act.put, List.setIfInBounds_toArray, List.set_cons_zero, List.set_cons_succ, i64_w, i32_w]
        rfl
      refine one_ (i := 3) (N := some 56) #[true, true, true, true, true, true, true, false, false, false] rfl rfl (by kernel_rfl) (by decide) (fun K hK => ?_)
      refine goes_ Tryd.func34 (by kernel_rfl) rfl #[.int .u64 (IntKind.u64.wrap (l.length : Int)), .int .i64 2] (by rfl) rfl rfl ?h1 ?_
      case h1 => first | rfl | (simp only [List.map_toArray, List.map_cons, List.map_nil]; rfl)
      refine (crc_Put.calls _ 2 (beL l.length 2) _ HPT.out).mono ?_
      rintro e w3 ⟨v3, rfl, hr3, hb3⟩
      have HB3 := Aside0.mk (below_step HBD.out hb3)
      have HR3 := Aside0.mk (Kd.R_lower hr3 (below_size HBD.out))
      have hS3 : w3.cell? ⟨g, 0, none⟩ = some (.slice Ax lx.length cx) := pw_cell_below hb3 hS
      have BG3 := Aside0.mk (blk_below (blk_drew BG.out) hb3)
      have HX3 := Aside0.mk (Kd.C_below (Kd.C_drew HRX.out) hb3)
      obtain ⟨A3, c3, rfl⟩ := Kd.R_slice hr3
      clear hb3 hr3 HRX
      refine ⟨_, rfl, ?_⟩
      refine hK.out _ _ hS3 (fun hS => ?_)
      clear hK K
      refine norm_ (a' := ?_) ?_ ?_
      rotate_left
      · show Act.put _ (some 56) _ = _
        simp only [Act.put, List.setIfInBounds_toArray, List.set_cons_zero, List.set_cons_succ, i64_w, i32_w]
        rfl
      refine one_ (i := 7) (N := some 60) #[true, true, true, true, true, true, true, true, false, false] rfl rfl (by kernel_rfl) (by decide) (fun K hK => ?_)
      refine Kd.R_append_rows_step (Kd.int .u8) (Rr := (Kd.int .u8).K w3) (w0 := w) w.heap.size (by rfl) (.tmp 56) (.tmp 59) 22 5 (.int .u8 0) 1 rfl Tryd.underlying22 infoU8 rfl (by decide) (by omega) (.slice A3 (beL l.length 2).length c3) (beL l.length 2) lx Ax lx.length cx (fun _ => True) (fun _ => False) rfl rfl HR3.out HX3.out (fun _ _ h => h) (fun _ hk => hk.elim) (fun _ _ => trivial) HB3.out (below_size HB3.out) (by have := HNX.out; have := HL2.out; omega) ?_
      intro v4 w4 ho hb hg hat
      have HO4 := Aside0.mk ho
      have HB4 := Aside0.mk hb
      clear ho hb hat
      have hS4 : w4.cell? ⟨g, 0, none⟩ = some (.slice Ax lx.length cx) := (blk_cell (blk_grown BG3.out hg (Kd.R_ne HR3.out BG3.out (by decide))) 0).trans rfl
      clear hg
      refine hK.out _ _ hS4 (fun hS => ?_)
      clear hK K
      refine norm_ (a' := ?_) ?_ ?_
      rotate_left
      · show Act.put _ (some 60) _ = _
        simp only [Act.put, List.setIfInBounds_toArray, List.set_cons_zero, List.set_cons_succ, i64_w, i32_w]
        rfl
      refine pure_ (i := 8) (N := some 2) (v := ?_) (a' := ?_) #[true, true, true, true, true, true, true, true, true, false] rfl rfl (by kernel_rfl) (fun _ _ _ h => h) (Or.inl ⟨by rfl, ?_⟩) ?_ ?_
      rotate_left
      · intro w'
        go_simp
        with_reducible rfl
      rotate_left
      · simp only [Act.put, List.setIfInBounds_toArray, List.set_cons_zero, List.set_cons_succ, i64_w, i32_w]
        rfl
      refine pure_ (i := 9) (N := some 3) (v := ?_) (a' := ?_) #[true, true, true, true, true, true, true, true, true, true] rfl rfl (by kernel_rfl) (fun _ _ _ h => h) (Or.inl ⟨by rfl, ?_⟩) ?_ ?_
      rotate_left
      · intro w'
        go_simp
        with_reducible rfl
      rotate_left
      · simp only [Act.put, List.setIfInBounds_toArray, List.set_cons_zero, List.set_cons_succ, i64_w, i32_w]
        rfl
      refine done_ (by kernel_rfl) ?_
      go_wp2
      refine bodyPost_ret (results_tmp2 rfl _ _ _) rfl ?_
      exact ⟨v4, lx, rfl, HOX.out, HBX.out, HO4.out, HB4.out⟩
end Go.Proofs.YtbgmnmjokdfmlaaDoor.PA
namespace Go.Proofs.YtbgmnmjokdfmlaaDoor.PA
open Go.RowKit Go.Proofs.YtbgmnmjokdfmlaaDoor.G Go.Proofs.YtbgmnmjokdfmlaaDoorW.PrintWords Go.Proofs.YtbgmnmjokdfmlaaDoorW.PrintLast Go.Proofs.YtbgmnmjokdfmlaaDoorW.PrintMore
set_option linter.unusedVariables false
set_option linter.unusedSimpArgs false
def UP (W : World) (g : Nat) (A : Option Addr) (n c : Nat) (N p : Int) (bad : Bool) : Prop := W.heap[g]? = some (.cells #[.slice A n c, .int .i64 N, .int .i64 p, .bool bad] 128 (0, 0))
noncomputable def unT (l : List Int) (N : Int) (s : Int × Bool) (c : Int) : Int × Int × Bool := ((takeR l N s.1 c).1, wrap64 (s.1 + c), s.2 || (takeR l N s.1 c).2 != 0)
noncomputable def unN (l : List Int) (N : Int) (s : Int × Bool) : Int × Int × Bool := ((takeI l N s.1).1, (takeI l N s.1).2.1, s.2 || (takeI l N s.1).2.2 != 0)
set_option maxHeartbeats 2000000 in
set_option maxRecDepth 100000 in
theorem unpack_take.calls (g : Nat) (A : Option Addr) (c : Nat) (l : List Int) (N p k : Int) (bad : Bool) (w0 w : World) (hU : UP w g A l.length c N p bad) (hr : Kd.C (Kd.int .u8) w0 A l.length l) (hc : l.length ≤ c) (hB : Below w0.heap.size w0 w) (hg : w0.heap.size ≤ g)
    (hl : OkL l) (hn : l.length ≤ 1000000) (hN : -9223372036854775808 ≤ N ∧ N ≤ 9223372036854775807) :
    Calls Tryd.prog 89 #[.pointer (some ⟨g, 0, none⟩), .int .i64 k] w fun e w' => e = .returned (.int .u64 (unT l N (p, bad) k).1) ∧ UP w' g A l.length c N (unT l N (p, bad) k).2.1 (unT l N (p, bad) k).2.2 ∧ Below w0.heap.size w0 w' ∧ KeepBut w w' g none := by
  obtain ⟨r, e, hre⟩ : ∃ r e, takeR l N p k = (r, e) := ⟨_, _, rfl⟩
  have HF : Aside0 (bits_Take.f 100 l N p k = some (r, e)) := ⟨by rw [btake_eq hl (by omega) N p k hN.1 hN.2 100 (by decide), hre]⟩
  simp only [unT, hre]
  have HB := Aside0.mk hB
  have HC := Aside0.mk hc
  have HR := Aside0.mk hr
  have HU := Aside0.mk hU
  have HG := Aside0.mk hg
  have u0 : w.cell? ⟨g, 0, none⟩ = some (.slice A l.length c) := (blk_cell hU 0).trans rfl
  have u1 : w.cell? ⟨g, 1, none⟩ = some (.int .i64 N) := (blk_cell hU 1).trans rfl
  have u2 : w.cell? ⟨g, 2, none⟩ = some (.int .i64 p) := (blk_cell hU 2).trans rfl
  have hu44 := Tryd.underlying99
  clear hB hc hr hU hg hl hn hN hre
  go_enter Tryd.func89, Tryd.ntmps89
  go_wp2
  go_cut [5, 6] (fun v5 v6 wx => v5 = .int .u64 r ∧ v6 = .int .i64 e ∧ Aside0 (Below w.heap.size w wx))
  case first =>
    go_region_with (go_at_call 111; (refine (bits_Take.calls 100 A c l N p k r e _ ?s1 HC.out HF.out).mono ?_); (case s1 => exact Kd.C_drew (Kd.C_below HR.out HB.out)); rintro e_ wx ⟨rfl, hb⟩; have HX := Aside0.mk hb; clear hb)
    all_goals (go_wp2_with fail; go_meet; exact ⟨rfl, rfl, ⟨below_then (below_drew1 (Below.refl _ _)) (by simp) HX.out⟩⟩)
  case rest =>
    obtain ⟨rfl, rfl, HX⟩ := hcut
    have HU2 := Aside0.mk (blk_below HU.out HX.out)
    clear u0 u1 u2
    have u2 : wc.cell? ⟨g, 2, none⟩ = some (.int .i64 p) := (blk_cell HU2.out 2).trans rfl
    have u3 : wc.cell? ⟨g, 3, none⟩ = some (.bool bad) := (blk_cell HU2.out 3).trans rfl
    have f2 := blk_frozen HU2.out 2
    have f3 := blk_frozen HU2.out 3
    cases bad <;>
    · go_wp2
      go_ret
      refine ⟨rfl, ?_, ((below_step HB.out HX.out).setCell (p := ⟨g, 3, none⟩) HG.out _).setCell (p := ⟨g, 2, none⟩) HG.out _, ((KeepBut.of_below HX.out g none).set_ 3 _).set_ 2 _⟩
      first
        | exact blk_put (blk_put HU2.out 3 _ rfl) 2 _ rfl
        | (refine (blk_put (blk_put HU2.out 3 _ rfl) 2 _ rfl).trans ?_; simp; trace_state)
set_option maxHeartbeats 2000000 in
set_option maxRecDepth 100000 in
theorem unpack_number.calls (g : Nat) (A : Option Addr) (c : Nat) (l : List Int) (N p : Int) (bad : Bool) (w0 w : World) (hU : UP w g A l.length c N p bad) (hr : Kd.C (Kd.int .u8) w0 A l.length l) (hc : l.length ≤ c) (hB : Below w0.heap.size w0 w) (hg : w0.heap.size ≤ g)
    (hl : OkL l) (hn : l.length ≤ 1000000) (hN : -9223372036854775808 ≤ N ∧ N ≤ 9223372036854775807) :
    Calls Tryd.prog 90 #[.pointer (some ⟨g, 0, none⟩)] w fun e w' => e = .returned (.int .i64 (unN l N (p, bad)).1) ∧ UP w' g A l.length c N (unN l N (p, bad)).2.1 (unN l N (p, bad)).2.2 ∧ Below w0.heap.size w0 w' ∧ KeepBut w w' g none := by
  obtain ⟨r, q, e, hre⟩ : ∃ r q e, takeI l N p = (r, q, e) := ⟨_, _, _, rfl⟩
  have HF : Aside0 (bits_TakeInt.f 200 l N p = some (r, q, e)) := ⟨by rw [takeInt_eq hl hn N p hN.1 hN.2 200 (by decide), hre]⟩
  simp only [unN, hre]
  have HB := Aside0.mk hB
  have HC := Aside0.mk hc
  have HR := Aside0.mk hr
  have HU := Aside0.mk hU
  have HG := Aside0.mk hg
  have u0 : w.cell? ⟨g, 0, none⟩ = some (.slice A l.length c) := (blk_cell hU 0).trans rfl
  have u1 : w.cell? ⟨g, 1, none⟩ = some (.int .i64 N) := (blk_cell hU 1).trans rfl
  have u2 : w.cell? ⟨g, 2, none⟩ = some (.int .i64 p) := (blk_cell hU 2).trans rfl
  have hu44 := Tryd.underlying99
  clear hB hc hr hU hg hl hn hN hre
  go_enter Tryd.func90, Tryd.ntmps90
  go_wp2
  go_cut [3, 4, 5] (fun v3 v4 v5 wx => v3 = .int .i64 r ∧ v4 = .int .i64 q ∧ v5 = .int .i64 e ∧ Aside0 (Below w.heap.size w wx))
  case first =>
    go_region_with (go_at_call 112; (refine (bits_TakeInt.calls 200 A c l N p r q e _ ?s1 HC.out HF.out).mono ?_); (case s1 => exact Kd.C_drew (Kd.C_below HR.out HB.out)); rintro e_ wx ⟨rfl, hb⟩; have HX := Aside0.mk hb; clear hb)
    all_goals (go_wp2_with fail; go_meet; exact ⟨rfl, rfl, rfl, ⟨below_then (below_drew1 (Below.refl _ _)) (by simp) HX.out⟩⟩)
  case rest =>
    obtain ⟨rfl, rfl, rfl, HX⟩ := hcut
    have HU2 := Aside0.mk (blk_below HU.out HX.out)
    clear u0 u1 u2
    have u2 : wc.cell? ⟨g, 2, none⟩ = some (.int .i64 p) := (blk_cell HU2.out 2).trans rfl
    have u3 : wc.cell? ⟨g, 3, none⟩ = some (.bool bad) := (blk_cell HU2.out 3).trans rfl
    have f2 := blk_frozen HU2.out 2
    have f3 := blk_frozen HU2.out 3
    cases bad <;>
    · go_wp2
      go_ret
      refine ⟨rfl, ?_, ((below_step HB.out HX.out).setCell (p := ⟨g, 3, none⟩) HG.out _).setCell (p := ⟨g, 2, none⟩) HG.out _, ((KeepBut.of_below HX.out g none).set_ 3 _).set_ 2 _⟩
      first
        | exact blk_put (blk_put HU2.out 3 _ rfl) 2 _ rfl
        | (refine (blk_put (blk_put HU2.out 3 _ rfl) 2 _ rfl).trans ?_; simp; trace_state)
end Go.Proofs.YtbgmnmjokdfmlaaDoor.PA
namespace Go.Proofs.YtbgmnmjokdfmlaaDoor.PA
open Go.RowKit Go.Proofs.YtbgmnmjokdfmlaaDoor.G Go.Proofs.YtbgmnmjokdfmlaaDoorW.PrintWords Go.Proofs.YtbgmnmjokdfmlaaDoorW.PrintLast Go.Proofs.YtbgmnmjokdfmlaaDoorW.PrintMore
set_option linter.unusedVariables false
set_option linter.unusedSimpArgs false
noncomputable def packB (L : List Bool) : List Int := open Classical in if h : ∃ b, OkX b L.length ∧ Bs b L.length = L then h.choose else []
theorem packB_of {b : List Int} {L : List Bool} (h1 : OkX b L.length) (h2 : Bs b L.length = L) : packB L = b := by
  have h : ∃ b, OkX b L.length ∧ Bs b L.length = L := ⟨b, h1, h2⟩
  unfold packB
  rw [dif_pos h]
  exact OkX.ext h.choose_spec.1 h1 (h.choose_spec.2.trans h2.symm)
noncomputable def encL (l : List S54) : List Int := beL l.length 2 ++ packB (encP l l.length)
noncomputable def encF (l : List S54) : List Int × Int := if canS l = true then (encL l, 0) else ([], 1)
theorem headI_mono {l : List Int} {n n' : Nat} (hn : n ≤ n') {v q : Int} : ∀ (m p : Nat), headI l n m p = (v, q, 0) → headI l n' m p = (v, q, 0)
  | 0, p, h => by
    simp only [headI, tailI] at h ⊢
    split at h
    · simp at h
    · rw [if_neg (by omega)]
      exact h
  | m + 1, p, h => by
    simp only [headI] at h ⊢
    split at h
    · simp at h
    · rename_i h1
      rw [if_neg (by omega)]
      split at h
      · rename_i h2
        rw [if_pos h2]
        exact headI_mono hn m (p + 1) h
      · rename_i h2
        rw [if_neg h2]
        simp only [tailI] at h ⊢
        split at h
        · simp at h
        · rw [if_neg (by omega)]
          exact h
theorem Bs_take {l : List Int} {N m : Nat} {B Z : List Bool} (h : Bs l N = B ++ Z) (hm : B.length = m) : Bs l m = B := by
  have hN : m ≤ N := by have := congrArg List.length h; simp at this; omega
  have := win_Bs l N 0 m (by omega)
  rw [Nat.zero_add, List.drop_zero, h, ← hm, List.take_left'] at this
  · rw [← hm]; exact this
  · rfl
theorem takeI_part {l : List Int} {N : Nat} {B Z : List Bool} {v : Int} (hX : OkX l N) (hv : (Lit.int .i64 v).wf = true) (h : Bs l N = B ++ intBits v ++ Z) : takeI l (N : Int) (B.length : Int) = (v, ((B.length + (intBits v).length : Nat) : Int), 0) := by
  have hN : B.length + (intBits v).length ≤ N := by have := congrArg List.length h; simp at this; omega
  have h1 := Bs_take h (m := B.length + (intBits v).length) (by simp)
  have h2 := headI_mono hN 4 B.length (head_back v hv h1)
  unfold takeI
  rw [if_neg (by intro q; rcases q with q | q | q; exact q ⟨by omega, by simpa using hX⟩; all_goals omega), Int.toNat_natCast, Int.toNat_natCast]
  exact h2
theorem takeR_part {l : List Int} {N c : Nat} {B L Z : List Bool} (hX : OkX l N) (hL : L.length = c) (hc : c ≤ 64) (h : Bs l N = B ++ L ++ Z) : takeR l (N : Int) (B.length : Int) (c : Int) = (((num L : Nat) : Int), 0) := by
  have hN : B.length + L.length ≤ N := by have := congrArg List.length h; simp at this; omega
  have h1 := win_part h rfl hL
  unfold takeR
  rw [if_neg (by intro q; rcases q with q | q | q | q | q; exact q ⟨by omega, by simpa using hX⟩; all_goals omega), if_neg (by omega), Int.toNat_natCast, Int.toNat_natCast, h1]
theorem bitLen_up : ∀ x : Nat, x < 2 ^ 64 → x < 2 ^ Lib.bitLen x := by
  intro x
  induction x using Nat.strongRecOn with
  | _ x ih =>
    intro hx
    by_cases h0 : x = 0
    · subst h0
      exact Nat.two_pow_pos _
    · rw [Lib.bitLen_half x h0 hx, Nat.add_comm, Nat.pow_succ]
      have := ih (x / 2) (by omega) (by omega)
      omega
theorem w64nat {a : Nat} (h : a < 9000000000000000000) : wrap64 (a : Int) = (a : Int) := w64 (by omega) (by omega)
noncomputable def unV (l : List Int) (N : Int) (s : Int × Bool) : Int × Int × Bool :=
  if s.2 = true then (0, s.1, true) else
  if (unT l N s 1).1 = 0 then (0, (unT l N s 1).2) else
  if ((unT l N (unT l N (unT l N s 1).2 6).2 6).2.2 || decide (64 < wrap64 (wrap64 (unT l N (unT l N s 1).2 6).1 + wrap64 (wrap64 (unT l N (unT l N (unT l N s 1).2 6).2 6).1 + 1)))) = true then (0, (unT l N (unT l N (unT l N s 1).2 6).2 6).2.1, true) else
  (shl .u64 (unT l N (unT l N (unT l N (unT l N s 1).2 6).2 6).2 (wrap64 (wrap64 (unT l N (unT l N (unT l N s 1).2 6).2 6).1 + 1))).1 (wrap64 (wrap64 (64 - wrap64 (unT l N (unT l N s 1).2 6).1) - wrap64 (wrap64 (unT l N (unT l N (unT l N s 1).2 6).2 6).1 + 1))),
    (unT l N (unT l N (unT l N (unT l N s 1).2 6).2 6).2 (wrap64 (wrap64 (unT l N (unT l N (unT l N s 1).2 6).2 6).1 + 1))).2)
theorem unT_part {l : List Int} {N c : Nat} {B L Z : List Bool} (hX : OkX l N) (hL : L.length = c) (hc : c ≤ 64) (hb : B.length ≤ 100000000) (h : Bs l N = B ++ L ++ Z) : unT l (N : Int) ((B.length : Int), false) (c : Int) = (((num L : Nat) : Int), ((B.length + c : Nat) : Int), false) := by
  unfold unT
  rw [takeR_part hX hL hc h]
  rw [show ((B.length : Int) + (c : Int)) = ((B.length + c : Nat) : Int) by omega, w64nat (by omega)]
  rfl
theorem unV_part {l : List Int} {N x : Nat} {B Z : List Bool} (hX : OkX l N) (hx : x < 18446744073709551616) (hb : B.length ≤ 10000000) (h : Bs l N = B ++ xorBits x ++ Z) : unV l (N : Int) ((B.length : Int), false) = ((x : Int), ((B.length + (xorBits x).length : Nat) : Int), false) := by
  by_cases h0 : x = 0
  · have e : xorBits x = low 0 1 := by rw [xorBits, if_pos h0]
    rw [e] at h ⊢
    have h1 := unT_part hX (low_length 0 1) (by decide) (by omega) h
    rw [num_low] at h1
    unfold unV
    rw [if_neg (by simp), show ((1 : Nat) : Int) = 1 from rfl] at *
    rw [h1]
    simp [h0]
  · obtain ⟨z1, z2⟩ := zs hx h0
    obtain ⟨H, hH⟩ : ∃ H, hiZ x = H := ⟨_, rfl⟩
    obtain ⟨S, hS⟩ : ∃ S, loZ x = S := ⟨_, rfl⟩
    obtain ⟨D, hD⟩ : ∃ D, wdZ x = D := ⟨_, rfl⟩
    have hs : H + S + D = 64 := by rw [← hH, ← hS, ← hD]; unfold hiZ loZ wdZ; unfold loZ at z1; omega
    have hd : 1 ≤ D := by rw [← hD]; unfold wdZ; unfold loZ at z1; omega
    have e : xorBits x = low 1 1 ++ low (H * 64 + (D - 1)) 12 ++ low (x / 2 ^ S) D := by rw [xorBits, if_neg h0, hH, hS, hD]
    have e12 : low (H * 64 + (D - 1)) 12 = low H 6 ++ low (D - 1) 6 := by
      rw [low_split _ 12 6 (by decide), show (H * 64 + (D - 1)) / 2 ^ (12 - 6) % 2 ^ 6 = H by rw [show 2 ^ (12 - 6) = 64 from rfl, Nat.mul_comm H 64, Nat.mul_add_div (by decide), Nat.div_eq_of_lt (show D - 1 < 64 by omega), Nat.add_zero, Nat.mod_eq_of_lt (show H < 64 by omega)], ← low_mod (H * 64 + (D - 1)) 6, ← low_mod (D - 1) 6]
      congr 2
      omega
    have hxS : x / 2 ^ S * 2 ^ S = x := by
      have hc : Lib.ctz 64 x = Lib.ctzFrom 64 x := by unfold Lib.ctz; rw [if_neg h0]
      obtain ⟨m, hm, _⟩ := Lib.ctzFrom_spec 64 x (by omega) hx
      rw [← hc] at hm
      rw [show Lib.ctz 64 x = S from hS] at hm
      exact Nat.div_mul_cancel ⟨2 * m + 1, hm⟩
    have hxD : x / 2 ^ S < 2 ^ D := by
      have := bitLen_up x hx
      rw [Nat.div_lt_iff_lt_mul (Nat.two_pow_pos _), ← Nat.pow_add]
      rwa [show D + S = Lib.bitLen x by rw [← hS, ← hD]; unfold wdZ; unfold loZ at *; omega]
    rw [e, e12] at h ⊢
    clear e e12 z1 z2 hH hS hD
    have a1 := unT_part (c := 1) (B := B) (L := low 1 1) (Z := low H 6 ++ (low (D - 1) 6 ++ (low (x / 2 ^ S) D ++ Z))) hX (low_length _ _) (by decide) (by omega) (by rw [h]; simp only [List.append_assoc])
    have a2 := unT_part (c := 6) (B := B ++ low 1 1) (L := low H 6) (Z := low (D - 1) 6 ++ (low (x / 2 ^ S) D ++ Z)) hX (low_length _ _) (by decide) (by simp; omega) (by rw [h]; simp only [List.append_assoc])
    have a3 := unT_part (c := 6) (B := B ++ low 1 1 ++ low H 6) (L := low (D - 1) 6) (Z := low (x / 2 ^ S) D ++ Z) hX (low_length _ _) (by decide) (by simp; omega) (by rw [h]; simp only [List.append_assoc])
    have a4 := unT_part (c := D) (B := B ++ low 1 1 ++ low H 6 ++ low (D - 1) 6) (L := low (x / 2 ^ S) D) (Z := Z) hX (low_length _ _) (by omega) (by simp; omega) (by rw [h]; simp only [List.append_assoc])
    rw [num_low] at a1 a2 a3 a4
    simp only [List.length_append, low_length] at a1 a2 a3 a4
    rw [show 1 % 2 ^ 1 = 1 from rfl] at a1
    rw [show H % 2 ^ 6 = H by omega] at a2
    rw [show (D - 1) % 2 ^ 6 = D - 1 by omega] at a3
    rw [Nat.mod_eq_of_lt hxD] at a4
    rw [show ((1 : Nat) : Int) = 1 from rfl] at a1
    rw [show ((6 : Nat) : Int) = 6 from rfl] at a2 a3
    unfold unV
    simp only [a1, a2, a3]
    rw [w64nat (show H < 9000000000000000000 by omega), w64nat (show D - 1 < 9000000000000000000 by omega), show (((D - 1 : Nat) : Int) + 1) = ((D : Nat) : Int) by omega, w64nat (show D < 9000000000000000000 by omega), show ((H : Int) + (D : Int)) = ((H + D : Nat) : Int) by omega, w64nat (show H + D < 9000000000000000000 by omega), a4]
    rw [show (64 - (H : Int)) = ((64 - H : Nat) : Int) by omega, w64nat (show 64 - H < 9000000000000000000 by omega), show (((64 - H : Nat) : Int) - (D : Int)) = ((S : Nat) : Int) by omega, w64nat (show S < 9000000000000000000 by omega)]
    rw [if_neg (by simp), if_neg (by simp), if_neg (by simp; omega)]
    have e5 : shl .u64 ((x / 2 ^ S : Nat) : Int) (S : Int) = (x : Int) := by
      unfold shl
      rw [Int.toNat_natCast, Nat.min_eq_left (by simp [IntKind.bits]; omega)]
      have : ((x / 2 ^ S : Nat) : Int) * 2 ^ S = (x : Int) := by rw [show (2 : Int) ^ S = ((2 ^ S : Nat) : Int) by simp, ← Int.natCast_mul, hxS]
      rw [this]
      exact u64wrap hx
    rw [e5]
    simp only [List.length_append, low_length, Prod.mk.injEq, true_and, and_true]
    omega
end Go.Proofs.YtbgmnmjokdfmlaaDoor.PA
namespace Go.Proofs.YtbgmnmjokdfmlaaDoor.PA
open Go.RowKit Go.Proofs.YtbgmnmjokdfmlaaDoor.G Go.Proofs.YtbgmnmjokdfmlaaDoorW.PrintWords Go.Proofs.YtbgmnmjokdfmlaaDoorW.PrintLast Go.Proofs.YtbgmnmjokdfmlaaDoorW.PrintMore
set_option linter.unusedVariables false
set_option linter.unusedSimpArgs false
theorem out_put.at_ (B g : Nat) (L : List Bool) (V C : Int) (v c : Nat) (w0 w : World) (hO : OU B w g L) (hB : Below B w0 w) (hgB : B ≤ g) (hV : V = (v : Int)) (hC : C = (c : Int)) (hv : v < 18446744073709551616) (hc : c ≤ 64) (hL : L.length ≤ 7000000) :
    Calls Tryd.prog 67 #[.pointer (some ⟨g, 0, none⟩), .int .u64 V, .int .i64 C] w fun e w' => e = .returned (.tuple #[]) ∧ OU B w' g (L ++ low v c) ∧ Below B w0 w' ∧ KeepO g w w' := by
  subst hV hC
  exact out_put.calls B g L v c w0 w hO hB hgB hv hc hL
theorem intBits_0 : intBits 0 = low 0 1 := by decide
theorem intBits_1 {v : Int} {u : Nat} (h0 : v ≠ 0) (h1 : -64 ≤ v) (h2 : v ≤ 63) (hu : IntKind.u64.wrap v = (u : Int)) : intBits v = low 2 2 ++ low u 7 := by
  have e : classN v = 1 := by unfold classN; rw [if_neg h0, if_pos ⟨h1, by omega⟩]
  unfold intBits
  rw [e, hu]
  rfl
theorem intBits_2 {v : Int} {u : Nat} (h1 : ¬ (-64 ≤ v ∧ v ≤ 63)) (h2 : -2048 ≤ v) (h3 : v ≤ 2047) (hu : IntKind.u64.wrap v = (u : Int)) : intBits v = low 6 3 ++ low u 12 := by
  have e : classN v = 2 := by unfold classN; rw [if_neg (by omega), if_neg (by omega), if_pos ⟨h2, by omega⟩]
  unfold intBits
  rw [e, hu]
  rfl
theorem intBits_3 {v : Int} {u : Nat} (h1 : ¬ (-2048 ≤ v ∧ v ≤ 2047)) (h2 : -2147483648 ≤ v) (h3 : v ≤ 2147483647) (hu : IntKind.u64.wrap v = (u : Int)) : intBits v = low 14 4 ++ low u 32 := by
  have e : classN v = 3 := by unfold classN; rw [if_neg (by omega), if_neg (by omega), if_neg (by omega), if_pos ⟨h2, by omega⟩]
  unfold intBits
  rw [e, hu]
  rfl
theorem intBits_4 {v : Int} {u : Nat} (h1 : ¬ (-2147483648 ≤ v ∧ v ≤ 2147483647)) (hu : IntKind.u64.wrap v = (u : Int)) : intBits v = low 15 4 ++ low u 64 := by
  have e : classN v = 4 := by unfold classN; rw [if_neg (by omega), if_neg (by omega), if_neg (by omega), if_neg (by omega)]
  unfold intBits
  rw [e, hu]
  rfl
set_option maxHeartbeats 4000000 in
set_option maxRecDepth 100000 in
theorem out_putInt.calls (B g : Nat) (L : List Bool) (v : Int) (w0 w : World) (hO : OU B w g L) (hB : Below B w0 w) (hgB : B ≤ g) (hL : L.length ≤ 6000000) :
    Calls Tryd.prog 68 #[.pointer (some ⟨g, 0, none⟩), .int .i64 v] w fun e w' => e = .returned (.tuple #[]) ∧ OU B w' g (L ++ intBits v) ∧ Below B w0 w' ∧ KeepO g w w' := by
  have HO := Aside0.mk hO
  have HB := Aside0.mk hB
  have HGB := Aside0.mk hgB
  have HL := Aside0.mk hL
  obtain ⟨u, hu, hu64⟩ := u64_of_int v
  have HU := Aside0.mk hu
  clear hO hB hgB hL
  by_cases h0 : v = 0
  · have d0 : (v == 0) = true := beq_iff_eq.2 h0
    have HE : Aside0 (intBits v = low 0 1) := ⟨by rw [h0]; exact intBits_0⟩
    clear h0 hu
    go_enter Tryd.func68, Tryd.ntmps68
    go_wp2_with (go_at_call 67; (with_reducible refine (out_put.at_ B g L 0 1 0 1 w0 _ HO.out HB.out HGB.out rfl rfl (by decide) (by decide) (by have := HL.out; omega)).mono ?_); rintro e w1 ⟨rfl, ho, hb, hk⟩; have HO1 := Aside0.mk ho; have HB1 := Aside0.mk hb; have HK1 := Aside0.mk hk; clear ho hb hk)
    refine bodyPost_end (results_none rfl _ _ _) rfl ?_
    exact ⟨rfl, by rw [HE.out]; exact HO1.out, HB1.out, HK1.out⟩
  have d0 : (v == 0) = false := beq_eq_false_iff_ne.2 h0
  by_cases h1 : -64 ≤ v ∧ v ≤ 63
  · have d1 : decide (-64 ≤ v) = true := decide_eq_true h1.1
    have d2 : decide (v ≤ 63) = true := decide_eq_true h1.2
    have HE := Aside0.mk (intBits_1 h0 h1.1 h1.2 hu)
    clear h0 hu h1
    go_enter Tryd.func68, Tryd.ntmps68
    go_wp2_with (first
      | (go_at_call 67; (with_reducible refine (out_put.at_ B g L 2 2 2 2 w0 _ HO.out HB.out HGB.out rfl rfl (by decide) (by decide) (by have := HL.out; omega)).mono ?_); rintro e w1 ⟨rfl, ho, hb, hk⟩; have HO1 := Aside0.mk ho; have HB1 := Aside0.mk hb; have HK1 := Aside0.mk hk; clear ho hb hk)
      | (go_at_call 67; (with_reducible refine (out_put.at_ B g (L ++ low 2 2) _ 7 u 7 w0 _ HO1.out HB1.out HGB.out HU.out rfl hu64 (by decide) (by have := HL.out; simp; omega)).mono ?_); rintro e w2 ⟨rfl, ho, hb, hk⟩; have HO2 := Aside0.mk ho; have HB2 := Aside0.mk hb; have HK2 := Aside0.mk (HK1.out.trans hk); clear ho hb hk))
    refine bodyPost_end (results_none rfl _ _ _) rfl ?_
    exact ⟨rfl, by rw [HE.out, ← List.append_assoc]; exact HO2.out, HB2.out, HK2.out⟩
  clear d0
  have d0 : (v == 0) = false := beq_eq_false_iff_ne.2 h0
  by_cases h2 : -2048 ≤ v ∧ v ≤ 2047
  · have e2 : decide (-2048 ≤ v) = true := decide_eq_true h2.1
    have e3 : decide (v ≤ 2047) = true := decide_eq_true h2.2
    have HE := Aside0.mk (intBits_2 h1 h2.1 h2.2 hu)
    clear h0 hu h2
    by_cases hneg : v < 0
    · have f64a : decide (-64 ≤ v) = false := decide_eq_false (by omega)
      clear h1
      clear hneg
      go_enter Tryd.func68, Tryd.ntmps68
      go_wp2_with (first
        | (go_at_call 67; (with_reducible refine (out_put.at_ B g L 6 3 6 3 w0 _ HO.out HB.out HGB.out rfl rfl (by decide) (by decide) (by have := HL.out; omega)).mono ?_); rintro e w1 ⟨rfl, ho, hb, hk⟩; have HO1 := Aside0.mk ho; have HB1 := Aside0.mk hb; have HK1 := Aside0.mk hk; clear ho hb hk)
        | (go_at_call 67; (with_reducible refine (out_put.at_ B g (L ++ low 6 3) _ 12 u 12 w0 _ HO1.out HB1.out HGB.out HU.out rfl hu64 (by decide) (by have := HL.out; simp; omega)).mono ?_); rintro e w2 ⟨rfl, ho, hb, hk⟩; have HO2 := Aside0.mk ho; have HB2 := Aside0.mk hb; have HK2 := Aside0.mk (HK1.out.trans hk); clear ho hb hk))
      refine bodyPost_end (results_none rfl _ _ _) rfl ?_
      exact ⟨rfl, by rw [HE.out, ← List.append_assoc]; exact HO2.out, HB2.out, HK2.out⟩
    · have f64a : decide (-64 ≤ v) = true := decide_eq_true (by omega)
      have f64b : decide (v ≤ 63) = false := decide_eq_false (by omega)
      clear h1
      clear hneg
      go_enter Tryd.func68, Tryd.ntmps68
      go_wp2_with (first
        | (go_at_call 67; (with_reducible refine (out_put.at_ B g L 6 3 6 3 w0 _ HO.out HB.out HGB.out rfl rfl (by decide) (by decide) (by have := HL.out; omega)).mono ?_); rintro e w1 ⟨rfl, ho, hb, hk⟩; have HO1 := Aside0.mk ho; have HB1 := Aside0.mk hb; have HK1 := Aside0.mk hk; clear ho hb hk)
        | (go_at_call 67; (with_reducible refine (out_put.at_ B g (L ++ low 6 3) _ 12 u 12 w0 _ HO1.out HB1.out HGB.out HU.out rfl hu64 (by decide) (by have := HL.out; simp; omega)).mono ?_); rintro e w2 ⟨rfl, ho, hb, hk⟩; have HO2 := Aside0.mk ho; have HB2 := Aside0.mk hb; have HK2 := Aside0.mk (HK1.out.trans hk); clear ho hb hk))
      refine bodyPost_end (results_none rfl _ _ _) rfl ?_
      exact ⟨rfl, by rw [HE.out, ← List.append_assoc]; exact HO2.out, HB2.out, HK2.out⟩
  clear h1
  have h1 := h2
  clear h2
  by_cases h2 : -2147483648 ≤ v ∧ v ≤ 2147483647
  · have e2 : decide (-2147483648 ≤ v) = true := decide_eq_true h2.1
    have e3 : decide (v ≤ 2147483647) = true := decide_eq_true h2.2
    have HE := Aside0.mk (intBits_3 h1 h2.1 h2.2 hu)
    clear h0 hu h2
    by_cases hneg : v < 0
    · have f64a : decide (-64 ≤ v) = false := decide_eq_false (by omega)
      have f2048a : decide (-2048 ≤ v) = false := decide_eq_false (by omega)
      clear h1
      clear hneg
      go_enter Tryd.func68, Tryd.ntmps68
      go_wp2_with (first
        | (go_at_call 67; (with_reducible refine (out_put.at_ B g L 14 4 14 4 w0 _ HO.out HB.out HGB.out rfl rfl (by decide) (by decide) (by have := HL.out; omega)).mono ?_); rintro e w1 ⟨rfl, ho, hb, hk⟩; have HO1 := Aside0.mk ho; have HB1 := Aside0.mk hb; have HK1 := Aside0.mk hk; clear ho hb hk)
        | (go_at_call 67; (with_reducible refine (out_put.at_ B g (L ++ low 14 4) _ 32 u 32 w0 _ HO1.out HB1.out HGB.out HU.out rfl hu64 (by decide) (by have := HL.out; simp; omega)).mono ?_); rintro e w2 ⟨rfl, ho, hb, hk⟩; have HO2 := Aside0.mk ho; have HB2 := Aside0.mk hb; have HK2 := Aside0.mk (HK1.out.trans hk); clear ho hb hk))
      refine bodyPost_end (results_none rfl _ _ _) rfl ?_
      exact ⟨rfl, by rw [HE.out, ← List.append_assoc]; exact HO2.out, HB2.out, HK2.out⟩
    · have f64a : decide (-64 ≤ v) = true := decide_eq_true (by omega)
      have f64b : decide (v ≤ 63) = false := decide_eq_false (by omega)
      have f2048a : decide (-2048 ≤ v) = true := decide_eq_true (by omega)
      have f2048b : decide (v ≤ 2047) = false := decide_eq_false (by omega)
      clear h1
      clear hneg
      go_enter Tryd.func68, Tryd.ntmps68
      go_wp2_with (first
        | (go_at_call 67; (with_reducible refine (out_put.at_ B g L 14 4 14 4 w0 _ HO.out HB.out HGB.out rfl rfl (by decide) (by decide) (by have := HL.out; omega)).mono ?_); rintro e w1 ⟨rfl, ho, hb, hk⟩; have HO1 := Aside0.mk ho; have HB1 := Aside0.mk hb; have HK1 := Aside0.mk hk; clear ho hb hk)
        | (go_at_call 67; (with_reducible refine (out_put.at_ B g (L ++ low 14 4) _ 32 u 32 w0 _ HO1.out HB1.out HGB.out HU.out rfl hu64 (by decide) (by have := HL.out; simp; omega)).mono ?_); rintro e w2 ⟨rfl, ho, hb, hk⟩; have HO2 := Aside0.mk ho; have HB2 := Aside0.mk hb; have HK2 := Aside0.mk (HK1.out.trans hk); clear ho hb hk))
      refine bodyPost_end (results_none rfl _ _ _) rfl ?_
      exact ⟨rfl, by rw [HE.out, ← List.append_assoc]; exact HO2.out, HB2.out, HK2.out⟩
  · clear h1
    have h1 := h2
    have HE := Aside0.mk (intBits_4 h1 hu)
    clear h0 hu h2
    by_cases hneg : v < 0
    · have f64a : decide (-64 ≤ v) = false := decide_eq_false (by omega)
      have f2048a : decide (-2048 ≤ v) = false := decide_eq_false (by omega)
      have f2147483648a : decide (-2147483648 ≤ v) = false := decide_eq_false (by omega)
      clear h1
      clear hneg
      go_enter Tryd.func68, Tryd.ntmps68
      go_wp2_with (first
        | (go_at_call 67; (with_reducible refine (out_put.at_ B g L 15 4 15 4 w0 _ HO.out HB.out HGB.out rfl rfl (by decide) (by decide) (by have := HL.out; omega)).mono ?_); rintro e w1 ⟨rfl, ho, hb, hk⟩; have HO1 := Aside0.mk ho; have HB1 := Aside0.mk hb; have HK1 := Aside0.mk hk; clear ho hb hk)
        | (go_at_call 67; (with_reducible refine (out_put.at_ B g (L ++ low 15 4) _ 64 u 64 w0 _ HO1.out HB1.out HGB.out HU.out rfl hu64 (by decide) (by have := HL.out; simp; omega)).mono ?_); rintro e w2 ⟨rfl, ho, hb, hk⟩; have HO2 := Aside0.mk ho; have HB2 := Aside0.mk hb; have HK2 := Aside0.mk (HK1.out.trans hk); clear ho hb hk))
      refine bodyPost_end (results_none rfl _ _ _) rfl ?_
      exact ⟨rfl, by rw [HE.out, ← List.append_assoc]; exact HO2.out, HB2.out, HK2.out⟩
    · have f64a : decide (-64 ≤ v) = true := decide_eq_true (by omega)
      have f64b : decide (v ≤ 63) = false := decide_eq_false (by omega)
      have f2048a : decide (-2048 ≤ v) = true := decide_eq_true (by omega)
      have f2048b : decide (v ≤ 2047) = false := decide_eq_false (by omega)
      have f2147483648a : decide (-2147483648 ≤ v) = true := decide_eq_true (by omega)
      have f2147483648b : decide (v ≤ 2147483647) = false := decide_eq_false (by omega)
      clear h1
      clear hneg
      go_enter Tryd.func68, Tryd.ntmps68
      go_wp2_with (first
        | (go_at_call 67; (with_reducible refine (out_put.at_ B g L 15 4 15 4 w0 _ HO.out HB.out HGB.out rfl rfl (by decide) (by decide) (by have := HL.out; omega)).mono ?_); rintro e w1 ⟨rfl, ho, hb, hk⟩; have HO1 := Aside0.mk ho; have HB1 := Aside0.mk hb; have HK1 := Aside0.mk hk; clear ho hb hk)
        | (go_at_call 67; (with_reducible refine (out_put.at_ B g (L ++ low 15 4) _ 64 u 64 w0 _ HO1.out HB1.out HGB.out HU.out rfl hu64 (by decide) (by have := HL.out; simp; omega)).mono ?_); rintro e w2 ⟨rfl, ho, hb, hk⟩; have HO2 := Aside0.mk ho; have HB2 := Aside0.mk hb; have HK2 := Aside0.mk (HK1.out.trans hk); clear ho hb hk))
      refine bodyPost_end (results_none rfl _ _ _) rfl ?_
      exact ⟨rfl, by rw [HE.out, ← List.append_assoc]; exact HO2.out, HB2.out, HK2.out⟩
theorem not_one (v i : Nat) (hv : v < 18446744073709551616) (hi : i ≤ 64) : (Go.bits .and .u64 ((v : Int) / 2 ^ i) 1 == 0) = !v.testBit i := by
  have := and_one v i hv hi
  have h2 : v / 2 ^ i < 18446744073709551616 := Nat.lt_of_le_of_lt (Nat.div_le_self _ _) hv
  have e : (v : Int) / 2 ^ i = ((v / 2 ^ i : Nat) : Int) := by simp
  rw [e] at this ⊢
  rw [show (1 : Int) = ((1 : Nat) : Int) from rfl, u64_and_nat _ 1 h2 (by omega), Nat.and_one_is_mod] at this ⊢
  rw [← this]
  rcases Nat.mod_two_eq_zero_or_one (v / 2 ^ i) with h | h <;> rw [h] <;> rfl
theorem hi_bits {x : Nat} (hx : x < 18446744073709551616) (h0 : x ≠ 0) : 1 ≤ Lib.bitLen x ∧ Lib.bitLen x ≤ 64 ∧ x.testBit (Lib.bitLen x - 1) = true ∧ ∀ j, Lib.bitLen x ≤ j → x.testBit j = false := by
  have h1 := Lib.bitLen_le x 64 (by decide) hx
  have h2 := bitLen_up x hx
  have h3 : 1 ≤ Lib.bitLen x := by
    rcases Nat.eq_zero_or_pos (Lib.bitLen x) with h | h
    · rw [h] at h2
      omega
    · exact h
  refine ⟨h3, h1, ?_, fun j hj => Nat.testBit_lt_two_pow (Nat.lt_of_lt_of_le h2 (Nat.pow_le_pow_right (by decide) hj))⟩
  refine Nat.testBit_of_two_pow_le_and_two_pow_add_one_gt ?_ (by rwa [show Lib.bitLen x - 1 + 1 = Lib.bitLen x by omega])
  rcases Nat.lt_or_ge x (2 ^ (Lib.bitLen x - 1)) with h | h
  · have := Lib.bitLen_le x (Lib.bitLen x - 1) (by omega) h
    omega
  · exact h
theorem lo_bits {x : Nat} (hx : x < 18446744073709551616) (h0 : x ≠ 0) : x.testBit (loZ x) = true ∧ ∀ j, j < loZ x → x.testBit j = false := by
  have hc : loZ x = Lib.ctzFrom 64 x := by unfold loZ Lib.ctz; rw [if_neg h0]
  obtain ⟨m, hm, _⟩ := Lib.ctzFrom_spec 64 x (by omega) hx
  rw [← hc] at hm
  constructor
  · rw [show x.testBit (loZ x) = (2 ^ loZ x * (2 * m + 1)).testBit (loZ x) from congrArg (fun z => z.testBit (loZ x)) hm, Nat.testBit_two_pow_mul]
    simp
  · intro j hj
    rw [show x.testBit j = (2 ^ loZ x * (2 * m + 1)).testBit j from congrArg (fun z => z.testBit j) hm, Nat.testBit_two_pow_mul]
    simp
    omega
theorem low12 {H D : Nat} (hH : H < 64) (hD : D < 64) : low (H * 64 + D) 12 = low H 6 ++ low D 6 := by
  rw [low_split _ 12 6 (by decide), show (H * 64 + D) / 2 ^ (12 - 6) % 2 ^ 6 = H by rw [show 2 ^ (12 - 6) = 64 from rfl, Nat.mul_comm H 64, Nat.mul_add_div (by decide), Nat.div_eq_of_lt hD, Nat.add_zero, Nat.mod_eq_of_lt hH], ← low_mod (H * 64 + D) 6, ← low_mod D 6]
  congr 2
  omega
theorem u64n {n : Nat} (h : n < 18446744073709551616) : IntKind.u64.wrap (n : Int) = (n : Int) := u64wrap h
set_option maxHeartbeats 4000000 in
set_option maxRecDepth 100000 in
theorem out_putXor.calls (B g : Nat) (L : List Bool) (x : Nat) (w0 w : World) (hO : OU B w g L) (hB : Below B w0 w) (hgB : B ≤ g) (hx : x < 18446744073709551616) (hL : L.length ≤ 6000000) :
    Calls Tryd.prog 69 #[.pointer (some ⟨g, 0, none⟩), .int .u64 (x : Int)] w fun e w' => e = .returned (.tuple #[]) ∧ OU B w' g (L ++ xorBits x) ∧ Below B w0 w' ∧ KeepO g w w' := by
  have HO := Aside0.mk hO
  have HB := Aside0.mk hB
  have HGB := Aside0.mk hgB
  have HL := Aside0.mk hL
  clear hO hB hgB hL
  by_cases h0 : x = 0
  · have hb : ((x : Int) == 0) = true := beq_iff_eq.2 (by omega)
    have HX : Aside0 (xorBits x = low 0 1) := ⟨by rw [xorBits, if_pos h0]⟩
    clear h0
    go_enter Tryd.func69, Tryd.ntmps69
    go_wp2_with (go_at_call 67; (with_reducible refine (out_put.at_ B g L 0 1 0 1 w0 _ HO.out HB.out HGB.out rfl rfl (by decide) (by decide) (by have := HL.out; omega)).mono ?_); rintro e w1 ⟨rfl, ho, hb, hk⟩; have HO1 := Aside0.mk ho; have HB1 := Aside0.mk hb; have HK1 := Aside0.mk hk; clear ho hb hk)
    refine bodyPost_ret (results_none rfl _ _ _) rfl ?_
    exact ⟨rfl, by rw [HX.out]; exact HO1.out, HB1.out, HK1.out⟩
  · have hb : ((x : Int) == 0) = false := beq_eq_false_iff_ne.2 (by omega)
    obtain ⟨b1, b2, b3, b4⟩ := hi_bits hx h0
    obtain ⟨c3, c4⟩ := lo_bits hx h0
    obtain ⟨z1, z2⟩ := zs hx h0
    obtain ⟨H, hH⟩ : ∃ H, hiZ x = H := ⟨_, rfl⟩
    obtain ⟨S, hS⟩ : ∃ S, loZ x = S := ⟨_, rfl⟩
    obtain ⟨D, hD⟩ : ∃ D, wdZ x = D := ⟨_, rfl⟩
    have hs : H + S + D = 64 := by rw [← hH, ← hS, ← hD]; unfold hiZ loZ wdZ; unfold loZ at z1; omega
    have hd : 1 ≤ D := by rw [← hD]; unfold wdZ; unfold loZ at z1; omega
    have HX : Aside0 (xorBits x = low 1 1 ++ (low H 6 ++ low (D - 1) 6) ++ low (x / 2 ^ S) D) := ⟨by rw [xorBits, if_neg h0, hH, hS, hD, low12 (by omega) (by omega)]⟩
    have HHI : Aside0 (∀ h : Nat, h ≤ H → (x.testBit (63 - h) = decide (h = H))) := ⟨fun h hh => by
      unfold hiZ at hH
      by_cases e : h = H
      · rw [decide_eq_true e, show 63 - h = Lib.bitLen x - 1 by omega, b3]
      · rw [decide_eq_false e, b4 _ (by omega)]⟩
    have HLO : Aside0 (∀ h : Nat, h ≤ S → (x.testBit h = decide (h = S))) := ⟨fun h hh => by
      by_cases e : h = S
      · rw [decide_eq_true e, e, ← hS, c3]
      · rw [decide_eq_false e, c4 _ (by omega)]⟩
    have HXL := Aside0.mk hx
    clear b1 b2 b3 b4 c3 c4 z1 z2 hH hS hD h0
    go_enter Tryd.func69, Tryd.ntmps69
    go_wp2
    go_loop [4] (fun v4 => ∃ h : Nat, h ≤ H ∧ v4 = .int .i64 h) (fun v4 => 64 - (intOf v4).toNat)
    case atStart => exact ⟨0, Nat.zero_le _, rfl⟩
    case round =>
      obtain ⟨h, hh, rfl⟩ := hrel
      have hd63 : 63 - (h : Int) = ((63 - h : Nat) : Int) := by omega
      have ht := not_one x (63 - h) HXL.out (by omega)
      rw [HHI.out h hh] at ht
      by_cases hlt : h = H
      · rw [decide_eq_true hlt] at ht
        subst hlt
        go_wp2
        clear ht hd63
        go_loop [5] (fun v5 => ∃ q : Nat, q ≤ S ∧ v5 = .int .i64 q) (fun v5 => 64 - (intOf v5).toNat)
        case atStart => exact ⟨0, Nat.zero_le _, rfl⟩
        case round =>
          obtain ⟨q, hq, rfl⟩ := hrel
          have ht2 := not_one x q HXL.out (by omega)
          rw [HLO.out q hq] at ht2
          by_cases hl2 : q = S
          · rw [decide_eq_true hl2] at ht2
            subst hl2
            have hxs : (x : Int) / 2 ^ q = ((x / 2 ^ q : Nat) : Int) := by simp
            have hxq : x / 2 ^ q < 18446744073709551616 := Nat.lt_of_le_of_lt (Nat.div_le_self _ _) HXL.out
            have CA := Aside0.mk (fun W h1 h2 => out_put.at_ B g L 1 1 1 1 w0 W h1 h2 HGB.out rfl rfl (by decide) (by decide) (by have := HL.out; omega))
            have CB := Aside0.mk (fun W h1 h2 => out_put.at_ B g (L ++ low 1 1) (h : Int) 6 h 6 w0 W h1 h2 HGB.out rfl rfl (by omega) (by decide) (by have := HL.out; simp; omega))
            have CC := Aside0.mk (fun W h1 h2 => out_put.at_ B g (L ++ low 1 1 ++ low h 6) (64 - (h : Int) - (q : Int) - 1) 6 (D - 1) 6 w0 W h1 h2 HGB.out (by omega) rfl (by omega) (by decide) (by have := HL.out; simp; omega))
            have CD := Aside0.mk (fun W h1 h2 => out_put.at_ B g (L ++ low 1 1 ++ low h 6 ++ low (D - 1) 6) ((x : Int) / 2 ^ q) (64 - (h : Int) - (q : Int)) (x / 2 ^ q) D w0 W h1 h2 HGB.out hxs (by omega) hxq (by omega) (by have := HL.out; simp; omega))
            clear hxs hxq
            go_wp2_with (first
              | (go_at_call 67; (with_reducible refine (CA.out _ HO.out HB.out).mono ?_); rintro e w1 ⟨rfl, ho, hb, hk⟩; have HO1 := Aside0.mk ho; have HB1 := Aside0.mk hb; have HK1 := Aside0.mk hk; clear ho hb hk)
              | (go_at_call 67; (with_reducible refine (CB.out _ HO1.out HB1.out).mono ?_); rintro e w2 ⟨rfl, ho, hb, hk⟩; have HO2 := Aside0.mk ho; have HB2 := Aside0.mk hb; have HK2 := Aside0.mk (HK1.out.trans hk); clear ho hb hk)
              | (go_at_call 67; (with_reducible refine (CC.out _ HO2.out HB2.out).mono ?_); rintro e w3 ⟨rfl, ho, hb, hk⟩; have HO3 := Aside0.mk ho; have HB3 := Aside0.mk hb; have HK3 := Aside0.mk (HK2.out.trans hk); clear ho hb hk)
              | (go_at_call 67; (with_reducible refine (CD.out _ HO3.out HB3.out).mono ?_); rintro e w4 ⟨rfl, ho, hb, hk⟩; have HO4 := Aside0.mk ho; have HB4 := Aside0.mk hb; have HK4 := Aside0.mk (HK3.out.trans hk); clear ho hb hk))
            refine bodyPost_end (results_none rfl _ _ _) rfl ?_
            refine ⟨rfl, ?_, HB4.out, HK4.out⟩
            have := HO4.out
            rw [HX.out]
            simp only [List.append_assoc] at this ⊢
            exact this
          · rw [decide_eq_false hl2] at ht2
            go_wp2
            go_round
            case rel => exact ⟨q + 1, by omega, by go_num⟩
            case measure => simp [intOf] <;> omega
      · rw [decide_eq_false hlt] at ht
        go_wp2
        go_round
        case rel => exact ⟨h + 1, by omega, by go_num⟩
        case measure => simp [intOf] <;> omega
end Go.Proofs.YtbgmnmjokdfmlaaDoor.PA
namespace Go.Proofs.YtbgmnmjokdfmlaaDoor.G
open Go.RowKit Go.Proofs.YtbgmnmjokdfmlaaDoorW.PrintWords Go.Proofs.YtbgmnmjokdfmlaaDoorW.PrintLast Go.Proofs.YtbgmnmjokdfmlaaDoorW.PrintMore
set_option linter.unusedVariables false
set_option linter.unusedSimpArgs false
def crc_Get.f (l : List Int) : Option (Int × Bool) := if okB l = true then (if 1 ≤ l.length ∧ l.length ≤ 8 then some ((beV 0 l : Nat), true) else some (0, false)) else none
theorem beV_take (l : List Int) (k : Nat) (hk : k < l.length) : beV 0 (l.take (k + 1)) = beV 0 (l.take k) * 256 + (rd l (k : Int)).toNat := by
  have e : rd l (k : Int) = l[k] := by simp [rd, List.getD_eq_getElem?_getD, List.getElem?_eq_getElem hk]
  rw [List.take_succ_eq_append_getElem hk, e]
  unfold beV
  rw [List.foldl_append]
  rfl
theorem beV_take_lt {l : List Int} (hl : okB l = true) (k : Nat) : beV 0 (l.take k) < 256 ^ k := by
  have h := beV_lt (l.take k) (fun x hx => okB_iff.1 hl x (List.mem_of_mem_take hx)) 0 0 (by simp)
  refine Nat.lt_of_lt_of_le h (Nat.pow_le_pow_right (by decide) ?_)
  rw [List.length_take]
  omega
set_option maxHeartbeats 800000 in
set_option maxRecDepth 100000 in
theorem crc_Get.calls (A0 : Option Addr) (c0 : Nat) (l0 : List Int) (r1 : Int) (r2 : Bool) (w : World) (hr0 : Kd.C (Kd.int .u8) w A0 l0.length l0) (hc0 : l0.length ≤ c0) (h : crc_Get.f l0 = some (r1, r2)) :
    Calls Tryd.prog 59 #[.slice A0 l0.length c0] w fun e w' => e = .returned (.tuple #[.int .u64 r1, .bool r2]) ∧ Drawn0 w w' := by
  have HR := Aside0.mk hr0
  clear hr0 hc0
  unfold crc_Get.f at h
  split at h
  case isFalse => cases h
  case isTrue hok =>
  by_cases hl : 1 ≤ l0.length ∧ l0.length ≤ 8
  case neg =>
    rw [if_neg hl] at h
    simp only [Option.some.injEq, Prod.mk.injEq] at h
    obtain ⟨rfl, rfl⟩ := h
    by_cases h0 : l0.length = 0
    · have e0 : ((l0.length : Int) == 0) = true := beq_iff_eq.2 (by omega)
      clear hl h0
      go_enter Tryd.func59, Tryd.ntmps59
      go_wp2
      go_ret2
      exact ⟨rfl, Drawn0.refl _⟩
    · have e0 : ((l0.length : Int) == 0) = false := beq_eq_false_iff_ne.2 (by omega)
      have e1 : decide ((8 : Int) < (l0.length : Int)) = true := decide_eq_true (by omega)
      clear hl h0
      go_enter Tryd.func59, Tryd.ntmps59
      go_wp2
      go_ret2
      exact ⟨rfl, Drawn0.refl _⟩
  case pos =>
    rw [if_pos hl] at h
    simp only [Option.some.injEq, Prod.mk.injEq] at h
    obtain ⟨rfl, rfl⟩ := h
    have e0 : ((l0.length : Int) == 0) = false := beq_eq_false_iff_ne.2 (by omega)
    have e1 : decide ((8 : Int) < (l0.length : Int)) = false := decide_eq_false (by omega)
    go_enter Tryd.func59, Tryd.ntmps59
    go_wp2
    go_loop [4, 17] (fun n i => ∃ k : Nat, k ≤ l0.length ∧ i = .int .i64 k ∧ n = .int .u64 (beV 0 (l0.take k) : Nat)) (fun _ i => l0.length - (intOf i).toNat)
    case atStart => exact ⟨0, Nat.zero_le _, rfl, rfl⟩
    case round =>
      obtain ⟨k, hk, rfl, rfl⟩ := hrel
      by_cases hlt : k < l0.length
      · obtain ⟨ad, rfl, hc⟩ := Kd.at_int HR.out (k : Int) (by omega) (by omega)
        rw [Int.toNat_natCast] at hc
        have hx := okB_iff.1 hok _ (rd_mem l0 k hlt)
        have HT := Aside0.mk (beV_take l0 k hlt)
        have hV := beV_take_lt hok k
        have h7 : beV 0 (l0.take k) < 256 ^ 7 := Nat.lt_of_lt_of_le hV (Nat.pow_le_pow_right (by decide) (by omega))
        have HO := Aside0.mk (or8 _ _ h7 hx.1 hx.2)
        have HV := Aside0.mk h7
        clear hV h7 hx
        go_wp2
        go_round
        case rel => exact ⟨k + 1, by omega, by go_num, by rw [HT.out, ← HO.out]⟩
        case measure => simp [intOf]; omega
      · obtain rfl : k = l0.length := by omega
        go_wp2
        go_ret2
        exact ⟨rfl, Drawn0.refl _⟩
end Go.Proofs.YtbgmnmjokdfmlaaDoor.G
namespace Go.Proofs.YtbgmnmjokdfmlaaDoor.PA
open Go.RowKit Go.Proofs.YtbgmnmjokdfmlaaDoor.G Go.Proofs.YtbgmnmjokdfmlaaDoorW.PrintWords Go.Proofs.YtbgmnmjokdfmlaaDoorW.PrintLast Go.Proofs.YtbgmnmjokdfmlaaDoorW.PrintMore
set_option linter.unusedVariables false
set_option linter.unusedSimpArgs false
theorem pack_ex (L : List Bool) (hL : L.length ≤ 7000000) : ∀ n, n ≤ L.length → ∃ b, OkX b n ∧ Bs b n = L.take n
  | 0, _ => ⟨[], okX_nil, rfl⟩
  | n + 1, h => by
    obtain ⟨b, hb, hbs⟩ := pack_ex L hL n (by omega)
    obtain ⟨b', _, h1, h2⟩ := put_ok hb (by have := hb.near; omega) (if L[n] = true then 1 else 0) 1 (by split <;> decide) (by decide)
    refine ⟨b', h1, ?_⟩
    rw [h2, hbs, List.take_succ_eq_append_getElem h]
    congr 1
    cases L[n] <;> rfl
theorem packB_ok (L : List Bool) (hL : L.length ≤ 7000000) : OkX (packB L) L.length ∧ Bs (packB L) L.length = L := by
  obtain ⟨b, h1, h2⟩ := pack_ex L hL L.length (Nat.le_refl _)
  rw [List.take_length] at h2
  rw [packB_of h1 h2]
  exact ⟨h1, h2⟩
theorem unT_range (l : List Int) (N c : Int) (s : Int × Bool) : 0 ≤ (unT l N s c).1 ∧ (unT l N s c).1 < 18446744073709551616 := by
  unfold unT takeR
  split
  · exact ⟨Int.le_refl _, by show (0 : Int) < _; decide⟩
  · rename_i h
    split
    · exact ⟨Int.le_refl _, by show (0 : Int) < _; decide⟩
    · have := num_lt64 (win l s.1.toNat c.toNat) (by rw [win_length]; omega)
      exact ⟨Int.natCast_nonneg _, by show ((num _ : Nat) : Int) < _; omega⟩
theorem unT_place {l : List Int} {N : Nat} {c : Int} {s : Int × Bool} (hN : N ≤ 100000000) (h : (unT l (N : Int) s c).2.2 = false) : s.2 = false ∧ (unT l (N : Int) s c).2.1 = s.1 + c ∧ 0 ≤ s.1 ∧ s.1 + c ≤ N ∧ 0 ≤ c := by
  obtain ⟨p, bad⟩ := s
  unfold unT takeR at *
  simp only [Bool.or_eq_false_iff] at h
  obtain ⟨hb, h⟩ := h
  split at h
  · simp at h
  · rename_i h1
    split at h
    · simp at h
    · rename_i h2
      simp only at h1 h2 ⊢
      exact ⟨hb, w64 (by omega) (by omega), by omega, by omega, by omega⟩
theorem headI_place {l : List Int} {n : Nat} {v q : Int} : ∀ (m p : Nat), p ≤ n → headI l n m p = (v, q, 0) → (p : Int) + (if m = 0 then 0 else 1) ≤ q ∧ q ≤ (n : Int)
  | 0, p, hp, h => by
    simp only [headI, tailI] at h
    split at h
    · simp at h
    · split at h
      · have hw := (width_le 4).1
        simp only [Prod.mk.injEq] at h
        rw [if_pos rfl]
        omega
      · simp at h
  | m + 1, p, hp, h => by
    rw [if_neg (by omega)]
    simp only [headI] at h
    split at h
    · simp at h
    · split at h
      · have := headI_place m (p + 1) (by omega) h
        split at this <;> omega
      · simp only [tailI] at h
        split at h
        · simp at h
        · split at h
          · have hw := (width_le (3 - (m : Int))).1
            simp only [Prod.mk.injEq] at h
            omega
          · simp at h
theorem unN_place {l : List Int} {N : Nat} {s : Int × Bool} (h : (unN l (N : Int) s).2.2 = false) : s.2 = false ∧ s.1 + 1 ≤ (unN l (N : Int) s).2.1 ∧ 0 ≤ s.1 ∧ (unN l (N : Int) s).2.1 ≤ N := by
  obtain ⟨p, bad⟩ := s
  unfold unN takeI at *
  simp only [Bool.or_eq_false_iff] at h ⊢
  obtain ⟨hb, h⟩ := h
  split at h
  · simp at h
  · rename_i h1
    rw [if_neg h1]
    have e : ¬ p < 0 ∧ ¬ (N : Int) < p := ⟨by omega, by omega⟩
    obtain ⟨v, q, z, hq⟩ : ∃ v q z, headI l ((N : Int)).toNat 4 p.toNat = (v, q, z) := ⟨_, _, _, rfl⟩
    rw [hq] at h ⊢
    have hz : z = 0 := by simpa using h
    subst hz
    have := headI_place 4 p.toNat (by simp; omega) hq
    rw [if_neg (by decide)] at this
    simp only [Int.toNat_natCast] at this
    refine ⟨hb, ?_, by omega, ?_⟩
    · show p + 1 ≤ q
      omega
    · show q ≤ _
      omega
theorem unV_range (l : List Int) (N : Int) (s : Int × Bool) : 0 ≤ (unV l N s).1 ∧ (unV l N s).1 < 18446744073709551616 := by
  unfold unV
  repeat' split
  · exact ⟨Int.le_refl _, by show (0 : Int) < _; decide⟩
  · exact ⟨Int.le_refl _, by show (0 : Int) < _; decide⟩
  · exact ⟨Int.le_refl _, by show (0 : Int) < _; decide⟩
  · unfold shl
    exact u64_wrap_range _
theorem unV_place {l : List Int} {N : Nat} {s : Int × Bool} (hN : N ≤ 100000000) (h : (unV l (N : Int) s).2.2 = false) : s.2 = false ∧ s.1 + 1 ≤ (unV l (N : Int) s).2.1 ∧ (unV l (N : Int) s).2.1 ≤ N := by
  cases hs : s.2 with
  | true => rw [unV, if_pos hs] at h; simp at h
  | false =>
    obtain ⟨a, ha⟩ : ∃ a, unT l (N : Int) s 1 = a := ⟨_, rfl⟩
    obtain ⟨b, hb⟩ : ∃ b, unT l (N : Int) a.2 6 = b := ⟨_, rfl⟩
    obtain ⟨d, hd⟩ : ∃ d, unT l (N : Int) b.2 6 = d := ⟨_, rfl⟩
    obtain ⟨w, hw⟩ : ∃ w, wrap64 (wrap64 d.1 + 1) = w := ⟨_, rfl⟩
    obtain ⟨t, ht⟩ : ∃ t, unT l (N : Int) d.2 w = t := ⟨_, rfl⟩
    unfold unV at h ⊢
    simp only [ha, hb, hd, hw, ht] at h ⊢
    rw [if_neg (by rw [hs]; simp)] at h ⊢
    by_cases c1 : a.1 = 0
    · rw [if_pos c1] at h ⊢
      have hpl := unT_place (l := l) (N := N) (c := 1) (s := s) hN (by rw [ha]; exact h)
      rw [ha] at hpl
      exact ⟨trivial, by show s.1 + 1 ≤ a.2.1; omega, by show a.2.1 ≤ _; omega⟩
    · rw [if_neg c1] at h ⊢
      by_cases c2 : (d.2.2 || decide (64 < wrap64 (wrap64 b.1 + w))) = true
      · rw [if_pos c2] at h
        simp at h
      · rw [if_neg c2] at h ⊢
        have p4 := unT_place (l := l) (N := N) (c := w) (s := d.2) hN (by rw [ht]; exact h)
        have p3 := unT_place (l := l) (N := N) (c := 6) (s := b.2) hN (by rw [hd]; exact p4.1)
        have p2 := unT_place (l := l) (N := N) (c := 6) (s := a.2) hN (by rw [hb]; exact p3.1)
        have p1 := unT_place (l := l) (N := N) (c := 1) (s := s) hN (by rw [ha]; exact p2.1)
        rw [ht] at p4
        rw [hd] at p3
        rw [hb] at p2
        rw [ha] at p1
        exact ⟨trivial, by show s.1 + 1 ≤ t.2.1; omega, by show t.2.1 ≤ _; omega⟩
noncomputable def decA (xb : List Int) (N p : Int) : Int × Int × Bool := unT xb N (p, false) 64
noncomputable def decB (xb : List Int) (N p : Int) : Int × Int × Bool := unT xb N (decA xb N p).2 64
noncomputable def decN (xb : List Int) (N p : Int) : Int × Int × Bool := unN xb N (p, false)
noncomputable def decV (xb : List Int) (N p : Int) : Int × Int × Bool := unV xb N (decN xb N p).2
noncomputable def decS (xb : List Int) (N : Int) : Nat → Int × Bool × List S54 × Int
  | 0 => (0, false, [], 0)
  | 1 => ((decB xb N 0).2.1, (decB xb N 0).2.2, if (decB xb N 0).2.2 = true then [] else [⟨wrap64 (decA xb N 0).1, (decB xb N 0).1⟩], 0)
  | k + 2 => if (decS xb N (k + 1)).2.1 = true then decS xb N (k + 1) else
      ((decV xb N (decS xb N (k + 1)).1).2.1, (decV xb N (decS xb N (k + 1)).1).2.2,
        if (decV xb N (decS xb N (k + 1)).1).2.2 = true then (decS xb N (k + 1)).2.2.1 else (decS xb N (k + 1)).2.2.1 ++ [⟨wrap64 ((rd_T54 (decS xb N (k + 1)).2.2.1 (k : Int)).f0 + wrap64 ((decS xb N (k + 1)).2.2.2 + (decN xb N (decS xb N (k + 1)).1).1)), Go.bits .xor .u64 (rd_T54 (decS xb N (k + 1)).2.2.1 (k : Int)).f1 (decV xb N (decS xb N (k + 1)).1).1⟩],
        wrap64 ((decS xb N (k + 1)).2.2.2 + (decN xb N (decS xb N (k + 1)).1).1))
noncomputable def decF (b : List Int) : List S54 × Int :=
  if b.length < 2 then ([], 5) else
  if (decS (b.drop 2) ((8 * (b.length - 2) : Nat) : Int) (beV 0 (b.take 2))).2.1 = false ∧ encF (decS (b.drop 2) ((8 * (b.length - 2) : Nat) : Int) (beV 0 (b.take 2))).2.2.1 = (b, 0)
    then ((decS (b.drop 2) ((8 * (b.length - 2) : Nat) : Int) (beV 0 (b.take 2))).2.2.1, 0) else ([], 5)
theorem wrap64_in (x : Int) : -9223372036854775808 ≤ wrap64 x ∧ wrap64 x ≤ 9223372036854775807 := by
  unfold wrap64
  omega
theorem xor_in {a b : Int} (ha : 0 ≤ a ∧ a < 18446744073709551616) (hb : 0 ≤ b ∧ b < 18446744073709551616) : Go.bits .xor .u64 a b = ((a.toNat ^^^ b.toNat : Nat) : Int) ∧ a.toNat ^^^ b.toNat < 18446744073709551616 := by
  refine ⟨?_, xor_lt ha hb⟩
  obtain ⟨x, hx⟩ := Int.eq_ofNat_of_zero_le ha.1
  obtain ⟨y, hy⟩ := Int.eq_ofNat_of_zero_le hb.1
  rw [hx, hy, u64_xor_nat x y (by omega) (by omega)]
  simp
theorem okS_rd {l : List S54} (h : ∀ x ∈ l, okS x) (i : Int) : okS (rd_T54 l i) := by
  unfold rd_T54
  rw [List.getD_eq_getElem?_getD]
  cases hq : l[i.toNat]? with
  | none => exact ⟨⟨by decide, by decide⟩, by decide, by decide⟩
  | some x => exact h x (List.mem_of_getElem? hq)
theorem decS_inv (xb : List Int) (N : Nat) (hN : N ≤ 100000000) : ∀ k, (∀ x ∈ (decS xb (N : Int) k).2.2.1, okS x) ∧ (decS xb (N : Int) k).2.2.1.length ≤ N ∧
    ((decS xb (N : Int) k).2.1 = false → (decS xb (N : Int) k).2.2.1.length = k ∧ (k : Int) ≤ (decS xb (N : Int) k).1 ∧ (decS xb (N : Int) k).1 ≤ N)
  | 0 => ⟨fun x hx => absurd hx (by simp [decS]), by simp [decS], fun _ => ⟨rfl, by simp [decS], by simp [decS]⟩⟩
  | 1 => by
    simp only [decS]
    cases hb : (decB xb (N : Int) 0).2.2 with
    | true => exact ⟨fun x hx => absurd hx (by simp), by simp, fun h => absurd h (by simp)⟩
    | false =>
      have p2 := unT_place (l := xb) (N := N) (c := 64) (s := (decA xb (N : Int) 0).2) hN hb
      have p1 := unT_place (l := xb) (N := N) (c := 64) (s := (0, false)) hN p2.1
      have e2 : unT xb (N : Int) (decA xb (N : Int) 0).2 64 = decB xb (N : Int) 0 := rfl
      have e1 : unT xb (N : Int) (0, false) 64 = decA xb (N : Int) 0 := rfl
      rw [e2] at p2
      rw [e1] at p1
      refine ⟨fun x hx => ?_, by simp; omega, fun _ => ⟨by simp, by omega, by omega⟩⟩
      rw [if_neg (by simp), List.mem_singleton] at hx
      subst hx
      exact ⟨wrap64_in _, unT_range xb (N : Int) 64 (decA xb (N : Int) 0).2⟩
  | k + 2 => by
    have ih := decS_inv xb N hN (k + 1)
    simp only [decS]
    obtain ⟨⟨p, bad, l, st⟩, hs⟩ : ∃ s, decS xb (N : Int) (k + 1) = s := ⟨_, rfl⟩
    rw [hs] at ih ⊢
    cases bad with
    | true => rw [if_pos rfl]; exact ⟨ih.1, ih.2.1, fun h => absurd h (by simp)⟩
    | false =>
      rw [if_neg (by simp)]
      obtain ⟨i1, i2, i3⟩ := ih
      obtain ⟨i3, i4, i5⟩ := i3 rfl
      simp only at i1 i2 i3 i4 i5 ⊢
      cases hb : (decV xb (N : Int) p).2.2 with
      | true => exact ⟨by rw [if_pos rfl]; exact i1, by rw [if_pos rfl]; exact i2, fun h => absurd h (by simp)⟩
      | false =>
        have p2 := unV_place hN (s := (decN xb (N : Int) p).2) hb
        have p1 := unN_place (l := xb) (N := N) (s := (p, false)) p2.1
        have e1 : unN xb (N : Int) (p, false) = decN xb (N : Int) p := rfl
        have e2 : unV xb (N : Int) (decN xb (N : Int) p).2 = decV xb (N : Int) p := rfl
        rw [e1] at p1
        rw [e2] at p2
        rw [if_neg (by simp)]
        refine ⟨fun x hx => ?_, by simp; omega, fun _ => ⟨by simp; omega, by omega, by omega⟩⟩
        rcases List.mem_append.1 hx with hx | hx
        · exact i1 x hx
        · rw [List.mem_singleton] at hx
          subst hx
          have hv := unV_range xb (N : Int) (decN xb (N : Int) p).2
          have hy := (okS_rd i1 (k : Int)).2
          have hxx := xor_in hy hv
          refine ⟨wrap64_in _, ?_⟩
          show 0 ≤ Go.bits .xor .u64 _ (unV xb (N : Int) (decN xb (N : Int) p).2).1 ∧ _
          constructor
          · show 0 ≤ Go.bits .xor .u64 _ (unV xb (N : Int) (decN xb (N : Int) p).2).1
            rw [hxx.1]; omega
          · show Go.bits .xor .u64 _ (unV xb (N : Int) (decN xb (N : Int) p).2).1 < _
            rw [hxx.1]; have := hxx.2; omega
end Go.Proofs.YtbgmnmjokdfmlaaDoor.PA
namespace Go.Proofs.YtbgmnmjokdfmlaaDoor.PA
open Go.RowKit Go.Proofs.YtbgmnmjokdfmlaaDoor.G Go.Proofs.YtbgmnmjokdfmlaaDoorW.PrintWords Go.Proofs.YtbgmnmjokdfmlaaDoorW.PrintLast Go.Proofs.YtbgmnmjokdfmlaaDoorW.PrintMore
set_option linter.unusedVariables false
set_option linter.unusedSimpArgs false
theorem okX_full {l : List Int} {n : Nat} (h : OkX l n) : OkX l (8 * l.length) :=
  ⟨h.bytes, Nat.le_refl _, by omega, fun i h1 h2 => absurd h2 (by omega)⟩
theorem encP_one (l : List S54) : ∀ k, ∃ Z, encP l (k + 1) = encP l k ++ Z
  | 0 => ⟨_, rfl⟩
  | k + 1 => ⟨_, rfl⟩
theorem encP_pre (l : List S54) (k : Nat) : ∀ d, ∃ Z, encP l (k + d) = encP l k ++ Z
  | 0 => ⟨[], by simp⟩
  | d + 1 => by
    obtain ⟨Z, hZ⟩ := encP_pre l k d
    obtain ⟨Y, hY⟩ := encP_one l (k + d)
    exact ⟨Z ++ Y, by rw [← Nat.add_assoc, hY, hZ, List.append_assoc]⟩
theorem Bs_full {l : List Int} {n : Nat} (h : OkX l n) : ∃ Z, Bs l (8 * l.length) = Bs l n ++ Z := by
  unfold Bs
  exact ⟨_, win_split l 0 (8 * l.length) n h.le⟩
theorem i64_wf {v : Int} (h : -9223372036854775808 ≤ v ∧ v ≤ 9223372036854775807) : (Lit.int .i64 v).wf = true := by
  simp [Lit.wf, IntKind.min, IntKind.max, IntKind.signed, IntKind.bits]
  omega
theorem unN_part {l : List Int} {N : Nat} {B Z : List Bool} {v : Int} (hX : OkX l N) (hv : (Lit.int .i64 v).wf = true) (h : Bs l N = B ++ intBits v ++ Z) : unN l (N : Int) ((B.length : Int), false) = (v, ((B.length + (intBits v).length : Nat) : Int), false) := by
  unfold unN
  rw [takeI_part hX hv h]
  rfl
theorem time_back (x y st : Int) (hx : -9223372036854775808 ≤ x ∧ x ≤ 9223372036854775807) (hs : -9223372036854775808 ≤ st ∧ st ≤ 9223372036854775807) : wrap64 (st + wrap64 (wrap64 (x - y) - st)) = wrap64 (x - y) ∧ wrap64 (y + wrap64 (x - y)) = x := by
  constructor
  · generalize hd : wrap64 (x - y) = d
    have : -9223372036854775808 ≤ d ∧ d ≤ 9223372036854775807 := hd ▸ wrap64_in _
    unfold wrap64
    omega
  · unfold wrap64
    omega
theorem stepP_in (l : List S54) : ∀ k, -9223372036854775808 ≤ stepP l k ∧ stepP l k ≤ 9223372036854775807
  | 0 => by simp [stepP]
  | 1 => by simp [stepP]
  | k + 2 => wrap64_in _
theorem first_back (x : Int) (hx : -9223372036854775808 ≤ x ∧ x ≤ 9223372036854775807) : wrap64 (((IntKind.u64.wrap x).toNat : Nat) : Int) = x := by
  rw [wrap_u64]
  unfold wrap64
  omega
theorem xor_back {x y : Int} (hx : 0 ≤ x ∧ x < 18446744073709551616) (hy : 0 ≤ y ∧ y < 18446744073709551616) : Go.bits .xor .u64 y ((x.toNat ^^^ y.toNat : Nat) : Int) = x := by
  obtain ⟨a, ha⟩ := Int.eq_ofNat_of_zero_le hx.1
  obtain ⟨b, hb⟩ := Int.eq_ofNat_of_zero_le hy.1
  subst ha hb
  rw [Int.toNat_natCast, Int.toNat_natCast, u64_xor_nat b (a ^^^ b) (by omega) (Nat.xor_lt_two_pow (n := 64) (by omega) (by omega)), Nat.xor_comm a b, ← Nat.xor_assoc, Nat.xor_self, Nat.zero_xor]
theorem take_succ54 (l : List S54) (k : Nat) (h : k < l.length) : l.take (k + 1) = l.take k ++ [rd_T54 l (k : Int)] := by
  have e : rd_T54 l (k : Int) = l[k] := by simp [rd_T54, List.getD_eq_getElem?_getD, List.getElem?_eq_getElem h]
  rw [List.take_succ_eq_append_getElem h, e]
theorem rd_take54 (l : List S54) (k m : Nat) (h : k < m) : rd_T54 (l.take m) (k : Int) = rd_T54 l (k : Int) := by
  simp only [rd_T54, Int.toNat_natCast, List.getD_eq_getElem?_getD, List.getElem?_take, if_pos h]
theorem decS_back {xb : List Int} {NN : Nat} {l : List S54} {Z : List Bool} (hok : ∀ x ∈ l, okS x) (hl : l.length ≤ 20000) (hX : OkX xb NN) (hB : Bs xb NN = encP l l.length ++ Z) : ∀ k, k ≤ l.length → decS xb (NN : Int) k = (((encP l k).length : Int), false, l.take k, stepP l k)
  | 0, _ => by simp [decS, encP, stepP]
  | 1, h => by
    obtain ⟨Y, hY⟩ := encP_pre l 1 (l.length - 1)
    rw [show 1 + (l.length - 1) = l.length by omega] at hY
    have hm := hok _ (rd_mem54 l 0 (by omega))
    have hu := u64_wrap_range (rd_T54 l 0).f0
    obtain ⟨u, eu⟩ := Int.eq_ofNat_of_zero_le hu.1
    obtain ⟨v, ev⟩ := Int.eq_ofNat_of_zero_le hm.2.1
    have ev' : (rd_T54 l 0).f1 = (v : Int) := ev
    have hv : v < 18446744073709551616 := by have := hm.2.2; rw [ev] at this; omega
    have huu : u < 18446744073709551616 := by rw [eu] at hu; omega
    have e1 : encP l 1 = low u 64 ++ low v 64 := by
      show low (IntKind.u64.wrap (rd_T54 l 0).f0).toNat 64 ++ low (rd_T54 l 0).f1.toNat 64 = _
      rw [eu, ev']
      rfl
    rw [hY, e1] at hB
    have a1 := unT_part (c := 64) (B := []) (L := low u 64) (Z := low v 64 ++ (Y ++ Z)) hX (low_length _ _) (by decide) (by simp) (by rw [hB]; simp only [List.nil_append, List.append_assoc])
    have a2 := unT_part (c := 64) (B := low u 64) (L := low v 64) (Z := Y ++ Z) hX (low_length _ _) (by decide) (by simp) (by rw [hB]; simp only [List.append_assoc])
    rw [num_low, Nat.mod_eq_of_lt huu] at a1
    rw [num_low, Nat.mod_eq_of_lt hv, low_length] at a2
    have eA : decA xb (NN : Int) 0 = ((u : Int), 64, false) := a1
    have eB : decB xb (NN : Int) 0 = ((v : Int), 128, false) := by
      unfold decB
      rw [eA]
      exact a2
    have ef : wrap64 (u : Int) = (rd_T54 l 0).f0 := by
      have := first_back (rd_T54 l 0).f0 hm.1
      rw [eu] at this
      exact this
    have et := take_succ54 l 0 (by omega)
    rw [decS, eB, eA, e1, et]
    rw [if_neg (by simp)]
    have es : (⟨wrap64 (u : Int), (v : Int)⟩ : S54) = rd_T54 l ((0 : Nat) : Int) := by
      rw [ef, ← ev']
      rfl
    simp only [es]
    simp [stepP]
  | k + 2, h => by
    have ih := decS_back hok hl hX hB (k + 1) (by omega)
    obtain ⟨Y, hY⟩ := encP_pre l (k + 2) (l.length - (k + 2))
    rw [show k + 2 + (l.length - (k + 2)) = l.length by omega] at hY
    have hlen := encP_len l hok (k + 1) (by omega)
    have hx := hok _ (rd_mem54 l (k + 1) (by omega))
    have hy := hok _ (rd_mem54 l k (by omega))
    have e2 : encP l (k + 2) = encP l (k + 1) ++ (intBits (wrap64 (wrap64 ((rd_T54 l ((k + 1 : Nat) : Int)).f0 - (rd_T54 l ((k : Nat) : Int)).f0) - stepP l (k + 1))) ++ xorBits ((rd_T54 l ((k + 1 : Nat) : Int)).f1.toNat ^^^ (rd_T54 l ((k : Nat) : Int)).f1.toNat)) := rfl
    have hst := stepP_in l (k + 1)
    have hsp : stepP l (k + 2) = wrap64 ((rd_T54 l ((k + 1 : Nat) : Int)).f0 - (rd_T54 l ((k : Nat) : Int)).f0) := rfl
    have et := take_succ54 l (k + 1) (by omega)
    have er := rd_take54 l k (k + 1) (by omega)
    obtain ⟨x, ex⟩ : ∃ x, rd_T54 l ((k + 1 : Nat) : Int) = x := ⟨_, rfl⟩
    obtain ⟨y, ey⟩ : ∃ y, rd_T54 l ((k : Nat) : Int) = y := ⟨_, rfl⟩
    rw [ex, ey] at e2 hsp
    rw [ex] at hx et
    rw [ey] at hy er
    obtain ⟨st, est⟩ : ∃ st, stepP l (k + 1) = st := ⟨_, rfl⟩
    rw [est] at e2 hst ih
    obtain ⟨v, ev⟩ : ∃ v, wrap64 (wrap64 (x.f0 - y.f0) - st) = v := ⟨_, rfl⟩
    have hv : (Lit.int .i64 v).wf = true := ev ▸ i64_wf (wrap64_in _)
    have hxx := xor_lt hx.2 hy.2
    have htb := time_back x.f0 y.f0 st hx.1 hst
    have hxb := xor_back hx.2 hy.2
    rw [ev] at e2 htb
    obtain ⟨X, eX⟩ : ∃ X, x.f1.toNat ^^^ y.f1.toNat = X := ⟨_, rfl⟩
    rw [eX] at e2 hxx hxb
    rw [hY, e2] at hB
    have a1 := unN_part (B := encP l (k + 1)) (Z := xorBits X ++ (Y ++ Z)) hX hv (by rw [hB]; simp only [List.append_assoc])
    have hil := intBits_len v
    have a2 := unV_part (x := X) (B := encP l (k + 1) ++ intBits v) (Z := Y ++ Z) hX hxx (by simp; omega) (by rw [hB]; simp only [List.append_assoc])
    rw [List.length_append] at a2
    have eN : decN xb (NN : Int) ((encP l (k + 1)).length : Int) = (v, (((encP l (k + 1)).length + (intBits v).length : Nat) : Int), false) := a1
    have eV : decV xb (NN : Int) ((encP l (k + 1)).length : Int) = ((X : Int), (((encP l (k + 1)).length + (intBits v).length + (xorBits X).length : Nat) : Int), false) := by
      unfold decV
      rw [eN]
      exact a2
    rw [decS, ih]
    simp only
    rw [if_neg (by simp), eV, eN, er, htb.1, htb.2, hxb, hsp, et, e2]
    simp only [List.length_append]
    rw [if_neg (by simp)]
    simp only [Prod.mk.injEq, true_and, and_true]
    omega
theorem beV_two (n : Nat) (h : n ≤ 65535) : beV 0 (beL n 2) = n := by
  rw [beV_beL]
  omega
theorem dec_enc (l : List S54) (hok : ∀ x ∈ l, okS x) (hl : l.length ≤ 20000) (hc : canS l = true) : encF l = (encL l, 0) ∧ decF (encL l) = (l, 0) ∧ (encL l).length ≤ 2 + 20 * l.length + 1 := by
  have e0 : encF l = (encL l, 0) := by rw [encF, if_pos hc]
  have hP := encP_len l hok l.length (Nat.le_refl _)
  obtain ⟨hX, hBs⟩ := packB_ok (encP l l.length) (by omega)
  obtain ⟨Z, hZ⟩ := Bs_full hX
  rw [hBs] at hZ
  have hbl : (encL l).length = 2 + (packB (encP l l.length)).length := by rw [encL, List.length_append, beL_length]
  have hn := hX.near
  refine ⟨e0, ?_, by omega⟩
  have hd : (encL l).drop 2 = packB (encP l l.length) := by rw [encL, List.drop_left' (beL_length _ _)]
  have ht : (encL l).take 2 = beL l.length 2 := by rw [encL, List.take_left' (beL_length _ _)]
  have hs := decS_back hok hl (okX_full hX) hZ l.length (Nat.le_refl _)
  rw [List.take_length] at hs
  have h8 : 8 * ((encL l).length - 2) = 8 * (packB (encP l l.length)).length := by omega
  rw [decF, if_neg (by omega), hd, ht, h8, beV_two _ (by omega), hs, if_pos ⟨rfl, e0⟩]
end Go.Proofs.YtbgmnmjokdfmlaaDoor.PA
namespace Go.Proofs.YtbgmnmjokdfmlaaDoor.PA
open Go.RowKit Go.Proofs.YtbgmnmjokdfmlaaDoor.G Go.Proofs.YtbgmnmjokdfmlaaDoorW.PrintWords Go.Proofs.YtbgmnmjokdfmlaaDoorW.PrintLast Go.Proofs.YtbgmnmjokdfmlaaDoorW.PrintMore
set_option linter.unusedVariables false
set_option linter.unusedSimpArgs false
def pkS (L : List Bool) : Nat → List Int
  | 0 => []
  | j + 1 => orAt (addZ (pkS L j) j) (j / 8) ((if L.getD j false = true then 1 else 0) * 2 ^ (8 - j % 8 - 1))
theorem pkS_ok (L : List Bool) : ∀ j, j ≤ L.length → OkX (pkS L j) j ∧ Bs (pkS L j) j = L.take j
  | 0, _ => ⟨okX_nil, rfl⟩
  | j + 1, h => by
    obtain ⟨h1, h2⟩ := pkS_ok L j (by omega)
    obtain ⟨h3, h4⟩ := put_step (T := 1) (X := if L.getD j false = true then 1 else 0) h1 (by decide) (by omega) (by split <;> decide)
    refine ⟨h3, ?_⟩
    rw [show pkS L (j + 1) = orAt (addZ (pkS L j) j) (j / 8) ((if L.getD j false = true then 1 else 0) * 2 ^ (8 - j % 8 - 1)) from rfl, h4, h2, List.take_succ_eq_append_getElem (by omega)]
    congr 1
    rw [List.getD_eq_getElem?_getD, List.getElem?_eq_getElem (by omega), Option.getD_some]
    cases L[j]'(by omega) <;> rfl
theorem pkS_all (L : List Bool) : pkS L L.length = packB L := by
  obtain ⟨h1, h2⟩ := pkS_ok L L.length (Nat.le_refl _)
  rw [List.take_length] at h2
  exact (packB_of h1 h2).symm
theorem pk_false {L : List Bool} {j : Nat} (hj : j < L.length) (hb : L.getD j false = false) : pkS L (j + 1) = addZ (pkS L j) j := by
  have h1 := (pkS_ok L j (by omega)).1
  have hz := addZ_len h1
  have hby : OkL (addZ (pkS L j) j) := by
    unfold addZ
    split
    · intro x hx
      rcases List.mem_append.1 hx with hx | hx
      · exact h1.bytes x hx
      · rw [List.mem_singleton.1 hx]
        exact ⟨by decide, by decide⟩
    · exact h1.bytes
  have ha := (hby.at (j / 8)).1
  show orAt (addZ (pkS L j) j) (j / 8) _ = _
  rw [if_neg (by rw [hb]; simp), Nat.zero_mul]
  unfold orAt
  rw [Nat.or_zero, Int.toNat_of_nonneg ha]
  rw [List.getD_eq_getElem?_getD, List.getElem?_eq_getElem (by omega), Option.getD_some]
  exact List.set_getElem_self _
theorem pk_true {L : List Bool} {j m : Nat} (hj : j < L.length) (hb : L.getD j false = true) (B : List Int) (hm : B.length = m) :
    (B ++ addZ (pkS L j) j).set (m + j / 8) (Go.bits .or .u8 ((addZ (pkS L j) j).getD (j / 8) 0) (128 / 2 ^ (j % 8))) = B ++ pkS L (j + 1) ∧ (B ++ addZ (pkS L j) j).length = m + j / 8 + 1 ∧ (B ++ addZ (pkS L j) j).getD (m + j / 8) 0 = (addZ (pkS L j) j).getD (j / 8) 0 := by
  have h1 := (pkS_ok L j (by omega)).1
  have hz := addZ_len h1
  have hby : OkL (addZ (pkS L j) j) := by
    unfold addZ
    split
    · intro x hx
      rcases List.mem_append.1 hx with hx | hx
      · exact h1.bytes x hx
      · rw [List.mem_singleton.1 hx]
        exact ⟨by decide, by decide⟩
    · exact h1.bytes
  have ha := hby.at (j / 8)
  refine ⟨?_, by rw [List.length_append, hz]; omega, ?_⟩
  · rw [List.set_append_right _ _ (by omega), show m + j / 8 - B.length = j / 8 by omega]
    congr 1
    show _ = orAt (addZ (pkS L j) j) (j / 8) _
    unfold orAt
    congr 1
    rw [if_pos hb, Nat.one_mul]
    obtain ⟨a, hA⟩ := Int.eq_ofNat_of_zero_le ha.1
    rw [hA] at ha ⊢
    rw [Int.toNat_natCast, show 8 - j % 8 - 1 = 7 - j % 8 by omega]
    have e : (128 : Int) / 2 ^ (j % 8) = ((2 ^ (7 - j % 8) : Nat) : Int) := by
      have hlt : j % 8 < 8 := Nat.mod_lt _ (by decide)
      generalize j % 8 = q at hlt
      match q, hlt with
      | 0, _ | 1, _ | 2, _ | 3, _ | 4, _ | 5, _ | 6, _ | 7, _ => rfl
    rw [e]
    exact u8_or_nat a _ (by omega) (Nat.lt_of_lt_of_le (Nat.pow_lt_pow_right (by decide) (show 7 - j % 8 < 8 by omega)) (by decide))
  · rw [List.getD_eq_getElem?_getD, List.getD_eq_getElem?_getD, List.getElem?_append_right (by omega), show m + j / 8 - B.length = j / 8 by omega]
end Go.Proofs.YtbgmnmjokdfmlaaDoor.PA
namespace Go.Proofs.YtbgmnmjokdfmlaaDoor.G
open Go.RowKit Go.Proofs.YtbgmnmjokdfmlaaDoorW.PrintWords Go.Proofs.YtbgmnmjokdfmlaaDoorW.PrintLast Go.Proofs.YtbgmnmjokdfmlaaDoorW.PrintMore
set_option linter.unusedVariables false
set_option linter.unusedSimpArgs false
attribute [local go_sem] max2_int min2_int max_two min_two
def dryrotref01_Put.f (a0 a1 : Int) : Option (List Int) := crc_Put.f a0 a1
def dryrotref01_Get.f (l : List Int) : Option (Int × Bool) := crc_Get.f l
set_option maxHeartbeats 800000 in
set_option maxRecDepth 100000 in
theorem dryrotref01_Put.calls (a0 a1 : Int) (r : List Int) (w : World) (h : dryrotref01_Put.f a0 a1 = some r) :
    Calls Tryd.prog 37 #[.int .u64 a0, .int .i64 a1] w fun e w' => ∃ v0_ : Value, e = .returned (v0_) ∧ Kd.R (Kd.int .u8) 5 w' w.heap.size (fun _ => True) v0_ r ∧ Below w.heap.size w w' := by
  unfold dryrotref01_Put.f crc_Put.f at h
  split at h
  case isFalse => cases h
  case isTrue hN =>
    obtain rfl := Option.some.inj h
    clear h
    obtain ⟨N, rfl⟩ := Int.eq_ofNat_of_zero_le hN.1
    rw [Int.toNat_natCast]
    obtain ⟨j, hj⟩ : ∃ j : Int, (if a1 < 0 then 0 else a1) = j := ⟨_, rfl⟩
    obtain ⟨m, hm8, hm, hw⟩ : ∃ m : Nat, m ≤ 8 ∧ (if 8 < j then 8 else j) = (m : Int) ∧ wid a1 = m := ⟨wid a1, wid_le _, by unfold wid; split at hj <;> split <;> omega, rfl⟩
    rw [hw]
    clear hw
    have hm0 : (m : Int) ≤ 8 := by omega
    go_enter Tryd.func37, Tryd.ntmps37
    go_wp2_with ((with_reducible refine gate_dst (N := 12) rfl ?_); refine Kd.R_make (Kd.int .u8) _ 5 rfl (N := 12) rfl 22 _ _ rfl (m : Int) rfl rfl Tryd.underlying22 (.int .u8 0) 1 infoU8 rfl (by decide) (by omega) 0 (ok := fun _ => True) (okp := fun _ => True) rfl (fun _ hk => hk) trivial (by omega) (by omega) (Below.refl _ _) (Nat.le_refl _) ?_; intro v103 w7 ho8 hb hg_ hnew_; rw [Int.toNat_natCast] at ho8; obtain ⟨g, c9, e9, hgb⟩ := made_form ho8 hnew_; rw [List.length_replicate] at e9; subst e9; have HO := Aside0.mk ho8; have HB := Aside0.mk hb; clear ho8 hb hg_ hnew_)
    clear hm hj
    go_loopw [0, 7] (fun n i wr => ∃ k : Nat, k ≤ m ∧ i = .int .i64 ((m : Int) - 1 - (k : Int)) ∧ n = .int .u64 ((N / 256 ^ k : Nat) : Int) ∧ Aside0 (Kd.R (Kd.int .u8) 5 wr w.heap.size (fun _ => True) (.slice (some ⟨g, 0, none⟩) m c9) (List.replicate (m - k) 0 ++ beL N k)) ∧ Aside0 (Below w.heap.size w wr)) (fun _ i _ => (intOf i + 1).toNat)
    case atStart => exact ⟨0, Nat.zero_le _, by simp, by simp, ⟨by simpa [beL] using HO.out⟩, HB⟩
    case round =>
      clear HO HB
      obtain ⟨k, hk, rfl, rfl, HO, HB⟩ := hrel
      have HS := fun hlt => Aside0.mk (crc_Put.step (N := N) (k := k) (m := m) hlt)
      have HD := Aside0.mk (Nat.div_div_eq_div_mul N (256 ^ k) 256)
      have HL := Aside0.mk (show N / 256 ^ k ≤ N from Nat.div_le_self _ _)
      generalize N / 256 ^ k = M at HS HD HL ⊢
      by_cases hlt : k < m
      · obtain ⟨hc, hf⟩ := Kd.R_celln 0 HO.out ((m - 1 - k : Nat) : Int) (by omega) (by omega)
        have HP := Aside0.mk (Kd.R_putg HO.out ((m - 1 - k : Nat) : Int) ((M % 256 : Nat) : Int))
        rw [Int.toNat_natCast] at hc hf HP
        have HS := HS hlt
        have hM : (0 : Int) ≤ (M : Int) := by omega
        have h0 : (0 : Int) ≤ (m : Int) - 1 - (k : Int) := by omega
        go_wp2
        go_roundw
        case rel =>
          refine ⟨k + 1, by omega, congrArg _ (by omega), congrArg _ ?_, ⟨?_⟩, ⟨?_⟩⟩
          · rw [Nat.pow_succ, ← HD.out]
            have := HL.out
            simp [IntKind.wrap, IntKind.bits, IntKind.signed]
            omega
          · rw [← HS.out]
            exact HP.out.1
          · exact below_set HB.out (by omega)
        case measure => simp [intOf]; omega
      · obtain rfl : k = m := by omega
        have h0 : ¬ ((0 : Int) ≤ (k : Int) - 1 - (k : Int)) := by omega
        go_wp2
        go_ret
        exact ⟨_, rfl, by simpa using HO.out, HB.out⟩
set_option maxHeartbeats 800000 in
set_option maxRecDepth 100000 in
theorem dryrotref01_Get.calls (A0 : Option Addr) (c0 : Nat) (l0 : List Int) (r1 : Int) (r2 : Bool) (w : World) (hr0 : Kd.C (Kd.int .u8) w A0 l0.length l0) (hc0 : l0.length ≤ c0) (h : dryrotref01_Get.f l0 = some (r1, r2)) :
    Calls Tryd.prog 103 #[.slice A0 l0.length c0] w fun e w' => e = .returned (.tuple #[.int .u64 r1, .bool r2]) ∧ Drawn0 w w' := by
  have HR := Aside0.mk hr0
  clear hr0 hc0
  unfold dryrotref01_Get.f crc_Get.f at h
  split at h
  case isFalse => cases h
  case isTrue hok =>
  by_cases hl : 1 ≤ l0.length ∧ l0.length ≤ 8
  case neg =>
    rw [if_neg hl] at h
    simp only [Option.some.injEq, Prod.mk.injEq] at h
    obtain ⟨rfl, rfl⟩ := h
    by_cases h0 : l0.length = 0
    · have e0 : decide ((l0.length : Int) < 1) = true := decide_eq_true (by omega)
      clear hl h0
      go_enter Tryd.func103, Tryd.ntmps103
      go_wp2
      go_ret2
      exact ⟨rfl, Drawn0.refl _⟩
    · have e0 : decide ((l0.length : Int) < 1) = false := decide_eq_false (by omega)
      have e1 : decide ((8 : Int) < (l0.length : Int)) = true := decide_eq_true (by omega)
      clear hl h0
      go_enter Tryd.func103, Tryd.ntmps103
      go_wp2
      go_ret2
      exact ⟨rfl, Drawn0.refl _⟩
  case pos =>
    rw [if_pos hl] at h
    simp only [Option.some.injEq, Prod.mk.injEq] at h
    obtain ⟨rfl, rfl⟩ := h
    have e0 : decide ((l0.length : Int) < 1) = false := decide_eq_false (by omega)
    have e1 : decide ((8 : Int) < (l0.length : Int)) = false := decide_eq_false (by omega)
    go_enter Tryd.func103, Tryd.ntmps103
    go_wp2
    go_loop [4, 17] (fun n i => ∃ k : Nat, k ≤ l0.length ∧ i = .int .i64 k ∧ n = .int .u64 (beV 0 (l0.take k) : Nat)) (fun _ i => l0.length - (intOf i).toNat)
    case atStart => exact ⟨0, Nat.zero_le _, rfl, rfl⟩
    case round =>
      obtain ⟨k, hk, rfl, rfl⟩ := hrel
      by_cases hlt : k < l0.length
      · obtain ⟨ad, rfl, hc⟩ := Kd.at_int HR.out (k : Int) (by omega) (by omega)
        rw [Int.toNat_natCast] at hc
        have hx := okB_iff.1 hok _ (rd_mem l0 k hlt)
        have HT := Aside0.mk (beV_take l0 k hlt)
        have hV := beV_take_lt hok k
        have HV := Aside0.mk (Nat.lt_of_lt_of_le hV (Nat.pow_le_pow_right (n := 256) (by decide) (show k ≤ 7 by omega)))
        have HX := Aside0.mk hx
        clear hV hx
        go_wp2
        go_round
        case rel =>
          refine ⟨k + 1, by omega, by go_num, congrArg _ ?_⟩
          have := HV.out
          have := HX.out
          rw [HT.out]
          simp [IntKind.wrap, IntKind.bits, IntKind.signed]
          omega
        case measure => simp [intOf]; omega
      · obtain rfl : k = l0.length := by omega
        go_wp2
        go_ret2
        exact ⟨rfl, Drawn0.refl _⟩
end Go.Proofs.YtbgmnmjokdfmlaaDoor.G
namespace Go.Proofs.YtbgmnmjokdfmlaaDoor.PA
open Go.RowKit Go.Proofs.YtbgmnmjokdfmlaaDoorW.PrintWords Go.Proofs.YtbgmnmjokdfmlaaDoorW.PrintLast Go.Proofs.YtbgmnmjokdfmlaaDoorW.PrintMore
attribute [local go_sem] max2_int min2_int max_two min_two max_three min_three max_four min_four   -- for this text's walks alone
set_option linter.unusedVariables false
set_option linter.unusedSimpArgs false
def dryrotref11_Can.l0 : Nat → List (S54) → Int → Int → Option (Bool)
  | 0, _, _, _ => none
  | k + 1, x0, x5, x6 => if x6 < x5 then (if x6 > 0 then (if 0 ≤ (wrap64 (x6 - 1)) then (if (wrap64 (x6 - 1)) < (x0.length : Int) then (if 0 ≤ x6 then (if x6 < (x0.length : Int) then (if ((rd_T54 x0 (wrap64 (x6 - 1))).f0) ≥ ((rd_T54 x0 x6).f0) then (some false) else (dryrotref11_Can.l0 k x0 x5 (wrap64 (x6 + 1)))) else (none)) else (none)) else (none)) else (none)) else (dryrotref11_Can.l0 k x0 x5 (wrap64 (x6 + 1)))) else (some (decide ((x0.length : Int) ≤ 65535)))
def dryrotref11_Can.f (k : Nat) (l0 : List (S54)) : Option (Bool) := dryrotref11_Can.l0 k l0 (l0.length : Int) 0
theorem dryrotref11_Can.mono_l : ∀ k, (∀ y0 y1 y2, LeO (dryrotref11_Can.l0 k y0 y1 y2) (dryrotref11_Can.l0 (k + 1) y0 y1 y2))
  | 0 => fun _ _ _ r h => by simp [dryrotref11_Can.l0] at h
  | k + 1 => by
    have ih0 := dryrotref11_Can.mono_l k
    · intro y0 y1 y2
      unfold dryrotref11_Can.l0
      repeat' first
      | (with_reducible exact ih0 _ _ _)
      | (with_reducible exact LeO.refl _)
      | (with_reducible exact LeO.none _)
      | (with_reducible refine LeO.ite ?_ ?_)
      | (with_reducible refine LeO.bind ?_ (fun _ => ?_))
      | exact ih0 _ _ _
      | exact LeO.none _
      | refine LeO.ite ?_ ?_
      | refine LeO.bind ?_ (fun _ => ?_)
theorem dryrotref11_Can.mono : ∀ a0 k, LeO (dryrotref11_Can.f k a0) (dryrotref11_Can.f (k + 1) a0) := by
  intro a0 k
  have ih0 := dryrotref11_Can.mono_l k
  unfold dryrotref11_Can.f
  repeat' first
      | (with_reducible exact ih0 _ _ _)
      | (with_reducible exact LeO.refl _)
      | (with_reducible exact LeO.none _)
      | (with_reducible refine LeO.ite ?_ ?_)
      | (with_reducible refine LeO.bind ?_ (fun _ => ?_))
      | exact ih0 _ _ _
      | exact LeO.none _
      | refine LeO.ite ?_ ?_
      | refine LeO.bind ?_ (fun _ => ?_)
set_option maxHeartbeats 8000000 in
set_option maxRecDepth 100000 in
theorem dryrotref11_Can.calls (k : Nat) (A0 : Option Addr) (c0 : Nat) (l0 : List (S54)) (r : Bool) (w : World) (hr0 : Kd.C k54 w A0 l0.length l0) (hc0 : l0.length ≤ c0) (h : dryrotref11_Can.f k l0 = some r) :
    Calls Tryd.prog 41 #[.slice A0 l0.length c0] w fun e w' => e = .returned (.bool r) ∧ Drawn0 w w' := by
  have HR0 := Aside0.mk hr0
  have HC0 := Aside0.mk hc0
  clear hr0 hc0
  have H : (dryrotref11_Can.l0 k l0 (l0.length : Int) 0) = some r := h
  clear h
  have H' := Aside0.mk H
  clear H
  go_enter Tryd.func41, Tryd.ntmps41
  go_wp2
  repeat (go_quiet (fail); try go_wp2)
  go_loopg [6] k (fun kq v6 w' => ∃ (x6_1 : Int), v6 = .int .i64 x6_1 ∧ Aside0 (dryrotref11_Can.l0 kq l0 (l0.length : Int) x6_1 = some r) ∧ Aside0 (kq ≤ k) ∧ Drawn0 w w')
  case atStart => exact ⟨(0), (by first | rfl | (simp; done) | (simp [*]; done)), H', ⟨Nat.le_refl _⟩, by repeat (first | exact Drawn0.refl _ | apply Drawn0.step)⟩
  case round =>
    clear H'
    obtain ⟨x6_1, rfl, HA, HK1, ⟨m1, rfl⟩⟩ := hrel
    cases gk with
    | zero => exact absurd HA.out (by simp [dryrotref11_Can.l0])
    | succ k1 =>
      have H := HA.out
      clear HA
      simp only [dryrotref11_Can.l0] at H
      by_cases c2 : x6_1 < (l0.length : Int)
      · rw [if_pos c2] at H
        have c2b0 : decide (x6_1 < (l0.length : Int)) = true := decide_eq_true c2
        clear c2
        by_cases c3 : x6_1 > 0
        · rw [if_pos c3] at H
          have c3b0 : decide (0 < x6_1) = true := decide_eq_true c3
          clear c3
          obtain ⟨ji4, hji4⟩ : ∃ j_ : Int, (wrap64 (x6_1 - 1)) = j_ := ⟨_, rfl⟩
          replace H : (if 0 ≤ (ji4) then (if (ji4) < (l0.length : Int) then (if 0 ≤ x6_1 then (if x6_1 < (l0.length : Int) then (if ((rd_T54 l0 (ji4)).f0) ≥ ((rd_T54 l0 x6_1).f0) then (some false) else (dryrotref11_Can.l0 k1 l0 (l0.length : Int) (wrap64 (x6_1 + 1)))) else (none)) else (none)) else (none)) else (none)) = some r := by first | (rw [hji4] at H; exact H) | (simp only [hji4] at H ⊢; exact H)
          have hji4w : (IntKind.i64.wrap (x6_1 - 1)) = ji4 := (i64_w _).trans hji4
          by_cases c5 : 0 ≤ (ji4)
          · rw [if_pos c5] at H
            have c5b0 : decide (0 ≤ (ji4)) = true := decide_eq_true c5
            clear c5
            by_cases c6 : (ji4) < (l0.length : Int)
            · rw [if_pos c6] at H
              have c6b0 : decide ((ji4) < (l0.length : Int)) = true := decide_eq_true c6
              clear c6
              by_cases c7 : 0 ≤ x6_1
              · rw [if_pos c7] at H
                have c7b0 : decide (0 ≤ x6_1) = true := decide_eq_true c7
                clear c7
                by_cases c8 : x6_1 < (l0.length : Int)
                · rw [if_pos c8] at H
                  have c8b0 : decide (x6_1 < (l0.length : Int)) = true := decide_eq_true c8
                  clear c8
                  by_cases c9 : ((rd_T54 l0 (ji4)).f0) ≥ ((rd_T54 l0 x6_1).f0)
                  · rw [if_pos c9] at H
                    have c9b0 : decide (((rd_T54 l0 x6_1).f0) ≤ ((rd_T54 l0 (ji4)).f0)) = true := decide_eq_true c9
                    clear c9
                    obtain rfl := Option.some.inj H
                    have p198 : 0 ≤ ((ji4) : Int) := of_decide_eq_true (by first | (with_reducible assumption) | assumption)
                    have q198 : (ji4) < (l0.length : Int) := of_decide_eq_true (by first | (with_reducible assumption) | assumption)
                    obtain ⟨ad198, e198, hx198_0, hx198_1⟩ := at_T54 HR0.out (ji4) p198 q198
                    cases e198
                    replace p198 := eq_true p198
                    replace q198 := eq_true q198
                    have p199 : 0 ≤ (x6_1 : Int) := of_decide_eq_true (by first | (with_reducible assumption) | assumption)
                    have q199 : x6_1 < (l0.length : Int) := of_decide_eq_true (by first | (with_reducible assumption) | assumption)
                    obtain ⟨ad199, e199, hx199_0, hx199_1⟩ := at_T54 HR0.out x6_1 p199 q199
                    obtain rfl : ad198 = ad199 := (by injection e199)
                    replace p199 := eq_true p199
                    replace q199 := eq_true q199
                    go_wp2
                    repeat (go_quiet (fail); try go_wp2)
                    go_ret
                    exact ⟨by first | rfl | (simp; done) | (simp only [← hji4] <;> (first | rfl | simp)) | (simp [*]; done), by repeat (first | exact Drawn0.refl _ | apply Drawn0.step)⟩
                  · rw [if_neg c9] at H
                    have c9b0 : decide (((rd_T54 l0 x6_1).f0) ≤ ((rd_T54 l0 (ji4)).f0)) = false := decide_eq_false c9
                    clear c9
                    have H' := Aside0.mk H
                    clear H
                    have p198 : 0 ≤ ((ji4) : Int) := of_decide_eq_true (by first | (with_reducible assumption) | assumption)
                    have q198 : (ji4) < (l0.length : Int) := of_decide_eq_true (by first | (with_reducible assumption) | assumption)
                    obtain ⟨ad198, e198, hx198_0, hx198_1⟩ := at_T54 HR0.out (ji4) p198 q198
                    cases e198
                    replace p198 := eq_true p198
                    replace q198 := eq_true q198
                    have p199 : 0 ≤ (x6_1 : Int) := of_decide_eq_true (by first | (with_reducible assumption) | assumption)
                    have q199 : x6_1 < (l0.length : Int) := of_decide_eq_true (by first | (with_reducible assumption) | assumption)
                    obtain ⟨ad199, e199, hx199_0, hx199_1⟩ := at_T54 HR0.out x6_1 p199 q199
                    obtain rfl : ad198 = ad199 := (by injection e199)
                    replace p199 := eq_true p199
                    replace q199 := eq_true q199
                    go_wp2
                    repeat (go_quiet (fail); try go_wp2)
                    go_roundg k1
                    case measure => have := HK1.out; omega
                    case rel => exact ⟨(wrap64 (x6_1 + 1)), (by first | rfl | (simp; done) | (simp [*]; done)), H', ⟨by have := HK1.out; omega⟩, by repeat (first | exact Drawn0.refl _ | apply Drawn0.step)⟩
                · rw [if_neg c8] at H
                  exact absurd H (by simp)
              · rw [if_neg c7] at H
                exact absurd H (by simp)
            · rw [if_neg c6] at H
              exact absurd H (by simp)
          · rw [if_neg c5] at H
            exact absurd H (by simp)
        · rw [if_neg c3] at H
          have c3b0 : decide (0 < x6_1) = false := decide_eq_false c3
          clear c3
          have H' := Aside0.mk H
          clear H
          go_wp2
          repeat (go_quiet (fail); try go_wp2)
          go_roundg k1
          case measure => have := HK1.out; omega
          case rel => exact ⟨(wrap64 (x6_1 + 1)), (by first | rfl | (simp; done) | (simp [*]; done)), H', ⟨by have := HK1.out; omega⟩, by repeat (first | exact Drawn0.refl _ | apply Drawn0.step)⟩
      · rw [if_neg c2] at H
        have c2b0 : decide (x6_1 < (l0.length : Int)) = false := decide_eq_false c2
        clear c2
        obtain rfl := Option.some.inj H
        go_wp2
        repeat (go_quiet (fail); try go_wp2)
        go_ret
        exact ⟨by first | rfl | (simp; done) | (simp [*]; done) | (simp; decide +kernel), by repeat (first | exact Drawn0.refl _ | apply Drawn0.step)⟩
end Go.Proofs.YtbgmnmjokdfmlaaDoor.PA
namespace Go.Proofs.YtbgmnmjokdfmlaaDoor.PA
open Go.RowKit Go.Proofs.YtbgmnmjokdfmlaaDoor.G Go.Proofs.YtbgmnmjokdfmlaaDoorW.PrintWords Go.Proofs.YtbgmnmjokdfmlaaDoorW.PrintLast Go.Proofs.YtbgmnmjokdfmlaaDoorW.PrintMore
set_option linter.unusedVariables false
set_option linter.unusedSimpArgs false
theorem rcan_from (l : List S54) (hl : l.length ≤ 1000000) : ∀ d i, i + 1 + d = l.length → ∀ k, d < k → dryrotref11_Can.l0 k l (l.length : Int) ((i + 1 : Nat) : Int) = some (((List.range d).all fun q => decide ((rd_T54 l ((i + q : Nat) : Int)).f0 < (rd_T54 l ((i + q + 1 : Nat) : Int)).f0)) && decide (l.length ≤ 65535))
  | 0, i, h, k + 1, hk => by
    unfold dryrotref11_Can.l0
    rw [if_neg (by omega)]
    simp
    omega
  | d + 1, i, h, k + 1, hk => by
    unfold dryrotref11_Can.l0
    have e1 : wrap64 (((i + 1 : Nat) : Int) - 1) = ((i : Nat) : Int) := by rw [w64 (by omega) (by omega)]; omega
    have e2 : wrap64 (((i + 1 : Nat) : Int) + 1) = ((i + 1 + 1 : Nat) : Int) := by rw [w64 (by omega) (by omega)]; omega
    rw [if_pos (by omega), if_pos (by omega), e1, if_pos (by omega), if_pos (by omega), if_pos (by omega), if_pos (by omega), e2, List.range_succ_eq_map, List.all_cons, List.all_map]
    by_cases hh : (rd_T54 l ((i : Nat) : Int)).f0 ≥ (rd_T54 l ((i + 1 : Nat) : Int)).f0
    · rw [if_pos hh]
      have h2 : ¬ (rd_T54 l ((i : Nat) : Int)).f0 < (rd_T54 l ((i + 1 : Nat) : Int)).f0 := by omega
      have e3 : decide ((rd_T54 l ((i + 0 : Nat) : Int)).f0 < (rd_T54 l ((i + 0 + 1 : Nat) : Int)).f0) = false := decide_eq_false h2
      rw [e3, Bool.false_and, Bool.false_and]
    · rw [if_neg hh, rcan_from l hl d (i + 1) (by omega) k (by omega)]
      have h2 : (rd_T54 l ((i : Nat) : Int)).f0 < (rd_T54 l ((i + 1 : Nat) : Int)).f0 := by omega
      have e3 : decide ((rd_T54 l ((i + 0 : Nat) : Int)).f0 < (rd_T54 l ((i + 0 + 1 : Nat) : Int)).f0) = true := decide_eq_true h2
      rw [e3, Bool.true_and]
      congr 3
      funext q
      simp only [Function.comp, show i + 1 + q = i + (q + 1) by omega, Nat.succ_eq_add_one]
theorem rcan_S (l : List S54) (hl : l.length ≤ 1000000) (k : Nat) (hk : l.length + 1 < k) : dryrotref11_Can.f k l = some (canS l) := by
  unfold dryrotref11_Can.f canS
  obtain ⟨k, rfl⟩ : ∃ k', k = k' + 1 := ⟨k - 1, by omega⟩
  by_cases h : 0 < l.length
  · have := rcan_from l hl (l.length - 1) 0 (by omega) k (by omega)
    simp only [Nat.zero_add] at this
    unfold dryrotref11_Can.l0
    rw [if_pos (by omega), if_neg (by omega)]
    exact (show wrap64 (0 + 1) = ((1 : Nat) : Int) from w64 (by decide) (by decide)) ▸ this
  · unfold dryrotref11_Can.l0
    rw [if_neg (by omega), show l.length - 1 = 0 by omega]
    simp
    omega
theorem OU.alloc {B g : Nat} {W : World} {L : List Bool} (h : OU B W g L) (o : Obj) : OU B (W.alloc o) g L := by
  obtain ⟨u, h1, h2⟩ := h
  exact ⟨u, blk_alloc h1 _, Kd.R_alloc h2 _⟩
theorem OU.drew {B g : Nat} {W : World} {L : List Bool} (h : OU B W g L) : OU B W.drew g L := h
theorem OU.lt {B g : Nat} {W : World} {L : List Bool} (h : OU B W g L) : g < W.heap.size := by
  obtain ⟨u, h1, _⟩ := h
  exact blk_lt h1
theorem cells54 {w W : World} {ad : Addr} {n : Nat} {l : List S54} (hr : Kd.C k54 w (some ad) n l) (hb : Below w.heap.size w W) (j : Nat) (hj : j < n) : W.cell? (ad.add (j * 2)) = some (.int .i64 (rd_T54 l (j : Int)).f0) ∧ W.cell? ⟨(ad.add (j * 2)).block, (ad.add (j * 2)).off + 1, none⟩ = some (.int .u64 (rd_T54 l (j : Int)).f1) := by
  obtain ⟨ad', e, h0, h1⟩ := at_T54 (Kd.C_below hr hb) (j : Int) (by omega) (by omega)
  obtain rfl := Option.some.inj e
  rw [Int.toNat_natCast] at h0 h1
  exact ⟨h0, h1⟩
theorem out_putXor.at_ (B g : Nat) (L : List Bool) (V : Int) (x : Nat) (w0 w : World) (hO : OU B w g L) (hB : Below B w0 w) (hgB : B ≤ g) (hV : V = (x : Int)) (hx : x < 18446744073709551616) (hL : L.length ≤ 6000000) :
    Calls Tryd.prog 69 #[.pointer (some ⟨g, 0, none⟩), .int .u64 V] w fun e w' => e = .returned (.tuple #[]) ∧ OU B w' g (L ++ xorBits x) ∧ Below B w0 w' ∧ KeepO g w w' := by
  subst hV
  exact out_putXor.calls B g L x w0 w hO hB hgB hx hL
theorem wrap64_0 (a : Int) : wrap64 (wrap64 a - 0) = wrap64 a := by
  have := wrap64_in a
  rw [Int.sub_zero]
  exact w64 this.1 this.2
set_option maxHeartbeats 2000000 in
set_option maxRecDepth 100000 in
theorem rEncode.bad (A : Option Addr) (c : Nat) (l : List S54) (w : World) (hr : Kd.C k54 w A l.length l) (hc : l.length ≤ c) (hlen : l.length ≤ 20000) (h : canS l = false) :
    Calls Tryd.prog 36 #[.slice A l.length c] w fun e w' => e = .returned (.tuple #[.slice none 0 0, .int .i64 1]) ∧ Below w.heap.size w w' := by
  have HR := Aside0.mk hr
  have HC := Aside0.mk hc
  have HF : Aside0 (dryrotref11_Can.f 100000 l = some false) := ⟨by rw [rcan_S l (by omega) _ (by omega), h]⟩
  clear hr hc hlen h
  go_enter Tryd.func36, Tryd.ntmps36
  go_wp2_with (go_at_call 41; (with_reducible refine (dryrotref11_Can.calls 100000 _ _ l false _ HR.out HC.out HF.out).mono ?_); rintro e w1 ⟨rfl, hd⟩; have HB := Aside0.mk hd.below; clear hd)
  refine bodyPost_ret (results_tmp2 rfl _ _ _) rfl ?_
  exact ⟨rfl, HB.out⟩
set_option maxHeartbeats 8000000 in
set_option maxRecDepth 100000 in
theorem rEncode.ok (A : Option Addr) (c : Nat) (l : List S54) (w : World) (hr : Kd.C k54 w A l.length l) (hc : l.length ≤ c) (hw : ∀ x ∈ l, okS x) (hlen : l.length ≤ 20000) (h : canS l = true) :
    Calls Tryd.prog 36 #[.slice A l.length c] w fun e w' => ∃ v : Value, e = .returned (.tuple #[v, .int .i64 0]) ∧ Kd.R (Kd.int .u8) 5 w' w.heap.size (fun _ => True) v (encL l) ∧ Below w.heap.size w w' := by
  have HR := Aside0.mk hr
  have HC := Aside0.mk hc
  have HW := Aside0.mk hw
  have HLN := Aside0.mk hlen
  have HF : Aside0 (dryrotref11_Can.f 100000 l = some true) := ⟨by rw [rcan_S l (by omega) _ (by omega), h]⟩
  clear hr hc hw h hlen
  go_enter Tryd.func36, Tryd.ntmps36
  go_wp2_with (first
    | (go_at_call 41; (with_reducible refine (dryrotref11_Can.calls 100000 _ _ l true _ HR.out HC.out HF.out).mono ?_); rintro e w1 ⟨rfl, hd⟩; have HB1 := Aside0.mk hd.below; clear hd)
    | ((with_reducible refine gate_dst (N := 14) rfl ?_); refine box_event ?hg (N := 14) ?hd (cs := #[.slice none 0 0]) (t := 109) ?hr ?_; (case hd => rfl); (case hg => rfl); (case hr => first | (go_simp; done) | (go_simp; rfl)); intro g hg w2 hbox hb; have HB2 := Aside0.mk (below_step HB1.out hb); have HBK := Aside0.mk hbox; have HG : Aside0 (w.heap.size ≤ g) := ⟨by have := HB1.out.size; omega⟩; clear hb hbox hg))
  have HPK : Aside0 (OU w.heap.size w2 g (encP l 0)) := ⟨_, HBK.out, Kd.R_nil _ _ _ _ _⟩
  go_loopw [17] (fun i wr => ∃ k : Nat, k ≤ l.length ∧ i = .int .i64 k ∧ Aside0 (OU w.heap.size wr g (encP l k)) ∧ Aside0 (Below w.heap.size w wr)) (fun i _ => l.length - (intOf i).toNat)
  case atStart => exact ⟨0, Nat.zero_le _, rfl, HPK, HB2⟩
  case round =>
    clear HPK HBK HB2
    obtain ⟨k, hk, rfl, HP, HB⟩ := hrel
    have hl2 : l.length ≤ 20000 := HLN.out
    by_cases hlt : k < l.length
    · have hC := Kd.C_below HR.out HB.out
      obtain ⟨ad, rfl, h0, h1⟩ := at_T54 hC (k : Int) (by omega) (by omega)
      rw [Int.toNat_natCast] at h0 h1
      have hx := HW.out _ (rd_mem54 l k hlt)
      have hgw := (HP.out).lt
      have HGN : Aside0 (wr.heap.size ≠ g) := ⟨by omega⟩
      have HLE := Aside0.mk (encP_len l HW.out k hk)
      clear hC hgw
      cases k with
      | zero =>
        obtain ⟨v0, hv0⟩ := Int.eq_ofNat_of_zero_le (u64_wrap_range (rd_T54 l 0).f0).1
        obtain ⟨v1, hv1⟩ := Int.eq_ofNat_of_zero_le hx.2.1
        have CA := Aside0.mk (fun W h1 h2 => out_put.at_ w.heap.size g [] (IntKind.u64.wrap (rd_T54 l 0).f0) 64 v0 64 w W h1 h2 HG.out hv0 rfl (by have := (u64_wrap_range (rd_T54 l 0).f0).2; omega) (by decide) (by simp))
        have CB := Aside0.mk (fun W h1 h2 => out_put.at_ w.heap.size g ([] ++ low v0 64) (rd_T54 l 0).f1 64 v1 64 w W h1 h2 HG.out hv1 rfl (by have := hx.2.2; omega) (by decide) (by simp))
        have EV : Aside0 ((IntKind.u64.wrap (rd_T54 l 0).f0).toNat = v0 ∧ (rd_T54 l 0).f1.toNat = v1) := ⟨by rw [hv0]; rfl, by have h_ : (rd_T54 l 0).f1 = (v1 : Int) := hv1; rw [h_]; rfl⟩
        clear hv0 hv1 hx
        have h0' : wr.cell? ad = some (.int .i64 (rd_T54 l 0).f0) := by simpa [Addr.add] using h0
        have h1' : wr.cell? ⟨ad.block, ad.off + 1, none⟩ = some (.int .u64 (rd_T54 l 0).f1) := by simpa [Addr.add] using h1
        clear h0 h1
        go_wp2_with (first
          | (go_at_call 67; (with_reducible refine (CA.out _ (HP.out.alloc _) (below_alloc HB.out _)).mono ?_); rintro e w3 ⟨rfl, hp, hb, hk⟩; have HP3 := Aside0.mk hp; have BX := hk wr.heap.size _ _ HGN.out (by decide) (blk_new wr _); have f1 := (blk_cell BX 1).trans rfl; have HB3 := Aside0.mk hb; clear hp hb hk BX)
          | (go_at_call 67; (with_reducible refine (CB.out _ HP3.out HB3.out).mono ?_); rintro e w4 ⟨rfl, hp, hb, hk⟩; have HP4 := Aside0.mk hp; have HB4 := Aside0.mk hb; clear hp hb hk))
        go_roundw
        case rel =>
          refine ⟨1, by omega, by go_num, ⟨?_⟩, HB4⟩
          have := HP4.out
          rw [List.nil_append, ← EV.out.1, ← EV.out.2] at this
          exact this
        case measure => simp [intOf]; omega
      | succ k =>
        have hx1 := HW.out _ (rd_mem54 l k (by omega))
        obtain ⟨x, ex⟩ : ∃ x, rd_T54 l ((k + 1 : Nat) : Int) = x := ⟨_, rfl⟩
        obtain ⟨y, ey⟩ : ∃ y, rd_T54 l ((k : Nat) : Int) = y := ⟨_, rfl⟩
        rw [ex] at h0 h1 hx
        rw [ey] at hx1
        have hxi := xor_in hx.2 hx1.2
        obtain ⟨q, eq⟩ : ∃ q, x.f1.toNat ^^^ y.f1.toNat = q := ⟨_, rfl⟩
        rw [eq] at hxi
        have CI := Aside0.mk (fun V W h1 h2 => out_putInt.calls w.heap.size g (encP l (k + 1)) V w W h1 h2 HG.out (by have := HLE.out; omega))
        have CX := Aside0.mk (fun V U W h1 h2 hU => out_putXor.at_ w.heap.size g (encP l (k + 1) ++ intBits V) U q w W h1 h2 HG.out hU hxi.2 (by have := HLE.out; have := intBits_len V; rw [List.length_append]; omega))
        have HXI := Aside0.mk hxi.1
        have HST : Aside0 (encP l (k + 2) = encP l (k + 1) ++ (intBits (wrap64 (wrap64 (x.f0 - y.f0) - stepP l (k + 1))) ++ xorBits q)) := ⟨by rw [← eq, ← ex, ← ey]; rfl⟩
        have HCY := Aside0.mk (fun W hb => ey ▸ cells54 HR.out (W := W) hb k (by omega))
        have BX := Aside0.mk (blk_new wr (.cells #[.int .i64 x.f0, .int .u64 x.f1] 54))
        have HPA := Aside0.mk (HP.out.alloc (.cells #[.int .i64 x.f0, .int .u64 x.f1] 54))
        have HBA := Aside0.mk (below_alloc HB.out (.cells #[.int .i64 x.f0, .int .u64 x.f1] 54))
        clear hx hx1 hxi eq
        cases k with
        | zero =>
          rw [show ((0 + 1 : Nat) : Int) = 1 from rfl] at *
          have y0 : (wr.alloc (.cells #[.int .i64 x.f0, .int .u64 x.f1] 54)).cell? ad = some (.int .i64 y.f0) := by simpa [Addr.add] using (HCY.out _ HBA.out).1
          have x0 : (wr.alloc (.cells #[.int .i64 x.f0, .int .u64 x.f1] 54)).cell? ⟨wr.heap.size, 0, none⟩ = some (.int .i64 x.f0) := (blk_cell BX.out 0).trans rfl
          have h0' : wr.cell? ⟨ad.block, ad.off + 2, none⟩ = some (.int .i64 x.f0) := by simpa [Addr.add] using h0
          have h1' : wr.cell? ⟨ad.block, ad.off + 2 + 1, none⟩ = some (.int .u64 x.f1) := by simpa [Addr.add] using h1
          have hxi := HXI.out
          have b3 : (0 : Int) < (l.length : Int) := by omega
          have b4 : 0 < l.length := by omega
          have hw0 : IntKind.i64.wrap 0 = 0 := by decide
          have hw1 : IntKind.i64.wrap (1 - 1) = 0 := by decide
          clear h0 h1 ex ey
          go_wp2_with fail
          go_region_held3 (fun W => W.cell? ⟨wr.heap.size, 0, none⟩ = some (.int .i64 x.f0) ∧ W.cell? ad = some (.int .i64 y.f0)) (first | exact ⟨x0, y0⟩ | exact ⟨x3, y3⟩)
            (first | (go_at_call 68; (refine (CI.out _ _ ?s1 ?s2).mono ?_); (case s1 => exact HPA.out.drew); (case s2 => exact below_drew1 HBA.out); rintro e w3 ⟨rfl, hp, hb, hk⟩; have bx3 := hk wr.heap.size _ _ HGN.out (by decide) (blk_drew BX.out); have x3 := (blk_cell bx3 0).trans rfl; have y3 : w3.cell? ad = some (.int .i64 y.f0) := (by simpa [Addr.add] using (HCY.out _ hb).1); have HP3 := Aside0.mk hp; have HB3 := Aside0.mk hb; have BX3 := Aside0.mk bx3; clear hp hb hk bx3))
          clear x0 y0
          have x1 : w3.cell? ⟨wr.heap.size, 1, none⟩ = some (.int .u64 x.f1) := (blk_cell BX3.out 1).trans rfl
          have y1 : w3.cell? ⟨ad.block, ad.off + 1, none⟩ = some (.int .u64 y.f1) := by simpa [Addr.add] using (HCY.out _ HB3.out).2
          go_wp2_with fail
          go_region_held3 (fun W => W.cell? ⟨wr.heap.size, 1, none⟩ = some (.int .u64 x.f1) ∧ W.cell? ⟨ad.block, ad.off + 1, none⟩ = some (.int .u64 y.f1)) (first | exact ⟨x1, y1⟩ | exact ⟨x4, y4⟩)
            (first | (go_at_call 69; (refine (CX.out _ _ _ HP3.out.drew ?s4 ?s5).mono ?_); (case s4 => exact below_drew1 HB3.out); (case s5 => first | exact hxi | rfl); rintro e w4 ⟨rfl, hp, hb, hk⟩; have bx4 := hk wr.heap.size _ _ HGN.out (by decide) (blk_drew BX3.out); have x4 : w4.cell? ⟨wr.heap.size, 1, none⟩ = some (.int .u64 x.f1) := (blk_cell bx4 1).trans rfl; have y4 : w4.cell? ⟨ad.block, ad.off + 1, none⟩ = some (.int .u64 y.f1) := (by simpa [Addr.add] using (HCY.out _ hb).2); have HP4 := Aside0.mk hp; have HB4 := Aside0.mk hb; clear hp hb hk bx4))
          clear x1 y1 x3 y3
          go_wp2_with fail
          go_roundw
          case rel =>
            refine ⟨0 + 2, by omega, by go_num, ⟨?_⟩, HB4⟩
            have h_ := HP4.out
            simp only [i64_w] at h_
            rw [show stepP l (0 + 1) = 0 from rfl, wrap64_0] at HST
            rw [HST.out, ← List.append_assoc]
            exact h_
          case measure => simp [intOf] <;> omega
        | succ k =>
          rw [show ((k + 1 + 1 : Nat) : Int) = (k : Int) + 2 from by omega] at *
          obtain ⟨z, ez⟩ : ∃ z, rd_T54 l ((k : Nat) : Int) = z := ⟨_, rfl⟩
          have HSP : Aside0 (stepP l (k + 1 + 1) = wrap64 (y.f0 - z.f0)) := ⟨by rw [← ey, ← ez]; rfl⟩
          have HCZ := Aside0.mk (fun W hb => ez ▸ cells54 HR.out (W := W) hb k (by omega))
          have y0 := (HCY.out _ HBA.out).1
          have z0 := (HCZ.out _ HBA.out).1
          have x0 : (wr.alloc (.cells #[.int .i64 x.f0, .int .u64 x.f1] 54)).cell? ⟨wr.heap.size, 0, none⟩ = some (.int .i64 x.f0) := (blk_cell BX.out 0).trans rfl
          have hxi := HXI.out
          have b0 : (0 : Int) ≤ (k : Int) := by omega
          have b1 : (k : Int) < (l.length : Int) := by omega
          have b2 : (0 : Int) ≤ (k : Int) + 1 := by omega
          have b3 : (k : Int) + 1 < (l.length : Int) := by omega
          have hwk : IntKind.i64.wrap (k : Int) = (k : Int) := (i64_w _).trans (w64 (by omega) (by omega))
          have hwk1 : IntKind.i64.wrap ((k : Int) + 1) = (k : Int) + 1 := (i64_w _).trans (w64 (by omega) (by omega))
          have hwk2 : IntKind.i64.wrap ((k : Int) + 2 - 1) = (k : Int) + 1 := (i64_w _).trans ((w64 (by omega) (by omega)).trans (by omega))
          have hwk3 : IntKind.i64.wrap ((k : Int) + 2 - 2) = (k : Int) := (i64_w _).trans ((w64 (by omega) (by omega)).trans (by omega))
          have hn1 : ((k : Int) + 1).toNat = k + 1 := by omega
          have d0 : ((k : Int) + 2 == 0) = false := beq_eq_false_iff_ne.2 (by omega)
          have d1 : ((k : Int) + 2 == 1) = false := beq_eq_false_iff_ne.2 (by omega)
          clear ex ey ez
          go_wp2_with fail
          go_region_held3 (fun W => W.cell? ⟨wr.heap.size, 0, none⟩ = some (.int .i64 x.f0) ∧ W.cell? (ad.add ((k + 1) * 2)) = some (.int .i64 y.f0) ∧ W.cell? (ad.add (k * 2)) = some (.int .i64 z.f0)) (first | exact ⟨x0, y0, z0⟩ | exact ⟨x3, y3, z3⟩)
            (first | (go_at_call 68; (refine (CI.out _ _ ?s6 ?s7).mono ?_); (case s6 => exact HPA.out.drew); (case s7 => exact below_drew1 HBA.out); rintro e w3 ⟨rfl, hp, hb, hk⟩; have bx3 := hk wr.heap.size _ _ HGN.out (by decide) (blk_drew BX.out); have x3 : w3.cell? ⟨wr.heap.size, 0, none⟩ = some (.int .i64 x.f0) := (blk_cell bx3 0).trans rfl; have y3 := (HCY.out _ hb).1; have z3 := (HCZ.out _ hb).1; have HP3 := Aside0.mk hp; have HB3 := Aside0.mk hb; have BX3 := Aside0.mk bx3; clear hp hb hk bx3))
          clear x0 y0 z0
          have x1 : w3.cell? ⟨wr.heap.size, 1, none⟩ = some (.int .u64 x.f1) := (blk_cell BX3.out 1).trans rfl
          have y1 := (HCY.out _ HB3.out).2
          go_wp2_with fail
          go_region_held3 (fun W => W.cell? ⟨wr.heap.size, 1, none⟩ = some (.int .u64 x.f1) ∧ W.cell? ⟨(ad.add ((k + 1) * 2)).block, (ad.add ((k + 1) * 2)).off + 1, none⟩ = some (.int .u64 y.f1)) (first | exact ⟨x1, y1⟩ | exact ⟨x4, y4⟩)
            (first | (go_at_call 69; (refine (CX.out _ _ _ HP3.out.drew ?s9 ?s10).mono ?_); (case s9 => exact below_drew1 HB3.out); (case s10 => first | exact hxi | rfl); rintro e w4 ⟨rfl, hp, hb, hk⟩; have bx4 := hk wr.heap.size _ _ HGN.out (by decide) (blk_drew BX3.out); have x4 : w4.cell? ⟨wr.heap.size, 1, none⟩ = some (.int .u64 x.f1) := (blk_cell bx4 1).trans rfl; have y4 := (HCY.out _ hb).2; have HP4 := Aside0.mk hp; have HB4 := Aside0.mk hb; clear hp hb hk bx4))
          clear x1 y1 x3 y3 z3
          go_wp2_with fail
          go_roundw
          case rel =>
            refine ⟨k + 1 + 2, by omega, by go_num, ⟨?_⟩, HB4⟩
            have h_ := HP4.out
            simp only [i64_w] at h_
            rw [← HSP.out] at h_
            rw [HST.out, ← List.append_assoc]
            exact h_
          case measure => simp [intOf] <;> omega
    · obtain rfl : k = l.length := by omega
      have hL7 := encP_len l HW.out l.length (Nat.le_refl _)
      obtain ⟨L, hL⟩ : ∃ L, encP l l.length = L := ⟨_, rfl⟩
      rw [hL] at HP hL7
      have HEN : Aside0 (encL l = beL l.length 2 ++ pkS L L.length) := ⟨by rw [encL, hL, pkS_all]⟩
      have HL7 : Aside0 (L.length ≤ 4000000) := ⟨by omega⟩
      obtain ⟨u, hu1, hu2⟩ := HP.out
      obtain ⟨A8, c8, rfl⟩ := Kd.R_slice hu2
      have HU1 := Aside0.mk hu1
      have HU2 := Aside0.mk hu2
      have HPF : Aside0 (G.dryrotref01_Put.f (l.length : Int) 2 = some (beL l.length 2)) := ⟨by have h_ := put_f (q := (l.length : Int)) (by omega) (by omega) 2; rw [u64n (by omega)] at h_; exact h_⟩
      clear hu1 hu2 hL hL7
      go_wp2_with (go_at_call 37; (with_reducible refine (G.dryrotref01_Put.calls _ _ _ _ HPF.out).mono ?_); rintro e w5 ⟨v5, rfl, hr, hb⟩; have HR5 := Aside0.mk hr; have HB5 := Aside0.mk (below_step HB.out hb); have HU5 := Aside0.mk (Kd.R_below HU2.out hb); have BK5 := Aside0.mk (blk_below HU1.out hb); have z5 : w5.cell? ⟨g, 0, none⟩ = some (.slice A8 L.length c8) := (blk_cell BK5.out 0).trans rfl; clear hr hb)
      have HS5 : Aside0 (w.heap.size ≤ wr.heap.size) := ⟨HB.out.size⟩
      clear HP HB HU1 HU2
      obtain ⟨A7, c7, rfl⟩ := Kd.R_slice HR5.out
      have HR6 : Aside0 (Kd.R (Kd.int .u8) 5 w5 w.heap.size (fun _ => True) (.slice A7 (beL l.length 2).length c7) (beL l.length 2 ++ pkS L 0)) := ⟨by
        rw [show beL l.length 2 ++ pkS L 0 = beL l.length 2 from List.append_nil _]
        exact Kd.R_lower HR5.out HS5.out⟩
      go_loopw [7, 91] (fun v7 i wx => ∃ j : Nat, j ≤ L.length ∧ i = .int .i64 j ∧ Aside0 (Kd.R (Kd.int .u8) 5 wx w.heap.size (fun _ => True) v7 (beL l.length 2 ++ pkS L j)) ∧ Aside0 (Kd.R Kd.bool 4 wx w.heap.size (fun _ => True) (.slice A8 L.length c8) L) ∧ Aside0 (Below w.heap.size w wx)) (fun _ i _ => L.length - (intOf i).toNat)
      case atStart => exact ⟨0, Nat.zero_le _, rfl, HR6, HU5, HB5⟩
      case round =>
        clear HR5 HR6 HU5 HB5 BK5 z5
        obtain ⟨j, hj, rfl, HX, HO, HB⟩ := hrel
        have hL7 : L.length ≤ 4000000 := HL7.out
        by_cases hlt : j < L.length
        · obtain ⟨ad8, rfl, z8⟩ := Kd.at_bool (Kd.R_reads' HO.out).2.2 (j : Int) (by omega) (by omega)
          rw [Int.toNat_natCast] at z8
          have hbit : rdOf false L (j : Int) = L.getD j false := by simp [rdOf]
          rw [hbit] at z8
          have hpl : (pkS L j).length = (j + 7) / 8 := by have h_ := (pkS_ok L j (by omega)).1; have := h_.le; have := h_.near; omega
          have HXL : Aside0 ((beL l.length 2 ++ pkS L j).length = 2 + (j + 7) / 8) := ⟨by rw [List.length_append, beL_length, hpl]⟩
          obtain ⟨A7, c7, e7⟩ := Kd.R_slice HX.out
          rw [HXL.out] at e7
          subst e7
          have HAZ : Aside0 (beL l.length 2 ++ addZ (pkS L j) j = if j % 8 = 0 then beL l.length 2 ++ pkS L j ++ [0] else beL l.length 2 ++ pkS L j) := ⟨by unfold addZ; split <;> simp⟩
          have HPF := Aside0.mk (fun hb => pk_false (L := L) hlt hb)
          have HPT := Aside0.mk (fun hb => pk_true (L := L) (m := 2) hlt hb (beL l.length 2) (beL_length _ _))
          have HAL : Aside0 ((beL l.length 2 ++ addZ (pkS L j) j).length = 2 + j / 8 + 1) := ⟨by rw [List.length_append, beL_length, addZ_len (pkS_ok L j (by omega)).1]; omega⟩
          have HOB : Aside0 (OkL (beL l.length 2 ++ addZ (pkS L j) j)) := ⟨fun x hx => by
            rcases List.mem_append.1 hx with hx | hx
            · exact okB_iff.1 (okB_beL _ _) x hx
            · unfold addZ at hx
              split at hx
              · rcases List.mem_append.1 hx with hx | hx
                · exact (pkS_ok L j (by omega)).1.bytes x hx
                · rw [List.mem_singleton.1 hx]
                  exact ⟨by decide, by decide⟩
              · exact (pkS_ok L j (by omega)).1.bytes x hx⟩
          clear hbit hpl
          generalize addZ (pkS L j) j = Z at *
          generalize L.getD j false = bt at *
          go_upto_if 98 with (fail)
          go_cut [7] (fun v7 wc => Aside0 (Kd.R (Kd.int .u8) 5 wc w.heap.size (fun _ => True) v7 (beL l.length 2 ++ Z)) ∧ Aside0 (Kd.R Kd.bool 4 wc w.heap.size (fun _ => True) (.slice (some ad8) L.length c8) L) ∧ Aside0 (Below w.heap.size w wc))
          case first =>
            by_cases hm : j % 8 = 0
            · have hmb : ((j : Int) % 8 == 0) = true := beq_iff_eq.2 (by omega)
              have HE := HAZ.out
              rw [if_pos hm] at HE
              have HE := Aside0.mk HE
              clear hm
              go_wp2_with ((with_reducible refine gate_builtin (b := .append) (xs := #[.tmp 99, .tmp 100]) rfl ?_); at_builtin; refine Kd.R_append (Kd.int .u8) (w0 := w) w.heap.size rfl (.tmp 99) (.tmp 100) 22 5 (.int .u8 0) 1 rfl Tryd.underlying22 infoU8 rfl (by decide) (by omega) (.slice A7 (2 + (j + 7) / 8) c7) (beL l.length 2 ++ pkS L j) 0 [.int .u8 0] (fun _ => True) (fun _ => False) rfl ?hx ?aP (fun _ hk => hk.elim) (fun _ _ => trivial) HX.out HB.out HB.out.size ?aL ?_; (case hx => first | rfl | (go_simp; done) | (show Value.slice _ 1 1 = Value.slice _ 1 1; simp; done)); (case aP => exact rfl); (case aL => have := HXL.out; omega); intro v9 w9 ho hb hg9 hat; have HX9 := Aside0.mk ho; have HB9 := Aside0.mk hb; have HO9 := Aside0.mk (Kd.R_over HO.out HX.out (by decide) hg9); clear ho hb hg9 hat)
              go_meet
              exact ⟨⟨by rw [HE.out]; exact HX9.out⟩, HO9, HB9⟩
            · have hmb : ((j : Int) % 8 == 0) = false := beq_eq_false_iff_ne.2 (by omega)
              have HE := HAZ.out
              rw [if_neg hm] at HE
              have HE := Aside0.mk HE
              clear hm
              go_wp2_with (fail)
              go_meet
              exact ⟨⟨by rw [HE.out]; exact HX.out⟩, HO, HB⟩
          case rest =>
            obtain ⟨HX2, HO2, HB2⟩ := hcut
            clear HX HO HB
            cases bt with
            | false =>
              go_wp2_with fail
              go_roundw
              case rel => exact ⟨j + 1, by omega, by go_num, ⟨by rw [HPF.out rfl]; exact HX2.out⟩, HO2, HB2⟩
              case measure => simp [intOf] <;> omega
            | true =>
              obtain ⟨s1, s2, s3⟩ := HPT.out rfl
              obtain ⟨gb, c9, e9, hgb, hgl, cl, hcl⟩ := Kd.R_form HX2.out (by rw [s2]; omega)
              subst e9
              rw [s2] at HX2
              rw [s2]
              obtain ⟨hc, hf⟩ := Kd.R_celln 0 HX2.out ((2 + j / 8 : Nat) : Int) (by omega) (by omega)
              have HP := Aside0.mk (Kd.R_putg HX2.out ((2 + j / 8 : Nat) : Int) (Go.bits .or .u8 (Z.getD (j / 8) 0) (128 / 2 ^ (j % 8))))
              rw [show rdOf (0 : Int) (beL l.length 2 ++ Z) ((2 + j / 8 : Nat) : Int) = Z.getD (j / 8) 0 from s3] at hc
              rw [Int.toNat_natCast] at hc hf HP
              rw [s1] at HP
              obtain ⟨N, hN⟩ : ∃ N, 2 + j / 8 = N := ⟨_, rfl⟩
              rw [hN] at hc hf HP HX2
              rw [hN]
              obtain ⟨q, hq⟩ : ∃ q, j % 8 = q := ⟨_, rfl⟩
              have hq8 : q < 8 := hq ▸ Nat.mod_lt _ (by decide)
              have hqi : (j : Int) % 8 = (q : Int) := by omega
              rw [hq] at HP
              have hN0 : (0 : Int) ≤ (N : Int) := by omega
              have hN1 : (N : Int) < (N : Int) + 1 := by omega
              have hNw : IntKind.i64.wrap (N : Int) = (N : Int) := (i64_w _).trans (w64 (by omega) (by omega))
              clear s1 s2 s3 hN hq
              clear HPT
              generalize Z.getD (j / 8) 0 = ov at *
              go_wp2_with fail
              go_region
              all_goals
                go_wp2_with fail
                go_roundw
                case rel => exact ⟨j + 1, by omega, by go_num, ⟨Kd.R_drew HP.out.1⟩, ⟨Kd.R_drew (Kd.R_over HO2.out HX2.out (by decide) HP.out.2)⟩, ⟨below_drew1 (HB2.out.setCell (p := ⟨gb, N, none⟩) hgb _)⟩⟩
                case measure => simp [intOf] <;> omega
        · obtain rfl : j = L.length := by omega
          obtain ⟨A7, c7, e7⟩ := Kd.R_slice HX.out
          subst e7
          go_wp2_with fail
          refine bodyPost_ret (results_tmp2 rfl _ _ _) rfl ?_
          refine ⟨_, rfl, ?_, HB.out⟩
          rw [HEN.out]
          exact HX.out
end Go.Proofs.YtbgmnmjokdfmlaaDoor.PA
namespace Go.Proofs.YtbgmnmjokdfmlaaDoor.PA
open Go.RowKit Go.Proofs.YtbgmnmjokdfmlaaDoor.G Go.Proofs.YtbgmnmjokdfmlaaDoorW.PrintWords Go.Proofs.YtbgmnmjokdfmlaaDoorW.PrintLast Go.Proofs.YtbgmnmjokdfmlaaDoorW.PrintMore
set_option linter.unusedVariables false
set_option linter.unusedSimpArgs false
def canX (x : S60) : Bool := canL x.f0 && (!decide (x.f1.length = 0) && canS x.f1)
def okC (l : List S60) (k : Nat) : Bool := canX (rd_T60 l (k : Int)) && (decide (k = 0) || decide (cmpL (rd_T60 l ((k - 1 : Nat) : Int)).f0 (rd_T60 l (k : Int)).f0 < 0))
def canC (l : List S60) : Bool := (List.range l.length).all (okC l)
theorem canC_bad {l : List S60} {k : Nat} (hk : k < l.length) (h : okC l k = false) : canC l = false := by
  rw [canC, List.all_eq_false]
  exact ⟨k, List.mem_range.2 hk, by rw [h]; simp⟩
theorem canC_ok {l : List S60} (h : ∀ j, j < l.length → okC l j = true) : canC l = true := by
  rw [canC]
  simp only [List.all_eq_true, List.mem_range]
  exact h
theorem canC_parts {l : List S60} (h : canC l = true) : ∀ j, j < l.length → okC l j = true := by
  rw [canC] at h
  simpa only [List.all_eq_true, List.mem_range] using h
theorem okC_x {l : List S60} {k : Nat} (h : canX (rd_T60 l (k : Int)) = false) : okC l k = false := by rw [okC, h]; rfl
theorem okC_zero {l : List S60} (h : canX (rd_T60 l ((0 : Nat) : Int)) = true) : okC l 0 = true := by rw [okC, h]; rfl
theorem okC_succ {l : List S60} {k : Nat} (h : canX (rd_T60 l ((k + 1 : Nat) : Int)) = true) : okC l (k + 1) = decide (cmpL (rd_T60 l (k : Int)).f0 (rd_T60 l ((k + 1 : Nat) : Int)).f0 < 0) := by
  rw [okC, h]
  simp
theorem uptoC_step {l : List S60} {k : Nat} (h : ∀ j, j < k → okC l j = true) (hk : okC l k = true) : ∀ j, j < k + 1 → okC l j = true := fun j hj => by
  rcases Nat.lt_or_ge j k with h1 | h1
  · exact h j h1
  · obtain rfl : j = k := by omega
    exact hk
theorem canX_l {x : S60} (h : canL x.f0 = false) : canX x = false := by rw [canX, h]; rfl
theorem canX_n {x : S60} (h : x.f1.length = 0) : canX x = false := by rw [canX, decide_eq_true h]; simp
theorem canX_s {x : S60} (h : canS x.f1 = false) : canX x = false := by rw [canX, h]; simp
theorem canX_ok {x : S60} (h : canL x.f0 = true) (h0 : ¬ x.f1.length = 0) (h1 : canS x.f1 = true) : canX x = true := by rw [canX, h, h1, decide_eq_false h0]; rfl
theorem rd_memZ (l : List S60) (k : Nat) (h : k < l.length) : rd_T60 l (k : Int) ∈ l := by
  have e : rd_T60 l (k : Int) = l[k] := by simp [rd_T60, List.getD_eq_getElem?_getD, List.getElem?_eq_getElem h]
  rw [e]
  exact List.getElem_mem h
def okZ (l : List S60) : Prop := ∀ x ∈ l, okLs x.f0 ∧ x.f0.length ≤ 1000000 ∧ x.f1.length ≤ 20000 ∧ ∀ s ∈ x.f1, okS s
theorem canSc.calls (A : Option Addr) (c n : Nat) (l : List S54) (b : Bool) (w : World) (hn : l.length = n) (hr : Kd.C k54 w A n l) (hc : n ≤ c) (hl : n ≤ 20000) (h : canS l = b) :
    Calls Tryd.prog 39 #[.slice A n c] w fun e w' => e = .returned (.bool b) ∧ Below w.heap.size w w' := by
  subst hn
  exact (codec_Can.calls 30000 A c l b w hr hc (by rw [can_S l (by omega) _ (by omega), h])).mono fun e w' ⟨he, hd⟩ => ⟨he, hd.below⟩
theorem rcanSc.calls (A : Option Addr) (c n : Nat) (l : List S54) (b : Bool) (w : World) (hn : l.length = n) (hr : Kd.C k54 w A n l) (hc : n ≤ c) (hl : n ≤ 20000) (h : canS l = b) :
    Calls Tryd.prog 41 #[.slice A n c] w fun e w' => e = .returned (.bool b) ∧ Below w.heap.size w w' := by
  subst hn
  exact (dryrotref11_Can.calls 30000 A c l b w hr hc (by rw [rcan_S l (by omega) _ (by omega), h])).mono fun e w' ⟨he, hd⟩ => ⟨he, hd.below⟩
theorem canL.calls_at (A : Option Addr) (c n : Nat) (l : List S65) (b : Bool) (w : World) (hn : l.length = n) (hr : Kd.C k65 w A n l) (hc : n ≤ c) (h : canL l = b) :
    Calls Tryd.prog 38 #[.slice A n c] w fun e w' => e = .returned (.bool b) ∧ Below w.heap.size w w' := h ▸ canL.calls A c n l w hn hr hc
theorem rcanL.calls_at (A : Option Addr) (c n : Nat) (l : List S65) (b : Bool) (w : World) (hn : l.length = n) (hr : Kd.C k65 w A n l) (hc : n ≤ c) (hok : okLs l) (h : canL l = b) :
    Calls Tryd.prog 28 #[.slice A n c] w fun e w' => e = .returned (.bool b) ∧ Below w.heap.size w w' := h ▸ rcanL.calls A c n l w hn hr hc hok
set_option maxHeartbeats 8000000 in
set_option maxRecDepth 100000 in
theorem canC.calls (A : Option Addr) (c n : Nat) (l : List S60) (w : World) (hn : l.length = n) (hr : Kd.C k60 w A n l) (hc : n ≤ c) (hok : okZ l) (hl : n ≤ 1000000) :
    Calls Tryd.prog 17 #[.slice A n c] w fun e w' => e = .returned (.bool (canC l)) ∧ Below w.heap.size w w' := by
  subst hn
  have HR := Aside0.mk hr
  have HK := Aside0.mk hok
  clear hr hc hok
  go_enter Tryd.func17, Tryd.ntmps17
  go_wp2
  go_loopw [7] (fun i wr => ∃ (k : Nat), k ≤ l.length ∧ i = .int .i64 k ∧ Aside0 (∀ j, j < k → okC l j = true) ∧ Aside0 (Below w.heap.size w wr)) (fun i _ => l.length - (intOf i).toNat)
  case atStart => exact ⟨0, Nat.zero_le _, rfl, ⟨fun j hj => by omega⟩, ⟨Below.refl _ _⟩⟩
  case round =>
    obtain ⟨k, hk, rfl, HO, HB⟩ := hrel
    by_cases hlt : k < l.length
    · have hC := Kd.C_below HR.out HB.out
      obtain ⟨ad, A0, c0, A1, c1, rfl, e0, e1, l0, g0, l1, g1⟩ := at_T60 hC (k : Int) (by omega) (by omega)
      rw [Int.toNat_natCast] at e0 e1
      have HBAD := Aside0.mk (fun h => canC_bad (l := l) (k := k) hlt h)
      have HS := Aside0.mk (fun h => uptoC_step (l := l) (k := k) HO.out h)
      have HSZ := Aside0.mk (HK.out _ (rd_memZ l k hlt))
      cases k with
      | zero =>
        obtain ⟨x, ex⟩ : ∃ x, rd_T60 l ((0 : Nat) : Int) = x := ⟨_, rfl⟩
        have EX := Aside0.mk ex
        rw [ex] at e0 e1 HSZ g0 l0 g1 l1
        have G0 := Aside0.mk g0
        have L0 := Aside0.mk l0
        have G1 := Aside0.mk g1
        have L1 := Aside0.mk l1
        clear hC ex g0 l0 g1 l1
        have e0z : wr.cell? ad = some (.slice A0 x.f0.length c0) := by simpa [Addr.add] using e0
        have e1z : wr.cell? ⟨ad.block, ad.off + 1, none⟩ = some (.slice A1 x.f1.length c1) := by simpa [Addr.add] using e1
        clear e0 e1
        have HBA := Aside0.mk (below_alloc HB.out (.cells #[.slice A0 x.f0.length c0, .slice A1 x.f1.length c1] 60 (0, 0)))
        have HBK := Aside0.mk (blk_new wr (.cells #[.slice A0 x.f0.length c0, .slice A1 x.f1.length c1] 60 (0, 0)))
        have HW := Aside0.mk (below_alloc (Below.refl wr.heap.size wr) (.cells #[.slice A0 x.f0.length c0, .slice A1 x.f1.length c1] 60 (0, 0)))
        have hxl : x.f1.length ≤ 20000 := HSZ.out.2.2.1
        cases h1 : canL x.f0 with
        | false =>
          have HF : Aside0 (canC l = false) := ⟨HBAD.out (okC_x (EX.out ▸ canX_l h1))⟩
          have C1 := Aside0.mk (fun W (hb : Below wr.heap.size wr W) => canL.calls_at A0 c0 _ x.f0 false W rfl (Kd.C_below G0.out hb) L0.out h1)
          clear h1
          go_wp2_with (first | (go_at_call 38; (with_reducible refine (C1.out _ HW.out).mono ?_); rintro e w1 ⟨rfl, hb⟩; have HB1 := Aside0.mk (below_step HBA.out hb); have HW1 := Aside0.mk (below_step HW.out hb); have HBK1 := Aside0.mk (blk_below HBK.out hb); have b1 := (blk_cell HBK1.out 1).trans rfl; clear hb))
          go_wp2
          go_ret
          exact ⟨by rw [HF.out]; rfl, HB1.out⟩
        | true =>
          have C1 := Aside0.mk (fun W (hb : Below wr.heap.size wr W) => canL.calls_at A0 c0 _ x.f0 true W rfl (Kd.C_below G0.out hb) L0.out h1)
          by_cases h2 : x.f1.length = 0
          · have HF : Aside0 (canC l = false) := ⟨HBAD.out (okC_x (EX.out ▸ canX_n h2))⟩
            have h2i : ((x.f1.length : Int) == 0) = true := beq_iff_eq.2 (by omega)
            clear h1 h2
            go_wp2_with (first | (go_at_call 38; (with_reducible refine (C1.out _ HW.out).mono ?_); rintro e w1 ⟨rfl, hb⟩; have HB1 := Aside0.mk (below_step HBA.out hb); have HW1 := Aside0.mk (below_step HW.out hb); have HBK1 := Aside0.mk (blk_below HBK.out hb); have b1 := (blk_cell HBK1.out 1).trans rfl; clear hb))
            go_wp2
            go_ret
            exact ⟨by rw [HF.out]; rfl, HB1.out⟩
          · have h2i : ((x.f1.length : Int) == 0) = false := beq_eq_false_iff_ne.2 (by omega)
            cases h3 : canS x.f1 with
            | false =>
              have HF : Aside0 (canC l = false) := ⟨HBAD.out (okC_x (EX.out ▸ canX_s h3))⟩
              have C2 := Aside0.mk (fun W (hb : Below wr.heap.size wr W) => canSc.calls A1 c1 _ x.f1 false W rfl (Kd.C_below G1.out hb) L1.out HSZ.out.2.2.1 h3)
              clear h1 h2 h3
              go_wp2_with (first | (go_at_call 38; (with_reducible refine (C1.out _ HW.out).mono ?_); rintro e w1 ⟨rfl, hb⟩; have HB1 := Aside0.mk (below_step HBA.out hb); have HW1 := Aside0.mk (below_step HW.out hb); have HBK1 := Aside0.mk (blk_below HBK.out hb); have b1 := (blk_cell HBK1.out 1).trans rfl; clear hb) | (go_at_call 39; (with_reducible refine (C2.out _ HW1.out).mono ?_); rintro e w2 ⟨rfl, hb⟩; have HB2 := Aside0.mk (below_step HB1.out hb); have HW2 := Aside0.mk (below_step HW1.out hb); have HBK2 := Aside0.mk (blk_below HBK1.out hb); clear hb))
              go_wp2
              go_ret
              exact ⟨by rw [HF.out]; rfl, HB2.out⟩
            | true =>
              have C2 := Aside0.mk (fun W (hb : Below wr.heap.size wr W) => canSc.calls A1 c1 _ x.f1 true W rfl (Kd.C_below G1.out hb) L1.out HSZ.out.2.2.1 h3)
              have HG := Aside0.mk (HS.out (okC_zero (EX.out ▸ canX_ok h1 h2 h3)))
              clear h1 h2 h3
              go_wp2_with (first | (go_at_call 38; (with_reducible refine (C1.out _ HW.out).mono ?_); rintro e w1 ⟨rfl, hb⟩; have HB1 := Aside0.mk (below_step HBA.out hb); have HW1 := Aside0.mk (below_step HW.out hb); have HBK1 := Aside0.mk (blk_below HBK.out hb); have b1 := (blk_cell HBK1.out 1).trans rfl; clear hb) | (go_at_call 39; (with_reducible refine (C2.out _ HW1.out).mono ?_); rintro e w2 ⟨rfl, hb⟩; have HB2 := Aside0.mk (below_step HB1.out hb); have HW2 := Aside0.mk (below_step HW1.out hb); have HBK2 := Aside0.mk (blk_below HBK1.out hb); clear hb))
              have aA := BW.cell ((blk_cell HBK2.out 0).trans rfl)
              go_wp2_with fail
              refine wp_region_bw (by kernel_rfl) (by kernel_rfl) ?_
              repeat (any_goals (first | go_big_quiet_step (fail) | quiet_step (fail)))
              all_goals (refine wpQuiet_nil ?_; intro _ hw'; obtain ⟨⟨w3, hb⟩, hw''⟩ := hw'; subst hw''; have HB3 := Aside0.mk (below_step HB2.out hb); clear hb)
              go_wp2
              go_roundw
              case rel => exact ⟨0 + 1, by omega, by go_num, HG, HB3⟩
              case measure => simp [intOf] <;> omega
      | succ k =>
        obtain ⟨ad_, B0, d0, B1, d1, ea, q0, q1, m0, n0, m1, n1⟩ := at_T60 hC ((k : Nat) : Int) (by omega) (by omega)
        obtain rfl := Option.some.inj ea
        rw [Int.toNat_natCast] at q0 q1
        have HSY := Aside0.mk (HK.out _ (rd_memZ l k (by omega)))
        obtain ⟨x, ex⟩ : ∃ x, rd_T60 l ((k + 1 : Nat) : Int) = x := ⟨_, rfl⟩
        obtain ⟨y, ey⟩ : ∃ y, rd_T60 l ((k : Nat) : Int) = y := ⟨_, rfl⟩
        have EY := Aside0.mk ey
        rw [ey] at q0 q1 n0 m0 HSY
        have N0 := Aside0.mk n0
        have M0 := Aside0.mk m0
        clear n0 m0 m1 n1 q1
        have EX := Aside0.mk ex
        rw [ex] at e0 e1 HSZ g0 l0 g1 l1
        have G0 := Aside0.mk g0
        have L0 := Aside0.mk l0
        have G1 := Aside0.mk g1
        have L1 := Aside0.mk l1
        clear hC ex g0 l0 g1 l1 ey ea
        have HBA := Aside0.mk (below_alloc HB.out (.cells #[.slice A0 x.f0.length c0, .slice A1 x.f1.length c1] 60 (0, 0)))
        have HBK := Aside0.mk (blk_new wr (.cells #[.slice A0 x.f0.length c0, .slice A1 x.f1.length c1] 60 (0, 0)))
        have HW := Aside0.mk (below_alloc (Below.refl wr.heap.size wr) (.cells #[.slice A0 x.f0.length c0, .slice A1 x.f1.length c1] 60 (0, 0)))
        have hxl : x.f1.length ≤ 20000 := HSZ.out.2.2.1
        have q0a := cell_alloc_oldR (.cells #[.slice A0 x.f0.length c0, .slice A1 x.f1.length c1] 60 (0, 0)) q0
        rw [show ((k + 1 : Nat) : Int) = (k : Int) + 1 from by omega] at *
        have gg0 : decide ((0 : Int) < (k : Int) + 1) = true := decide_eq_true (by omega)
        have hwk : IntKind.i64.wrap ((k : Int) + 1 - 1) = (k : Int) := by rw [IntKind.wrap_i64]; omega
        have gg1 : (0 : Int) ≤ (k : Int) := by omega
        have gg2 : (k : Int) < (l.length : Int) := by omega
        cases h1 : canL x.f0 with
        | false =>
          have HF : Aside0 (canC l = false) := ⟨HBAD.out (okC_x (EX.out ▸ canX_l h1))⟩
          have C1 := Aside0.mk (fun W (hb : Below wr.heap.size wr W) => canL.calls_at A0 c0 _ x.f0 false W rfl (Kd.C_below G0.out hb) L0.out h1)
          clear h1
          go_wp2_with (first | (go_at_call 38; (with_reducible refine (C1.out _ HW.out).mono ?_); rintro e w1 ⟨rfl, hb⟩; have HB1 := Aside0.mk (below_step HBA.out hb); have HW1 := Aside0.mk (below_step HW.out hb); have HBK1 := Aside0.mk (blk_below HBK.out hb); have b1 := (blk_cell HBK1.out 1).trans rfl; clear hb))
          go_wp2
          go_ret
          exact ⟨by rw [HF.out]; rfl, HB1.out⟩
        | true =>
          have C1 := Aside0.mk (fun W (hb : Below wr.heap.size wr W) => canL.calls_at A0 c0 _ x.f0 true W rfl (Kd.C_below G0.out hb) L0.out h1)
          by_cases h2 : x.f1.length = 0
          · have HF : Aside0 (canC l = false) := ⟨HBAD.out (okC_x (EX.out ▸ canX_n h2))⟩
            have h2i : ((x.f1.length : Int) == 0) = true := beq_iff_eq.2 (by omega)
            clear h1 h2
            go_wp2_with (first | (go_at_call 38; (with_reducible refine (C1.out _ HW.out).mono ?_); rintro e w1 ⟨rfl, hb⟩; have HB1 := Aside0.mk (below_step HBA.out hb); have HW1 := Aside0.mk (below_step HW.out hb); have HBK1 := Aside0.mk (blk_below HBK.out hb); have b1 := (blk_cell HBK1.out 1).trans rfl; clear hb))
            go_wp2
            go_ret
            exact ⟨by rw [HF.out]; rfl, HB1.out⟩
          · have h2i : ((x.f1.length : Int) == 0) = false := beq_eq_false_iff_ne.2 (by omega)
            cases h3 : canS x.f1 with
            | false =>
              have HF : Aside0 (canC l = false) := ⟨HBAD.out (okC_x (EX.out ▸ canX_s h3))⟩
              have C2 := Aside0.mk (fun W (hb : Below wr.heap.size wr W) => canSc.calls A1 c1 _ x.f1 false W rfl (Kd.C_below G1.out hb) L1.out HSZ.out.2.2.1 h3)
              clear h1 h2 h3
              go_wp2_with (first | (go_at_call 38; (with_reducible refine (C1.out _ HW.out).mono ?_); rintro e w1 ⟨rfl, hb⟩; have HB1 := Aside0.mk (below_step HBA.out hb); have HW1 := Aside0.mk (below_step HW.out hb); have HBK1 := Aside0.mk (blk_below HBK.out hb); have b1 := (blk_cell HBK1.out 1).trans rfl; clear hb) | (go_at_call 39; (with_reducible refine (C2.out _ HW1.out).mono ?_); rintro e w2 ⟨rfl, hb⟩; have HB2 := Aside0.mk (below_step HB1.out hb); have HW2 := Aside0.mk (below_step HW1.out hb); have HBK2 := Aside0.mk (blk_below HBK1.out hb); clear hb))
              go_wp2
              go_ret
              exact ⟨by rw [HF.out]; rfl, HB2.out⟩
            | true =>
              have C2 := Aside0.mk (fun W (hb : Below wr.heap.size wr W) => canSc.calls A1 c1 _ x.f1 true W rfl (Kd.C_below G1.out hb) L1.out HSZ.out.2.2.1 h3)
              have HQ := okC_succ (l := l) (k := k) (by rw [show ((k + 1 : Nat) : Int) = (k : Int) + 1 from by omega, EX.out]; exact canX_ok h1 h2 h3)
              rw [show ((k + 1 : Nat) : Int) = (k : Int) + 1 from by omega, EX.out, EY.out] at HQ
              have C3 := Aside0.mk (fun W (hb : Below wr.heap.size wr W) => cmpL.calls B0 A0 d0 c0 _ _ y.f0 x.f0 W rfl rfl (Kd.C_below N0.out hb) (Kd.C_below G0.out hb) HSY.out.2.1)
              clear h1 h2 h3
              by_cases hd : cmpL y.f0 x.f0 < 0
              · have HG := Aside0.mk (HS.out (by rw [HQ, decide_eq_true hd]))
                have hd1 : decide ((0 : Int) ≤ cmpL y.f0 x.f0) = false := decide_eq_false (by omega)
                clear HQ hd
                go_wp2_with (first | (go_at_call 38; (with_reducible refine (C1.out _ HW.out).mono ?_); rintro e w1 ⟨rfl, hb⟩; have HB1 := Aside0.mk (below_step HBA.out hb); have HW1 := Aside0.mk (below_step HW.out hb); have HBK1 := Aside0.mk (blk_below HBK.out hb); have b1 := (blk_cell HBK1.out 1).trans rfl; clear hb) | (go_at_call 39; (with_reducible refine (C2.out _ HW1.out).mono ?_); rintro e w2 ⟨rfl, hb⟩; have HB2 := Aside0.mk (below_step HB1.out hb); have HW2 := Aside0.mk (below_step HW1.out hb); have HBK2 := Aside0.mk (blk_below HBK1.out hb); clear hb))
                have aA := BW.cell ((blk_cell HBK2.out 0).trans rfl)
                have pA := BW.cell (pw_cell_below HW2.out q0)
                go_wp2_with fail
                refine wp_region_bw (by kernel_rfl) (by kernel_rfl) ?_
                repeat (any_goals (first | go_big_quiet_step ((go_at_call 40; refine bw_of (C3.out _ ?_); exact below_step HW2.out (BW.hb _))) | quiet_step ((go_at_call 40; refine bw_of (C3.out _ ?_); exact below_step HW2.out (BW.hb _)))))
                all_goals (refine wpQuiet_nil ?_; intro _ hw'; obtain ⟨⟨w3, hb⟩, hw''⟩ := hw'; subst hw''; have HB3 := Aside0.mk (below_step HB2.out hb); clear hb)
                go_wp2
                go_roundw
                case rel => exact ⟨k + 1 + 1, by omega, by go_num, HG, HB3⟩
                case measure => simp [intOf] <;> omega
              · have HF : Aside0 (canC l = false) := ⟨HBAD.out (by rw [HQ, decide_eq_false hd])⟩
                have hd1 : decide ((0 : Int) ≤ cmpL y.f0 x.f0) = true := decide_eq_true (by omega)
                clear HQ hd
                go_wp2_with (first | (go_at_call 38; (with_reducible refine (C1.out _ HW.out).mono ?_); rintro e w1 ⟨rfl, hb⟩; have HB1 := Aside0.mk (below_step HBA.out hb); have HW1 := Aside0.mk (below_step HW.out hb); have HBK1 := Aside0.mk (blk_below HBK.out hb); have b1 := (blk_cell HBK1.out 1).trans rfl; clear hb) | (go_at_call 39; (with_reducible refine (C2.out _ HW1.out).mono ?_); rintro e w2 ⟨rfl, hb⟩; have HB2 := Aside0.mk (below_step HB1.out hb); have HW2 := Aside0.mk (below_step HW1.out hb); have HBK2 := Aside0.mk (blk_below HBK1.out hb); clear hb))
                have aA := BW.cell ((blk_cell HBK2.out 0).trans rfl)
                have pA := BW.cell (pw_cell_below HW2.out q0)
                go_wp2_with fail
                refine wp_region_bw (by kernel_rfl) (by kernel_rfl) ?_
                repeat (any_goals (first | go_big_quiet_step ((go_at_call 40; refine bw_of (C3.out _ ?_); exact below_step HW2.out (BW.hb _))) | quiet_step ((go_at_call 40; refine bw_of (C3.out _ ?_); exact below_step HW2.out (BW.hb _)))))
                all_goals (refine wpQuiet_nil ?_; intro _ hw'; obtain ⟨⟨w3, hb⟩, hw''⟩ := hw'; subst hw''; have HB3 := Aside0.mk (below_step HB2.out hb); clear hb)
                go_wp2
                go_ret
                exact ⟨by rw [HF.out]; rfl, HB3.out⟩
    · obtain rfl : k = l.length := by omega
      have HF : Aside0 (canC l = true) := ⟨canC_ok HO.out⟩
      go_wp2
      go_ret
      exact ⟨by rw [HF.out]; rfl, HB.out⟩
set_option maxHeartbeats 8000000 in
set_option maxRecDepth 100000 in
theorem rcanC.calls (A : Option Addr) (c n : Nat) (l : List S60) (w : World) (hn : l.length = n) (hr : Kd.C k60 w A n l) (hc : n ≤ c) (hok : okZ l) (hl : n ≤ 1000000) :
    Calls Tryd.prog 18 #[.slice A n c] w fun e w' => e = .returned (.bool (canC l)) ∧ Below w.heap.size w w' := by
  subst hn
  have HR := Aside0.mk hr
  have HK := Aside0.mk hok
  clear hr hc hok
  go_enter Tryd.func18, Tryd.ntmps18
  go_wp2
  go_loopw [7] (fun i wr => ∃ (k : Nat), k ≤ l.length ∧ i = .int .i64 k ∧ Aside0 (∀ j, j < k → okC l j = true) ∧ Aside0 (Below w.heap.size w wr)) (fun i _ => l.length - (intOf i).toNat)
  case atStart => exact ⟨0, Nat.zero_le _, rfl, ⟨fun j hj => by omega⟩, ⟨Below.refl _ _⟩⟩
  case round =>
    obtain ⟨k, hk, rfl, HO, HB⟩ := hrel
    by_cases hlt : k < l.length
    · have hC := Kd.C_below HR.out HB.out
      obtain ⟨ad, A0, c0, A1, c1, rfl, e0, e1, l0, g0, l1, g1⟩ := at_T60 hC (k : Int) (by omega) (by omega)
      rw [Int.toNat_natCast] at e0 e1
      have HBAD := Aside0.mk (fun h => canC_bad (l := l) (k := k) hlt h)
      have HS := Aside0.mk (fun h => uptoC_step (l := l) (k := k) HO.out h)
      have HSZ := Aside0.mk (HK.out _ (rd_memZ l k hlt))
      cases k with
      | zero =>
        obtain ⟨x, ex⟩ : ∃ x, rd_T60 l ((0 : Nat) : Int) = x := ⟨_, rfl⟩
        have EX := Aside0.mk ex
        rw [ex] at e0 e1 HSZ g0 l0 g1 l1
        have G0 := Aside0.mk g0
        have L0 := Aside0.mk l0
        have G1 := Aside0.mk g1
        have L1 := Aside0.mk l1
        clear hC ex g0 l0 g1 l1
        have e0z : wr.cell? ad = some (.slice A0 x.f0.length c0) := by simpa [Addr.add] using e0
        have e1z : wr.cell? ⟨ad.block, ad.off + 1, none⟩ = some (.slice A1 x.f1.length c1) := by simpa [Addr.add] using e1
        clear e0 e1
        have HBA := Aside0.mk (below_alloc HB.out (.cells #[.slice A0 x.f0.length c0, .slice A1 x.f1.length c1] 60 (0, 0)))
        have HBK := Aside0.mk (blk_new wr (.cells #[.slice A0 x.f0.length c0, .slice A1 x.f1.length c1] 60 (0, 0)))
        have HW := Aside0.mk (below_alloc (Below.refl wr.heap.size wr) (.cells #[.slice A0 x.f0.length c0, .slice A1 x.f1.length c1] 60 (0, 0)))
        have hxl : x.f1.length ≤ 20000 := HSZ.out.2.2.1
        have aA := BW.cell ((blk_cell HBK.out 0).trans rfl)
        have bA := BW.cell ((blk_cell HBK.out 1).trans rfl)
        cases h1 : canL x.f0 with
        | false =>
          have HF : Aside0 (canC l = false) := ⟨HBAD.out (okC_x (EX.out ▸ canX_l h1))⟩
          have C1 := Aside0.mk (fun W (hb : Below wr.heap.size wr W) => rcanL.calls_at A0 c0 _ x.f0 false W rfl (Kd.C_below G0.out hb) L0.out HSZ.out.1 h1)
          clear h1
          go_wp2_with fail
          refine wp_region_bw (by kernel_rfl) (by kernel_rfl) ?_
          repeat (any_goals (first | go_big_quiet_step (first | (go_at_call 28; refine bw_of (C1.out _ ?_); exact below_step HW.out (BW.hb _))) | quiet_step (first | (go_at_call 28; refine bw_of (C1.out _ ?_); exact below_step HW.out (BW.hb _)))))
          all_goals (refine wpQuiet_nil ?_; intro _ hw'; obtain ⟨⟨w2, hb⟩, hw''⟩ := hw'; subst hw''; have HB2 := Aside0.mk (below_step HBA.out hb); clear hb)
          go_wp2
          go_ret
          exact ⟨by rw [HF.out]; rfl, HB2.out⟩
        | true =>
          have C1 := Aside0.mk (fun W (hb : Below wr.heap.size wr W) => rcanL.calls_at A0 c0 _ x.f0 true W rfl (Kd.C_below G0.out hb) L0.out HSZ.out.1 h1)
          by_cases h2 : x.f1.length = 0
          · have HF : Aside0 (canC l = false) := ⟨HBAD.out (okC_x (EX.out ▸ canX_n h2))⟩
            have h2i : ((x.f1.length : Int) == 0) = true := beq_iff_eq.2 (by omega)
            clear h1 h2
            go_wp2_with fail
            refine wp_region_bw (by kernel_rfl) (by kernel_rfl) ?_
            repeat (any_goals (first | go_big_quiet_step (first | (go_at_call 28; refine bw_of (C1.out _ ?_); exact below_step HW.out (BW.hb _))) | quiet_step (first | (go_at_call 28; refine bw_of (C1.out _ ?_); exact below_step HW.out (BW.hb _)))))
            all_goals (refine wpQuiet_nil ?_; intro _ hw'; obtain ⟨⟨w2, hb⟩, hw''⟩ := hw'; subst hw''; have HB2 := Aside0.mk (below_step HBA.out hb); clear hb)
            go_wp2
            go_ret
            exact ⟨by rw [HF.out]; rfl, HB2.out⟩
          · have h2i : ((x.f1.length : Int) == 0) = false := beq_eq_false_iff_ne.2 (by omega)
            cases h3 : canS x.f1 with
            | false =>
              have HF : Aside0 (canC l = false) := ⟨HBAD.out (okC_x (EX.out ▸ canX_s h3))⟩
              have C2 := Aside0.mk (fun W (hb : Below wr.heap.size wr W) => rcanSc.calls A1 c1 _ x.f1 false W rfl (Kd.C_below G1.out hb) L1.out HSZ.out.2.2.1 h3)
              clear h1 h2 h3
              go_wp2_with fail
              refine wp_region_bw (by kernel_rfl) (by kernel_rfl) ?_
              repeat (any_goals (first | go_big_quiet_step (first | (go_at_call 28; refine bw_of (C1.out _ ?_); exact below_step HW.out (BW.hb _)) | (go_at_call 41; refine bw_of (C2.out _ ?_); exact below_step HW.out (BW.hb _))) | quiet_step (first | (go_at_call 28; refine bw_of (C1.out _ ?_); exact below_step HW.out (BW.hb _)) | (go_at_call 41; refine bw_of (C2.out _ ?_); exact below_step HW.out (BW.hb _)))))
              all_goals (refine wpQuiet_nil ?_; intro _ hw'; obtain ⟨⟨w2, hb⟩, hw''⟩ := hw'; subst hw''; have HB2 := Aside0.mk (below_step HBA.out hb); clear hb)
              go_wp2
              go_ret
              exact ⟨by rw [HF.out]; rfl, HB2.out⟩
            | true =>
              have C2 := Aside0.mk (fun W (hb : Below wr.heap.size wr W) => rcanSc.calls A1 c1 _ x.f1 true W rfl (Kd.C_below G1.out hb) L1.out HSZ.out.2.2.1 h3)
              have HG := Aside0.mk (HS.out (okC_zero (EX.out ▸ canX_ok h1 h2 h3)))
              clear h1 h2 h3
              go_wp2_with fail
              refine wp_region_bw (by kernel_rfl) (by kernel_rfl) ?_
              repeat (any_goals (first | go_big_quiet_step (first | (go_at_call 28; refine bw_of (C1.out _ ?_); exact below_step HW.out (BW.hb _)) | (go_at_call 41; refine bw_of (C2.out _ ?_); exact below_step HW.out (BW.hb _))) | quiet_step (first | (go_at_call 28; refine bw_of (C1.out _ ?_); exact below_step HW.out (BW.hb _)) | (go_at_call 41; refine bw_of (C2.out _ ?_); exact below_step HW.out (BW.hb _)))))
              all_goals (refine wpQuiet_nil ?_; intro _ hw'; obtain ⟨⟨w2, hb⟩, hw''⟩ := hw'; subst hw''; have HB2 := Aside0.mk (below_step HBA.out hb); clear hb)
              go_wp2
              go_roundw
              case rel => exact ⟨0 + 1, by omega, by go_num, HG, HB2⟩
              case measure => simp [intOf] <;> omega
      | succ k =>
        obtain ⟨ad_, B0, d0, B1, d1, ea, q0, q1, m0, n0, m1, n1⟩ := at_T60 hC ((k : Nat) : Int) (by omega) (by omega)
        obtain rfl := Option.some.inj ea
        rw [Int.toNat_natCast] at q0 q1
        have HSY := Aside0.mk (HK.out _ (rd_memZ l k (by omega)))
        obtain ⟨x, ex⟩ : ∃ x, rd_T60 l ((k + 1 : Nat) : Int) = x := ⟨_, rfl⟩
        obtain ⟨y, ey⟩ : ∃ y, rd_T60 l ((k : Nat) : Int) = y := ⟨_, rfl⟩
        have EY := Aside0.mk ey
        rw [ey] at q0 q1 n0 m0 HSY
        have N0 := Aside0.mk n0
        have M0 := Aside0.mk m0
        clear n0 m0 m1 n1 q1
        have EX := Aside0.mk ex
        rw [ex] at e0 e1 HSZ g0 l0 g1 l1
        have G0 := Aside0.mk g0
        have L0 := Aside0.mk l0
        have G1 := Aside0.mk g1
        have L1 := Aside0.mk l1
        clear hC ex g0 l0 g1 l1 ey ea
        have HBA := Aside0.mk (below_alloc HB.out (.cells #[.slice A0 x.f0.length c0, .slice A1 x.f1.length c1] 60 (0, 0)))
        have HBK := Aside0.mk (blk_new wr (.cells #[.slice A0 x.f0.length c0, .slice A1 x.f1.length c1] 60 (0, 0)))
        have HW := Aside0.mk (below_alloc (Below.refl wr.heap.size wr) (.cells #[.slice A0 x.f0.length c0, .slice A1 x.f1.length c1] 60 (0, 0)))
        have hxl : x.f1.length ≤ 20000 := HSZ.out.2.2.1
        have q0a := cell_alloc_oldR (.cells #[.slice A0 x.f0.length c0, .slice A1 x.f1.length c1] 60 (0, 0)) q0
        rw [show ((k + 1 : Nat) : Int) = (k : Int) + 1 from by omega] at *
        have gg0 : decide ((0 : Int) < (k : Int) + 1) = true := decide_eq_true (by omega)
        have hwk : IntKind.i64.wrap ((k : Int) + 1 - 1) = (k : Int) := by rw [IntKind.wrap_i64]; omega
        have gg1 : (0 : Int) ≤ (k : Int) := by omega
        have gg2 : (k : Int) < (l.length : Int) := by omega
        have aA := BW.cell ((blk_cell HBK.out 0).trans rfl)
        have bA := BW.cell ((blk_cell HBK.out 1).trans rfl)
        have pA := BW.cell q0a
        cases h1 : canL x.f0 with
        | false =>
          have HF : Aside0 (canC l = false) := ⟨HBAD.out (okC_x (EX.out ▸ canX_l h1))⟩
          have C1 := Aside0.mk (fun W (hb : Below wr.heap.size wr W) => rcanL.calls_at A0 c0 _ x.f0 false W rfl (Kd.C_below G0.out hb) L0.out HSZ.out.1 h1)
          clear h1
          go_wp2_with fail
          refine wp_region_bw (by kernel_rfl) (by kernel_rfl) ?_
          repeat (any_goals (first | go_big_quiet_step (first | (go_at_call 28; refine bw_of (C1.out _ ?_); exact below_step HW.out (BW.hb _))) | quiet_step (first | (go_at_call 28; refine bw_of (C1.out _ ?_); exact below_step HW.out (BW.hb _)))))
          all_goals (refine wpQuiet_nil ?_; intro _ hw'; obtain ⟨⟨w2, hb⟩, hw''⟩ := hw'; subst hw''; have HB2 := Aside0.mk (below_step HBA.out hb); clear hb)
          go_wp2
          go_ret
          exact ⟨by rw [HF.out]; rfl, HB2.out⟩
        | true =>
          have C1 := Aside0.mk (fun W (hb : Below wr.heap.size wr W) => rcanL.calls_at A0 c0 _ x.f0 true W rfl (Kd.C_below G0.out hb) L0.out HSZ.out.1 h1)
          by_cases h2 : x.f1.length = 0
          · have HF : Aside0 (canC l = false) := ⟨HBAD.out (okC_x (EX.out ▸ canX_n h2))⟩
            have h2i : ((x.f1.length : Int) == 0) = true := beq_iff_eq.2 (by omega)
            clear h1 h2
            go_wp2_with fail
            refine wp_region_bw (by kernel_rfl) (by kernel_rfl) ?_
            repeat (any_goals (first | go_big_quiet_step (first | (go_at_call 28; refine bw_of (C1.out _ ?_); exact below_step HW.out (BW.hb _))) | quiet_step (first | (go_at_call 28; refine bw_of (C1.out _ ?_); exact below_step HW.out (BW.hb _)))))
            all_goals (refine wpQuiet_nil ?_; intro _ hw'; obtain ⟨⟨w2, hb⟩, hw''⟩ := hw'; subst hw''; have HB2 := Aside0.mk (below_step HBA.out hb); clear hb)
            go_wp2
            go_ret
            exact ⟨by rw [HF.out]; rfl, HB2.out⟩
          · have h2i : ((x.f1.length : Int) == 0) = false := beq_eq_false_iff_ne.2 (by omega)
            cases h3 : canS x.f1 with
            | false =>
              have HF : Aside0 (canC l = false) := ⟨HBAD.out (okC_x (EX.out ▸ canX_s h3))⟩
              have C2 := Aside0.mk (fun W (hb : Below wr.heap.size wr W) => rcanSc.calls A1 c1 _ x.f1 false W rfl (Kd.C_below G1.out hb) L1.out HSZ.out.2.2.1 h3)
              clear h1 h2 h3
              go_wp2_with fail
              refine wp_region_bw (by kernel_rfl) (by kernel_rfl) ?_
              repeat (any_goals (first | go_big_quiet_step (first | (go_at_call 28; refine bw_of (C1.out _ ?_); exact below_step HW.out (BW.hb _)) | (go_at_call 41; refine bw_of (C2.out _ ?_); exact below_step HW.out (BW.hb _))) | quiet_step (first | (go_at_call 28; refine bw_of (C1.out _ ?_); exact below_step HW.out (BW.hb _)) | (go_at_call 41; refine bw_of (C2.out _ ?_); exact below_step HW.out (BW.hb _)))))
              all_goals (refine wpQuiet_nil ?_; intro _ hw'; obtain ⟨⟨w2, hb⟩, hw''⟩ := hw'; subst hw''; have HB2 := Aside0.mk (below_step HBA.out hb); clear hb)
              go_wp2
              go_ret
              exact ⟨by rw [HF.out]; rfl, HB2.out⟩
            | true =>
              have C2 := Aside0.mk (fun W (hb : Below wr.heap.size wr W) => rcanSc.calls A1 c1 _ x.f1 true W rfl (Kd.C_below G1.out hb) L1.out HSZ.out.2.2.1 h3)
              have HQ := okC_succ (l := l) (k := k) (by rw [show ((k + 1 : Nat) : Int) = (k : Int) + 1 from by omega, EX.out]; exact canX_ok h1 h2 h3)
              rw [show ((k + 1 : Nat) : Int) = (k : Int) + 1 from by omega, EX.out, EY.out] at HQ
              have C3 := Aside0.mk (fun W (hb : Below wr.heap.size wr W) => rcmpL.calls B0 A0 d0 c0 _ _ y.f0 x.f0 W rfl rfl (Kd.C_below N0.out hb) (Kd.C_below G0.out hb) HSY.out.2.1)
              clear h1 h2 h3
              by_cases hd : cmpL y.f0 x.f0 < 0
              · have HG := Aside0.mk (HS.out (by rw [HQ, decide_eq_true hd]))
                have hd1 : decide ((0 : Int) ≤ cmpL y.f0 x.f0) = false := decide_eq_false (by omega)
                clear HQ hd
                go_wp2_with fail
                refine wp_region_bw (by kernel_rfl) (by kernel_rfl) ?_
                repeat (any_goals (first | go_big_quiet_step (first | (go_at_call 28; refine bw_of (C1.out _ ?_); exact below_step HW.out (BW.hb _)) | (go_at_call 41; refine bw_of (C2.out _ ?_); exact below_step HW.out (BW.hb _)) | (go_at_call 42; refine bw_of (C3.out _ ?_); exact below_step HW.out (BW.hb _))) | quiet_step (first | (go_at_call 28; refine bw_of (C1.out _ ?_); exact below_step HW.out (BW.hb _)) | (go_at_call 41; refine bw_of (C2.out _ ?_); exact below_step HW.out (BW.hb _)) | (go_at_call 42; refine bw_of (C3.out _ ?_); exact below_step HW.out (BW.hb _)))))
                all_goals (refine wpQuiet_nil ?_; intro _ hw'; obtain ⟨⟨w2, hb⟩, hw''⟩ := hw'; subst hw''; have HB2 := Aside0.mk (below_step HBA.out hb); clear hb)
                go_wp2
                go_roundw
                case rel => exact ⟨k + 1 + 1, by omega, by go_num, HG, HB2⟩
                case measure => simp [intOf] <;> omega
              · have HF : Aside0 (canC l = false) := ⟨HBAD.out (by rw [HQ, decide_eq_false hd])⟩
                have hd1 : decide ((0 : Int) ≤ cmpL y.f0 x.f0) = true := decide_eq_true (by omega)
                clear HQ hd
                go_wp2_with fail
                refine wp_region_bw (by kernel_rfl) (by kernel_rfl) ?_
                repeat (any_goals (first | go_big_quiet_step (first | (go_at_call 28; refine bw_of (C1.out _ ?_); exact below_step HW.out (BW.hb _)) | (go_at_call 41; refine bw_of (C2.out _ ?_); exact below_step HW.out (BW.hb _)) | (go_at_call 42; refine bw_of (C3.out _ ?_); exact below_step HW.out (BW.hb _))) | quiet_step (first | (go_at_call 28; refine bw_of (C1.out _ ?_); exact below_step HW.out (BW.hb _)) | (go_at_call 41; refine bw_of (C2.out _ ?_); exact below_step HW.out (BW.hb _)) | (go_at_call 42; refine bw_of (C3.out _ ?_); exact below_step HW.out (BW.hb _)))))
                all_goals (refine wpQuiet_nil ?_; intro _ hw'; obtain ⟨⟨w2, hb⟩, hw''⟩ := hw'; subst hw''; have HB2 := Aside0.mk (below_step HBA.out hb); clear hb)
                go_wp2
                go_ret
                exact ⟨by rw [HF.out]; rfl, HB2.out⟩
    · obtain rfl : k = l.length := by omega
      have HF : Aside0 (canC l = true) := ⟨canC_ok HO.out⟩
      go_wp2
      go_ret
      exact ⟨by rw [HF.out]; rfl, HB.out⟩
end Go.Proofs.YtbgmnmjokdfmlaaDoor.PA
