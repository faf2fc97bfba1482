/- Lemmas and contracts: The contracts of slices.Clone over samples and over bytes. · The contracts of the reference's bits as a list: out. · The contracts of the reference's out.putInt and out.putXor. · The bytes of bits, one bit behind the other. · The contracts of the reference's Put and Get: the same functions as the program's. · The contract of the reference's Encode: it is the program's answer. -/
import Derived.Test.YtpeekkpdglfbbaaDoorM2
import Derived.Test.YtpeekkpdglfbbaaDoorM1
import Derived.WalkSpells
import Derived.Deep.RegionLaw
import Derived.Test.YtpeekkpdglfbbaaDoorM3
import Derived.Deep.RegionHeld3
namespace Go.Proofs.YtpeekkpdglfbbaaDoor.PA
open Go.RowKit Go.Proofs.YtpeekkpdglfbbaaDoor.G Go.Proofs.YtpeekkpdglfbbaaDoorW.PrintWords Go.Proofs.YtpeekkpdglfbbaaDoorW.PrintLast Go.Proofs.YtpeekkpdglfbbaaDoorW.PrintMore
set_option linter.unusedVariables false
set_option linter.unusedSimpArgs false

theorem k26_KM {w w' : World} {base : Nat} {ok : Nat → Prop} {x : S26} {cs : List Value} (h : k26.K w x cs) : k26.M w' base ok x cs := by
  rw [k26_open h]
  exact k26_mkM _ _ _ x
set_option maxHeartbeats 800000 in
theorem CloneS.calls (A0 : Option Addr) (c0 : Nat) (l0 : List S26) (n : Nat) (w : World) (hn : l0.length = n) (hr0 : Kd.C k26 w A0 l0.length l0) (hc0 : l0.length ≤ c0) (hlen : l0.length ≤ 1000000) :
    Calls Tryd.prog 17 #[.slice A0 n c0] w fun e w' => ∃ v0_ : Value, e = .returned (v0_) ∧ Kd.R k26 26 w' w.heap.size (fun _ => True) v0_ l0 ∧ Below w.heap.size w w' := by
  subst hn
  have HR := Aside0.mk hr0
  have HL := Aside0.mk hlen
  have hnil := fun W n c => Lib.run_eql_slice_nil (P := Tryd.prog) W 24 26 A0 n c 0 0 Tryd.underlying24
  clear hr0 hc0 hlen
  cases A0 with
  | none =>
    have h0 : l0 = [] := by
      rcases Nat.eq_zero_or_pos l0.length with h0 | h0
      · exact List.eq_nil_of_length_eq_zero h0
      · obtain ⟨ad, e, _⟩ := HR.out.2.2 h0
        cases e
    subst h0
    go_enter Tryd.func17, Tryd.ntmps17
    go_wp2
    go_ret
    exact ⟨_, rfl, Kd.R_nil _ _ _ _ _, Below.refl _ _⟩
  | some ad =>
    go_enter Tryd.func17, Tryd.ntmps17
    have hE := Aside0.mk (R_empty k26 26 w.heap.size w (fun _ => True) (Nat.le_refl _) trivial)
    go_wp2_with ((with_reducible refine gate_dst (N := 7) rfl ?_); refine Kd.R_append_rows k26 (w0 := w) w.heap.size rfl (.tmp 5) (.tmp 6) 24 26 (.agg #[.int .i64 0, .int .u64 0]) 16 rfl Tryd.underlying24 info26 rfl (by decide) (by omega) _ [] l0 (some ad) l0.length c0 (fun _ => True) (fun _ => False) rfl rfl hE.out (Kd.C_below HR.out (below_alloc (Below.refl _ _) _)) (fun x cs hx => k26_KM hx) (fun _ hk => hk.elim) (fun _ _ => trivial) (below_alloc (Below.refl _ _) _) ?hb ?hl ?_; (case hb => simp); (case hl => (have := HL.out; simp; omega)); intro v1 w1 hR1 hB1 hg_ ho_; rw [List.nil_append] at hR1; have HR1 := Aside0.mk hR1; have HB1 := Aside0.mk hB1; clear hR1 hB1 hg_ ho_)
    go_ret
    exact ⟨_, rfl, HR1.out, HB1.out⟩
set_option maxHeartbeats 800000 in
theorem CloneB.calls (A0 : Option Addr) (c0 : Nat) (l0 : List Int) (n : Nat) (w : World) (hn : l0.length = n) (hr0 : Kd.C (Kd.int .u8) w A0 l0.length l0) (hc0 : l0.length ≤ c0) (hlen : l0.length ≤ 1000000) :
    Calls Tryd.prog 20 #[.slice A0 n c0] w fun e w' => ∃ v0_ : Value, e = .returned (v0_) ∧ Kd.R (Kd.int .u8) 5 w' w.heap.size (fun _ => True) v0_ l0 ∧ Below w.heap.size w w' := by
  subst hn
  have HR := Aside0.mk hr0
  have HL := Aside0.mk hlen
  have hnil := fun W n c => Lib.run_eql_slice_nil (P := Tryd.prog) W 27 5 A0 n c 0 0 Tryd.underlying27
  clear hr0 hc0 hlen
  cases A0 with
  | none =>
    have h0 : l0 = [] := by
      rcases Nat.eq_zero_or_pos l0.length with h0 | h0
      · exact List.eq_nil_of_length_eq_zero h0
      · obtain ⟨ad, e, _⟩ := HR.out.2.2 h0
        cases e
    subst h0
    go_enter Tryd.func20, Tryd.ntmps20
    go_wp2
    go_ret
    exact ⟨_, rfl, Kd.R_nil _ _ _ _ _, Below.refl _ _⟩
  | some ad =>
    go_enter Tryd.func20, Tryd.ntmps20
    have hE := Aside0.mk (R_empty (Kd.int .u8) 5 w.heap.size w (fun _ => True) (Nat.le_refl _) trivial)
    go_wp2_with ((with_reducible refine gate_dst (N := 7) rfl ?_); refine Kd.R_append_row (Value.int .u8) 0 (h1 := fun _ => rfl) w.heap.size rfl (.tmp 5) (.tmp 6) 27 5 (.int .u8 0) 1 rfl Tryd.underlying27 infoU8 rfl (by decide) _ [] l0 (some ad) l0.length c0 (fun _ => True) rfl rfl (fun _ _ => trivial) hE.out (Kd.C_below HR.out (below_alloc (Below.refl _ _) _)) (below_alloc (Below.refl _ _) _) ?hb ?hl ?_; (case hb => simp); (case hl => (have := HL.out; simp; omega)); intro v1 w1 hR1 hB1 hg_ ho_; rw [List.nil_append] at hR1; have HR1 := Aside0.mk hR1; have HB1 := Aside0.mk hB1; clear hR1 hB1 hg_ ho_)
    go_ret
    exact ⟨_, rfl, HR1.out, HB1.out⟩
end Go.Proofs.YtpeekkpdglfbbaaDoor.PA
namespace Go.Proofs.YtpeekkpdglfbbaaDoor.PA
open Go.RowKit Go.Proofs.YtpeekkpdglfbbaaDoor.G Go.Proofs.YtpeekkpdglfbbaaDoorW.PrintWords Go.Proofs.YtpeekkpdglfbbaaDoorW.PrintLast Go.Proofs.YtpeekkpdglfbbaaDoorW.PrintMore
set_option linter.unusedVariables false
set_option linter.unusedSimpArgs false

/-- block g is an out that holds these bits -/
def OU (B : Nat) (W : World) (g : Nat) (L : List Bool) : Prop := ∃ u : Value, W.heap[g]? = some (.cells #[u] 65 (0, 0)) ∧ Kd.R Kd.bool 4 W B (fun _ => True) u L
/-- all blocks stay but g and those of bits -/
def KeepO (g : Nat) (w w' : World) : Prop := ∀ (q : Nat) (cs : Array Value) (t : Nat), q ≠ g → 4 ≠ t → w.heap[q]? = some (.cells cs t (0, 0)) → w'.heap[q]? = some (.cells cs t (0, 0))
theorem KeepO.refl (g : Nat) (w : World) : KeepO g w w := fun _ _ _ _ _ h => h
theorem KeepO.trans {g : Nat} {a b c : World} (h : KeepO g a b) (k : KeepO g b c) : KeepO g a c := fun q cs t h1 h2 h3 => k q cs t h1 h2 (h q cs t h1 h2 h3)
theorem infoBool : (Tryd.prog.info? 4).map (fun i => (i.zero, i.size, i.bytes)) = some (some (.bool false), 1, 1) := by kernel_rfl
theorem and_one (v i : Nat) (hv : v < 18446744073709551616) (hi : i ≤ 64) : (Go.bits .and .u64 ((v : Int) / 2 ^ i) 1 == 1) = v.testBit i := by
  have := one_bit v i hv hi
  rw [shr_nat .u64 v i (by simpa [IntKind.bits] using hi)] at this
  rw [← this]
  simp
set_option maxHeartbeats 4000000 in
set_option maxRecDepth 100000 in
theorem out_put.calls (B g : Nat) (L : List Bool) (v c : Nat) (w0 w : World) (hO : OU B w g L) (hB : Below B w0 w) (hgB : B ≤ g) (hv : v < 18446744073709551616) (hc : c ≤ 64) (hL : L.length ≤ 7000000) :
    Calls Tryd.prog 34 #[.pointer (some ⟨g, 0, none⟩), .int .u64 (v : Int), .int .i64 (c : Int)] w fun e w' => e = .returned (.tuple #[]) ∧ OU B w' g (L ++ low v c) ∧ Below B w0 w' ∧ KeepO g w w' := by
  obtain ⟨u, hblk, hR⟩ := hO
  have HB0 := Aside0.mk hB
  have HBK0 := Aside0.mk hblk
  have HR0 := Aside0.mk hR
  have HGB := Aside0.mk hgB
  have HV := Aside0.mk hv
  have HL := Aside0.mk hL
  have hcn : (0 : Int) ≤ (c : Int) := Int.natCast_nonneg _
  clear hB hblk hR hgB hv hL
  go_enter Tryd.func34, Tryd.ntmps34
  go_wp2_with fail
  go_loopw [6] (fun v6 wr => ∃ (I : Int) (j : Nat) (u : Value), v6 = .int .i64 I ∧ Aside0 (I = (c : Int) - 1 - (j : Int) ∧ j ≤ c) ∧ Aside0 (Kd.R Kd.bool 4 wr B (fun _ => True) u (L ++ (low v c).take j)) ∧ Aside0 (wr.heap[g]? = some (.cells #[u] 65 (0, 0))) ∧ Aside0 (Below B w0 wr) ∧ Aside0 (KeepO g w wr)) (fun i _ => (intOf i + 1).toNat)
  case atStart => exact ⟨_, 0, u, rfl, ⟨by omega, by omega⟩, ⟨by simpa using HR0.out⟩, HBK0, HB0, ⟨KeepO.refl _ _⟩⟩
  case round =>
    clear HBK0 HB0 HR0
    obtain ⟨I, j, u, rfl, HI, HO, BK, HB, HK⟩ := hrel
    by_cases hlt : 0 ≤ I
    · obtain ⟨i, rfl⟩ := Int.eq_ofNat_of_zero_le hlt
      have hi := HI.out
      have hi64 : i < 64 := by omega
      have hz0 : wr.cell? ⟨g, 0, none⟩ = some u := blk_cell BK.out 0
      have hf0 := blk_frozen BK.out 0
      have HB1 := Aside0.mk (and_one v i HV.out (by omega))
      have HST : Aside0 (L ++ (low v c).take (j + 1) = L ++ (low v c).take j ++ [v.testBit i] ∧ (L ++ (low v c).take j).length ≤ 8000000) := ⟨by
        have hj : j < (low v c).length := by rw [low_length]; omega
        rw [List.take_succ_eq_append_getElem hj, low_get v c j (by omega), show c - 1 - j = i by omega, List.append_assoc]
        refine ⟨rfl, ?_⟩
        rw [List.length_append, List.length_take, low_length]
        have := HL.out
        omega⟩
      generalize L ++ (low v c).take j = X at HO HST
      obtain ⟨A, cc, rfl⟩ := Kd.R_slice HO.out
      have hbit := HB1.out
      clear hlt hi
      go_wp2_with fail
      have HO2 := Aside0.mk (Kd.R_drew HO.out)
      have BK2 := Aside0.mk (blk_drew BK.out)
      have HB2 := Aside0.mk (below_drew1 HB.out)
      have hz3 : (wr.alloc (.cells #[.bool (v.testBit i)] 4)).cell? ⟨g, 0, none⟩ = some (.slice A X.length cc) := pw_cell_below (below_alloc (Below.refl _ _) _) hz0
      go_region_law
        ((refine Kd.R_append_step Kd.bool (w0 := w0) (W := wr.drew) B ?_ (.tmp 17) (.tmp 23) 63 4 (.bool false) 1 ?_ Tryd.underlying63 infoBool rfl (by decide) (by omega) (.slice A X.length cc) X (v.testBit i) [.bool (v.testBit i)] (fun _ => True) (fun _ => False) ?_ ?_ ?_ (fun _ hk => hk.elim) (fun _ _ => trivial) HO2.out HB2.out ?_ ?_ ?_
          · rfl
          · rfl
          · rfl
          · rfl
          · exact rfl
          · have h_ := HGB.out; have h2_ := blk_lt BK2.out; omega
          · have := HST.out.2; omega
          intro v4 w4 ho hb hg hat
          obtain ⟨A4, c4, rfl⟩ := Kd.R_slice ho
          have BK4 := Aside0.mk (blk_grown (g := g) BK2.out hg (Kd.R_ne HO2.out BK2.out (by decide)))
          have HO4 := Aside0.mk ho
          have HB4 := Aside0.mk hb
          have HG4 := Aside0.mk hg
          have hz4 := (blk_cell BK4.out 0).trans rfl
          have hf4 := blk_frozen BK4.out 0
          clear ho hb hg hat))
      all_goals
        go_wp2_with fail
        go_roundw
        case rel =>
          have hl : (X ++ [v.testBit i]).length = X.length + 1 := by simp
          have HO5 := HO4.out
          rw [hl] at HO5
          refine ⟨_, j + 1, .slice A4 (X.length + 1) c4, rfl, ⟨by have := HI.out; omega⟩, ⟨?_⟩, ⟨blk_put BK4.out 0 _ rfl⟩, ⟨HB4.out.setCell (p := ⟨g, 0, none⟩) HGB.out _⟩, ⟨fun q cs t hq ht hh => ?_⟩⟩
          · rw [HST.out.1]
            exact Kd.R_mono (Kd.R_far (p := ⟨g, 0, none⟩) (Kd.R_types HO5 BK4.out (by decide)) (fun _ hk => hk.2) _) (fun _ _ => trivial)
          · have h1 := HK.out q cs t hq ht hh
            exact blk_far (p := ⟨g, 0, none⟩) (blk_grown (blk_drew h1) HG4.out (Kd.R_ne HO2.out (blk_drew h1) ht)) hq _
        case measure => simp [intOf] <;> omega
    · have hd : decide (0 ≤ I) = false := decide_eq_false hlt
      have HJ : Aside0 (j = c) := ⟨by have := HI.out; omega⟩
      clear hlt
      go_wp2_with fail
      refine bodyPost_end (results_none rfl _ _ _) rfl ?_
      refine ⟨rfl, ⟨u, BK.out, ?_⟩, HB.out, HK.out⟩
      have := HO.out
      rwa [HJ.out, List.take_of_length_le (by rw [low_length]; omega)] at this
end Go.Proofs.YtpeekkpdglfbbaaDoor.PA
namespace Go.Proofs.YtpeekkpdglfbbaaDoor.PA
open Go.RowKit Go.Proofs.YtpeekkpdglfbbaaDoor.G Go.Proofs.YtpeekkpdglfbbaaDoorW.PrintWords Go.Proofs.YtpeekkpdglfbbaaDoorW.PrintLast Go.Proofs.YtpeekkpdglfbbaaDoorW.PrintMore
set_option linter.unusedVariables false
set_option linter.unusedSimpArgs false

theorem out_put.at_ (B g : Nat) (L : List Bool) (V C : Int) (v c : Nat) (w0 w : World) (hO : OU B w g L) (hB : Below B w0 w) (hgB : B ≤ g) (hV : V = (v : Int)) (hC : C = (c : Int)) (hv : v < 18446744073709551616) (hc : c ≤ 64) (hL : L.length ≤ 7000000) :
    Calls Tryd.prog 34 #[.pointer (some ⟨g, 0, none⟩), .int .u64 V, .int .i64 C] w fun e w' => e = .returned (.tuple #[]) ∧ OU B w' g (L ++ low v c) ∧ Below B w0 w' ∧ KeepO g w w' := by
  subst hV hC
  exact out_put.calls B g L v c w0 w hO hB hgB hv hc hL
theorem intBits_0 : intBits 0 = low 0 1 := by decide
theorem intBits_1 {v : Int} {u : Nat} (h0 : v ≠ 0) (h1 : -64 ≤ v) (h2 : v ≤ 63) (hu : IntKind.u64.wrap v = (u : Int)) : intBits v = low 2 2 ++ low u 7 := by
  have e : classN v = 1 := by unfold classN; rw [if_neg h0, if_pos ⟨h1, by omega⟩]
  unfold intBits
  rw [e, hu]
  rfl
theorem intBits_2 {v : Int} {u : Nat} (h1 : ¬ (-64 ≤ v ∧ v ≤ 63)) (h2 : -2048 ≤ v) (h3 : v ≤ 2047) (hu : IntKind.u64.wrap v = (u : Int)) : intBits v = low 6 3 ++ low u 12 := by
  have e : classN v = 2 := by unfold classN; rw [if_neg (by omega), if_neg (by omega), if_pos ⟨h2, by omega⟩]
  unfold intBits
  rw [e, hu]
  rfl
theorem intBits_3 {v : Int} {u : Nat} (h1 : ¬ (-2048 ≤ v ∧ v ≤ 2047)) (h2 : -2147483648 ≤ v) (h3 : v ≤ 2147483647) (hu : IntKind.u64.wrap v = (u : Int)) : intBits v = low 14 4 ++ low u 32 := by
  have e : classN v = 3 := by unfold classN; rw [if_neg (by omega), if_neg (by omega), if_neg (by omega), if_pos ⟨h2, by omega⟩]
  unfold intBits
  rw [e, hu]
  rfl
theorem intBits_4 {v : Int} {u : Nat} (h1 : ¬ (-2147483648 ≤ v ∧ v ≤ 2147483647)) (hu : IntKind.u64.wrap v = (u : Int)) : intBits v = low 15 4 ++ low u 64 := by
  have e : classN v = 4 := by unfold classN; rw [if_neg (by omega), if_neg (by omega), if_neg (by omega), if_neg (by omega)]
  unfold intBits
  rw [e, hu]
  rfl
set_option maxHeartbeats 4000000 in
set_option maxRecDepth 100000 in
theorem out_putInt.calls (B g : Nat) (L : List Bool) (v : Int) (w0 w : World) (hO : OU B w g L) (hB : Below B w0 w) (hgB : B ≤ g) (hL : L.length ≤ 6000000) :
    Calls Tryd.prog 35 #[.pointer (some ⟨g, 0, none⟩), .int .i64 v] w fun e w' => e = .returned (.tuple #[]) ∧ OU B w' g (L ++ intBits v) ∧ Below B w0 w' ∧ KeepO g w w' := by
  have HO := Aside0.mk hO
  have HB := Aside0.mk hB
  have HGB := Aside0.mk hgB
  have HL := Aside0.mk hL
  obtain ⟨u, hu, hu64⟩ := u64_of_int v
  have HU := Aside0.mk hu
  clear hO hB hgB hL
  by_cases h0 : v = 0
  · have d0 : (v == 0) = true := beq_iff_eq.2 h0
    have HE : Aside0 (intBits v = low 0 1) := ⟨by rw [h0]; exact intBits_0⟩
    clear h0 hu
    go_enter Tryd.func35, Tryd.ntmps35
    go_wp2_with (go_at_call 34; (with_reducible refine (out_put.at_ B g L 0 1 0 1 w0 _ HO.out HB.out HGB.out rfl rfl (by decide) (by decide) (by have := HL.out; omega)).mono ?_); rintro e w1 ⟨rfl, ho, hb, hk⟩; have HO1 := Aside0.mk ho; have HB1 := Aside0.mk hb; have HK1 := Aside0.mk hk; clear ho hb hk)
    refine bodyPost_end (results_none rfl _ _ _) rfl ?_
    exact ⟨rfl, by rw [HE.out]; exact HO1.out, HB1.out, HK1.out⟩
  have d0 : (v == 0) = false := beq_eq_false_iff_ne.2 h0
  by_cases h1 : -64 ≤ v ∧ v ≤ 63
  · have d1 : decide (-64 ≤ v) = true := decide_eq_true h1.1
    have d2 : decide (v ≤ 63) = true := decide_eq_true h1.2
    have HE := Aside0.mk (intBits_1 h0 h1.1 h1.2 hu)
    clear h0 hu h1
    go_enter Tryd.func35, Tryd.ntmps35
    go_wp2_with (first
      | (go_at_call 34; (with_reducible refine (out_put.at_ B g L 2 2 2 2 w0 _ HO.out HB.out HGB.out rfl rfl (by decide) (by decide) (by have := HL.out; omega)).mono ?_); rintro e w1 ⟨rfl, ho, hb, hk⟩; have HO1 := Aside0.mk ho; have HB1 := Aside0.mk hb; have HK1 := Aside0.mk hk; clear ho hb hk)
      | (go_at_call 34; (with_reducible refine (out_put.at_ B g (L ++ low 2 2) _ 7 u 7 w0 _ HO1.out HB1.out HGB.out HU.out rfl hu64 (by decide) (by have := HL.out; simp; omega)).mono ?_); rintro e w2 ⟨rfl, ho, hb, hk⟩; have HO2 := Aside0.mk ho; have HB2 := Aside0.mk hb; have HK2 := Aside0.mk (HK1.out.trans hk); clear ho hb hk))
    refine bodyPost_end (results_none rfl _ _ _) rfl ?_
    exact ⟨rfl, by rw [HE.out, ← List.append_assoc]; exact HO2.out, HB2.out, HK2.out⟩
  clear d0
  have d0 : (v == 0) = false := beq_eq_false_iff_ne.2 h0
  by_cases h2 : -2048 ≤ v ∧ v ≤ 2047
  · have e2 : decide (-2048 ≤ v) = true := decide_eq_true h2.1
    have e3 : decide (v ≤ 2047) = true := decide_eq_true h2.2
    have HE := Aside0.mk (intBits_2 h1 h2.1 h2.2 hu)
    clear h0 hu h2
    by_cases hneg : v < 0
    · have f64a : decide (-64 ≤ v) = false := decide_eq_false (by omega)
      clear h1
      clear hneg
      go_enter Tryd.func35, Tryd.ntmps35
      go_wp2_with (first
        | (go_at_call 34; (with_reducible refine (out_put.at_ B g L 6 3 6 3 w0 _ HO.out HB.out HGB.out rfl rfl (by decide) (by decide) (by have := HL.out; omega)).mono ?_); rintro e w1 ⟨rfl, ho, hb, hk⟩; have HO1 := Aside0.mk ho; have HB1 := Aside0.mk hb; have HK1 := Aside0.mk hk; clear ho hb hk)
        | (go_at_call 34; (with_reducible refine (out_put.at_ B g (L ++ low 6 3) _ 12 u 12 w0 _ HO1.out HB1.out HGB.out HU.out rfl hu64 (by decide) (by have := HL.out; simp; omega)).mono ?_); rintro e w2 ⟨rfl, ho, hb, hk⟩; have HO2 := Aside0.mk ho; have HB2 := Aside0.mk hb; have HK2 := Aside0.mk (HK1.out.trans hk); clear ho hb hk))
      refine bodyPost_end (results_none rfl _ _ _) rfl ?_
      exact ⟨rfl, by rw [HE.out, ← List.append_assoc]; exact HO2.out, HB2.out, HK2.out⟩
    · have f64a : decide (-64 ≤ v) = true := decide_eq_true (by omega)
      have f64b : decide (v ≤ 63) = false := decide_eq_false (by omega)
      clear h1
      clear hneg
      go_enter Tryd.func35, Tryd.ntmps35
      go_wp2_with (first
        | (go_at_call 34; (with_reducible refine (out_put.at_ B g L 6 3 6 3 w0 _ HO.out HB.out HGB.out rfl rfl (by decide) (by decide) (by have := HL.out; omega)).mono ?_); rintro e w1 ⟨rfl, ho, hb, hk⟩; have HO1 := Aside0.mk ho; have HB1 := Aside0.mk hb; have HK1 := Aside0.mk hk; clear ho hb hk)
        | (go_at_call 34; (with_reducible refine (out_put.at_ B g (L ++ low 6 3) _ 12 u 12 w0 _ HO1.out HB1.out HGB.out HU.out rfl hu64 (by decide) (by have := HL.out; simp; omega)).mono ?_); rintro e w2 ⟨rfl, ho, hb, hk⟩; have HO2 := Aside0.mk ho; have HB2 := Aside0.mk hb; have HK2 := Aside0.mk (HK1.out.trans hk); clear ho hb hk))
      refine bodyPost_end (results_none rfl _ _ _) rfl ?_
      exact ⟨rfl, by rw [HE.out, ← List.append_assoc]; exact HO2.out, HB2.out, HK2.out⟩
  clear h1
  have h1 := h2
  clear h2
  by_cases h2 : -2147483648 ≤ v ∧ v ≤ 2147483647
  · have e2 : decide (-2147483648 ≤ v) = true := decide_eq_true h2.1
    have e3 : decide (v ≤ 2147483647) = true := decide_eq_true h2.2
    have HE := Aside0.mk (intBits_3 h1 h2.1 h2.2 hu)
    clear h0 hu h2
    by_cases hneg : v < 0
    · have f64a : decide (-64 ≤ v) = false := decide_eq_false (by omega)
      have f2048a : decide (-2048 ≤ v) = false := decide_eq_false (by omega)
      clear h1
      clear hneg
      go_enter Tryd.func35, Tryd.ntmps35
      go_wp2_with (first
        | (go_at_call 34; (with_reducible refine (out_put.at_ B g L 14 4 14 4 w0 _ HO.out HB.out HGB.out rfl rfl (by decide) (by decide) (by have := HL.out; omega)).mono ?_); rintro e w1 ⟨rfl, ho, hb, hk⟩; have HO1 := Aside0.mk ho; have HB1 := Aside0.mk hb; have HK1 := Aside0.mk hk; clear ho hb hk)
        | (go_at_call 34; (with_reducible refine (out_put.at_ B g (L ++ low 14 4) _ 32 u 32 w0 _ HO1.out HB1.out HGB.out HU.out rfl hu64 (by decide) (by have := HL.out; simp; omega)).mono ?_); rintro e w2 ⟨rfl, ho, hb, hk⟩; have HO2 := Aside0.mk ho; have HB2 := Aside0.mk hb; have HK2 := Aside0.mk (HK1.out.trans hk); clear ho hb hk))
      refine bodyPost_end (results_none rfl _ _ _) rfl ?_
      exact ⟨rfl, by rw [HE.out, ← List.append_assoc]; exact HO2.out, HB2.out, HK2.out⟩
    · have f64a : decide (-64 ≤ v) = true := decide_eq_true (by omega)
      have f64b : decide (v ≤ 63) = false := decide_eq_false (by omega)
      have f2048a : decide (-2048 ≤ v) = true := decide_eq_true (by omega)
      have f2048b : decide (v ≤ 2047) = false := decide_eq_false (by omega)
      clear h1
      clear hneg
      go_enter Tryd.func35, Tryd.ntmps35
      go_wp2_with (first
        | (go_at_call 34; (with_reducible refine (out_put.at_ B g L 14 4 14 4 w0 _ HO.out HB.out HGB.out rfl rfl (by decide) (by decide) (by have := HL.out; omega)).mono ?_); rintro e w1 ⟨rfl, ho, hb, hk⟩; have HO1 := Aside0.mk ho; have HB1 := Aside0.mk hb; have HK1 := Aside0.mk hk; clear ho hb hk)
        | (go_at_call 34; (with_reducible refine (out_put.at_ B g (L ++ low 14 4) _ 32 u 32 w0 _ HO1.out HB1.out HGB.out HU.out rfl hu64 (by decide) (by have := HL.out; simp; omega)).mono ?_); rintro e w2 ⟨rfl, ho, hb, hk⟩; have HO2 := Aside0.mk ho; have HB2 := Aside0.mk hb; have HK2 := Aside0.mk (HK1.out.trans hk); clear ho hb hk))
      refine bodyPost_end (results_none rfl _ _ _) rfl ?_
      exact ⟨rfl, by rw [HE.out, ← List.append_assoc]; exact HO2.out, HB2.out, HK2.out⟩
  · clear h1
    have h1 := h2
    have HE := Aside0.mk (intBits_4 h1 hu)
    clear h0 hu h2
    by_cases hneg : v < 0
    · have f64a : decide (-64 ≤ v) = false := decide_eq_false (by omega)
      have f2048a : decide (-2048 ≤ v) = false := decide_eq_false (by omega)
      have f2147483648a : decide (-2147483648 ≤ v) = false := decide_eq_false (by omega)
      clear h1
      clear hneg
      go_enter Tryd.func35, Tryd.ntmps35
      go_wp2_with (first
        | (go_at_call 34; (with_reducible refine (out_put.at_ B g L 15 4 15 4 w0 _ HO.out HB.out HGB.out rfl rfl (by decide) (by decide) (by have := HL.out; omega)).mono ?_); rintro e w1 ⟨rfl, ho, hb, hk⟩; have HO1 := Aside0.mk ho; have HB1 := Aside0.mk hb; have HK1 := Aside0.mk hk; clear ho hb hk)
        | (go_at_call 34; (with_reducible refine (out_put.at_ B g (L ++ low 15 4) _ 64 u 64 w0 _ HO1.out HB1.out HGB.out HU.out rfl hu64 (by decide) (by have := HL.out; simp; omega)).mono ?_); rintro e w2 ⟨rfl, ho, hb, hk⟩; have HO2 := Aside0.mk ho; have HB2 := Aside0.mk hb; have HK2 := Aside0.mk (HK1.out.trans hk); clear ho hb hk))
      refine bodyPost_end (results_none rfl _ _ _) rfl ?_
      exact ⟨rfl, by rw [HE.out, ← List.append_assoc]; exact HO2.out, HB2.out, HK2.out⟩
    · have f64a : decide (-64 ≤ v) = true := decide_eq_true (by omega)
      have f64b : decide (v ≤ 63) = false := decide_eq_false (by omega)
      have f2048a : decide (-2048 ≤ v) = true := decide_eq_true (by omega)
      have f2048b : decide (v ≤ 2047) = false := decide_eq_false (by omega)
      have f2147483648a : decide (-2147483648 ≤ v) = true := decide_eq_true (by omega)
      have f2147483648b : decide (v ≤ 2147483647) = false := decide_eq_false (by omega)
      clear h1
      clear hneg
      go_enter Tryd.func35, Tryd.ntmps35
      go_wp2_with (first
        | (go_at_call 34; (with_reducible refine (out_put.at_ B g L 15 4 15 4 w0 _ HO.out HB.out HGB.out rfl rfl (by decide) (by decide) (by have := HL.out; omega)).mono ?_); rintro e w1 ⟨rfl, ho, hb, hk⟩; have HO1 := Aside0.mk ho; have HB1 := Aside0.mk hb; have HK1 := Aside0.mk hk; clear ho hb hk)
        | (go_at_call 34; (with_reducible refine (out_put.at_ B g (L ++ low 15 4) _ 64 u 64 w0 _ HO1.out HB1.out HGB.out HU.out rfl hu64 (by decide) (by have := HL.out; simp; omega)).mono ?_); rintro e w2 ⟨rfl, ho, hb, hk⟩; have HO2 := Aside0.mk ho; have HB2 := Aside0.mk hb; have HK2 := Aside0.mk (HK1.out.trans hk); clear ho hb hk))
      refine bodyPost_end (results_none rfl _ _ _) rfl ?_
      exact ⟨rfl, by rw [HE.out, ← List.append_assoc]; exact HO2.out, HB2.out, HK2.out⟩

theorem not_one (v i : Nat) (hv : v < 18446744073709551616) (hi : i ≤ 64) : (Go.bits .and .u64 ((v : Int) / 2 ^ i) 1 == 0) = !v.testBit i := by
  have := and_one v i hv hi
  have h2 : v / 2 ^ i < 18446744073709551616 := Nat.lt_of_le_of_lt (Nat.div_le_self _ _) hv
  have e : (v : Int) / 2 ^ i = ((v / 2 ^ i : Nat) : Int) := by simp
  rw [e] at this ⊢
  rw [show (1 : Int) = ((1 : Nat) : Int) from rfl, u64_and_nat _ 1 h2 (by omega), Nat.and_one_is_mod] at this ⊢
  rw [← this]
  rcases Nat.mod_two_eq_zero_or_one (v / 2 ^ i) with h | h <;> rw [h] <;> rfl
theorem hi_bits {x : Nat} (hx : x < 18446744073709551616) (h0 : x ≠ 0) : 1 ≤ Lib.bitLen x ∧ Lib.bitLen x ≤ 64 ∧ x.testBit (Lib.bitLen x - 1) = true ∧ ∀ j, Lib.bitLen x ≤ j → x.testBit j = false := by
  have h1 := Lib.bitLen_le x 64 (by decide) hx
  have h2 := bitLen_up x hx
  have h3 : 1 ≤ Lib.bitLen x := by
    rcases Nat.eq_zero_or_pos (Lib.bitLen x) with h | h
    · rw [h] at h2
      omega
    · exact h
  refine ⟨h3, h1, ?_, fun j hj => Nat.testBit_lt_two_pow (Nat.lt_of_lt_of_le h2 (Nat.pow_le_pow_right (by decide) hj))⟩
  refine Nat.testBit_of_two_pow_le_and_two_pow_add_one_gt ?_ (by rwa [show Lib.bitLen x - 1 + 1 = Lib.bitLen x by omega])
  rcases Nat.lt_or_ge x (2 ^ (Lib.bitLen x - 1)) with h | h
  · have := Lib.bitLen_le x (Lib.bitLen x - 1) (by omega) h
    omega
  · exact h
theorem lo_bits {x : Nat} (hx : x < 18446744073709551616) (h0 : x ≠ 0) : x.testBit (loZ x) = true ∧ ∀ j, j < loZ x → x.testBit j = false := by
  have hc : loZ x = Lib.ctzFrom 64 x := by unfold loZ Lib.ctz; rw [if_neg h0]
  obtain ⟨m, hm, _⟩ := Lib.ctzFrom_spec 64 x (by omega) hx
  rw [← hc] at hm
  constructor
  · rw [show x.testBit (loZ x) = (2 ^ loZ x * (2 * m + 1)).testBit (loZ x) from congrArg (fun z => z.testBit (loZ x)) hm, Nat.testBit_two_pow_mul]
    simp
  · intro j hj
    rw [show x.testBit j = (2 ^ loZ x * (2 * m + 1)).testBit j from congrArg (fun z => z.testBit j) hm, Nat.testBit_two_pow_mul]
    simp
    omega
theorem low12 {H D : Nat} (hH : H < 64) (hD : D < 64) : low (H * 64 + D) 12 = low H 6 ++ low D 6 := by
  rw [low_split _ 12 6 (by decide), show (H * 64 + D) / 2 ^ (12 - 6) % 2 ^ 6 = H by rw [show 2 ^ (12 - 6) = 64 from rfl, Nat.mul_comm H 64, Nat.mul_add_div (by decide), Nat.div_eq_of_lt hD, Nat.add_zero, Nat.mod_eq_of_lt hH], ← low_mod (H * 64 + D) 6, ← low_mod D 6]
  congr 2
  omega
theorem u64n {n : Nat} (h : n < 18446744073709551616) : IntKind.u64.wrap (n : Int) = (n : Int) := u64wrap h
set_option maxHeartbeats 4000000 in
set_option maxRecDepth 100000 in
theorem out_putXor.calls (B g : Nat) (L : List Bool) (x : Nat) (w0 w : World) (hO : OU B w g L) (hB : Below B w0 w) (hgB : B ≤ g) (hx : x < 18446744073709551616) (hL : L.length ≤ 6000000) :
    Calls Tryd.prog 36 #[.pointer (some ⟨g, 0, none⟩), .int .u64 (x : Int)] w fun e w' => e = .returned (.tuple #[]) ∧ OU B w' g (L ++ xorBits x) ∧ Below B w0 w' ∧ KeepO g w w' := by
  have HO := Aside0.mk hO
  have HB := Aside0.mk hB
  have HGB := Aside0.mk hgB
  have HL := Aside0.mk hL
  clear hO hB hgB hL
  by_cases h0 : x = 0
  · have hb : ((x : Int) == 0) = true := beq_iff_eq.2 (by omega)
    have HX : Aside0 (xorBits x = low 0 1) := ⟨by rw [xorBits, if_pos h0]⟩
    clear h0
    go_enter Tryd.func36, Tryd.ntmps36
    go_wp2_with (go_at_call 34; (with_reducible refine (out_put.at_ B g L 0 1 0 1 w0 _ HO.out HB.out HGB.out rfl rfl (by decide) (by decide) (by have := HL.out; omega)).mono ?_); rintro e w1 ⟨rfl, ho, hb, hk⟩; have HO1 := Aside0.mk ho; have HB1 := Aside0.mk hb; have HK1 := Aside0.mk hk; clear ho hb hk)
    refine bodyPost_ret (results_none rfl _ _ _) rfl ?_
    exact ⟨rfl, by rw [HX.out]; exact HO1.out, HB1.out, HK1.out⟩
  · have hb : ((x : Int) == 0) = false := beq_eq_false_iff_ne.2 (by omega)
    obtain ⟨b1, b2, b3, b4⟩ := hi_bits hx h0
    obtain ⟨c3, c4⟩ := lo_bits hx h0
    obtain ⟨z1, z2⟩ := zs hx h0
    obtain ⟨H, hH⟩ : ∃ H, hiZ x = H := ⟨_, rfl⟩
    obtain ⟨S, hS⟩ : ∃ S, loZ x = S := ⟨_, rfl⟩
    obtain ⟨D, hD⟩ : ∃ D, wdZ x = D := ⟨_, rfl⟩
    have hs : H + S + D = 64 := by rw [← hH, ← hS, ← hD]; unfold hiZ loZ wdZ; unfold loZ at z1; omega
    have hd : 1 ≤ D := by rw [← hD]; unfold wdZ; unfold loZ at z1; omega
    have HX : Aside0 (xorBits x = low 1 1 ++ (low H 6 ++ low (D - 1) 6) ++ low (x / 2 ^ S) D) := ⟨by rw [xorBits, if_neg h0, hH, hS, hD, low12 (by omega) (by omega)]⟩
    have HHI : Aside0 (∀ h : Nat, h ≤ H → (x.testBit (63 - h) = decide (h = H))) := ⟨fun h hh => by
      unfold hiZ at hH
      by_cases e : h = H
      · rw [decide_eq_true e, show 63 - h = Lib.bitLen x - 1 by omega, b3]
      · rw [decide_eq_false e, b4 _ (by omega)]⟩
    have HLO : Aside0 (∀ h : Nat, h ≤ S → (x.testBit h = decide (h = S))) := ⟨fun h hh => by
      by_cases e : h = S
      · rw [decide_eq_true e, e, ← hS, c3]
      · rw [decide_eq_false e, c4 _ (by omega)]⟩
    have HXL := Aside0.mk hx
    clear b1 b2 b3 b4 c3 c4 z1 z2 hH hS hD h0
    go_enter Tryd.func36, Tryd.ntmps36
    go_wp2
    go_loop [4] (fun v4 => ∃ h : Nat, h ≤ H ∧ v4 = .int .i64 h) (fun v4 => 64 - (intOf v4).toNat)
    case atStart => exact ⟨0, Nat.zero_le _, rfl⟩
    case round =>
      obtain ⟨h, hh, rfl⟩ := hrel
      have hd63 : 63 - (h : Int) = ((63 - h : Nat) : Int) := by omega
      have ht := not_one x (63 - h) HXL.out (by omega)
      rw [HHI.out h hh] at ht
      by_cases hlt : h = H
      · rw [decide_eq_true hlt] at ht
        subst hlt
        go_wp2
        clear ht hd63
        go_loop [5] (fun v5 => ∃ q : Nat, q ≤ S ∧ v5 = .int .i64 q) (fun v5 => 64 - (intOf v5).toNat)
        case atStart => exact ⟨0, Nat.zero_le _, rfl⟩
        case round =>
          obtain ⟨q, hq, rfl⟩ := hrel
          have ht2 := not_one x q HXL.out (by omega)
          rw [HLO.out q hq] at ht2
          by_cases hl2 : q = S
          · rw [decide_eq_true hl2] at ht2
            subst hl2
            have hxs : (x : Int) / 2 ^ q = ((x / 2 ^ q : Nat) : Int) := by simp
            have hxq : x / 2 ^ q < 18446744073709551616 := Nat.lt_of_le_of_lt (Nat.div_le_self _ _) HXL.out
            have CA := Aside0.mk (fun W h1 h2 => out_put.at_ B g L 1 1 1 1 w0 W h1 h2 HGB.out rfl rfl (by decide) (by decide) (by have := HL.out; omega))
            have CB := Aside0.mk (fun W h1 h2 => out_put.at_ B g (L ++ low 1 1) (h : Int) 6 h 6 w0 W h1 h2 HGB.out rfl rfl (by omega) (by decide) (by have := HL.out; simp; omega))
            have CC := Aside0.mk (fun W h1 h2 => out_put.at_ B g (L ++ low 1 1 ++ low h 6) (64 - (h : Int) - (q : Int) - 1) 6 (D - 1) 6 w0 W h1 h2 HGB.out (by omega) rfl (by omega) (by decide) (by have := HL.out; simp; omega))
            have CD := Aside0.mk (fun W h1 h2 => out_put.at_ B g (L ++ low 1 1 ++ low h 6 ++ low (D - 1) 6) ((x : Int) / 2 ^ q) (64 - (h : Int) - (q : Int)) (x / 2 ^ q) D w0 W h1 h2 HGB.out hxs (by omega) hxq (by omega) (by have := HL.out; simp; omega))
            clear hxs hxq
            go_wp2_with (first
              | (go_at_call 34; (with_reducible refine (CA.out _ HO.out HB.out).mono ?_); rintro e w1 ⟨rfl, ho, hb, hk⟩; have HO1 := Aside0.mk ho; have HB1 := Aside0.mk hb; have HK1 := Aside0.mk hk; clear ho hb hk)
              | (go_at_call 34; (with_reducible refine (CB.out _ HO1.out HB1.out).mono ?_); rintro e w2 ⟨rfl, ho, hb, hk⟩; have HO2 := Aside0.mk ho; have HB2 := Aside0.mk hb; have HK2 := Aside0.mk (HK1.out.trans hk); clear ho hb hk)
              | (go_at_call 34; (with_reducible refine (CC.out _ HO2.out HB2.out).mono ?_); rintro e w3 ⟨rfl, ho, hb, hk⟩; have HO3 := Aside0.mk ho; have HB3 := Aside0.mk hb; have HK3 := Aside0.mk (HK2.out.trans hk); clear ho hb hk)
              | (go_at_call 34; (with_reducible refine (CD.out _ HO3.out HB3.out).mono ?_); rintro e w4 ⟨rfl, ho, hb, hk⟩; have HO4 := Aside0.mk ho; have HB4 := Aside0.mk hb; have HK4 := Aside0.mk (HK3.out.trans hk); clear ho hb hk))
            refine bodyPost_end (results_none rfl _ _ _) rfl ?_
            refine ⟨rfl, ?_, HB4.out, HK4.out⟩
            have := HO4.out
            rw [HX.out]
            simp only [List.append_assoc] at this ⊢
            exact this
          · rw [decide_eq_false hl2] at ht2
            go_wp2
            go_round
            case rel => exact ⟨q + 1, by omega, by go_num⟩
            case measure => simp [intOf] <;> omega
      · rw [decide_eq_false hlt] at ht
        go_wp2
        go_round
        case rel => exact ⟨h + 1, by omega, by go_num⟩
        case measure => simp [intOf] <;> omega
end Go.Proofs.YtpeekkpdglfbbaaDoor.PA
namespace Go.Proofs.YtpeekkpdglfbbaaDoor.PA
open Go.RowKit Go.Proofs.YtpeekkpdglfbbaaDoor.G Go.Proofs.YtpeekkpdglfbbaaDoorW.PrintWords Go.Proofs.YtpeekkpdglfbbaaDoorW.PrintLast Go.Proofs.YtpeekkpdglfbbaaDoorW.PrintMore
set_option linter.unusedVariables false
set_option linter.unusedSimpArgs false

/-! ### the bits, byte by byte -/
/-- the bytes behind so many bits -/
def pkS (L : List Bool) : Nat → List Int
  | 0 => []
  | j + 1 => orAt (addZ (pkS L j) j) (j / 8) ((if L.getD j false = true then 1 else 0) * 2 ^ (8 - j % 8 - 1))
theorem pkS_ok (L : List Bool) : ∀ j, j ≤ L.length → OkX (pkS L j) j ∧ Bs (pkS L j) j = L.take j
  | 0, _ => ⟨okX_nil, rfl⟩
  | j + 1, h => by
    obtain ⟨h1, h2⟩ := pkS_ok L j (by omega)
    obtain ⟨h3, h4⟩ := put_step (T := 1) (X := if L.getD j false = true then 1 else 0) h1 (by decide) (by omega) (by split <;> decide)
    refine ⟨h3, ?_⟩
    rw [show pkS L (j + 1) = orAt (addZ (pkS L j) j) (j / 8) ((if L.getD j false = true then 1 else 0) * 2 ^ (8 - j % 8 - 1)) from rfl, h4, h2, List.take_succ_eq_append_getElem (by omega)]
    congr 1
    rw [List.getD_eq_getElem?_getD, List.getElem?_eq_getElem (by omega), Option.getD_some]
    cases L[j]'(by omega) <;> rfl
theorem pkS_all (L : List Bool) : pkS L L.length = packB L := by
  obtain ⟨h1, h2⟩ := pkS_ok L L.length (Nat.le_refl _)
  rw [List.take_length] at h2
  exact (packB_of h1 h2).symm
theorem pk_false {L : List Bool} {j : Nat} (hj : j < L.length) (hb : L.getD j false = false) : pkS L (j + 1) = addZ (pkS L j) j := by
  have h1 := (pkS_ok L j (by omega)).1
  have hz := addZ_len h1
  have hby : OkL (addZ (pkS L j) j) := by
    unfold addZ
    split
    · intro x hx
      rcases List.mem_append.1 hx with hx | hx
      · exact h1.bytes x hx
      · rw [List.mem_singleton.1 hx]
        exact ⟨by decide, by decide⟩
    · exact h1.bytes
  have ha := (hby.at (j / 8)).1
  show orAt (addZ (pkS L j) j) (j / 8) _ = _
  rw [if_neg (by rw [hb]; simp), Nat.zero_mul]
  unfold orAt
  rw [Nat.or_zero, Int.toNat_of_nonneg ha]
  rw [List.getD_eq_getElem?_getD, List.getElem?_eq_getElem (by omega), Option.getD_some]
  exact List.set_getElem_self _
theorem pk_true {L : List Bool} {j m : Nat} (hj : j < L.length) (hb : L.getD j false = true) (B : List Int) (hm : B.length = m) :
    (B ++ addZ (pkS L j) j).set (m + j / 8) (Go.bits .or .u8 ((addZ (pkS L j) j).getD (j / 8) 0) (128 / 2 ^ (j % 8))) = B ++ pkS L (j + 1) ∧ (B ++ addZ (pkS L j) j).length = m + j / 8 + 1 ∧ (B ++ addZ (pkS L j) j).getD (m + j / 8) 0 = (addZ (pkS L j) j).getD (j / 8) 0 := by
  have h1 := (pkS_ok L j (by omega)).1
  have hz := addZ_len h1
  have hby : OkL (addZ (pkS L j) j) := by
    unfold addZ
    split
    · intro x hx
      rcases List.mem_append.1 hx with hx | hx
      · exact h1.bytes x hx
      · rw [List.mem_singleton.1 hx]
        exact ⟨by decide, by decide⟩
    · exact h1.bytes
  have ha := hby.at (j / 8)
  refine ⟨?_, by rw [List.length_append, hz]; omega, ?_⟩
  · rw [List.set_append_right _ _ (by omega), show m + j / 8 - B.length = j / 8 by omega]
    congr 1
    show _ = orAt (addZ (pkS L j) j) (j / 8) _
    unfold orAt
    congr 1
    rw [if_pos hb, Nat.one_mul]
    obtain ⟨a, hA⟩ := Int.eq_ofNat_of_zero_le ha.1
    rw [hA] at ha ⊢
    rw [Int.toNat_natCast, show 8 - j % 8 - 1 = 7 - j % 8 by omega]
    have e : (128 : Int) / 2 ^ (j % 8) = ((2 ^ (7 - j % 8) : Nat) : Int) := by
      have hlt : j % 8 < 8 := Nat.mod_lt _ (by decide)
      generalize j % 8 = q at hlt
      match q, hlt with
      | 0, _ | 1, _ | 2, _ | 3, _ | 4, _ | 5, _ | 6, _ | 7, _ => rfl
    rw [e]
    exact u8_or_nat a _ (by omega) (Nat.lt_of_lt_of_le (Nat.pow_lt_pow_right (by decide) (show 7 - j % 8 < 8 by omega)) (by decide))
  · rw [List.getD_eq_getElem?_getD, List.getD_eq_getElem?_getD, List.getElem?_append_right (by omega), show m + j / 8 - B.length = j / 8 by omega]
end Go.Proofs.YtpeekkpdglfbbaaDoor.PA
namespace Go.Proofs.YtpeekkpdglfbbaaDoor.G
open Go.RowKit Go.Proofs.YtpeekkpdglfbbaaDoorW.PrintWords Go.Proofs.YtpeekkpdglfbbaaDoorW.PrintLast Go.Proofs.YtpeekkpdglfbbaaDoorW.PrintMore
set_option linter.unusedVariables false
set_option linter.unusedSimpArgs false
attribute [local go_sem] max2_int min2_int max_two min_two

def dryrotref01_Put.f (a0 a1 : Int) : Option (List Int) := crc_Put.f a0 a1
def dryrotref01_Get.f (l : List Int) : Option (Int × Bool) := crc_Get.f l

set_option maxHeartbeats 800000 in
set_option maxRecDepth 100000 in
theorem dryrotref01_Put.calls (a0 a1 : Int) (r : List Int) (w : World) (h : dryrotref01_Put.f a0 a1 = some r) :
    Calls Tryd.prog 37 #[.int .u64 a0, .int .i64 a1] w fun e w' => ∃ v0_ : Value, e = .returned (v0_) ∧ Kd.R (Kd.int .u8) 5 w' w.heap.size (fun _ => True) v0_ r ∧ Below w.heap.size w w' := by
  unfold dryrotref01_Put.f crc_Put.f at h
  split at h
  case isFalse => cases h
  case isTrue hN =>
    obtain rfl := Option.some.inj h
    clear h
    obtain ⟨N, rfl⟩ := Int.eq_ofNat_of_zero_le hN.1
    rw [Int.toNat_natCast]
    obtain ⟨j, hj⟩ : ∃ j : Int, (if a1 < 0 then 0 else a1) = j := ⟨_, rfl⟩
    obtain ⟨m, hm8, hm, hw⟩ : ∃ m : Nat, m ≤ 8 ∧ (if 8 < j then 8 else j) = (m : Int) ∧ wid a1 = m := ⟨wid a1, wid_le _, by unfold wid; split at hj <;> split <;> omega, rfl⟩
    rw [hw]
    clear hw
    have hm0 : (m : Int) ≤ 8 := by omega
    go_enter Tryd.func37, Tryd.ntmps37
    go_wp2_with ((with_reducible refine gate_dst (N := 12) rfl ?_); refine Kd.R_make (Kd.int .u8) _ 5 rfl (N := 12) rfl 27 _ _ rfl (m : Int) rfl rfl Tryd.underlying27 (.int .u8 0) 1 infoU8 rfl (by decide) (by omega) 0 (ok := fun _ => True) (okp := fun _ => True) rfl (fun _ hk => hk) trivial (by omega) (by omega) (Below.refl _ _) (Nat.le_refl _) ?_; intro v103 w7 ho8 hb hg_ hnew_; rw [Int.toNat_natCast] at ho8; obtain ⟨g, c9, e9, hgb⟩ := made_form ho8 hnew_; rw [List.length_replicate] at e9; subst e9; have HO := Aside0.mk ho8; have HB := Aside0.mk hb; clear ho8 hb hg_ hnew_)
    clear hm hj
    go_loopw [0, 7] (fun n i wr => ∃ k : Nat, k ≤ m ∧ i = .int .i64 ((m : Int) - 1 - (k : Int)) ∧ n = .int .u64 ((N / 256 ^ k : Nat) : Int) ∧ Aside0 (Kd.R (Kd.int .u8) 5 wr w.heap.size (fun _ => True) (.slice (some ⟨g, 0, none⟩) m c9) (List.replicate (m - k) 0 ++ beL N k)) ∧ Aside0 (Below w.heap.size w wr)) (fun _ i _ => (intOf i + 1).toNat)
    case atStart => exact ⟨0, Nat.zero_le _, by simp, by simp, ⟨by simpa [beL] using HO.out⟩, HB⟩
    case round =>
      clear HO HB
      obtain ⟨k, hk, rfl, rfl, HO, HB⟩ := hrel
      have HS := fun hlt => Aside0.mk (crc_Put.step (N := N) (k := k) (m := m) hlt)
      have HD := Aside0.mk (Nat.div_div_eq_div_mul N (256 ^ k) 256)
      have HL := Aside0.mk (show N / 256 ^ k ≤ N from Nat.div_le_self _ _)
      generalize N / 256 ^ k = M at HS HD HL ⊢
      by_cases hlt : k < m
      · obtain ⟨hc, hf⟩ := Kd.R_celln 0 HO.out ((m - 1 - k : Nat) : Int) (by omega) (by omega)
        have HP := Aside0.mk (Kd.R_putg HO.out ((m - 1 - k : Nat) : Int) ((M % 256 : Nat) : Int))
        rw [Int.toNat_natCast] at hc hf HP
        have HS := HS hlt
        have hM : (0 : Int) ≤ (M : Int) := by omega
        have h0 : (0 : Int) ≤ (m : Int) - 1 - (k : Int) := by omega
        go_wp2
        go_roundw
        case rel =>
          refine ⟨k + 1, by omega, congrArg _ (by omega), congrArg _ ?_, ⟨?_⟩, ⟨?_⟩⟩
          · rw [Nat.pow_succ, ← HD.out]
            have := HL.out
            simp [IntKind.wrap, IntKind.bits, IntKind.signed]
            omega
          · rw [← HS.out]
            exact HP.out.1
          · exact below_set HB.out (by omega)
        case measure => simp [intOf]; omega
      · obtain rfl : k = m := by omega
        have h0 : ¬ ((0 : Int) ≤ (k : Int) - 1 - (k : Int)) := by omega
        go_wp2
        go_ret
        exact ⟨_, rfl, by simpa using HO.out, HB.out⟩

set_option maxHeartbeats 800000 in
set_option maxRecDepth 100000 in
theorem dryrotref01_Get.calls (A0 : Option Addr) (c0 : Nat) (l0 : List Int) (r1 : Int) (r2 : Bool) (w : World) (hr0 : Kd.C (Kd.int .u8) w A0 l0.length l0) (hc0 : l0.length ≤ c0) (h : dryrotref01_Get.f l0 = some (r1, r2)) :
    Calls Tryd.prog 30 #[.slice A0 l0.length c0] w fun e w' => e = .returned (.tuple #[.int .u64 r1, .bool r2]) ∧ Drawn0 w w' := by
  have HR := Aside0.mk hr0
  clear hr0 hc0
  unfold dryrotref01_Get.f crc_Get.f at h
  split at h
  case isFalse => cases h
  case isTrue hok =>
  by_cases hl : 1 ≤ l0.length ∧ l0.length ≤ 8
  case neg =>
    rw [if_neg hl] at h
    simp only [Option.some.injEq, Prod.mk.injEq] at h
    obtain ⟨rfl, rfl⟩ := h
    by_cases h0 : l0.length = 0
    · have e0 : decide ((l0.length : Int) < 1) = true := decide_eq_true (by omega)
      clear hl h0
      go_enter Tryd.func30, Tryd.ntmps30
      go_wp2
      go_ret2
      exact ⟨rfl, Drawn0.refl _⟩
    · have e0 : decide ((l0.length : Int) < 1) = false := decide_eq_false (by omega)
      have e1 : decide ((8 : Int) < (l0.length : Int)) = true := decide_eq_true (by omega)
      clear hl h0
      go_enter Tryd.func30, Tryd.ntmps30
      go_wp2
      go_ret2
      exact ⟨rfl, Drawn0.refl _⟩
  case pos =>
    rw [if_pos hl] at h
    simp only [Option.some.injEq, Prod.mk.injEq] at h
    obtain ⟨rfl, rfl⟩ := h
    have e0 : decide ((l0.length : Int) < 1) = false := decide_eq_false (by omega)
    have e1 : decide ((8 : Int) < (l0.length : Int)) = false := decide_eq_false (by omega)
    go_enter Tryd.func30, Tryd.ntmps30
    go_wp2
    go_loop [4, 17] (fun n i => ∃ k : Nat, k ≤ l0.length ∧ i = .int .i64 k ∧ n = .int .u64 (beV 0 (l0.take k) : Nat)) (fun _ i => l0.length - (intOf i).toNat)
    case atStart => exact ⟨0, Nat.zero_le _, rfl, rfl⟩
    case round =>
      obtain ⟨k, hk, rfl, rfl⟩ := hrel
      by_cases hlt : k < l0.length
      · obtain ⟨ad, rfl, hc⟩ := Kd.at_int HR.out (k : Int) (by omega) (by omega)
        rw [Int.toNat_natCast] at hc
        have hx := okB_iff.1 hok _ (rd_mem l0 k hlt)
        have HT := Aside0.mk (beV_take l0 k hlt)
        have hV := beV_take_lt hok k
        have HV := Aside0.mk (Nat.lt_of_lt_of_le hV (Nat.pow_le_pow_right (n := 256) (by decide) (show k ≤ 7 by omega)))
        have HX := Aside0.mk hx
        clear hV hx
        go_wp2
        go_round
        case rel =>
          refine ⟨k + 1, by omega, by go_num, congrArg _ ?_⟩
          have := HV.out
          have := HX.out
          rw [HT.out]
          simp [IntKind.wrap, IntKind.bits, IntKind.signed]
          omega
        case measure => simp [intOf]; omega
      · obtain rfl : k = l0.length := by omega
        go_wp2
        go_ret2
        exact ⟨rfl, Drawn0.refl _⟩
end Go.Proofs.YtpeekkpdglfbbaaDoor.G
-- written by wip/gprint.py of this session (it runs the print of the guide's kit over contracts of the session)
namespace Go.Proofs.YtpeekkpdglfbbaaDoor.PA
open Go.RowKit Go.Proofs.YtpeekkpdglfbbaaDoorW.PrintWords Go.Proofs.YtpeekkpdglfbbaaDoorW.PrintLast Go.Proofs.YtpeekkpdglfbbaaDoorW.PrintMore
attribute [local go_sem] max2_int min2_int max_two min_two max_three min_three max_four min_four   -- for this text's walks alone
set_option linter.unusedVariables false
set_option linter.unusedSimpArgs false

/-! ### dryrotref11_Can: function 19 -/
def dryrotref11_Can.l0 : Nat → List (S26) → Int → Int → Option (Bool)
  | 0, _, _, _ => none
  | k + 1, x0, x5, x6 => if x6 < x5 then (if x6 > 0 then (if 0 ≤ (wrap64 (x6 - 1)) then (if (wrap64 (x6 - 1)) < (x0.length : Int) then (if 0 ≤ x6 then (if x6 < (x0.length : Int) then (if ((rd_T26 x0 (wrap64 (x6 - 1))).f0) ≥ ((rd_T26 x0 x6).f0) then (some false) else (dryrotref11_Can.l0 k x0 x5 (wrap64 (x6 + 1)))) else (none)) else (none)) else (none)) else (none)) else (dryrotref11_Can.l0 k x0 x5 (wrap64 (x6 + 1)))) else (some (decide ((x0.length : Int) ≤ 65535)))
def dryrotref11_Can.f (k : Nat) (l0 : List (S26)) : Option (Bool) := dryrotref11_Can.l0 k l0 (l0.length : Int) 0
theorem dryrotref11_Can.mono_l : ∀ k, (∀ y0 y1 y2, LeO (dryrotref11_Can.l0 k y0 y1 y2) (dryrotref11_Can.l0 (k + 1) y0 y1 y2))
  | 0 => fun _ _ _ r h => by simp [dryrotref11_Can.l0] at h
  | k + 1 => by
    have ih0 := dryrotref11_Can.mono_l k
    · intro y0 y1 y2
      unfold dryrotref11_Can.l0
      repeat' first
      | (with_reducible exact ih0 _ _ _)
      | (with_reducible exact LeO.refl _)
      | (with_reducible exact LeO.none _)
      | (with_reducible refine LeO.ite ?_ ?_)
      | (with_reducible refine LeO.bind ?_ (fun _ => ?_))
      | exact ih0 _ _ _
      | exact LeO.none _
      | refine LeO.ite ?_ ?_
      | refine LeO.bind ?_ (fun _ => ?_)
theorem dryrotref11_Can.mono : ∀ a0 k, LeO (dryrotref11_Can.f k a0) (dryrotref11_Can.f (k + 1) a0) := by
  intro a0 k
  have ih0 := dryrotref11_Can.mono_l k
  unfold dryrotref11_Can.f
  repeat' first
      | (with_reducible exact ih0 _ _ _)
      | (with_reducible exact LeO.refl _)
      | (with_reducible exact LeO.none _)
      | (with_reducible refine LeO.ite ?_ ?_)
      | (with_reducible refine LeO.bind ?_ (fun _ => ?_))
      | exact ih0 _ _ _
      | exact LeO.none _
      | refine LeO.ite ?_ ?_
      | refine LeO.bind ?_ (fun _ => ?_)
set_option maxHeartbeats 8000000 in
set_option maxRecDepth 100000 in
theorem dryrotref11_Can.calls (k : Nat) (A0 : Option Addr) (c0 : Nat) (l0 : List (S26)) (r : Bool) (w : World) (hr0 : Kd.C k26 w A0 l0.length l0) (hc0 : l0.length ≤ c0) (h : dryrotref11_Can.f k l0 = some r) :
    Calls Tryd.prog 19 #[.slice A0 l0.length c0] w fun e w' => e = .returned (.bool r) ∧ Drawn0 w w' := by
  have HR0 := Aside0.mk hr0
  have HC0 := Aside0.mk hc0
  clear hr0 hc0
  have H : (dryrotref11_Can.l0 k l0 (l0.length : Int) 0) = some r := h
  clear h
  have H' := Aside0.mk H
  clear H
  go_enter Tryd.func19, Tryd.ntmps19
  go_wp2
  repeat (go_quiet (fail); try go_wp2)
  go_loopg [6] k (fun kq v6 w' => ∃ (x6_1 : Int), v6 = .int .i64 x6_1 ∧ Aside0 (dryrotref11_Can.l0 kq l0 (l0.length : Int) x6_1 = some r) ∧ Aside0 (kq ≤ k) ∧ Drawn0 w w')
  case atStart => exact ⟨(0), (by first | rfl | (simp; done) | (simp [*]; done)), H', ⟨Nat.le_refl _⟩, by repeat (first | exact Drawn0.refl _ | apply Drawn0.step)⟩
  case round =>
    clear H'
    try clear c1
    obtain ⟨x6_1, rfl, HA, HK1, ⟨m1, rfl⟩⟩ := hrel
    cases gk with
    | zero => exact absurd HA.out (by simp [dryrotref11_Can.l0])
    | succ k1 =>
      have H := HA.out
      clear HA
      simp only [dryrotref11_Can.l0] at H
      by_cases c2 : x6_1 < (l0.length : Int)
      · rw [if_pos c2] at H
        have c2b0 : decide (x6_1 < (l0.length : Int)) = true := decide_eq_true c2
        clear c2
        by_cases c3 : x6_1 > 0
        · rw [if_pos c3] at H
          have c3b0 : decide (0 < x6_1) = true := decide_eq_true c3
          clear c3
          obtain ⟨ji4, hji4⟩ : ∃ j_ : Int, (wrap64 (x6_1 - 1)) = j_ := ⟨_, rfl⟩
          replace H : (if 0 ≤ (ji4) then (if (ji4) < (l0.length : Int) then (if 0 ≤ x6_1 then (if x6_1 < (l0.length : Int) then (if ((rd_T26 l0 (ji4)).f0) ≥ ((rd_T26 l0 x6_1).f0) then (some false) else (dryrotref11_Can.l0 k1 l0 (l0.length : Int) (wrap64 (x6_1 + 1)))) else (none)) else (none)) else (none)) else (none)) = some r := by first | (rw [hji4] at H; exact H) | (simp only [hji4] at H ⊢; exact H)
          have hji4w : (IntKind.i64.wrap (x6_1 - 1)) = ji4 := (i64_w _).trans hji4
          by_cases c5 : 0 ≤ (ji4)
          · rw [if_pos c5] at H
            have c5b0 : decide (0 ≤ (ji4)) = true := decide_eq_true c5
            clear c5
            by_cases c6 : (ji4) < (l0.length : Int)
            · rw [if_pos c6] at H
              have c6b0 : decide ((ji4) < (l0.length : Int)) = true := decide_eq_true c6
              clear c6
              by_cases c7 : 0 ≤ x6_1
              · rw [if_pos c7] at H
                have c7b0 : decide (0 ≤ x6_1) = true := decide_eq_true c7
                clear c7
                by_cases c8 : x6_1 < (l0.length : Int)
                · rw [if_pos c8] at H
                  have c8b0 : decide (x6_1 < (l0.length : Int)) = true := decide_eq_true c8
                  clear c8
                  by_cases c9 : ((rd_T26 l0 (ji4)).f0) ≥ ((rd_T26 l0 x6_1).f0)
                  · rw [if_pos c9] at H
                    have c9b0 : decide (((rd_T26 l0 x6_1).f0) ≤ ((rd_T26 l0 (ji4)).f0)) = true := decide_eq_true c9
                    clear c9
                    obtain rfl := Option.some.inj H
                    have p180 : 0 ≤ ((ji4) : Int) := of_decide_eq_true (by first | (with_reducible assumption) | assumption)
                    have q180 : (ji4) < (l0.length : Int) := of_decide_eq_true (by first | (with_reducible assumption) | assumption)
                    obtain ⟨ad180, e180, hx180_0, hx180_1⟩ := at_T26 HR0.out (ji4) p180 q180
                    cases e180
                    replace p180 := eq_true p180
                    replace q180 := eq_true q180
                    have p181 : 0 ≤ (x6_1 : Int) := of_decide_eq_true (by first | (with_reducible assumption) | assumption)
                    have q181 : x6_1 < (l0.length : Int) := of_decide_eq_true (by first | (with_reducible assumption) | assumption)
                    obtain ⟨ad181, e181, hx181_0, hx181_1⟩ := at_T26 HR0.out x6_1 p181 q181
                    obtain rfl : ad180 = ad181 := (by injection e181)
                    replace p181 := eq_true p181
                    replace q181 := eq_true q181
                    go_wp2
                    repeat (go_quiet (fail); try go_wp2)
                    go_ret
                    exact ⟨by first | rfl | (simp; done) | (simp only [← hji4] <;> (first | rfl | simp)) | (simp [*]; done), by repeat (first | exact Drawn0.refl _ | apply Drawn0.step)⟩
                  · rw [if_neg c9] at H
                    have c9b0 : decide (((rd_T26 l0 x6_1).f0) ≤ ((rd_T26 l0 (ji4)).f0)) = false := decide_eq_false c9
                    clear c9
                    have H' := Aside0.mk H
                    clear H
                    have p180 : 0 ≤ ((ji4) : Int) := of_decide_eq_true (by first | (with_reducible assumption) | assumption)
                    have q180 : (ji4) < (l0.length : Int) := of_decide_eq_true (by first | (with_reducible assumption) | assumption)
                    obtain ⟨ad180, e180, hx180_0, hx180_1⟩ := at_T26 HR0.out (ji4) p180 q180
                    cases e180
                    replace p180 := eq_true p180
                    replace q180 := eq_true q180
                    have p181 : 0 ≤ (x6_1 : Int) := of_decide_eq_true (by first | (with_reducible assumption) | assumption)
                    have q181 : x6_1 < (l0.length : Int) := of_decide_eq_true (by first | (with_reducible assumption) | assumption)
                    obtain ⟨ad181, e181, hx181_0, hx181_1⟩ := at_T26 HR0.out x6_1 p181 q181
                    obtain rfl : ad180 = ad181 := (by injection e181)
                    replace p181 := eq_true p181
                    replace q181 := eq_true q181
                    go_wp2
                    repeat (go_quiet (fail); try go_wp2)
                    go_roundg k1
                    case measure => have := HK1.out; omega
                    case rel => exact ⟨(wrap64 (x6_1 + 1)), (by first | rfl | (simp; done) | (simp [*]; done)), H', ⟨by have := HK1.out; omega⟩, by repeat (first | exact Drawn0.refl _ | apply Drawn0.step)⟩
                · rw [if_neg c8] at H
                  exact absurd H (by simp)
              · rw [if_neg c7] at H
                exact absurd H (by simp)
            · rw [if_neg c6] at H
              exact absurd H (by simp)
          · rw [if_neg c5] at H
            exact absurd H (by simp)
        · rw [if_neg c3] at H
          have c3b0 : decide (0 < x6_1) = false := decide_eq_false c3
          clear c3
          have H' := Aside0.mk H
          clear H
          go_wp2
          repeat (go_quiet (fail); try go_wp2)
          go_roundg k1
          case measure => have := HK1.out; omega
          case rel => exact ⟨(wrap64 (x6_1 + 1)), (by first | rfl | (simp; done) | (simp [*]; done)), H', ⟨by have := HK1.out; omega⟩, by repeat (first | exact Drawn0.refl _ | apply Drawn0.step)⟩
      · rw [if_neg c2] at H
        have c2b0 : decide (x6_1 < (l0.length : Int)) = false := decide_eq_false c2
        clear c2
        obtain rfl := Option.some.inj H
        go_wp2
        repeat (go_quiet (fail); try go_wp2)
        go_ret
        exact ⟨by first | rfl | (simp; done) | (simp [*]; done) | (simp; decide +kernel), by repeat (first | exact Drawn0.refl _ | apply Drawn0.step)⟩

end Go.Proofs.YtpeekkpdglfbbaaDoor.PA
namespace Go.Proofs.YtpeekkpdglfbbaaDoor.PA
open Go.RowKit Go.Proofs.YtpeekkpdglfbbaaDoor.G Go.Proofs.YtpeekkpdglfbbaaDoorW.PrintWords Go.Proofs.YtpeekkpdglfbbaaDoorW.PrintLast Go.Proofs.YtpeekkpdglfbbaaDoorW.PrintMore
set_option linter.unusedVariables false
set_option linter.unusedSimpArgs false

/-! ### the reference's Can -/
theorem rcan_from (l : List S26) (hl : l.length ≤ 1000000) : ∀ d i, i + 1 + d = l.length → ∀ k, d < k → dryrotref11_Can.l0 k l (l.length : Int) ((i + 1 : Nat) : Int) = some (((List.range d).all fun q => decide ((rd_T26 l ((i + q : Nat) : Int)).f0 < (rd_T26 l ((i + q + 1 : Nat) : Int)).f0)) && decide (l.length ≤ 65535))
  | 0, i, h, k + 1, hk => by
    unfold dryrotref11_Can.l0
    rw [if_neg (by omega)]
    simp
    omega
  | d + 1, i, h, k + 1, hk => by
    unfold dryrotref11_Can.l0
    have e1 : wrap64 (((i + 1 : Nat) : Int) - 1) = ((i : Nat) : Int) := by rw [w64 (by omega) (by omega)]; omega
    have e2 : wrap64 (((i + 1 : Nat) : Int) + 1) = ((i + 1 + 1 : Nat) : Int) := by rw [w64 (by omega) (by omega)]; omega
    rw [if_pos (by omega), if_pos (by omega), e1, if_pos (by omega), if_pos (by omega), if_pos (by omega), if_pos (by omega), e2, List.range_succ_eq_map, List.all_cons, List.all_map]
    by_cases hh : (rd_T26 l ((i : Nat) : Int)).f0 ≥ (rd_T26 l ((i + 1 : Nat) : Int)).f0
    · rw [if_pos hh]
      have h2 : ¬ (rd_T26 l ((i : Nat) : Int)).f0 < (rd_T26 l ((i + 1 : Nat) : Int)).f0 := by omega
      have e3 : decide ((rd_T26 l ((i + 0 : Nat) : Int)).f0 < (rd_T26 l ((i + 0 + 1 : Nat) : Int)).f0) = false := decide_eq_false h2
      rw [e3, Bool.false_and, Bool.false_and]
    · rw [if_neg hh, rcan_from l hl d (i + 1) (by omega) k (by omega)]
      have h2 : (rd_T26 l ((i : Nat) : Int)).f0 < (rd_T26 l ((i + 1 : Nat) : Int)).f0 := by omega
      have e3 : decide ((rd_T26 l ((i + 0 : Nat) : Int)).f0 < (rd_T26 l ((i + 0 + 1 : Nat) : Int)).f0) = true := decide_eq_true h2
      rw [e3, Bool.true_and]
      congr 3
      funext q
      simp only [Function.comp, show i + 1 + q = i + (q + 1) by omega, Nat.succ_eq_add_one]
theorem rcan_S (l : List S26) (hl : l.length ≤ 1000000) (k : Nat) (hk : l.length + 1 < k) : dryrotref11_Can.f k l = some (canS l) := by
  unfold dryrotref11_Can.f canS
  obtain ⟨k, rfl⟩ : ∃ k', k = k' + 1 := ⟨k - 1, by omega⟩
  by_cases h : 0 < l.length
  · have := rcan_from l hl (l.length - 1) 0 (by omega) k (by omega)
    simp only [Nat.zero_add] at this
    unfold dryrotref11_Can.l0
    rw [if_pos (by omega), if_neg (by omega)]
    exact (show wrap64 (0 + 1) = ((1 : Nat) : Int) from w64 (by decide) (by decide)) ▸ this
  · unfold dryrotref11_Can.l0
    rw [if_neg (by omega), show l.length - 1 = 0 by omega]
    simp
    omega

theorem OU.alloc {B g : Nat} {W : World} {L : List Bool} (h : OU B W g L) (o : Obj) : OU B (W.alloc o) g L := by
  obtain ⟨u, h1, h2⟩ := h
  exact ⟨u, blk_alloc h1 _, Kd.R_alloc h2 _⟩
theorem OU.drew {B g : Nat} {W : World} {L : List Bool} (h : OU B W g L) : OU B W.drew g L := h
theorem OU.lt {B g : Nat} {W : World} {L : List Bool} (h : OU B W g L) : g < W.heap.size := by
  obtain ⟨u, h1, _⟩ := h
  exact blk_lt h1
theorem cells26 {w W : World} {ad : Addr} {n : Nat} {l : List S26} (hr : Kd.C k26 w (some ad) n l) (hb : Below w.heap.size w W) (j : Nat) (hj : j < n) : W.cell? (ad.add (j * 2)) = some (.int .i64 (rd_T26 l (j : Int)).f0) ∧ W.cell? ⟨(ad.add (j * 2)).block, (ad.add (j * 2)).off + 1, none⟩ = some (.int .u64 (rd_T26 l (j : Int)).f1) := by
  obtain ⟨ad', e, h0, h1⟩ := at_T26 (Kd.C_below hr hb) (j : Int) (by omega) (by omega)
  obtain rfl := Option.some.inj e
  rw [Int.toNat_natCast] at h0 h1
  exact ⟨h0, h1⟩
theorem out_putXor.at_ (B g : Nat) (L : List Bool) (V : Int) (x : Nat) (w0 w : World) (hO : OU B w g L) (hB : Below B w0 w) (hgB : B ≤ g) (hV : V = (x : Int)) (hx : x < 18446744073709551616) (hL : L.length ≤ 6000000) :
    Calls Tryd.prog 36 #[.pointer (some ⟨g, 0, none⟩), .int .u64 V] w fun e w' => e = .returned (.tuple #[]) ∧ OU B w' g (L ++ xorBits x) ∧ Below B w0 w' ∧ KeepO g w w' := by
  subst hV
  exact out_putXor.calls B g L x w0 w hO hB hgB hx hL
theorem wrap64_0 (a : Int) : wrap64 (wrap64 a - 0) = wrap64 a := by
  have := wrap64_in a
  rw [Int.sub_zero]
  exact w64 this.1 this.2
set_option maxHeartbeats 2000000 in
set_option maxRecDepth 100000 in
theorem rEncode.bad (A : Option Addr) (c : Nat) (l : List S26) (w : World) (hr : Kd.C k26 w A l.length l) (hc : l.length ≤ c) (hlen : l.length ≤ 20000) (h : canS l = false) :
    Calls Tryd.prog 18 #[.slice A l.length c] w fun e w' => e = .returned (.tuple #[.slice none 0 0, .int .i64 1]) ∧ Below w.heap.size w w' := by
  have HR := Aside0.mk hr
  have HC := Aside0.mk hc
  have HF : Aside0 (dryrotref11_Can.f 100000 l = some false) := ⟨by rw [rcan_S l (by omega) _ (by omega), h]⟩
  clear hr hc hlen h
  go_enter Tryd.func18, Tryd.ntmps18
  go_wp2_with (go_at_call 19; (with_reducible refine (dryrotref11_Can.calls 100000 _ _ l false _ HR.out HC.out HF.out).mono ?_); rintro e w1 ⟨rfl, hd⟩; have HB := Aside0.mk hd.below; clear hd)
  refine bodyPost_ret (results_tmp2 rfl _ _ _) rfl ?_
  exact ⟨rfl, HB.out⟩
set_option maxHeartbeats 8000000 in
set_option maxRecDepth 100000 in
theorem rEncode.ok (A : Option Addr) (c : Nat) (l : List S26) (w : World) (hr : Kd.C k26 w A l.length l) (hc : l.length ≤ c) (hw : ∀ x ∈ l, okS x) (hlen : l.length ≤ 20000) (h : canS l = true) :
    Calls Tryd.prog 18 #[.slice A l.length c] w fun e w' => ∃ v : Value, e = .returned (.tuple #[v, .int .i64 0]) ∧ Kd.R (Kd.int .u8) 5 w' w.heap.size (fun _ => True) v (encL l) ∧ Below w.heap.size w w' := by
  have HR := Aside0.mk hr
  have HC := Aside0.mk hc
  have HW := Aside0.mk hw
  have HLN := Aside0.mk hlen
  have HF : Aside0 (dryrotref11_Can.f 100000 l = some true) := ⟨by rw [rcan_S l (by omega) _ (by omega), h]⟩
  clear hr hc hw h hlen
  go_enter Tryd.func18, Tryd.ntmps18
  go_wp2_with (first
    | (go_at_call 19; (with_reducible refine (dryrotref11_Can.calls 100000 _ _ l true _ HR.out HC.out HF.out).mono ?_); rintro e w1 ⟨rfl, hd⟩; have HB1 := Aside0.mk hd.below; clear hd)
    | ((with_reducible refine gate_dst (N := 14) rfl ?_); refine box_event ?hg (N := 14) ?hd (cs := #[.slice none 0 0]) (t := 65) ?hr ?_; (case hd => rfl); (case hg => rfl); (case hr => first | (go_simp; done) | (go_simp; rfl)); intro g hg w2 hbox hb; have HB2 := Aside0.mk (below_step HB1.out hb); have HBK := Aside0.mk hbox; have HG : Aside0 (w.heap.size ≤ g) := ⟨by have := HB1.out.size; omega⟩; clear hb hbox hg))
  have HPK : Aside0 (OU w.heap.size w2 g (encP l 0)) := ⟨_, HBK.out, Kd.R_nil _ _ _ _ _⟩
  go_loopw [17] (fun i wr => ∃ k : Nat, k ≤ l.length ∧ i = .int .i64 k ∧ Aside0 (OU w.heap.size wr g (encP l k)) ∧ Aside0 (Below w.heap.size w wr)) (fun i _ => l.length - (intOf i).toNat)
  case atStart => exact ⟨0, Nat.zero_le _, rfl, HPK, HB2⟩
  case round =>
    clear HPK HBK HB2
    obtain ⟨k, hk, rfl, HP, HB⟩ := hrel
    have hl2 : l.length ≤ 20000 := HLN.out
    by_cases hlt : k < l.length
    · have hC := Kd.C_below HR.out HB.out
      obtain ⟨ad, rfl, h0, h1⟩ := at_T26 hC (k : Int) (by omega) (by omega)
      rw [Int.toNat_natCast] at h0 h1
      have hx := HW.out _ (rd_mem26 l k hlt)
      have hgw := (HP.out).lt
      have HGN : Aside0 (wr.heap.size ≠ g) := ⟨by omega⟩
      have HLE := Aside0.mk (encP_len l HW.out k hk)
      clear hC hgw
      cases k with
      | zero =>
        obtain ⟨v0, hv0⟩ := Int.eq_ofNat_of_zero_le (u64_wrap_range (rd_T26 l 0).f0).1
        obtain ⟨v1, hv1⟩ := Int.eq_ofNat_of_zero_le hx.2.1
        have CA := Aside0.mk (fun W h1 h2 => out_put.at_ w.heap.size g [] (IntKind.u64.wrap (rd_T26 l 0).f0) 64 v0 64 w W h1 h2 HG.out hv0 rfl (by have := (u64_wrap_range (rd_T26 l 0).f0).2; omega) (by decide) (by simp))
        have CB := Aside0.mk (fun W h1 h2 => out_put.at_ w.heap.size g ([] ++ low v0 64) (rd_T26 l 0).f1 64 v1 64 w W h1 h2 HG.out hv1 rfl (by have := hx.2.2; omega) (by decide) (by simp))
        have EV : Aside0 ((IntKind.u64.wrap (rd_T26 l 0).f0).toNat = v0 ∧ (rd_T26 l 0).f1.toNat = v1) := ⟨by rw [hv0]; rfl, by have h_ : (rd_T26 l 0).f1 = (v1 : Int) := hv1; rw [h_]; rfl⟩
        clear hv0 hv1 hx
        have h0' : wr.cell? ad = some (.int .i64 (rd_T26 l 0).f0) := by simpa [Addr.add] using h0
        have h1' : wr.cell? ⟨ad.block, ad.off + 1, none⟩ = some (.int .u64 (rd_T26 l 0).f1) := by simpa [Addr.add] using h1
        clear h0 h1
        go_wp2_with (first
          | (go_at_call 34; (with_reducible refine (CA.out _ (HP.out.alloc _) (below_alloc HB.out _)).mono ?_); rintro e w3 ⟨rfl, hp, hb, hk⟩; have HP3 := Aside0.mk hp; have BX := hk wr.heap.size _ _ HGN.out (by decide) (blk_new wr _); have f1 := (blk_cell BX 1).trans rfl; have HB3 := Aside0.mk hb; clear hp hb hk BX)
          | (go_at_call 34; (with_reducible refine (CB.out _ HP3.out HB3.out).mono ?_); rintro e w4 ⟨rfl, hp, hb, hk⟩; have HP4 := Aside0.mk hp; have HB4 := Aside0.mk hb; clear hp hb hk))
        go_roundw
        case rel =>
          refine ⟨1, by omega, by go_num, ⟨?_⟩, HB4⟩
          have := HP4.out
          rw [List.nil_append, ← EV.out.1, ← EV.out.2] at this
          exact this
        case measure => simp [intOf]; omega
      | succ k =>
        have hx1 := HW.out _ (rd_mem26 l k (by omega))
        obtain ⟨x, ex⟩ : ∃ x, rd_T26 l ((k + 1 : Nat) : Int) = x := ⟨_, rfl⟩
        obtain ⟨y, ey⟩ : ∃ y, rd_T26 l ((k : Nat) : Int) = y := ⟨_, rfl⟩
        rw [ex] at h0 h1 hx
        rw [ey] at hx1
        have hxi := xor_in hx.2 hx1.2
        obtain ⟨q, eq⟩ : ∃ q, x.f1.toNat ^^^ y.f1.toNat = q := ⟨_, rfl⟩
        rw [eq] at hxi
        have CI := Aside0.mk (fun V W h1 h2 => out_putInt.calls w.heap.size g (encP l (k + 1)) V w W h1 h2 HG.out (by have := HLE.out; omega))
        have CX := Aside0.mk (fun V U W h1 h2 hU => out_putXor.at_ w.heap.size g (encP l (k + 1) ++ intBits V) U q w W h1 h2 HG.out hU hxi.2 (by have := HLE.out; have := intBits_len V; rw [List.length_append]; omega))
        have HXI := Aside0.mk hxi.1
        have HST : Aside0 (encP l (k + 2) = encP l (k + 1) ++ (intBits (wrap64 (wrap64 (x.f0 - y.f0) - stepP l (k + 1))) ++ xorBits q)) := ⟨by rw [← eq, ← ex, ← ey]; rfl⟩
        have HCY := Aside0.mk (fun W hb => ey ▸ cells26 HR.out (W := W) hb k (by omega))
        have BX := Aside0.mk (blk_new wr (.cells #[.int .i64 x.f0, .int .u64 x.f1] 26))
        have HPA := Aside0.mk (HP.out.alloc (.cells #[.int .i64 x.f0, .int .u64 x.f1] 26))
        have HBA := Aside0.mk (below_alloc HB.out (.cells #[.int .i64 x.f0, .int .u64 x.f1] 26))
        clear hx hx1 hxi eq
        cases k with
        | zero =>
          rw [show ((0 + 1 : Nat) : Int) = 1 from rfl] at *
          have y0 : (wr.alloc (.cells #[.int .i64 x.f0, .int .u64 x.f1] 26)).cell? ad = some (.int .i64 y.f0) := by simpa [Addr.add] using (HCY.out _ HBA.out).1
          have x0 : (wr.alloc (.cells #[.int .i64 x.f0, .int .u64 x.f1] 26)).cell? ⟨wr.heap.size, 0, none⟩ = some (.int .i64 x.f0) := (blk_cell BX.out 0).trans rfl
          have h0' : wr.cell? ⟨ad.block, ad.off + 2, none⟩ = some (.int .i64 x.f0) := by simpa [Addr.add] using h0
          have h1' : wr.cell? ⟨ad.block, ad.off + 2 + 1, none⟩ = some (.int .u64 x.f1) := by simpa [Addr.add] using h1
          have hxi := HXI.out
          have b3 : (0 : Int) < (l.length : Int) := by omega
          have b4 : 0 < l.length := by omega
          have hw0 : IntKind.i64.wrap 0 = 0 := by decide
          have hw1 : IntKind.i64.wrap (1 - 1) = 0 := by decide
          clear h0 h1 ex ey
          go_wp2_with fail
          go_region_held3 (fun W => W.cell? ⟨wr.heap.size, 0, none⟩ = some (.int .i64 x.f0) ∧ W.cell? ad = some (.int .i64 y.f0)) (first | exact ⟨x0, y0⟩ | exact ⟨x3, y3⟩)
            (first | (go_at_call 35; (refine (CI.out _ _ ?s1 ?s2).mono ?_); (case s1 => exact HPA.out.drew); (case s2 => exact below_drew1 HBA.out); rintro e w3 ⟨rfl, hp, hb, hk⟩; have bx3 := hk wr.heap.size _ _ HGN.out (by decide) (blk_drew BX.out); have x3 := (blk_cell bx3 0).trans rfl; have y3 : w3.cell? ad = some (.int .i64 y.f0) := (by simpa [Addr.add] using (HCY.out _ hb).1); have HP3 := Aside0.mk hp; have HB3 := Aside0.mk hb; have BX3 := Aside0.mk bx3; clear hp hb hk bx3))
          clear x0 y0
          have x1 : w3.cell? ⟨wr.heap.size, 1, none⟩ = some (.int .u64 x.f1) := (blk_cell BX3.out 1).trans rfl
          have y1 : w3.cell? ⟨ad.block, ad.off + 1, none⟩ = some (.int .u64 y.f1) := by simpa [Addr.add] using (HCY.out _ HB3.out).2
          go_wp2_with fail
          go_region_held3 (fun W => W.cell? ⟨wr.heap.size, 1, none⟩ = some (.int .u64 x.f1) ∧ W.cell? ⟨ad.block, ad.off + 1, none⟩ = some (.int .u64 y.f1)) (first | exact ⟨x1, y1⟩ | exact ⟨x4, y4⟩)
            (first | (go_at_call 36; (refine (CX.out _ _ _ HP3.out.drew ?s4 ?s5).mono ?_); (case s4 => exact below_drew1 HB3.out); (case s5 => first | exact hxi | rfl); rintro e w4 ⟨rfl, hp, hb, hk⟩; have bx4 := hk wr.heap.size _ _ HGN.out (by decide) (blk_drew BX3.out); have x4 : w4.cell? ⟨wr.heap.size, 1, none⟩ = some (.int .u64 x.f1) := (blk_cell bx4 1).trans rfl; have y4 : w4.cell? ⟨ad.block, ad.off + 1, none⟩ = some (.int .u64 y.f1) := (by simpa [Addr.add] using (HCY.out _ hb).2); have HP4 := Aside0.mk hp; have HB4 := Aside0.mk hb; clear hp hb hk bx4))
          clear x1 y1 x3 y3
          go_wp2_with fail
          go_roundw
          case rel =>
            refine ⟨0 + 2, by omega, by go_num, ⟨?_⟩, HB4⟩
            have h_ := HP4.out
            simp only [i64_w] at h_
            rw [show stepP l (0 + 1) = 0 from rfl, wrap64_0] at HST
            rw [HST.out, ← List.append_assoc]
            exact h_
          case measure => simp [intOf] <;> omega
        | succ k =>
          rw [show ((k + 1 + 1 : Nat) : Int) = (k : Int) + 2 from by omega] at *
          obtain ⟨z, ez⟩ : ∃ z, rd_T26 l ((k : Nat) : Int) = z := ⟨_, rfl⟩
          have HSP : Aside0 (stepP l (k + 1 + 1) = wrap64 (y.f0 - z.f0)) := ⟨by rw [← ey, ← ez]; rfl⟩
          have HCZ := Aside0.mk (fun W hb => ez ▸ cells26 HR.out (W := W) hb k (by omega))
          have y0 := (HCY.out _ HBA.out).1
          have z0 := (HCZ.out _ HBA.out).1
          have x0 : (wr.alloc (.cells #[.int .i64 x.f0, .int .u64 x.f1] 26)).cell? ⟨wr.heap.size, 0, none⟩ = some (.int .i64 x.f0) := (blk_cell BX.out 0).trans rfl
          have hxi := HXI.out
          have b0 : (0 : Int) ≤ (k : Int) := by omega
          have b1 : (k : Int) < (l.length : Int) := by omega
          have b2 : (0 : Int) ≤ (k : Int) + 1 := by omega
          have b3 : (k : Int) + 1 < (l.length : Int) := by omega
          have hwk : IntKind.i64.wrap (k : Int) = (k : Int) := (i64_w _).trans (w64 (by omega) (by omega))
          have hwk1 : IntKind.i64.wrap ((k : Int) + 1) = (k : Int) + 1 := (i64_w _).trans (w64 (by omega) (by omega))
          have hwk2 : IntKind.i64.wrap ((k : Int) + 2 - 1) = (k : Int) + 1 := (i64_w _).trans ((w64 (by omega) (by omega)).trans (by omega))
          have hwk3 : IntKind.i64.wrap ((k : Int) + 2 - 2) = (k : Int) := (i64_w _).trans ((w64 (by omega) (by omega)).trans (by omega))
          have hn1 : ((k : Int) + 1).toNat = k + 1 := by omega
          have d0 : ((k : Int) + 2 == 0) = false := beq_eq_false_iff_ne.2 (by omega)
          have d1 : ((k : Int) + 2 == 1) = false := beq_eq_false_iff_ne.2 (by omega)
          clear ex ey ez
          go_wp2_with fail
          go_region_held3 (fun W => W.cell? ⟨wr.heap.size, 0, none⟩ = some (.int .i64 x.f0) ∧ W.cell? (ad.add ((k + 1) * 2)) = some (.int .i64 y.f0) ∧ W.cell? (ad.add (k * 2)) = some (.int .i64 z.f0)) (first | exact ⟨x0, y0, z0⟩ | exact ⟨x3, y3, z3⟩)
            (first | (go_at_call 35; (refine (CI.out _ _ ?s6 ?s7).mono ?_); (case s6 => exact HPA.out.drew); (case s7 => exact below_drew1 HBA.out); rintro e w3 ⟨rfl, hp, hb, hk⟩; have bx3 := hk wr.heap.size _ _ HGN.out (by decide) (blk_drew BX.out); have x3 : w3.cell? ⟨wr.heap.size, 0, none⟩ = some (.int .i64 x.f0) := (blk_cell bx3 0).trans rfl; have y3 := (HCY.out _ hb).1; have z3 := (HCZ.out _ hb).1; have HP3 := Aside0.mk hp; have HB3 := Aside0.mk hb; have BX3 := Aside0.mk bx3; clear hp hb hk bx3))
          clear x0 y0 z0
          have x1 : w3.cell? ⟨wr.heap.size, 1, none⟩ = some (.int .u64 x.f1) := (blk_cell BX3.out 1).trans rfl
          have y1 := (HCY.out _ HB3.out).2
          go_wp2_with fail
          go_region_held3 (fun W => W.cell? ⟨wr.heap.size, 1, none⟩ = some (.int .u64 x.f1) ∧ W.cell? ⟨(ad.add ((k + 1) * 2)).block, (ad.add ((k + 1) * 2)).off + 1, none⟩ = some (.int .u64 y.f1)) (first | exact ⟨x1, y1⟩ | exact ⟨x4, y4⟩)
            (first | (go_at_call 36; (refine (CX.out _ _ _ HP3.out.drew ?s9 ?s10).mono ?_); (case s9 => exact below_drew1 HB3.out); (case s10 => first | exact hxi | rfl); rintro e w4 ⟨rfl, hp, hb, hk⟩; have bx4 := hk wr.heap.size _ _ HGN.out (by decide) (blk_drew BX3.out); have x4 : w4.cell? ⟨wr.heap.size, 1, none⟩ = some (.int .u64 x.f1) := (blk_cell bx4 1).trans rfl; have y4 := (HCY.out _ hb).2; have HP4 := Aside0.mk hp; have HB4 := Aside0.mk hb; clear hp hb hk bx4))
          clear x1 y1 x3 y3 z3
          go_wp2_with fail
          go_roundw
          case rel =>
            refine ⟨k + 1 + 2, by omega, by go_num, ⟨?_⟩, HB4⟩
            have h_ := HP4.out
            simp only [i64_w] at h_
            rw [← HSP.out] at h_
            rw [HST.out, ← List.append_assoc]
            exact h_
          case measure => simp [intOf] <;> omega
    · obtain rfl : k = l.length := by omega
      have hL7 := encP_len l HW.out l.length (Nat.le_refl _)
      obtain ⟨L, hL⟩ : ∃ L, encP l l.length = L := ⟨_, rfl⟩
      rw [hL] at HP hL7
      have HEN : Aside0 (encL l = beL l.length 2 ++ pkS L L.length) := ⟨by rw [encL, hL, pkS_all]⟩
      have HL7 : Aside0 (L.length ≤ 4000000) := ⟨by omega⟩
      obtain ⟨u, hu1, hu2⟩ := HP.out
      obtain ⟨A8, c8, rfl⟩ := Kd.R_slice hu2
      have HU1 := Aside0.mk hu1
      have HU2 := Aside0.mk hu2
      have HPF : Aside0 (G.dryrotref01_Put.f (l.length : Int) 2 = some (beL l.length 2)) := ⟨by have h_ := put_f (q := (l.length : Int)) (by omega) (by omega) 2; rw [u64n (by omega)] at h_; exact h_⟩
      clear hu1 hu2 hL hL7
      go_wp2_with (go_at_call 37; (with_reducible refine (G.dryrotref01_Put.calls _ _ _ _ HPF.out).mono ?_); rintro e w5 ⟨v5, rfl, hr, hb⟩; have HR5 := Aside0.mk hr; have HB5 := Aside0.mk (below_step HB.out hb); have HU5 := Aside0.mk (Kd.R_below HU2.out hb); have BK5 := Aside0.mk (blk_below HU1.out hb); have z5 : w5.cell? ⟨g, 0, none⟩ = some (.slice A8 L.length c8) := (blk_cell BK5.out 0).trans rfl; clear hr hb)
      have HS5 : Aside0 (w.heap.size ≤ wr.heap.size) := ⟨HB.out.size⟩
      clear HP HB HU1 HU2
      obtain ⟨A7, c7, rfl⟩ := Kd.R_slice HR5.out
      have HR6 : Aside0 (Kd.R (Kd.int .u8) 5 w5 w.heap.size (fun _ => True) (.slice A7 (beL l.length 2).length c7) (beL l.length 2 ++ pkS L 0)) := ⟨by
        rw [show beL l.length 2 ++ pkS L 0 = beL l.length 2 from List.append_nil _]
        exact Kd.R_lower HR5.out HS5.out⟩
      go_loopw [7, 91] (fun v7 i wx => ∃ j : Nat, j ≤ L.length ∧ i = .int .i64 j ∧ Aside0 (Kd.R (Kd.int .u8) 5 wx w.heap.size (fun _ => True) v7 (beL l.length 2 ++ pkS L j)) ∧ Aside0 (Kd.R Kd.bool 4 wx w.heap.size (fun _ => True) (.slice A8 L.length c8) L) ∧ Aside0 (Below w.heap.size w wx)) (fun _ i _ => L.length - (intOf i).toNat)
      case atStart => exact ⟨0, Nat.zero_le _, rfl, HR6, HU5, HB5⟩
      case round =>
        clear HR5 HR6 HU5 HB5 BK5 z5
        obtain ⟨j, hj, rfl, HX, HO, HB⟩ := hrel
        have hL7 : L.length ≤ 4000000 := HL7.out
        by_cases hlt : j < L.length
        · obtain ⟨ad8, rfl, z8⟩ := Kd.at_bool (Kd.R_reads' HO.out).2.2 (j : Int) (by omega) (by omega)
          rw [Int.toNat_natCast] at z8
          have hbit : rdOf false L (j : Int) = L.getD j false := by simp [rdOf]
          rw [hbit] at z8
          have hpl : (pkS L j).length = (j + 7) / 8 := by have h_ := (pkS_ok L j (by omega)).1; have := h_.le; have := h_.near; omega
          have HXL : Aside0 ((beL l.length 2 ++ pkS L j).length = 2 + (j + 7) / 8) := ⟨by rw [List.length_append, beL_length, hpl]⟩
          obtain ⟨A7, c7, e7⟩ := Kd.R_slice HX.out
          rw [HXL.out] at e7
          subst e7
          have HAZ : Aside0 (beL l.length 2 ++ addZ (pkS L j) j = if j % 8 = 0 then beL l.length 2 ++ pkS L j ++ [0] else beL l.length 2 ++ pkS L j) := ⟨by unfold addZ; split <;> simp⟩
          have HPF := Aside0.mk (fun hb => pk_false (L := L) hlt hb)
          have HPT := Aside0.mk (fun hb => pk_true (L := L) (m := 2) hlt hb (beL l.length 2) (beL_length _ _))
          have HAL : Aside0 ((beL l.length 2 ++ addZ (pkS L j) j).length = 2 + j / 8 + 1) := ⟨by rw [List.length_append, beL_length, addZ_len (pkS_ok L j (by omega)).1]; omega⟩
          have HOB : Aside0 (OkL (beL l.length 2 ++ addZ (pkS L j) j)) := ⟨fun x hx => by
            rcases List.mem_append.1 hx with hx | hx
            · exact okB_iff.1 (okB_beL _ _) x hx
            · unfold addZ at hx
              split at hx
              · rcases List.mem_append.1 hx with hx | hx
                · exact (pkS_ok L j (by omega)).1.bytes x hx
                · rw [List.mem_singleton.1 hx]
                  exact ⟨by decide, by decide⟩
              · exact (pkS_ok L j (by omega)).1.bytes x hx⟩
          clear hbit hpl
          generalize addZ (pkS L j) j = Z at *
          generalize L.getD j false = bt at *
          go_upto_if 98 with (fail)
          go_cut [7] (fun v7 wc => Aside0 (Kd.R (Kd.int .u8) 5 wc w.heap.size (fun _ => True) v7 (beL l.length 2 ++ Z)) ∧ Aside0 (Kd.R Kd.bool 4 wc w.heap.size (fun _ => True) (.slice (some ad8) L.length c8) L) ∧ Aside0 (Below w.heap.size w wc))
          case first =>
            by_cases hm : j % 8 = 0
            · have hmb : ((j : Int) % 8 == 0) = true := beq_iff_eq.2 (by omega)
              have HE := HAZ.out
              rw [if_pos hm] at HE
              have HE := Aside0.mk HE
              clear hm
              go_wp2_with ((with_reducible refine gate_builtin (b := .append) (xs := #[.tmp 99, .tmp 100]) rfl ?_); at_builtin; refine Kd.R_append (Kd.int .u8) (w0 := w) w.heap.size rfl (.tmp 99) (.tmp 100) 27 5 (.int .u8 0) 1 rfl Tryd.underlying27 infoU8 rfl (by decide) (by omega) (.slice A7 (2 + (j + 7) / 8) c7) (beL l.length 2 ++ pkS L j) 0 [.int .u8 0] (fun _ => True) (fun _ => False) rfl ?hx ?aP (fun _ hk => hk.elim) (fun _ _ => trivial) HX.out HB.out HB.out.size ?aL ?_; (case hx => first | rfl | (go_simp; done) | (show Value.slice _ 1 1 = Value.slice _ 1 1; simp; done)); (case aP => exact rfl); (case aL => have := HXL.out; omega); intro v9 w9 ho hb hg9 hat; have HX9 := Aside0.mk ho; have HB9 := Aside0.mk hb; have HO9 := Aside0.mk (Kd.R_over HO.out HX.out (by decide) hg9); clear ho hb hg9 hat)
              go_meet
              exact ⟨⟨by rw [HE.out]; exact HX9.out⟩, HO9, HB9⟩
            · have hmb : ((j : Int) % 8 == 0) = false := beq_eq_false_iff_ne.2 (by omega)
              have HE := HAZ.out
              rw [if_neg hm] at HE
              have HE := Aside0.mk HE
              clear hm
              go_wp2_with (fail)
              go_meet
              exact ⟨⟨by rw [HE.out]; exact HX.out⟩, HO, HB⟩
          case rest =>
            obtain ⟨HX2, HO2, HB2⟩ := hcut
            clear HX HO HB
            cases bt with
            | false =>
              go_wp2_with fail
              go_roundw
              case rel => exact ⟨j + 1, by omega, by go_num, ⟨by rw [HPF.out rfl]; exact HX2.out⟩, HO2, HB2⟩
              case measure => simp [intOf] <;> omega
            | true =>
              obtain ⟨s1, s2, s3⟩ := HPT.out rfl
              obtain ⟨gb, c9, e9, hgb, hgl, cl, hcl⟩ := Kd.R_form HX2.out (by rw [s2]; omega)
              subst e9
              rw [s2] at HX2
              rw [s2]
              obtain ⟨hc, hf⟩ := Kd.R_celln 0 HX2.out ((2 + j / 8 : Nat) : Int) (by omega) (by omega)
              have HP := Aside0.mk (Kd.R_putg HX2.out ((2 + j / 8 : Nat) : Int) (Go.bits .or .u8 (Z.getD (j / 8) 0) (128 / 2 ^ (j % 8))))
              rw [show rdOf (0 : Int) (beL l.length 2 ++ Z) ((2 + j / 8 : Nat) : Int) = Z.getD (j / 8) 0 from s3] at hc
              rw [Int.toNat_natCast] at hc hf HP
              rw [s1] at HP
              obtain ⟨N, hN⟩ : ∃ N, 2 + j / 8 = N := ⟨_, rfl⟩
              rw [hN] at hc hf HP HX2
              rw [hN]
              obtain ⟨q, hq⟩ : ∃ q, j % 8 = q := ⟨_, rfl⟩
              have hq8 : q < 8 := hq ▸ Nat.mod_lt _ (by decide)
              have hqi : (j : Int) % 8 = (q : Int) := by omega
              rw [hq] at HP
              have hN0 : (0 : Int) ≤ (N : Int) := by omega
              have hN1 : (N : Int) < (N : Int) + 1 := by omega
              have hNw : IntKind.i64.wrap (N : Int) = (N : Int) := (i64_w _).trans (w64 (by omega) (by omega))
              clear s1 s2 s3 hN hq
              clear HPT
              generalize Z.getD (j / 8) 0 = ov at *
              go_wp2_with fail
              go_region
              all_goals
                go_wp2_with fail
                go_roundw
                case rel => exact ⟨j + 1, by omega, by go_num, ⟨Kd.R_drew HP.out.1⟩, ⟨Kd.R_drew (Kd.R_over HO2.out HX2.out (by decide) HP.out.2)⟩, ⟨below_drew1 (HB2.out.setCell (p := ⟨gb, N, none⟩) hgb _)⟩⟩
                case measure => simp [intOf] <;> omega
        · obtain rfl : j = L.length := by omega
          obtain ⟨A7, c7, e7⟩ := Kd.R_slice HX.out
          subst e7
          go_wp2_with fail
          refine bodyPost_ret (results_tmp2 rfl _ _ _) rfl ?_
          refine ⟨_, rfl, ?_, HB.out⟩
          rw [HEN.out]
          exact HX.out
end Go.Proofs.YtpeekkpdglfbbaaDoor.PA
