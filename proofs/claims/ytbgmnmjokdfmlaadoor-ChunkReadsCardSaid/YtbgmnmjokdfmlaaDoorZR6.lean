/- Lemmas and contracts that the law ChunkReads leans on (packed by a program of this session out of its texts and the print's words). -/
import Derived.Test.YtbgmnmjokdfmlaaDoorZR2
import Derived.Test.YtbgmnmjokdfmlaaDoorZR4
import Derived.Test.YtbgmnmjokdfmlaaDoorZR5
import Derived.Deep.RegionHeld3
namespace Go.Proofs.YtbgmnmjokdfmlaaDoor.PA
open Go.RowKit Go.Proofs.YtbgmnmjokdfmlaaDoor.G Go.Proofs.YtbgmnmjokdfmlaaDoorW.PrintWords Go.Proofs.YtbgmnmjokdfmlaaDoorW.PrintLast Go.Proofs.YtbgmnmjokdfmlaaDoorW.PrintMore
set_option linter.unusedVariables false
set_option linter.unusedSimpArgs false
theorem piece.bad (A : Option Addr) (c n : Nat) (b : List Int) (w : World) (hn : b.length = n) (hr : Kd.C (Kd.int .u8) w A n b) (hc : n ≤ c) (hok : ∀ x ∈ b, 0 ≤ x ∧ x < 256) (hlen : n ≤ 1000000) (h : pieceD b = none) :
    Calls Tryd.prog 104 #[.slice A n c] w fun e w' => e = .returned (.tuple #[.string ⟨#[]⟩, .slice none 0 0, .bool false]) ∧ Below w.heap.size w w' := by
  subst hn
  by_cases h0 : b.length = 0
  · have e1 : ((b.length : Int) == 0) = true := beq_iff_eq.2 (by omega)
    clear h0 hr hc hok hlen h
    go_enter Tryd.func104, Tryd.ntmps104
    go_wp2
    refine bodyPost_ret (results_tmp3 rfl _ _ _) rfl ?_
    exact ⟨rfl, Below.refl _ _⟩
  · have e1 : ((b.length : Int) == 0) = false := beq_eq_false_iff_ne.2 (by omega)
    have hp : 0 < b.length := by omega
    obtain ⟨m, hm, hm256⟩ := byte_nat hok hp
    obtain ⟨ad, rfl, hcl⟩ := cell0 hr hp
    rw [hm] at hcl
    have hl : (0 : Int) < (b.length : Int) := by omega
    have hs : (b.length : Int) - 1 < (m : Int) := by
      rcases Nat.lt_or_ge m b.length with h1 | h1
      · rw [pieceD_ok hp hm h1] at h
        cases h
      · omega
    clear h0 hr hc hok h hp hm
    go_enter Tryd.func104, Tryd.ntmps104
    go_wp2
    refine bodyPost_ret (results_tmp3 rfl _ _ _) rfl ?_
    exact ⟨rfl, Below.refl _ _⟩
theorem piece.ok (A : Option Addr) (c n : Nat) (b : List Int) (s : ByteArray) (r : List Int) (w0 w : World) (hn : b.length = n) (hr : Kd.C (Kd.int .u8) w0 A n b) (hB : Below w0.heap.size w0 w) (hc : n ≤ c) (hok : ∀ x ∈ b, 0 ≤ x ∧ x < 256) (hlen : n ≤ 1000000) (h : pieceD b = some (s, r)) :
    Calls Tryd.prog 104 #[.slice A n c] w fun e w' => ∃ (A' : Option Addr) (c' : Nat), e = .returned (.tuple #[.string s, .slice A' r.length c', .bool true]) ∧ r.length ≤ c' ∧ Kd.C (Kd.int .u8) w0 A' r.length r ∧ (∀ x ∈ r, 0 ≤ x ∧ x < 256) ∧ r.length ≤ 1000000 ∧ Below w.heap.size w w' := by
  subst hn
  have hp : 0 < b.length := by
    cases b with
    | nil => cases h
    | cons a b => simp
  have e1 : ((b.length : Int) == 0) = false := beq_eq_false_iff_ne.2 (by omega)
  obtain ⟨m, hm, hm256⟩ := byte_nat hok hp
  have hmb : m < b.length := by
    rcases Nat.lt_or_ge m b.length with h1 | h1
    · exact h1
    · rw [pieceD_short hp (by rw [hm]; omega) (by rw [hm]; omega)] at h
      cases h
  rw [pieceD_ok hp hm hmb] at h
  obtain ⟨rfl, rfl⟩ := Prod.mk.inj (Option.some.inj h)
  obtain ⟨AM, cM, rM, HRM, HCM, hcM, hmid⟩ := midB A c b 1 (1 + m) (by omega) (by omega) hc
  obtain ⟨AX, cX, rX, HRX, HCX, hcX, hcut⟩ := cutB A c b (1 + m) (by omega) hc
  rw [← HRM.out, ← HRX.out]
  have hmid_ := fun W => hmid 1 (1 + (m : Int)) rfl (by omega) W
  have hcut_ := fun W => hcut (1 + (m : Int)) (by omega) W
  have hcv := fun q => Kd.C_string (P := Tryd.prog) (A := AM) (c := cM) Tryd.underlying22 Tryd.underlying5 Tryd.underlying9 (HCM.out (w.drewN q) (Kd.C_below hr (pw_below_drewN hB q)))
  have HXC := Aside0.mk (HCX.out w0 hr)
  have HXL := Aside0.mk hcX
  have HXB : Aside0 (∀ x ∈ rX, 0 ≤ x ∧ x < 256) := ⟨fun x hx => hok x (by rw [HRX.out] at hx; exact List.mem_of_mem_drop hx)⟩
  have HXN : Aside0 (rX.length ≤ 1000000) := ⟨by rw [HRX.out, List.length_drop]; omega⟩
  have hw1 : IntKind.i64.wrap (1 + (m : Int)) = 1 + (m : Int) := by rw [IntKind.wrap_i64]; omega
  have hs_ : decide ((b.length : Int) - 1 < (m : Int)) = false := decide_eq_false (by omega)
  have hl : (0 : Int) < (b.length : Int) := by omega
  have hm1 : (1 : Int) ≤ 1 + (m : Int) := by omega
  have hm2 : 1 + (m : Int) ≤ (b.length : Int) := by omega
  obtain ⟨ad, rfl, hcl⟩ := cell0 (Kd.C_below hr hB) hp
  rw [hm] at hcl
  clear h hp hm hmb HRM HRX HCM HCX hcX hcM hmid hcut hr hok hc
  go_enter Tryd.func104, Tryd.ntmps104
  go_wp2_with fail
  go_quiet (fail)
  go_wp2
  refine bodyPost_ret (results_tmp3 rfl _ _ _) rfl ?_
  exact ⟨_, _, rfl, HXL.out, HXC.out, HXB.out, HXN.out, pw_below_drewN (Below.refl _ _) _⟩
theorem pieceD_le {b r : List Int} {s : ByteArray} (h : pieceD b = some (s, r)) : r.length ≤ b.length := by
  cases b with
  | nil => cases h
  | cons a x =>
    simp only [pieceD] at h
    split at h
    · cases h
    · simp only [Option.some.injEq, Prod.mk.injEq] at h
      rw [← h.2, List.length_drop, List.length_cons]
      omega
theorem strOfNums_size (l : List Int) : (strOfNums l).size = l.length := by
  rw [← data_length, strOfNums_data, List.length_map]
theorem pieceD_size {b r : List Int} {s : ByteArray} (h : pieceD b = some (s, r)) (hb : b.length ≤ 1000000) : s.size ≤ 140737488355328 := by
  cases b with
  | nil => cases h
  | cons a x =>
    simp only [pieceD] at h
    split at h
    · cases h
    · simp only [Option.some.injEq, Prod.mk.injEq] at h
      rw [List.length_cons] at hb
      rw [← h.1, strOfNums_size, List.length_take]
      omega
set_option maxHeartbeats 8000000 in
set_option maxRecDepth 100000 in
theorem rdecLb.calls (A : Option Addr) (c n : Nat) (b : List Int) (w : World) (hn : b.length = n) (hr : Kd.C (Kd.int .u8) w A n b) (hc : n ≤ c) (hok : okB b = true) (hlen : n ≤ 1000000) :
    Calls Tryd.prog 78 #[.slice A n c] w (DecPost w b) := by
  subst hn
  by_cases h0 : b.length = 0
  · have HE := Aside0.mk (fun W => DecPost.nil (w := w) (w' := W) (b := b) h0)
    have h1 : ((b.length : Int) == 0) = true := beq_iff_eq.2 (by omega)
    clear h0 hr hc hok hlen
    go_enter Tryd.func78, Tryd.ntmps78
    go_wp2
    refine bodyPost_ret (results_tmp3 rfl _ _ _) rfl ?_
    exact HE.out _ (Below.refl _ _)
  · have hp : 0 < b.length := by omega
    have h1 : ((b.length : Int) == 0) = false := beq_eq_false_iff_ne.2 (by omega)
    obtain ⟨n, hn, hn256⟩ := byte_nat (okB_iff.1 hok) hp
    obtain ⟨A1, c1, r0, HR0, HC0, hc1, hcut⟩ := cutB A c b 1 hp hc
    have hcut1 := hcut 1 rfl
    have HRB := Aside0.mk (HC0.out w hr)
    have HBY : Aside0 (∀ x ∈ r0, 0 ≤ x ∧ x < 256) := ⟨fun x hx => okB_iff.1 hok x (by rw [HR0.out] at hx; exact List.mem_of_mem_drop hx)⟩
    have HRL : Aside0 (r0.length ≤ 1000000) := ⟨by rw [HR0.out, List.length_drop]; omega⟩
    have HSH : Aside0 (decLN r0 n = none → decLb b = ([], [], 3)) := ⟨fun h => decLb_short hp hn (by rw [← HR0.out]; exact h)⟩
    have HFO : Aside0 (∀ l r', decLN r0 n = some (l, r') → canL l = false → decLb b = ([], [], 5)) := ⟨fun l r' h hc => decLb_form hp hn (by rw [← HR0.out]; exact h) hc⟩
    have HGO : Aside0 (∀ l r', decLN r0 n = some (l, r') → canL l = true → decLb b = (l, r', 0)) := ⟨fun l r' h hc => decLb_ok hp hn (by rw [← HR0.out]; exact h) hc⟩
    have hl1 : (0 : Int) < (b.length : Int) := by omega
    obtain ⟨ad, rfl, hcell⟩ := cell0 hr hp
    rw [hn] at hcell
    have HCL := Aside0.mk hc1
    clear hcut h0 hok hn hlen HC0 HR0 hr hc hc1 hp
    go_enter Tryd.func78, Tryd.ntmps78
    go_wp2
    go_loopw [0, 6, 23] (fun s v i wr => ∃ (k : Nat) (A' : Option Addr) (c' : Nat) (r : List Int) (l : List S65), k ≤ n ∧ i = .int .i64 k ∧ s = .slice A' r.length c' ∧ Aside0 (decLN r0 k = some (l, r)) ∧ Aside0 (r.length ≤ c') ∧ Aside0 (Kd.C (Kd.int .u8) w A' r.length r) ∧ Aside0 (Kd.R k65 65 wr w.heap.size (fun _ => True) v l) ∧ Aside0 (Below w.heap.size w wr) ∧ Aside0 (∀ x ∈ r, 0 ≤ x ∧ x < 256) ∧ Aside0 (r.length ≤ 1000000) ∧ Aside0 (okLs l)) (fun _ _ i _ => n - (intOf i).toNat)
    case atStart => exact ⟨0, A1, c1, r0, [], Nat.zero_le _, rfl, rfl, ⟨rfl⟩, HCL, HRB, ⟨Kd.R_nil _ _ _ _ _⟩, ⟨Below.refl _ _⟩, HBY, HRL, ⟨fun x hx => by cases hx⟩⟩
    case round =>
      obtain ⟨k, A', c', r, l, hk, rfl, rfl, HD, HCC, HCR, HV, HB, HBX, HRL2, HLO⟩ := hrel
      have hlk := (decLN_len HD.out).1
      by_cases hlt : k < n
      · have hki : (k : Int) < (n : Int) := by omega
        have HST := Aside0.mk (fun (h : decLN r0 (k + 1) = none) => HSH.out (decLN_none hlt h))
        have HKN := Aside0.mk hlk
        cases hps : pieceD r with
        | none =>
          have HE : Aside0 (decLb b = ([], [], 3)) := ⟨HST.out (decLN_bad1 HD.out hps)⟩
          have C1 := Aside0.mk (fun W (hb : Below w.heap.size w W) => piece.bad A' c' r.length r W rfl (Kd.C_below HCR.out hb) HCC.out HBX.out HRL2.out hps)
          have C2 := Aside0.mk (fun W => piece.bad none 0 0 [] W rfl ⟨rfl, by simp, fun h => absurd h (Nat.lt_irrefl _)⟩ (Nat.le_refl _) (fun x hx => by cases hx) (by omega) rfl)
          clear hps hlk hlt
          go_wp2_with (first | (go_at_call 104; (with_reducible refine (C1.out _ HB.out).mono ?_); rintro e w1 ⟨rfl, hb⟩; have HB1 := Aside0.mk (below_step HB.out hb); clear hb C1) | (go_at_call 104; (with_reducible refine (C2.out _).mono ?_); rintro e w2 ⟨rfl, hb⟩; have HB2 := Aside0.mk (below_step HB1.out hb); clear hb))
          refine bodyPost_ret (results_tmp3 rfl _ _ _) rfl ?_
          exact DecPost.bad HE.out HB2.out
        | some p1 =>
          obtain ⟨s1, r1⟩ := p1
          have C1 := Aside0.mk (fun W (hb : Below w.heap.size w W) => piece.ok A' c' r.length r s1 r1 w W rfl HCR.out hb HCC.out HBX.out HRL2.out hps)
          have HPS1 := Aside0.mk hps
          cases hps2 : pieceD r1 with
          | none =>
            have HE : Aside0 (decLb b = ([], [], 3)) := ⟨HST.out (decLN_bad2 HD.out hps hps2)⟩
            have HP2 := Aside0.mk hps2
            clear hps hps2 hlk hlt
            go_wp2_with (first | (go_at_call 104; (with_reducible refine (C1.out _ HB.out).mono ?_); rintro e w1 ⟨A9, c9, rfl, hcc9, hcr9, hbx9, hrl9, hb⟩; have HB1 := Aside0.mk (below_step HB.out hb); have C2 := Aside0.mk (piece.bad A9 c9 r1.length r1 w1 rfl (Kd.C_below hcr9 HB1.out) hcc9 hbx9 hrl9 HP2.out); clear hb C1 hcc9 hcr9 hbx9 hrl9) | (go_at_call 104; (with_reducible refine C2.out.mono ?_); rintro e w2 ⟨rfl, hb⟩; have HB2 := Aside0.mk (below_step HB1.out hb); clear hb))
            refine bodyPost_ret (results_tmp3 rfl _ _ _) rfl ?_
            exact DecPost.bad HE.out HB2.out
          | some p2 =>
            obtain ⟨s2, r2⟩ := p2
            have HP2 := Aside0.mk hps2
            have HDN := Aside0.mk (decLN_step HD.out hps hps2)
            have HOK2 : Aside0 (okLs (l ++ [(⟨s1, s2⟩ : S65)])) := ⟨fun x hx => by
              rcases List.mem_append.1 hx with hx | hx
              · exact HLO.out x hx
              · rw [List.mem_singleton.1 hx]
                exact ⟨pieceD_size hps HRL2.out, pieceD_size hps2 (Nat.le_trans (pieceD_le hps) HRL2.out)⟩⟩
            have HLN : Aside0 (l.length ≤ 255) := ⟨by rw [hlk]; omega⟩
            clear hps hps2 hlk
            go_wp2_with (first | (go_at_call 104; (with_reducible refine (C1.out _ HB.out).mono ?_); rintro e w1 ⟨A9, c9, rfl, hcc9, hcr9, hbx9, hrl9, hb⟩; have HB1 := Aside0.mk (below_step HB.out hb); have HV1 := Aside0.mk (Kd.R_below HV.out hb); have C2 := Aside0.mk (piece.ok A9 c9 r1.length r1 s2 r2 w w1 rfl hcr9 HB1.out hcc9 hbx9 hrl9 HP2.out); clear hb C1 hcc9 hcr9 hbx9 hrl9) | (go_at_call 104; (with_reducible refine C2.out.mono ?_); rintro e w2 ⟨A8, c8, rfl, hcc8, hcr8, hbx8, hrl8, hb⟩; have HB2 := Aside0.mk (below_step HB1.out hb); have HV2 := Aside0.mk (Kd.R_below HV1.out hb); have H8 := Aside0.mk hcc8; have H81 := Aside0.mk hcr8; have H82 := Aside0.mk hbx8; have H83 := Aside0.mk hrl8; clear hb hcc8 hcr8 hbx8 hrl8) | ((with_reducible refine gate_builtin (b := .append) (xs := #[.tmp 43, .tmp 47]) rfl ?_); at_builtin; go_must (refine Kd.R_append k65 (w0 := w) w.heap.size rfl (.tmp 43) (.tmp 47) 27 65 (.agg #[.string ⟨#[]⟩, .string ⟨#[]⟩]) 32 rfl Tryd.underlying27 info65 rfl (by decide) (by omega) _ l (⟨s1, s2⟩ : S65) [.string s1, .string s2] (fun _ => True) (fun _ => False) rfl ?hx ?aP (fun _ hk => hk.elim) (fun _ _ => trivial) HV2.out HB2.out HB2.out.size ?aL ?_; (case hx => first | rfl | (go_simp; done)); (case aP => exact k65_mkM _ _ _ (⟨s1, s2⟩ : S65)); (case aL => have := HLN.out; omega); intro v9 w9 ho hb hg9 hat; have HV9 := Aside0.mk ho; have HB9 := Aside0.mk hb; clear ho hb hg9 hat)))
            go_roundw
            case rel => exact ⟨k + 1, A8, c8, r2, l ++ [(⟨s1, s2⟩ : S65)], by omega, by go_num, rfl, HDN, H8, H81, HV9, HB9, H82, H83, HOK2⟩
            case measure => simp [intOf]; omega
      · obtain rfl : k = n := by omega
        obtain ⟨A7, c7, rfl⟩ := Kd.R_slice HV.out
        have HVR := Aside0.mk (Kd.R_reads' HV.out)
        cases hcan : canL l with
        | false =>
          have HE := Aside0.mk (HFO.out l r HD.out hcan)
          have HC : Aside0 (Calls Tryd.prog 28 #[.slice A7 l.length c7] wr fun e w' => e = .returned (.bool false) ∧ Below wr.heap.size wr w') := ⟨hcan ▸ rcanL.calls _ c7 l.length l wr rfl HVR.out.2.2 HVR.out.2.1 HLO.out⟩
          clear hcan hlk
          go_wp2_with (first | (go_at_call 28; (with_reducible refine HC.out.mono ?_); rintro e w1 ⟨rfl, hb⟩; have HB1 := Aside0.mk (below_step HB.out hb); clear hb))
          refine bodyPost_ret (results_tmp3 rfl _ _ _) rfl ?_
          exact DecPost.bad HE.out HB1.out
        | true =>
          have HE := Aside0.mk (HGO.out l r HD.out hcan)
          have HC : Aside0 (Calls Tryd.prog 28 #[.slice A7 l.length c7] wr fun e w' => e = .returned (.bool true) ∧ Below wr.heap.size wr w') := ⟨hcan ▸ rcanL.calls _ c7 l.length l wr rfl HVR.out.2.2 HVR.out.2.1 HLO.out⟩
          clear hcan hlk
          go_wp2_with (first | (go_at_call 28; (with_reducible refine HC.out.mono ?_); rintro e w1 ⟨rfl, hb⟩; have HB1 := Aside0.mk (below_step HB.out hb); have HV1 := Aside0.mk (Kd.R_below HV.out hb); have HE1 := Aside0.mk (R_empty (Kd.int .u8) 5 w.heap.size w1 (fun _ => True) (below_step HB.out hb).size trivial); clear hb) | ((with_reducible refine gate_dst (N := 57) rfl ?_); go_must (refine Kd.R_append_row (Value.int .u8) 0 (h1 := fun _ => rfl) (w0 := w) w.heap.size rfl (.tmp 55) (.tmp 56) 22 5 (.int .u8 0) 1 rfl Tryd.underlying22 infoU8 rfl (by decide) _ [] r A' r.length c' (fun _ => True) rfl rfl (fun _ _ => trivial) HE1.out (Kd.C_below HCR.out (below_alloc HB1.out _)) (below_alloc HB1.out _) ?hb ?hl ?_; (case hb => exact (below_alloc HB1.out _).size); (case hl => (have := HRL2.out; simp; omega)); intro v1 w2 hR1 hB1 hg_ ho_; rw [List.nil_append] at hR1; have HR2 := Aside0.mk hR1; have HB2 := Aside0.mk hB1; have HV2 := Aside0.mk (R_past HV1.out hg_); clear hR1 hB1 hg_ ho_)))
          refine bodyPost_ret (results_tmp3 rfl _ _ _) rfl ?_
          refine ⟨_, _, by rw [HE.out]; rfl, ?_, ?_, HB2.out⟩
          · rw [HE.out]
            exact HV2.out
          · rw [HE.out]
            exact HR2.out
end Go.Proofs.YtbgmnmjokdfmlaaDoor.PA
namespace Go.Proofs.YtbgmnmjokdfmlaaDoor.PA
open Go.RowKit Go.Proofs.YtbgmnmjokdfmlaaDoorW.PrintWords Go.Proofs.YtbgmnmjokdfmlaaDoorW.PrintLast Go.Proofs.YtbgmnmjokdfmlaaDoorW.PrintMore
attribute [local go_sem] max2_int min2_int max_two min_two max_three min_three max_four min_four   -- for this text's walks alone
set_option linter.unusedVariables false
set_option linter.unusedSimpArgs false
def IsS145 (w0 W : World) (g : Nat) (f0 : List Int) (f1 : Int) (f2 : Bool) : Prop := ∃ A0 c0, W.heap[g]? = some (.cells #[.slice A0 f0.length c0, .int .i64 f1, .bool f2] 145 (0, 0)) ∧ w0.heap.size ≤ g ∧ Kd.C (Kd.int .u8) w0 A0 f0.length f0
theorem IsS145.grown {w0 W : World} {g : Nat} {f0 : List Int} {f1 : Int} {f2 : Bool} {W1 : World} {row : Option Nat} (h : IsS145 w0 W g f0 f1 f2) (hw : W.grownBy W1 row) (hne : some g ≠ row) : IsS145 w0 W1 g f0 f1 f2 := by
  obtain ⟨A0, c0, hb, hg, hr0⟩ := h
  exact ⟨A0, c0, blk_grown hb hw hne, hg, hr0⟩
theorem IsS145.kept {w0 W : World} {g : Nat} {f0 : List Int} {f1 : Int} {f2 : Bool} {W1 : World} {S : Nat → Prop} (h : IsS145 w0 W g f0 f1 f2) (hk : Kept W W1 S) (hne : ¬ S g) : IsS145 w0 W1 g f0 f1 f2 := by
  obtain ⟨A0, c0, hb, hg, hr0⟩ := h
  exact ⟨A0, c0, blk_kept hb hk hne, hg, hr0⟩
theorem IsS145.below {w0 W : World} {g : Nat} {f0 : List Int} {f1 : Int} {f2 : Bool} {W1 : World} (h : IsS145 w0 W g f0 f1 f2) (hw : Below W.heap.size W W1) : IsS145 w0 W1 g f0 f1 f2 := h.grown (grown_of_below hw none) (by simp)
theorem IsS145.alloc {w0 W : World} {g : Nat} {f0 : List Int} {f1 : Int} {f2 : Bool} (h : IsS145 w0 W g f0 f1 f2) (o : Obj) : IsS145 w0 (W.alloc o) g f0 f1 f2 := h.below (below_alloc (Below.refl _ _) o)
theorem IsS145.drewN {w0 W : World} {g : Nat} {f0 : List Int} {f1 : Int} {f2 : Bool} (h : IsS145 w0 W g f0 f1 f2) (m : Nat) : IsS145 w0 (W.drewN m) g f0 f1 f2 := h
theorem IsS145.drew {w0 W : World} {g : Nat} {f0 : List Int} {f1 : Int} {f2 : Bool} (h : IsS145 w0 W g f0 f1 f2) : IsS145 w0 W.drew g f0 f1 f2 := h
theorem IsS145.at_ {w0 W : World} {g : Nat} {f0 : List Int} {f1 : Int} {f2 : Bool} {w' : World} {m : Nat} (hq : W.drewN m = w') (h : IsS145 w0 W g f0 f1 f2) : IsS145 w0 w' g f0 f1 f2 := by subst hq; exact IsS145.drewN h m
theorem IsS145.apart {w0 W : World} {g : Nat} {f0 : List Int} {f1 : Int} {f2 : Bool} {α : Type} {d : Kd α} {e : Nat} {base : Nat} {ok : Nat → Prop} {v : Value} {xs : List α} (h : IsS145 w0 W g f0 f1 f2) (ho : d.R e W base ok v xs) (ht : ∀ q, q ∈ e :: d.E → q ≠ 145) : d.R e W base (fun k => ok k ∧ k ≠ g) v xs := by
  obtain ⟨A0, c0, hb, hg, hr0⟩ := h
  exact Kd.R_types ho hb ht
theorem IsS145.own_ne {w0 W : World} {g : Nat} {f0 : List Int} {f1 : Int} {f2 : Bool} {α : Type} {d : Kd α} {e : Nat} {base : Nat} {ok : Nat → Prop} {v : Value} {xs : List α} (h : IsS145 w0 W g f0 f1 f2) (ho : d.R e W base ok v xs) (ht : e ≠ 145) : some g ≠ v.ownBlock := by
  obtain ⟨A0, c0, hb, hg, hr0⟩ := h
  exact Kd.R_ne ho hb ht
theorem IsS145.lt {w0 W : World} {g : Nat} {f0 : List Int} {f1 : Int} {f2 : Bool} (h : IsS145 w0 W g f0 f1 f2) : g < W.heap.size := by
  obtain ⟨A0, c0, hb, hg, hr0⟩ := h
  exact blk_lt hb
theorem IsS145.ge {w0 W : World} {g : Nat} {f0 : List Int} {f1 : Int} {f2 : Bool} (h : IsS145 w0 W g f0 f1 f2) : w0.heap.size ≤ g := by
  obtain ⟨A0, c0, hb, hg, hr0⟩ := h
  exact hg
theorem IsS145.far {w0 W : World} {g : Nat} {f0 : List Int} {f1 : Int} {f2 : Bool} {p : Addr} (h : IsS145 w0 W g f0 f1 f2) (hne : g ≠ p.block) (u : Value) : IsS145 w0 (W.setCell p u) g f0 f1 f2 := by
  obtain ⟨A0, c0, hb, hg, hr0⟩ := h
  exact ⟨A0, c0, blk_far hb hne u, hg, hr0⟩
theorem cellS145_0 {W : World} {g : Nat} {A0 : Option Addr} {c0 : Nat} {f0 : List Int} {f1 : Int} {f2 : Bool} (h : W.heap[g]? = some (.cells #[.slice A0 f0.length c0, .int .i64 f1, .bool f2] 145 (0, 0))) : W.cell? ⟨g, 0, none⟩ = some (.slice A0 f0.length c0) := (blk_cell h 0).trans rfl
theorem cellS145_1 {W : World} {g : Nat} {A0 : Option Addr} {c0 : Nat} {f0 : List Int} {f1 : Int} {f2 : Bool} (h : W.heap[g]? = some (.cells #[.slice A0 f0.length c0, .int .i64 f1, .bool f2] 145 (0, 0))) : W.cell? ⟨g, 1, none⟩ = some (.int .i64 f1) := (blk_cell h 1).trans rfl
theorem IsS145.set_1 {w0 W : World} {g : Nat} {f0 : List Int} {f1 : Int} {f2 : Bool} (h : IsS145 w0 W g f0 f1 f2) (x : Int) : IsS145 w0 (W.setCell ⟨g, 1, none⟩ (.int .i64 x)) g f0 x f2 := by
  obtain ⟨A0, c0, hb, hg, hr0⟩ := h
  exact ⟨A0, c0, by simpa using blk_set hb 1 (.int .i64 x), hg, hr0⟩
theorem cellS145_2 {W : World} {g : Nat} {A0 : Option Addr} {c0 : Nat} {f0 : List Int} {f1 : Int} {f2 : Bool} (h : W.heap[g]? = some (.cells #[.slice A0 f0.length c0, .int .i64 f1, .bool f2] 145 (0, 0))) : W.cell? ⟨g, 2, none⟩ = some (.bool f2) := (blk_cell h 2).trans rfl
theorem IsS145.set_2 {w0 W : World} {g : Nat} {f0 : List Int} {f1 : Int} {f2 : Bool} (h : IsS145 w0 W g f0 f1 f2) (x : Bool) : IsS145 w0 (W.setCell ⟨g, 2, none⟩ (.bool x)) g f0 f1 x := by
  obtain ⟨A0, c0, hb, hg, hr0⟩ := h
  exact ⟨A0, c0, by simpa using blk_set hb 2 (.bool x), hg, hr0⟩
def dryrotref11_in_take.l0 : Nat → Int → Int → Int → List Int → Int → Bool → Option (Int × Int × Bool)
  | 0, _, _, _, _, _, _ => none
  | k + 1, x5, x6, x7, x1000, x1001, x1002 => if x7 < x6 then (if x1001 ≥ (wrap64 (8 * (x1000.length : Int))) then (some (0, x1001, true)) else (if 0 ≤ (wrap64 (Int.tdiv x1001 8)) then (if (wrap64 (Int.tdiv x1001 8)) < (x1000.length : Int) then (if 0 ≤ (wrap64 (7 - (Int.tmod x1001 8))) then (dryrotref11_in_take.l0 k (IntKind.u64.wrap ((IntKind.u64.wrap (x5 * 2)) + (IntKind.u64.wrap (Go.bits .and .u8 (shr .u8 (rd x1000 (wrap64 (Int.tdiv x1001 8))) (wrap64 (7 - (Int.tmod x1001 8)))) 1)))) x6 (wrap64 (x7 + 1)) x1000 (wrap64 (x1001 + 1)) x1002) else (none)) else (none)) else (none))) else (some (x5, x1001, x1002))
def dryrotref11_in_take.f (k : Nat) (s0_0 : List Int) (s0_1 : Int) (s0_2 : Bool) (a1 : Int) : Option (Int × Int × Bool) := dryrotref11_in_take.l0 k 0 a1 0 s0_0 s0_1 s0_2
theorem dryrotref11_in_take.mono_l : ∀ k, (∀ y0 y1 y2 y3 y4 y5, LeO (dryrotref11_in_take.l0 k y0 y1 y2 y3 y4 y5) (dryrotref11_in_take.l0 (k + 1) y0 y1 y2 y3 y4 y5))
  | 0 => fun _ _ _ _ _ _ r h => by simp [dryrotref11_in_take.l0] at h
  | k + 1 => by
    have ih0 := dryrotref11_in_take.mono_l k
    · intro y0 y1 y2 y3 y4 y5
      unfold dryrotref11_in_take.l0
      repeat' first
      | (with_reducible exact ih0 _ _ _ _ _ _)
      | (with_reducible exact LeO.refl _)
      | (with_reducible exact LeO.none _)
      | (with_reducible refine LeO.ite ?_ ?_)
      | (with_reducible refine LeO.bind ?_ (fun _ => ?_))
      | exact ih0 _ _ _ _ _ _
      | exact LeO.none _
      | refine LeO.ite ?_ ?_
      | refine LeO.bind ?_ (fun _ => ?_)
theorem dryrotref11_in_take.mono : ∀ a0 a1 a2 a3 k, LeO (dryrotref11_in_take.f k a0 a1 a2 a3) (dryrotref11_in_take.f (k + 1) a0 a1 a2 a3) := by
  intro a0 a1 a2 a3 k
  have ih0 := dryrotref11_in_take.mono_l k
  unfold dryrotref11_in_take.f
  repeat' first
      | (with_reducible exact ih0 _ _ _ _ _ _)
      | (with_reducible exact LeO.refl _)
      | (with_reducible exact LeO.none _)
      | (with_reducible refine LeO.ite ?_ ?_)
      | (with_reducible refine LeO.bind ?_ (fun _ => ?_))
      | exact ih0 _ _ _ _ _ _
      | exact LeO.none _
      | refine LeO.ite ?_ ?_
      | refine LeO.bind ?_ (fun _ => ?_)
set_option maxHeartbeats 8000000 in
set_option maxRecDepth 100000 in
theorem dryrotref11_in_take.calls (k : Nat) (g : Nat) (s0_0 : List Int) (s0_1 : Int) (s0_2 : Bool) (a1 : Int) (r1 : Int) (r2 : Int) (r3 : Bool) (w0 w : World) (hI : IsS145 w0 w g s0_0 s0_1 s0_2) (hB : Below w0.heap.size w0 w) (h : dryrotref11_in_take.f k s0_0 s0_1 s0_2 a1 = some (r1, r2, r3)) :
    Calls Tryd.prog 105 #[.pointer (some ⟨g, 0, none⟩), .int .i64 a1] w fun e w' => e = .returned (.int .u64 r1) ∧ IsS145 w0 w' g s0_0 r2 r3 ∧ Below w0.heap.size w0 w' ∧ KeepBut w w' g none := by
  have HI0 := Aside0.mk hI
  have HK := Aside0.mk (KeepBut.refl w g none)
  have HL := Aside0.mk hB.size
  clear hI
  have HW0 := Aside0.mk hB.size
  have HB := Aside0.mk hB
  clear hB
  have H : (dryrotref11_in_take.l0 k 0 a1 0 s0_0 s0_1 s0_2) = some (r1, r2, r3) := h
  clear h
  have H' := Aside0.mk H
  clear H
  go_enter Tryd.func105, Tryd.ntmps105
  go_wp2
  repeat (go_quiet (fail); try go_wp2)
  go_loopg [5, 7] k (fun kq v5 v7 w' => ∃ (x5_1 : Int) (x7_1 : Int) (x1001_1 : Int) (x1002_1 : Bool), v5 = .int .u64 x5_1 ∧ v7 = .int .i64 x7_1 ∧ Aside0 (dryrotref11_in_take.l0 kq x5_1 a1 x7_1 s0_0 x1001_1 x1002_1 = some (r1, r2, r3)) ∧ Aside0 (kq ≤ k) ∧ Aside0 (IsS145 w0 w' g s0_0 x1001_1 x1002_1) ∧ Aside0 (KeepBut w w' g none) ∧ Aside0 (Below w0.heap.size w0 w'))
  case atStart => exact ⟨(0), (0), (s0_1), (s0_2), (by first | rfl | (simp; done) | (simp [*]; done)), (by first | rfl | (simp; done) | (simp [*]; done)), H', ⟨Nat.le_refl _⟩, ⟨by repeat (first | (with_reducible first | exact HI0.out | apply IsS145.alloc | apply IsS145.drewN | apply IsS145.drew | apply IsS145.set_1 | apply IsS145.set_2) | exact HI0.out)⟩, ⟨by repeat (first | (with_reducible first | exact HK.out | apply KeepBut.set_ | apply keep_drewN | apply keep_drew | apply keep_alloc) | exact HK.out)⟩, ⟨by repeat (first | (with_reducible first | exact HB.out | apply below_alloc | apply pw_below_drewN | apply below_drew1 | refine below_set ?_ (IsS145.ge HI0.out)) | exact HB.out)⟩⟩
  case round =>
    clear H'
    try clear c1
    try clear p2
    obtain ⟨x5_1, x7_1, x1001_1, x1002_1, rfl, rfl, HA, HK1, HI0, HK, HB⟩ := hrel
    cases gk with
    | zero => exact absurd HA.out (by simp [dryrotref11_in_take.l0])
    | succ k1 =>
      have H := HA.out
      clear HA
      simp only [dryrotref11_in_take.l0] at H
      by_cases c3 : x7_1 < a1
      · rw [if_pos c3] at H
        have c3b0 : decide (x7_1 < a1) = true := decide_eq_true c3
        clear c3
        by_cases c4 : x1001_1 ≥ (wrap64 (8 * (s0_0.length : Int)))
        · rw [if_pos c4] at H
          have c4b0 : decide ((wrap64 (8 * (s0_0.length : Int))) ≤ x1001_1) = true := decide_eq_true c4
          clear c4
          simp only [Option.some.injEq, Prod.mk.injEq] at H
          obtain ⟨rfl, rfl, rfl⟩ := H
          obtain ⟨ASz5_0, cSz5_0, HGz5, hgz5, HSz5_0⟩ := HI0.out
          have hcz5_0 := cellS145_0 HGz5
          have hcz5_1 := cellS145_1 HGz5
          have hcz5_2 := cellS145_2 HGz5
          have hfz5_1 := blk_frozen HGz5 1
          have hfz5_2 := blk_frozen HGz5 2
          clear HGz5 hgz5
          go_wp2
          repeat (go_quiet (fail); try go_wp2)
          go_ret
          exact ⟨by first | rfl | (simp [errW_none, errW_some] <;> rfl) | (simp [*, errW_none, errW_some] <;> rfl), by repeat (first | (with_reducible first | exact HI0.out | apply IsS145.alloc | apply IsS145.drewN | apply IsS145.drew | apply IsS145.set_1 | apply IsS145.set_2) | exact HI0.out), by repeat (first | (with_reducible first | exact HB.out | apply below_alloc | apply pw_below_drewN | apply below_drew1 | refine below_set ?_ (IsS145.ge HI0.out)) | exact HB.out), by repeat (first | (with_reducible first | exact HK.out | apply KeepBut.set_ | apply keep_drewN | apply keep_drew | apply keep_alloc) | exact HK.out)⟩
        · rw [if_neg c4] at H
          have c4b0 : decide ((wrap64 (8 * (s0_0.length : Int))) ≤ x1001_1) = false := decide_eq_false c4
          clear c4
          obtain ⟨ji6, hji6⟩ : ∃ j_ : Int, (wrap64 (Int.tdiv x1001_1 8)) = j_ := ⟨_, rfl⟩
          replace H : (if 0 ≤ (ji6) then (if (ji6) < (s0_0.length : Int) then (if 0 ≤ (wrap64 (7 - (Int.tmod x1001_1 8))) then (dryrotref11_in_take.l0 k1 (IntKind.u64.wrap ((IntKind.u64.wrap (x5_1 * 2)) + (IntKind.u64.wrap (Go.bits .and .u8 (shr .u8 (rd s0_0 (ji6)) (wrap64 (7 - (Int.tmod x1001_1 8)))) 1)))) a1 (wrap64 (x7_1 + 1)) s0_0 (wrap64 (x1001_1 + 1)) x1002_1) else (none)) else (none)) else (none)) = some (r1, r2, r3) := by first | (rw [hji6] at H; exact H) | (simp only [hji6] at H ⊢; exact H)
          have hji6w : (IntKind.i64.wrap (Int.tdiv x1001_1 8)) = ji6 := (i64_w _).trans hji6
          by_cases c7 : 0 ≤ (ji6)
          · rw [if_pos c7] at H
            have c7b0 : decide (0 ≤ (ji6)) = true := decide_eq_true c7
            clear c7
            by_cases c8 : (ji6) < (s0_0.length : Int)
            · rw [if_pos c8] at H
              have c8b0 : decide ((ji6) < (s0_0.length : Int)) = true := decide_eq_true c8
              clear c8
              obtain ⟨ji9, hji9⟩ : ∃ j_ : Int, (wrap64 (7 - (Int.tmod x1001_1 8))) = j_ := ⟨_, rfl⟩
              replace H : (if 0 ≤ (ji9) then (dryrotref11_in_take.l0 k1 (IntKind.u64.wrap ((IntKind.u64.wrap (x5_1 * 2)) + (IntKind.u64.wrap (Go.bits .and .u8 (shr .u8 (rd s0_0 (ji6)) (ji9)) 1)))) a1 (wrap64 (x7_1 + 1)) s0_0 (wrap64 (x1001_1 + 1)) x1002_1) else (none)) = some (r1, r2, r3) := by first | (rw [hji9] at H; exact H) | (simp only [hji9] at H ⊢; exact H)
              have hji9w : (IntKind.i64.wrap (7 - (Int.tmod x1001_1 8))) = ji9 := (i64_w _).trans hji9
              by_cases c10 : 0 ≤ (ji9)
              · rw [if_pos c10] at H
                have c10b0 := eq_true c10
                have c10b1 : decide (0 ≤ (ji9)) = true := decide_eq_true c10
                clear c10
                obtain ⟨ji11, hji11⟩ : ∃ j_ : Int, (shr .u8 (rd s0_0 (ji6)) (ji9)) = j_ := ⟨_, rfl⟩
                replace H : (dryrotref11_in_take.l0 k1 (IntKind.u64.wrap ((IntKind.u64.wrap (x5_1 * 2)) + (IntKind.u64.wrap (Go.bits .and .u8 (ji11) 1)))) a1 (wrap64 (x7_1 + 1)) s0_0 (wrap64 (x1001_1 + 1)) x1002_1) = some (r1, r2, r3) := by first | (rw [hji11] at H; exact H) | (simp only [hji11] at H ⊢; exact H)
                have hji11_ : ((rd s0_0 (ji6)) / 2 ^ min (ji9).toNat 8) = ji11 := hji11
                have hji11z : (ji9) ≤ 8 → ((rd s0_0 (ji6)) / 2 ^ (ji9).toNat) = ji11 := shr_small hji11
                have H' := Aside0.mk H
                clear H
                obtain ⟨ASz12_0, cSz12_0, HGz12, hgz12, HSz12_0⟩ := HI0.out
                have hcz12_0 := cellS145_0 HGz12
                have hcz12_1 := cellS145_1 HGz12
                have hcz12_2 := cellS145_2 HGz12
                have hfz12_1 := blk_frozen HGz12 1
                have hfz12_2 := blk_frozen HGz12 2
                clear HGz12 hgz12
                have p275 : 0 ≤ ((ji6) : Int) := of_decide_eq_true (by first | (with_reducible assumption) | assumption)
                have q275 : (ji6) < (s0_0.length : Int) := of_decide_eq_true (by first | (with_reducible assumption) | assumption)
                obtain ⟨ad275, e275, hx275_0⟩ := Kd.at_int HSz12_0 (ji6) p275 q275
                cases e275
                replace hx275_0 := pw_cell_below HB.out hx275_0
                replace p275 := eq_true p275
                replace q275 := eq_true q275
                go_wp2
                repeat (go_quiet (fail); try go_wp2)
                go_roundg k1
                case measure => have := HK1.out; omega
                case rel => exact ⟨(IntKind.u64.wrap ((IntKind.u64.wrap (x5_1 * 2)) + (IntKind.u64.wrap (Go.bits .and .u8 (ji11) 1)))), (wrap64 (x7_1 + 1)), (wrap64 (x1001_1 + 1)), (x1002_1), (by first | rfl | (simp; done) | (simp only [← hji11] <;> (first | rfl | simp)) | (simp [*]; done)), (by first | rfl | (simp; done) | (simp [*]; done)), H', ⟨by have := HK1.out; omega⟩, ⟨by repeat (first | (with_reducible first | exact HI0.out | apply IsS145.alloc | apply IsS145.drewN | apply IsS145.drew | apply IsS145.set_1 | apply IsS145.set_2) | exact HI0.out)⟩, ⟨by repeat (first | (with_reducible first | exact HK.out | apply KeepBut.set_ | apply keep_drewN | apply keep_drew | apply keep_alloc) | exact HK.out)⟩, ⟨by repeat (first | (with_reducible first | exact HB.out | apply below_alloc | apply pw_below_drewN | apply below_drew1 | refine below_set ?_ (IsS145.ge HI0.out)) | exact HB.out)⟩⟩
              · rw [if_neg c10] at H
                exact absurd H (by simp)
            · rw [if_neg c8] at H
              exact absurd H (by simp)
          · rw [if_neg c7] at H
            exact absurd H (by simp)
      · rw [if_neg c3] at H
        have c3b0 : decide (x7_1 < a1) = false := decide_eq_false c3
        clear c3
        simp only [Option.some.injEq, Prod.mk.injEq] at H
        obtain ⟨rfl, rfl, rfl⟩ := H
        go_wp2
        repeat (go_quiet (fail); try go_wp2)
        go_ret
        exact ⟨by first | rfl | (simp [errW_none, errW_some] <;> rfl) | (simp [*, errW_none, errW_some] <;> rfl), by repeat (first | (with_reducible first | exact HI0.out | apply IsS145.alloc | apply IsS145.drewN | apply IsS145.drew | apply IsS145.set_1 | apply IsS145.set_2) | exact HI0.out), by repeat (first | (with_reducible first | exact HB.out | apply below_alloc | apply pw_below_drewN | apply below_drew1 | refine below_set ?_ (IsS145.ge HI0.out)) | exact HB.out), by repeat (first | (with_reducible first | exact HK.out | apply KeepBut.set_ | apply keep_drewN | apply keep_drew | apply keep_alloc) | exact HK.out)⟩
end Go.Proofs.YtbgmnmjokdfmlaaDoor.PA
namespace Go.Proofs.YtbgmnmjokdfmlaaDoor.PA
open Go.RowKit Go.Proofs.YtbgmnmjokdfmlaaDoorW.PrintWords Go.Proofs.YtbgmnmjokdfmlaaDoorW.PrintLast Go.Proofs.YtbgmnmjokdfmlaaDoorW.PrintMore
attribute [local go_sem] max2_int min2_int max_two min_two max_three min_three max_four min_four   -- for this text's walks alone
set_option linter.unusedVariables false
set_option linter.unusedSimpArgs false
def dryrotref11_in_takeInt.l0 : Nat → Int → List Int → Int → Bool → Option (Int × Int × Bool)
  | 0, _, _, _, _ => none
  | k + 1, x3, x1000, x1001, x1002 => if x3 < 4 then ((dryrotref11_in_take.f k x1000 x1001 x1002 1).bind fun bt276 => (if bt276.1 = 1 then (dryrotref11_in_takeInt.l0 k (wrap64 (x3 + 1)) x1000 bt276.2.1 bt276.2.2) else ((some (([0, 7, 12, 32, 64] : List Int) : List Int)).bind fun y279 => (if 0 ≤ x3 then (if x3 < (y279.length : Int) then ((dryrotref11_in_take.f k x1000 bt276.2.1 bt276.2.2 (rd y279 x3)).bind fun bt283 => (if (rd y279 x3) > 0 then (if (rd y279 x3) < 64 then (if 0 ≤ (wrap64 ((rd y279 x3) - 1)) then (if (wrap64 (bt283.1)) ≥ (shl .i64 1 (wrap64 ((rd y279 x3) - 1))) then (if 0 ≤ (rd y279 x3) then (some (wrap64 ((wrap64 (bt283.1)) - (shl .i64 1 (rd y279 x3))), bt283.2.1, bt283.2.2)) else (none)) else (some (wrap64 (bt283.1), bt283.2.1, bt283.2.2))) else (none)) else (some (wrap64 (bt283.1), bt283.2.1, bt283.2.2))) else (some (wrap64 (bt283.1), bt283.2.1, bt283.2.2)))) else (none)) else (none))))) else ((some (([0, 7, 12, 32, 64] : List Int) : List Int)).bind fun y286 => (if 0 ≤ x3 then (if x3 < (y286.length : Int) then ((dryrotref11_in_take.f k x1000 x1001 x1002 (rd y286 x3)).bind fun bt290 => (if (rd y286 x3) > 0 then (if (rd y286 x3) < 64 then (if 0 ≤ (wrap64 ((rd y286 x3) - 1)) then (if (wrap64 (bt290.1)) ≥ (shl .i64 1 (wrap64 ((rd y286 x3) - 1))) then (if 0 ≤ (rd y286 x3) then (some (wrap64 ((wrap64 (bt290.1)) - (shl .i64 1 (rd y286 x3))), bt290.2.1, bt290.2.2)) else (none)) else (some (wrap64 (bt290.1), bt290.2.1, bt290.2.2))) else (none)) else (some (wrap64 (bt290.1), bt290.2.1, bt290.2.2))) else (some (wrap64 (bt290.1), bt290.2.1, bt290.2.2)))) else (none)) else (none)))
def dryrotref11_in_takeInt.f (k : Nat) (s0_0 : List Int) (s0_1 : Int) (s0_2 : Bool) : Option (Int × Int × Bool) := dryrotref11_in_takeInt.l0 k 0 s0_0 s0_1 s0_2
theorem dryrotref11_in_takeInt.mono_l : ∀ k, (∀ y0 y1 y2 y3, LeO (dryrotref11_in_takeInt.l0 k y0 y1 y2 y3) (dryrotref11_in_takeInt.l0 (k + 1) y0 y1 y2 y3))
  | 0 => fun _ _ _ _ r h => by simp [dryrotref11_in_takeInt.l0] at h
  | k + 1 => by
    have ih0 := dryrotref11_in_takeInt.mono_l k
    · intro y0 y1 y2 y3
      unfold dryrotref11_in_takeInt.l0
      repeat' first
      | (with_reducible exact ih0 _ _ _ _)
      | (with_reducible exact dryrotref11_in_take.mono _ _ _ _ _)
      | (with_reducible exact LeO.refl _)
      | (with_reducible exact LeO.none _)
      | (with_reducible refine LeO.ite ?_ ?_)
      | (with_reducible refine LeO.bind ?_ (fun _ => ?_))
      | exact ih0 _ _ _ _
      | exact dryrotref11_in_take.mono _ _ _ _ _
      | exact LeO.none _
      | refine LeO.ite ?_ ?_
      | refine LeO.bind ?_ (fun _ => ?_)
theorem dryrotref11_in_takeInt.mono : ∀ a0 a1 a2 k, LeO (dryrotref11_in_takeInt.f k a0 a1 a2) (dryrotref11_in_takeInt.f (k + 1) a0 a1 a2) := by
  intro a0 a1 a2 k
  have ih0 := dryrotref11_in_takeInt.mono_l k
  unfold dryrotref11_in_takeInt.f
  repeat' first
      | (with_reducible exact ih0 _ _ _ _)
      | (with_reducible exact dryrotref11_in_take.mono _ _ _ _ _)
      | (with_reducible exact LeO.refl _)
      | (with_reducible exact LeO.none _)
      | (with_reducible refine LeO.ite ?_ ?_)
      | (with_reducible refine LeO.bind ?_ (fun _ => ?_))
      | exact ih0 _ _ _ _
      | exact dryrotref11_in_take.mono _ _ _ _ _
      | exact LeO.none _
      | refine LeO.ite ?_ ?_
      | refine LeO.bind ?_ (fun _ => ?_)
set_option maxHeartbeats 8000000 in
set_option maxRecDepth 100000 in
theorem dryrotref11_in_takeInt.calls (k : Nat) (g : Nat) (s0_0 : List Int) (s0_1 : Int) (s0_2 : Bool) (r1 : Int) (r2 : Int) (r3 : Bool) (w0 w : World) (hI : IsS145 w0 w g s0_0 s0_1 s0_2) (hB : Below w0.heap.size w0 w) (h : dryrotref11_in_takeInt.f k s0_0 s0_1 s0_2 = some (r1, r2, r3)) :
    Calls Tryd.prog 106 #[.pointer (some ⟨g, 0, none⟩)] w fun e w' => e = .returned (.int .i64 r1) ∧ IsS145 w0 w' g s0_0 r2 r3 ∧ Below w0.heap.size w0 w' ∧ KeepBut w w' g none := by
  have HI0 := Aside0.mk hI
  have HK := Aside0.mk (KeepBut.refl w g none)
  have HL := Aside0.mk hB.size
  clear hI
  have HW0 := Aside0.mk hB.size
  have HB := Aside0.mk hB
  clear hB
  have H : (dryrotref11_in_takeInt.l0 k 0 s0_0 s0_1 s0_2) = some (r1, r2, r3) := h
  clear h
  have H' := Aside0.mk H
  clear H
  go_enter Tryd.func106, Tryd.ntmps106
  go_wp2
  go_loopg [3] k (fun kq v3 w' => ∃ (x3_1 : Int) (x1001_1 : Int) (x1002_1 : Bool), v3 = .int .i64 x3_1 ∧ Aside0 (dryrotref11_in_takeInt.l0 kq x3_1 s0_0 x1001_1 x1002_1 = some (r1, r2, r3)) ∧ Aside0 (kq ≤ k) ∧ Aside0 (IsS145 w0 w' g s0_0 x1001_1 x1002_1) ∧ Aside0 (KeepBut w w' g none) ∧ Aside0 (Below w0.heap.size w0 w'))
  case atStart => exact ⟨(0), (s0_1), (s0_2), (by first | rfl | (simp; done) | (simp [*]; done)), H', ⟨Nat.le_refl _⟩, ⟨by repeat (first | (with_reducible first | exact HI0.out | apply IsS145.alloc | apply IsS145.drewN | apply IsS145.drew | apply IsS145.set_1 | apply IsS145.set_2) | exact HI0.out)⟩, ⟨by repeat (first | (with_reducible first | exact HK.out | apply KeepBut.set_ | apply keep_drewN | apply keep_drew | apply keep_alloc) | exact HK.out)⟩, ⟨by repeat (first | (with_reducible first | exact HB.out | apply below_alloc | apply pw_below_drewN | apply below_drew1 | refine below_set ?_ (IsS145.ge HI0.out)) | exact HB.out)⟩⟩
  case round =>
    clear H'
    try clear c1
    obtain ⟨x3_1, x1001_1, x1002_1, rfl, HA, HK1, HI0, HK, HB⟩ := hrel
    cases gk with
    | zero => exact absurd HA.out (by simp [dryrotref11_in_takeInt.l0])
    | succ k1 =>
      have H := HA.out
      clear HA
      simp only [dryrotref11_in_takeInt.l0] at H
      by_cases c2 : x3_1 < 4
      · rw [if_pos c2] at H
        have c2b0 : decide (x3_1 < 4) = true := decide_eq_true c2
        clear c2
        replace H := Option.bind_eq_some_iff.mp H
        obtain ⟨⟨t276, t277, t278⟩, A30, H⟩ := H
        replace H : (if t276 = 1 then (dryrotref11_in_takeInt.l0 k1 (wrap64 (x3_1 + 1)) s0_0 t277 t278) else ((some (([0, 7, 12, 32, 64] : List Int) : List Int)).bind fun y279 => (if 0 ≤ x3_1 then (if x3_1 < (y279.length : Int) then ((dryrotref11_in_take.f k1 s0_0 t277 t278 (rd y279 x3_1)).bind fun bt283 => (if (rd y279 x3_1) > 0 then (if (rd y279 x3_1) < 64 then (if 0 ≤ (wrap64 ((rd y279 x3_1) - 1)) then (if (wrap64 (bt283.1)) ≥ (shl .i64 1 (wrap64 ((rd y279 x3_1) - 1))) then (if 0 ≤ (rd y279 x3_1) then (some (wrap64 ((wrap64 (bt283.1)) - (shl .i64 1 (rd y279 x3_1))), bt283.2.1, bt283.2.2)) else (none)) else (some (wrap64 (bt283.1), bt283.2.1, bt283.2.2))) else (none)) else (some (wrap64 (bt283.1), bt283.2.1, bt283.2.2))) else (some (wrap64 (bt283.1), bt283.2.1, bt283.2.2)))) else (none)) else (none)))) = some (r1, r2, r3) := H
        have A3 := Aside0.mk A30
        clear A30
        by_cases c4 : t276 = 1
        · rw [if_pos c4] at H
          have c4b0 : (t276 == 1) = true := beq_iff_eq.mpr c4
          have c4b1 : (t276 != 1) = false := bne_eq_false_iff_eq.mpr c4
          clear c4
          have H' := Aside0.mk H
          clear H
          go_wp2_with (first | (go_at_call 105; (with_reducible refine (dryrotref11_in_take.calls k1 g s0_0 x1001_1 x1002_1 1 t276 t277 t278 w0 _ ?side1 ?side2 A3.out).mono ?_); (case side1 => repeat (first | (with_reducible first | exact HI0.out | apply IsS145.alloc | apply IsS145.drewN | apply IsS145.drew | apply IsS145.set_1 | apply IsS145.set_2) | exact HI0.out)); (case side2 => repeat (first | (with_reducible first | exact HB.out | apply below_alloc | apply pw_below_drewN | apply below_drew1 | refine below_set ?_ (IsS145.ge HI0.out)) | exact HB.out)); rintro e w5 ⟨rfl, hi, hb, hk⟩; have n0_ := Aside0.mk (KeepBut.trans (by repeat (first | (with_reducible first | exact HK.out | apply KeepBut.set_ | apply keep_drewN | apply keep_drew | apply keep_alloc) | exact HK.out)) hk (.inl rfl)); have n1_ := Aside0.mk (hb); have n2_ := Aside0.mk (hi); clear HK; clear HB; clear HI0; have HK := n0_; have HB := n1_; have HI0 := n2_; clear n0_ n1_ n2_; (try clear hb); (try clear hb2); (try clear hk); (try clear hi)))
          go_roundg k1
          case measure => have := HK1.out; omega
          case rel => exact ⟨(wrap64 (x3_1 + 1)), (t277), (t278), (by first | rfl | (simp; done) | (simp [*]; done)), H', ⟨by have := HK1.out; omega⟩, ⟨by repeat (first | (with_reducible first | exact HI0.out | apply IsS145.alloc | apply IsS145.drewN | apply IsS145.drew | apply IsS145.set_1 | apply IsS145.set_2) | exact HI0.out)⟩, ⟨by repeat (first | (with_reducible first | exact HK.out | apply KeepBut.set_ | apply keep_drewN | apply keep_drew | apply keep_alloc) | exact HK.out)⟩, ⟨by repeat (first | (with_reducible first | exact HB.out | apply below_alloc | apply pw_below_drewN | apply below_drew1 | refine below_set ?_ (IsS145.ge HI0.out)) | exact HB.out)⟩⟩
        · rw [if_neg c4] at H
          have c4b0 : (t276 == 1) = false := beq_eq_false_iff_ne.mpr c4
          have c4b1 : (t276 != 1) = true := bne_iff_ne.mpr c4
          obtain ⟨y279, hy279⟩ : ∃ y_ : List Int, y_ = (([0, 7, 12, 32, 64] : List Int)) := ⟨_, rfl⟩
          replace H : (if 0 ≤ x3_1 then (if x3_1 < (y279.length : Int) then ((dryrotref11_in_take.f k1 s0_0 t277 t278 (rd y279 x3_1)).bind fun bt283 => (if (rd y279 x3_1) > 0 then (if (rd y279 x3_1) < 64 then (if 0 ≤ (wrap64 ((rd y279 x3_1) - 1)) then (if (wrap64 (bt283.1)) ≥ (shl .i64 1 (wrap64 ((rd y279 x3_1) - 1))) then (if 0 ≤ (rd y279 x3_1) then (some (wrap64 ((wrap64 (bt283.1)) - (shl .i64 1 (rd y279 x3_1))), bt283.2.1, bt283.2.2)) else (none)) else (some (wrap64 (bt283.1), bt283.2.1, bt283.2.2))) else (none)) else (some (wrap64 (bt283.1), bt283.2.1, bt283.2.2))) else (some (wrap64 (bt283.1), bt283.2.1, bt283.2.2)))) else (none)) else (none)) = some (r1, r2, r3) := by first | (rw [hy279]; with_reducible exact H) | (have H2_ := (Option.bind_some _ _).symm.trans H; rw [hy279]; with_reducible exact H2_) | (have H2_ := (Option.bind_some _ _).symm.trans H; with_reducible exact H2_) | with_reducible exact H | (rw [hy279]; exact H) | exact H
          have Ny279 := Aside0.mk hy279
          clear hy279
          by_cases c6 : 0 ≤ x3_1
          · rw [if_pos c6] at H
            have c6b0 : decide (0 ≤ x3_1) = true := decide_eq_true c6
            clear c6
            by_cases c7 : x3_1 < (y279.length : Int)
            · rw [if_pos c7] at H
              have c7b0 : decide (x3_1 < (y279.length : Int)) = true := decide_eq_true c7
              clear c7
              replace H := Option.bind_eq_some_iff.mp H
              obtain ⟨⟨t283, t284, t285⟩, A80, H⟩ := H
              replace H : (if (rd y279 x3_1) > 0 then (if (rd y279 x3_1) < 64 then (if 0 ≤ (wrap64 ((rd y279 x3_1) - 1)) then (if (wrap64 (t283)) ≥ (shl .i64 1 (wrap64 ((rd y279 x3_1) - 1))) then (if 0 ≤ (rd y279 x3_1) then (some (wrap64 ((wrap64 (t283)) - (shl .i64 1 (rd y279 x3_1))), t284, t285)) else (none)) else (some (wrap64 (t283), t284, t285))) else (none)) else (some (wrap64 (t283), t284, t285))) else (some (wrap64 (t283), t284, t285))) = some (r1, r2, r3) := H
              have A8 := Aside0.mk A80
              clear A80
              by_cases c9 : (rd y279 x3_1) > 0
              · rw [if_pos c9] at H
                have c9b0 : decide (0 < (rd y279 x3_1)) = true := decide_eq_true c9
                clear c9
                by_cases c10 : (rd y279 x3_1) < 64
                · rw [if_pos c10] at H
                  have c10b0 : decide ((rd y279 x3_1) < 64) = true := decide_eq_true c10
                  clear c10
                  obtain ⟨ji11, hji11⟩ : ∃ j_ : Int, (wrap64 ((rd y279 x3_1) - 1)) = j_ := ⟨_, rfl⟩
                  replace H : (if 0 ≤ (ji11) then (if (wrap64 (t283)) ≥ (shl .i64 1 (ji11)) then (if 0 ≤ (rd y279 x3_1) then (some (wrap64 ((wrap64 (t283)) - (shl .i64 1 (rd y279 x3_1))), t284, t285)) else (none)) else (some (wrap64 (t283), t284, t285))) else (none)) = some (r1, r2, r3) := by first | (rw [hji11] at H; exact H) | (simp only [hji11] at H ⊢; exact H)
                  (try rw [hji11] at A3)
                  (try rw [hji11] at A8)
                  have hji11w : (IntKind.i64.wrap ((rd y279 x3_1) - 1)) = ji11 := (i64_w _).trans hji11
                  by_cases c12 : 0 ≤ (ji11)
                  · rw [if_pos c12] at H
                    have c12b0 := eq_true c12
                    have c12b1 : decide (0 ≤ (ji11)) = true := decide_eq_true c12
                    clear c12
                    obtain ⟨ji13, hji13⟩ : ∃ j_ : Int, (shl .i64 1 (ji11)) = j_ := ⟨_, rfl⟩
                    replace H : (if (wrap64 (t283)) ≥ (ji13) then (if 0 ≤ (rd y279 x3_1) then (some (wrap64 ((wrap64 (t283)) - (shl .i64 1 (rd y279 x3_1))), t284, t285)) else (none)) else (some (wrap64 (t283), t284, t285))) = some (r1, r2, r3) := by first | (rw [hji13] at H; exact H) | (simp only [hji13] at H ⊢; exact H)
                    (try rw [hji13] at A3)
                    (try rw [hji13] at A8)
                    have hji13_ : (IntKind.i64.wrap (1 * 2 ^ min (ji11).toNat 64)) = ji13 := hji13
                    have hji13z : (ji11) ≤ 64 → (IntKind.i64.wrap (1 * 2 ^ (ji11).toNat)) = ji13 := shl_small hji13
                    have hji13u : (IntKind.i64.wrap (2 ^ min (ji11).toNat 64)) = ji13 := by have h_ := hji13_; rw [Int.one_mul] at h_; exact h_
                    have hji13v : (ji11) ≤ 64 → (IntKind.i64.wrap (2 ^ (ji11).toNat)) = ji13 := fun hle_ => by have h_ := hji13z hle_; rw [Int.one_mul] at h_; exact h_
                    have hji13y : (wrap64 (1 * 2 ^ min (ji11).toNat 64)) = ji13 := (i64_w _).symm.trans hji13_
                    have hji13x : (ji11) ≤ 64 → (wrap64 (1 * 2 ^ (ji11).toNat)) = ji13 := fun h_ => (i64_w _).symm.trans (hji13z h_)
                    by_cases c14 : (wrap64 (t283)) ≥ (ji13)
                    · rw [if_pos c14] at H
                      have c14b0 : decide ((ji13) ≤ (wrap64 (t283))) = true := decide_eq_true c14
                      clear c14
                      by_cases c15 : 0 ≤ (rd y279 x3_1)
                      · rw [if_pos c15] at H
                        have c15b0 := eq_true c15
                        have c15b1 : decide (0 ≤ (rd y279 x3_1)) = true := decide_eq_true c15
                        clear c15
                        obtain ⟨ji16, hji16⟩ : ∃ j_ : Int, (shl .i64 1 (rd y279 x3_1)) = j_ := ⟨_, rfl⟩
                        replace H : (some (wrap64 ((wrap64 (t283)) - (ji16)), t284, t285)) = some (r1, r2, r3) := by first | (rw [hji16] at H; exact H) | (simp only [hji16] at H ⊢; exact H)
                        (try rw [hji16] at A3)
                        (try rw [hji16] at A8)
                        have hji16_ : (IntKind.i64.wrap (1 * 2 ^ min (rd y279 x3_1).toNat 64)) = ji16 := hji16
                        have hji16z : (rd y279 x3_1) ≤ 64 → (IntKind.i64.wrap (1 * 2 ^ (rd y279 x3_1).toNat)) = ji16 := shl_small hji16
                        have hji16u : (IntKind.i64.wrap (2 ^ min (rd y279 x3_1).toNat 64)) = ji16 := by have h_ := hji16_; rw [Int.one_mul] at h_; exact h_
                        have hji16v : (rd y279 x3_1) ≤ 64 → (IntKind.i64.wrap (2 ^ (rd y279 x3_1).toNat)) = ji16 := fun hle_ => by have h_ := hji16z hle_; rw [Int.one_mul] at h_; exact h_
                        have hji16y : (wrap64 (1 * 2 ^ min (rd y279 x3_1).toNat 64)) = ji16 := (i64_w _).symm.trans hji16_
                        have hji16x : (rd y279 x3_1) ≤ 64 → (wrap64 (1 * 2 ^ (rd y279 x3_1).toNat)) = ji16 := fun h_ => (i64_w _).symm.trans (hji16z h_)
                        simp only [Option.some.injEq, Prod.mk.injEq] at H
                        obtain ⟨rfl, rfl, rfl⟩ := H
                        go_wp2_with (first | (go_at_call 105; (with_reducible refine (dryrotref11_in_take.calls k1 g s0_0 x1001_1 x1002_1 1 t276 t277 t278 w0 _ ?side1 ?side2 A3.out).mono ?_); (case side1 => repeat (first | (with_reducible first | exact HI0.out | apply IsS145.alloc | apply IsS145.drewN | apply IsS145.drew | apply IsS145.set_1 | apply IsS145.set_2) | exact HI0.out)); (case side2 => repeat (first | (with_reducible first | exact HB.out | apply below_alloc | apply pw_below_drewN | apply below_drew1 | refine below_set ?_ (IsS145.ge HI0.out)) | exact HB.out)); rintro e w17 ⟨rfl, hi, hb, hk⟩; have n0_ := Aside0.mk (KeepBut.trans (by repeat (first | (with_reducible first | exact HK.out | apply KeepBut.set_ | apply keep_drewN | apply keep_drew | apply keep_alloc) | exact HK.out)) hk (.inl rfl)); have n1_ := Aside0.mk (hb); have n2_ := Aside0.mk (hi); clear HK; clear HB; clear HI0; have HK := n0_; have HB := n1_; have HI0 := n2_; clear n0_ n1_ n2_; (try clear hb); (try clear hb2); (try clear hk); (try clear hi)) | ((with_reducible refine gate_dst (N := 15) rfl ?_); refine Kd.R_lit (Kd.int .i64) _ 3 ?hg (N := 15) ?hd (xs := ([0, 7, 12, 32, 64] : List Int)) (inner := [.int .i64 0, .int .i64 7, .int .i64 12, .int .i64 32, .int .i64 64]) (ok := fun _ => True) (okp := fun _ => True) ?hr ?hp (fun _ hk => hk) trivial (Below.refl _ _) (Nat.le_refl _) (by simp) ?_; (case hd => rfl); (case hg => rfl); (case hr => first | (go_simp; done) | (go_simp; rfl)); (case hp => exact (Reps.one (show Kd.M (Kd.int .i64) _ _ _ 0 [.int .i64 0] from rfl) (Reps.one (show Kd.M (Kd.int .i64) _ _ _ 7 [.int .i64 7] from rfl) (Reps.one (show Kd.M (Kd.int .i64) _ _ _ 12 [.int .i64 12] from rfl) (Reps.one (show Kd.M (Kd.int .i64) _ _ _ 32 [.int .i64 32] from rfl) (Reps.one (show Kd.M (Kd.int .i64) _ _ _ 64 [.int .i64 64] from rfl) (Reps.none _ _))))))); intro v280 w18 ho19 hb hg_ hnew_; clear hg_ hnew_; (first | rw [← Ny279.out] at ho19 | (simp only [Int.reduceToNat] at ho19; rw [← Ny279.out] at ho19)); have n0_ := Aside0.mk (Kd.R_lower ho19 (keep_size (w := w) (g := g) (row := none) (by repeat (first | (with_reducible first | exact HK.out | apply KeepBut.set_ | apply keep_drewN | apply keep_drew | apply keep_alloc) | exact HK.out)))); have n1_ := Aside0.mk (IsS145.below (by repeat (first | (with_reducible first | exact HI0.out | apply IsS145.alloc | apply IsS145.drewN | apply IsS145.drew | apply IsS145.set_1 | apply IsS145.set_2) | exact HI0.out)) hb); have n2_ := Aside0.mk (KeepBut.trans (by repeat (first | (with_reducible first | exact HK.out | apply KeepBut.set_ | apply keep_drewN | apply keep_drew | apply keep_alloc) | exact HK.out)) (KeepBut.of_below hb g none) (.inl rfl)); have n3_ := Aside0.mk (below_step (by repeat (first | (with_reducible first | exact HB.out | apply below_alloc | apply pw_below_drewN | apply below_drew1 | refine below_set ?_ (IsS145.ge HI0.out)) | exact HB.out)) hb); clear HI0; clear HK; clear HB; have HO281 := n0_; have HI0 := n1_; have HK := n2_; have HB := n3_; clear n0_ n1_ n2_ n3_; clear hb ho19; obtain ⟨Ao20, co20, eo20⟩ := Kd.R_slice HO281.out; subst eo20; have p282 : 0 ≤ (x3_1 : Int) := of_decide_eq_true (by first | (with_reducible assumption) | assumption); have q282 : x3_1 < (y279.length : Int) := of_decide_eq_true (by first | (with_reducible assumption) | assumption); obtain ⟨ad282, e282, hx282_0⟩ := Kd.at_int (Kd.R_reads' HO281.out).2.2 x3_1 p282 q282; cases e282; replace p282 := eq_true p282; replace q282 := eq_true q282) | ((with_reducible refine gate_callee (f := 105) rfl ?_); refine goesL_ (some 21) rfl rfl Tryd.func105 (by kernel_rfl) rfl #[.pointer (some ⟨g, 0, none⟩), .int .i64 (rd y279 x3_1)] rfl (by (try simp only [List.map_toArray, List.map_cons, List.map_nil]); first | done | rfl | (simp only [List.length_drop, List.length_take]; rfl)) ?_; (with_reducible refine (dryrotref11_in_take.calls k1 g s0_0 t277 t278 (rd y279 x3_1) t283 t284 t285 w0 _ ?side1 ?side2 A8.out).mono ?_); (case side1 => repeat (first | (with_reducible first | exact HI0.out | apply IsS145.alloc | apply IsS145.drewN | apply IsS145.drew | apply IsS145.set_1 | apply IsS145.set_2) | exact HI0.out)); (case side2 => repeat (first | (with_reducible first | exact HB.out | apply below_alloc | apply pw_below_drewN | apply below_drew1 | refine below_set ?_ (IsS145.ge HI0.out)) | exact HB.out)); rintro e w21 ⟨rfl, hi, hb, hk⟩; refine ⟨_, rfl, ?_⟩; have n0_ := Aside0.mk (Kd.R_mono (Kd.R_keep (IsS145.apart (show IsS145 w0 _ g s0_0 t277 t278 from by repeat (first | (with_reducible first | exact HI0.out | apply IsS145.alloc | apply IsS145.drewN | apply IsS145.drew | apply IsS145.set_1 | apply IsS145.set_2) | exact HI0.out)) (by (with_reducible repeat (first | apply Kd.R_alloc | apply Kd.R_drewN | apply Kd.R_drew)); exact HO281.out) (by decide)) hk (fun _ h => h.2)) (fun _ h => h.1)); have n1_ := Aside0.mk (KeepBut.trans (by repeat (first | (with_reducible first | exact HK.out | apply KeepBut.set_ | apply keep_drewN | apply keep_drew | apply keep_alloc) | exact HK.out)) hk (.inl rfl)); have n2_ := Aside0.mk (hb); have n3_ := Aside0.mk (hi); clear HO281; clear HK; clear HB; clear HI0; have HO281 := n0_; have HK := n1_; have HB := n2_; have HI0 := n3_; clear n0_ n1_ n2_ n3_; (try clear hb); (try clear hb2); (try clear hk); (try clear hi)))
                        go_ret
                        exact ⟨by first | rfl | (simp [errW_none, errW_some] <;> rfl) | (simp only [← hji11, ← hji13, ← hji16]; first | rfl | (simp [errW_none, errW_some] <;> rfl)) | (simp [*, errW_none, errW_some] <;> rfl), by repeat (first | (with_reducible first | exact HI0.out | apply IsS145.alloc | apply IsS145.drewN | apply IsS145.drew | apply IsS145.set_1 | apply IsS145.set_2) | exact HI0.out), by repeat (first | (with_reducible first | exact HB.out | apply below_alloc | apply pw_below_drewN | apply below_drew1 | refine below_set ?_ (IsS145.ge HI0.out)) | exact HB.out), by repeat (first | (with_reducible first | exact HK.out | apply KeepBut.set_ | apply keep_drewN | apply keep_drew | apply keep_alloc) | exact HK.out)⟩
                      · rw [if_neg c15] at H
                        exact absurd H (by simp)
                    · rw [if_neg c14] at H
                      have c14b0 : decide ((ji13) ≤ (wrap64 (t283))) = false := decide_eq_false c14
                      clear c14
                      simp only [Option.some.injEq, Prod.mk.injEq] at H
                      obtain ⟨rfl, rfl, rfl⟩ := H
                      go_wp2_with (first | (go_at_call 105; (with_reducible refine (dryrotref11_in_take.calls k1 g s0_0 x1001_1 x1002_1 1 t276 t277 t278 w0 _ ?side1 ?side2 A3.out).mono ?_); (case side1 => repeat (first | (with_reducible first | exact HI0.out | apply IsS145.alloc | apply IsS145.drewN | apply IsS145.drew | apply IsS145.set_1 | apply IsS145.set_2) | exact HI0.out)); (case side2 => repeat (first | (with_reducible first | exact HB.out | apply below_alloc | apply pw_below_drewN | apply below_drew1 | refine below_set ?_ (IsS145.ge HI0.out)) | exact HB.out)); rintro e w22 ⟨rfl, hi, hb, hk⟩; have n0_ := Aside0.mk (KeepBut.trans (by repeat (first | (with_reducible first | exact HK.out | apply KeepBut.set_ | apply keep_drewN | apply keep_drew | apply keep_alloc) | exact HK.out)) hk (.inl rfl)); have n1_ := Aside0.mk (hb); have n2_ := Aside0.mk (hi); clear HK; clear HB; clear HI0; have HK := n0_; have HB := n1_; have HI0 := n2_; clear n0_ n1_ n2_; (try clear hb); (try clear hb2); (try clear hk); (try clear hi)) | ((with_reducible refine gate_dst (N := 15) rfl ?_); refine Kd.R_lit (Kd.int .i64) _ 3 ?hg (N := 15) ?hd (xs := ([0, 7, 12, 32, 64] : List Int)) (inner := [.int .i64 0, .int .i64 7, .int .i64 12, .int .i64 32, .int .i64 64]) (ok := fun _ => True) (okp := fun _ => True) ?hr ?hp (fun _ hk => hk) trivial (Below.refl _ _) (Nat.le_refl _) (by simp) ?_; (case hd => rfl); (case hg => rfl); (case hr => first | (go_simp; done) | (go_simp; rfl)); (case hp => exact (Reps.one (show Kd.M (Kd.int .i64) _ _ _ 0 [.int .i64 0] from rfl) (Reps.one (show Kd.M (Kd.int .i64) _ _ _ 7 [.int .i64 7] from rfl) (Reps.one (show Kd.M (Kd.int .i64) _ _ _ 12 [.int .i64 12] from rfl) (Reps.one (show Kd.M (Kd.int .i64) _ _ _ 32 [.int .i64 32] from rfl) (Reps.one (show Kd.M (Kd.int .i64) _ _ _ 64 [.int .i64 64] from rfl) (Reps.none _ _))))))); intro v280 w23 ho24 hb hg_ hnew_; clear hg_ hnew_; (first | rw [← Ny279.out] at ho24 | (simp only [Int.reduceToNat] at ho24; rw [← Ny279.out] at ho24)); have n0_ := Aside0.mk (Kd.R_lower ho24 (keep_size (w := w) (g := g) (row := none) (by repeat (first | (with_reducible first | exact HK.out | apply KeepBut.set_ | apply keep_drewN | apply keep_drew | apply keep_alloc) | exact HK.out)))); have n1_ := Aside0.mk (IsS145.below (by repeat (first | (with_reducible first | exact HI0.out | apply IsS145.alloc | apply IsS145.drewN | apply IsS145.drew | apply IsS145.set_1 | apply IsS145.set_2) | exact HI0.out)) hb); have n2_ := Aside0.mk (KeepBut.trans (by repeat (first | (with_reducible first | exact HK.out | apply KeepBut.set_ | apply keep_drewN | apply keep_drew | apply keep_alloc) | exact HK.out)) (KeepBut.of_below hb g none) (.inl rfl)); have n3_ := Aside0.mk (below_step (by repeat (first | (with_reducible first | exact HB.out | apply below_alloc | apply pw_below_drewN | apply below_drew1 | refine below_set ?_ (IsS145.ge HI0.out)) | exact HB.out)) hb); clear HI0; clear HK; clear HB; have HO281 := n0_; have HI0 := n1_; have HK := n2_; have HB := n3_; clear n0_ n1_ n2_ n3_; clear hb ho24; obtain ⟨Ao25, co25, eo25⟩ := Kd.R_slice HO281.out; subst eo25; have p282 : 0 ≤ (x3_1 : Int) := of_decide_eq_true (by first | (with_reducible assumption) | assumption); have q282 : x3_1 < (y279.length : Int) := of_decide_eq_true (by first | (with_reducible assumption) | assumption); obtain ⟨ad282, e282, hx282_0⟩ := Kd.at_int (Kd.R_reads' HO281.out).2.2 x3_1 p282 q282; cases e282; replace p282 := eq_true p282; replace q282 := eq_true q282) | ((with_reducible refine gate_callee (f := 105) rfl ?_); refine goesL_ (some 21) rfl rfl Tryd.func105 (by kernel_rfl) rfl #[.pointer (some ⟨g, 0, none⟩), .int .i64 (rd y279 x3_1)] rfl (by (try simp only [List.map_toArray, List.map_cons, List.map_nil]); first | done | rfl | (simp only [List.length_drop, List.length_take]; rfl)) ?_; (with_reducible refine (dryrotref11_in_take.calls k1 g s0_0 t277 t278 (rd y279 x3_1) t283 t284 t285 w0 _ ?side1 ?side2 A8.out).mono ?_); (case side1 => repeat (first | (with_reducible first | exact HI0.out | apply IsS145.alloc | apply IsS145.drewN | apply IsS145.drew | apply IsS145.set_1 | apply IsS145.set_2) | exact HI0.out)); (case side2 => repeat (first | (with_reducible first | exact HB.out | apply below_alloc | apply pw_below_drewN | apply below_drew1 | refine below_set ?_ (IsS145.ge HI0.out)) | exact HB.out)); rintro e w26 ⟨rfl, hi, hb, hk⟩; refine ⟨_, rfl, ?_⟩; have n0_ := Aside0.mk (Kd.R_mono (Kd.R_keep (IsS145.apart (show IsS145 w0 _ g s0_0 t277 t278 from by repeat (first | (with_reducible first | exact HI0.out | apply IsS145.alloc | apply IsS145.drewN | apply IsS145.drew | apply IsS145.set_1 | apply IsS145.set_2) | exact HI0.out)) (by (with_reducible repeat (first | apply Kd.R_alloc | apply Kd.R_drewN | apply Kd.R_drew)); exact HO281.out) (by decide)) hk (fun _ h => h.2)) (fun _ h => h.1)); have n1_ := Aside0.mk (KeepBut.trans (by repeat (first | (with_reducible first | exact HK.out | apply KeepBut.set_ | apply keep_drewN | apply keep_drew | apply keep_alloc) | exact HK.out)) hk (.inl rfl)); have n2_ := Aside0.mk (hb); have n3_ := Aside0.mk (hi); clear HO281; clear HK; clear HB; clear HI0; have HO281 := n0_; have HK := n1_; have HB := n2_; have HI0 := n3_; clear n0_ n1_ n2_ n3_; (try clear hb); (try clear hb2); (try clear hk); (try clear hi)))
                      go_ret
                      exact ⟨by first | rfl | (simp [errW_none, errW_some] <;> rfl) | (simp only [← hji11, ← hji13]; first | rfl | (simp [errW_none, errW_some] <;> rfl)) | (simp [*, errW_none, errW_some] <;> rfl), by repeat (first | (with_reducible first | exact HI0.out | apply IsS145.alloc | apply IsS145.drewN | apply IsS145.drew | apply IsS145.set_1 | apply IsS145.set_2) | exact HI0.out), by repeat (first | (with_reducible first | exact HB.out | apply below_alloc | apply pw_below_drewN | apply below_drew1 | refine below_set ?_ (IsS145.ge HI0.out)) | exact HB.out), by repeat (first | (with_reducible first | exact HK.out | apply KeepBut.set_ | apply keep_drewN | apply keep_drew | apply keep_alloc) | exact HK.out)⟩
                  · rw [if_neg c12] at H
                    exact absurd H (by simp)
                · rw [if_neg c10] at H
                  have c10b0 : decide ((rd y279 x3_1) < 64) = false := decide_eq_false c10
                  clear c10
                  simp only [Option.some.injEq, Prod.mk.injEq] at H
                  obtain ⟨rfl, rfl, rfl⟩ := H
                  go_wp2_with (first | (go_at_call 105; (with_reducible refine (dryrotref11_in_take.calls k1 g s0_0 x1001_1 x1002_1 1 t276 t277 t278 w0 _ ?side1 ?side2 A3.out).mono ?_); (case side1 => repeat (first | (with_reducible first | exact HI0.out | apply IsS145.alloc | apply IsS145.drewN | apply IsS145.drew | apply IsS145.set_1 | apply IsS145.set_2) | exact HI0.out)); (case side2 => repeat (first | (with_reducible first | exact HB.out | apply below_alloc | apply pw_below_drewN | apply below_drew1 | refine below_set ?_ (IsS145.ge HI0.out)) | exact HB.out)); rintro e w27 ⟨rfl, hi, hb, hk⟩; have n0_ := Aside0.mk (KeepBut.trans (by repeat (first | (with_reducible first | exact HK.out | apply KeepBut.set_ | apply keep_drewN | apply keep_drew | apply keep_alloc) | exact HK.out)) hk (.inl rfl)); have n1_ := Aside0.mk (hb); have n2_ := Aside0.mk (hi); clear HK; clear HB; clear HI0; have HK := n0_; have HB := n1_; have HI0 := n2_; clear n0_ n1_ n2_; (try clear hb); (try clear hb2); (try clear hk); (try clear hi)) | ((with_reducible refine gate_dst (N := 15) rfl ?_); refine Kd.R_lit (Kd.int .i64) _ 3 ?hg (N := 15) ?hd (xs := ([0, 7, 12, 32, 64] : List Int)) (inner := [.int .i64 0, .int .i64 7, .int .i64 12, .int .i64 32, .int .i64 64]) (ok := fun _ => True) (okp := fun _ => True) ?hr ?hp (fun _ hk => hk) trivial (Below.refl _ _) (Nat.le_refl _) (by simp) ?_; (case hd => rfl); (case hg => rfl); (case hr => first | (go_simp; done) | (go_simp; rfl)); (case hp => exact (Reps.one (show Kd.M (Kd.int .i64) _ _ _ 0 [.int .i64 0] from rfl) (Reps.one (show Kd.M (Kd.int .i64) _ _ _ 7 [.int .i64 7] from rfl) (Reps.one (show Kd.M (Kd.int .i64) _ _ _ 12 [.int .i64 12] from rfl) (Reps.one (show Kd.M (Kd.int .i64) _ _ _ 32 [.int .i64 32] from rfl) (Reps.one (show Kd.M (Kd.int .i64) _ _ _ 64 [.int .i64 64] from rfl) (Reps.none _ _))))))); intro v280 w28 ho29 hb hg_ hnew_; clear hg_ hnew_; (first | rw [← Ny279.out] at ho29 | (simp only [Int.reduceToNat] at ho29; rw [← Ny279.out] at ho29)); have n0_ := Aside0.mk (Kd.R_lower ho29 (keep_size (w := w) (g := g) (row := none) (by repeat (first | (with_reducible first | exact HK.out | apply KeepBut.set_ | apply keep_drewN | apply keep_drew | apply keep_alloc) | exact HK.out)))); have n1_ := Aside0.mk (IsS145.below (by repeat (first | (with_reducible first | exact HI0.out | apply IsS145.alloc | apply IsS145.drewN | apply IsS145.drew | apply IsS145.set_1 | apply IsS145.set_2) | exact HI0.out)) hb); have n2_ := Aside0.mk (KeepBut.trans (by repeat (first | (with_reducible first | exact HK.out | apply KeepBut.set_ | apply keep_drewN | apply keep_drew | apply keep_alloc) | exact HK.out)) (KeepBut.of_below hb g none) (.inl rfl)); have n3_ := Aside0.mk (below_step (by repeat (first | (with_reducible first | exact HB.out | apply below_alloc | apply pw_below_drewN | apply below_drew1 | refine below_set ?_ (IsS145.ge HI0.out)) | exact HB.out)) hb); clear HI0; clear HK; clear HB; have HO281 := n0_; have HI0 := n1_; have HK := n2_; have HB := n3_; clear n0_ n1_ n2_ n3_; clear hb ho29; obtain ⟨Ao30, co30, eo30⟩ := Kd.R_slice HO281.out; subst eo30; have p282 : 0 ≤ (x3_1 : Int) := of_decide_eq_true (by first | (with_reducible assumption) | assumption); have q282 : x3_1 < (y279.length : Int) := of_decide_eq_true (by first | (with_reducible assumption) | assumption); obtain ⟨ad282, e282, hx282_0⟩ := Kd.at_int (Kd.R_reads' HO281.out).2.2 x3_1 p282 q282; cases e282; replace p282 := eq_true p282; replace q282 := eq_true q282) | ((with_reducible refine gate_callee (f := 105) rfl ?_); refine goesL_ (some 21) rfl rfl Tryd.func105 (by kernel_rfl) rfl #[.pointer (some ⟨g, 0, none⟩), .int .i64 (rd y279 x3_1)] rfl (by (try simp only [List.map_toArray, List.map_cons, List.map_nil]); first | done | rfl | (simp only [List.length_drop, List.length_take]; rfl)) ?_; (with_reducible refine (dryrotref11_in_take.calls k1 g s0_0 t277 t278 (rd y279 x3_1) t283 t284 t285 w0 _ ?side1 ?side2 A8.out).mono ?_); (case side1 => repeat (first | (with_reducible first | exact HI0.out | apply IsS145.alloc | apply IsS145.drewN | apply IsS145.drew | apply IsS145.set_1 | apply IsS145.set_2) | exact HI0.out)); (case side2 => repeat (first | (with_reducible first | exact HB.out | apply below_alloc | apply pw_below_drewN | apply below_drew1 | refine below_set ?_ (IsS145.ge HI0.out)) | exact HB.out)); rintro e w31 ⟨rfl, hi, hb, hk⟩; refine ⟨_, rfl, ?_⟩; have n0_ := Aside0.mk (Kd.R_mono (Kd.R_keep (IsS145.apart (show IsS145 w0 _ g s0_0 t277 t278 from by repeat (first | (with_reducible first | exact HI0.out | apply IsS145.alloc | apply IsS145.drewN | apply IsS145.drew | apply IsS145.set_1 | apply IsS145.set_2) | exact HI0.out)) (by (with_reducible repeat (first | apply Kd.R_alloc | apply Kd.R_drewN | apply Kd.R_drew)); exact HO281.out) (by decide)) hk (fun _ h => h.2)) (fun _ h => h.1)); have n1_ := Aside0.mk (KeepBut.trans (by repeat (first | (with_reducible first | exact HK.out | apply KeepBut.set_ | apply keep_drewN | apply keep_drew | apply keep_alloc) | exact HK.out)) hk (.inl rfl)); have n2_ := Aside0.mk (hb); have n3_ := Aside0.mk (hi); clear HO281; clear HK; clear HB; clear HI0; have HO281 := n0_; have HK := n1_; have HB := n2_; have HI0 := n3_; clear n0_ n1_ n2_ n3_; (try clear hb); (try clear hb2); (try clear hk); (try clear hi)))
                  go_ret
                  exact ⟨by first | rfl | (simp [errW_none, errW_some] <;> rfl) | (simp [*, errW_none, errW_some] <;> rfl), by repeat (first | (with_reducible first | exact HI0.out | apply IsS145.alloc | apply IsS145.drewN | apply IsS145.drew | apply IsS145.set_1 | apply IsS145.set_2) | exact HI0.out), by repeat (first | (with_reducible first | exact HB.out | apply below_alloc | apply pw_below_drewN | apply below_drew1 | refine below_set ?_ (IsS145.ge HI0.out)) | exact HB.out), by repeat (first | (with_reducible first | exact HK.out | apply KeepBut.set_ | apply keep_drewN | apply keep_drew | apply keep_alloc) | exact HK.out)⟩
              · rw [if_neg c9] at H
                have c9b0 : decide (0 < (rd y279 x3_1)) = false := decide_eq_false c9
                clear c9
                simp only [Option.some.injEq, Prod.mk.injEq] at H
                obtain ⟨rfl, rfl, rfl⟩ := H
                go_wp2_with (first | (go_at_call 105; (with_reducible refine (dryrotref11_in_take.calls k1 g s0_0 x1001_1 x1002_1 1 t276 t277 t278 w0 _ ?side1 ?side2 A3.out).mono ?_); (case side1 => repeat (first | (with_reducible first | exact HI0.out | apply IsS145.alloc | apply IsS145.drewN | apply IsS145.drew | apply IsS145.set_1 | apply IsS145.set_2) | exact HI0.out)); (case side2 => repeat (first | (with_reducible first | exact HB.out | apply below_alloc | apply pw_below_drewN | apply below_drew1 | refine below_set ?_ (IsS145.ge HI0.out)) | exact HB.out)); rintro e w32 ⟨rfl, hi, hb, hk⟩; have n0_ := Aside0.mk (KeepBut.trans (by repeat (first | (with_reducible first | exact HK.out | apply KeepBut.set_ | apply keep_drewN | apply keep_drew | apply keep_alloc) | exact HK.out)) hk (.inl rfl)); have n1_ := Aside0.mk (hb); have n2_ := Aside0.mk (hi); clear HK; clear HB; clear HI0; have HK := n0_; have HB := n1_; have HI0 := n2_; clear n0_ n1_ n2_; (try clear hb); (try clear hb2); (try clear hk); (try clear hi)) | ((with_reducible refine gate_dst (N := 15) rfl ?_); refine Kd.R_lit (Kd.int .i64) _ 3 ?hg (N := 15) ?hd (xs := ([0, 7, 12, 32, 64] : List Int)) (inner := [.int .i64 0, .int .i64 7, .int .i64 12, .int .i64 32, .int .i64 64]) (ok := fun _ => True) (okp := fun _ => True) ?hr ?hp (fun _ hk => hk) trivial (Below.refl _ _) (Nat.le_refl _) (by simp) ?_; (case hd => rfl); (case hg => rfl); (case hr => first | (go_simp; done) | (go_simp; rfl)); (case hp => exact (Reps.one (show Kd.M (Kd.int .i64) _ _ _ 0 [.int .i64 0] from rfl) (Reps.one (show Kd.M (Kd.int .i64) _ _ _ 7 [.int .i64 7] from rfl) (Reps.one (show Kd.M (Kd.int .i64) _ _ _ 12 [.int .i64 12] from rfl) (Reps.one (show Kd.M (Kd.int .i64) _ _ _ 32 [.int .i64 32] from rfl) (Reps.one (show Kd.M (Kd.int .i64) _ _ _ 64 [.int .i64 64] from rfl) (Reps.none _ _))))))); intro v280 w33 ho34 hb hg_ hnew_; clear hg_ hnew_; (first | rw [← Ny279.out] at ho34 | (simp only [Int.reduceToNat] at ho34; rw [← Ny279.out] at ho34)); have n0_ := Aside0.mk (Kd.R_lower ho34 (keep_size (w := w) (g := g) (row := none) (by repeat (first | (with_reducible first | exact HK.out | apply KeepBut.set_ | apply keep_drewN | apply keep_drew | apply keep_alloc) | exact HK.out)))); have n1_ := Aside0.mk (IsS145.below (by repeat (first | (with_reducible first | exact HI0.out | apply IsS145.alloc | apply IsS145.drewN | apply IsS145.drew | apply IsS145.set_1 | apply IsS145.set_2) | exact HI0.out)) hb); have n2_ := Aside0.mk (KeepBut.trans (by repeat (first | (with_reducible first | exact HK.out | apply KeepBut.set_ | apply keep_drewN | apply keep_drew | apply keep_alloc) | exact HK.out)) (KeepBut.of_below hb g none) (.inl rfl)); have n3_ := Aside0.mk (below_step (by repeat (first | (with_reducible first | exact HB.out | apply below_alloc | apply pw_below_drewN | apply below_drew1 | refine below_set ?_ (IsS145.ge HI0.out)) | exact HB.out)) hb); clear HI0; clear HK; clear HB; have HO281 := n0_; have HI0 := n1_; have HK := n2_; have HB := n3_; clear n0_ n1_ n2_ n3_; clear hb ho34; obtain ⟨Ao35, co35, eo35⟩ := Kd.R_slice HO281.out; subst eo35; have p282 : 0 ≤ (x3_1 : Int) := of_decide_eq_true (by first | (with_reducible assumption) | assumption); have q282 : x3_1 < (y279.length : Int) := of_decide_eq_true (by first | (with_reducible assumption) | assumption); obtain ⟨ad282, e282, hx282_0⟩ := Kd.at_int (Kd.R_reads' HO281.out).2.2 x3_1 p282 q282; cases e282; replace p282 := eq_true p282; replace q282 := eq_true q282) | ((with_reducible refine gate_callee (f := 105) rfl ?_); refine goesL_ (some 21) rfl rfl Tryd.func105 (by kernel_rfl) rfl #[.pointer (some ⟨g, 0, none⟩), .int .i64 (rd y279 x3_1)] rfl (by (try simp only [List.map_toArray, List.map_cons, List.map_nil]); first | done | rfl | (simp only [List.length_drop, List.length_take]; rfl)) ?_; (with_reducible refine (dryrotref11_in_take.calls k1 g s0_0 t277 t278 (rd y279 x3_1) t283 t284 t285 w0 _ ?side1 ?side2 A8.out).mono ?_); (case side1 => repeat (first | (with_reducible first | exact HI0.out | apply IsS145.alloc | apply IsS145.drewN | apply IsS145.drew | apply IsS145.set_1 | apply IsS145.set_2) | exact HI0.out)); (case side2 => repeat (first | (with_reducible first | exact HB.out | apply below_alloc | apply pw_below_drewN | apply below_drew1 | refine below_set ?_ (IsS145.ge HI0.out)) | exact HB.out)); rintro e w36 ⟨rfl, hi, hb, hk⟩; refine ⟨_, rfl, ?_⟩; have n0_ := Aside0.mk (Kd.R_mono (Kd.R_keep (IsS145.apart (show IsS145 w0 _ g s0_0 t277 t278 from by repeat (first | (with_reducible first | exact HI0.out | apply IsS145.alloc | apply IsS145.drewN | apply IsS145.drew | apply IsS145.set_1 | apply IsS145.set_2) | exact HI0.out)) (by (with_reducible repeat (first | apply Kd.R_alloc | apply Kd.R_drewN | apply Kd.R_drew)); exact HO281.out) (by decide)) hk (fun _ h => h.2)) (fun _ h => h.1)); have n1_ := Aside0.mk (KeepBut.trans (by repeat (first | (with_reducible first | exact HK.out | apply KeepBut.set_ | apply keep_drewN | apply keep_drew | apply keep_alloc) | exact HK.out)) hk (.inl rfl)); have n2_ := Aside0.mk (hb); have n3_ := Aside0.mk (hi); clear HO281; clear HK; clear HB; clear HI0; have HO281 := n0_; have HK := n1_; have HB := n2_; have HI0 := n3_; clear n0_ n1_ n2_ n3_; (try clear hb); (try clear hb2); (try clear hk); (try clear hi)))
                go_ret
                exact ⟨by first | rfl | (simp [errW_none, errW_some] <;> rfl) | (simp [*, errW_none, errW_some] <;> rfl), by repeat (first | (with_reducible first | exact HI0.out | apply IsS145.alloc | apply IsS145.drewN | apply IsS145.drew | apply IsS145.set_1 | apply IsS145.set_2) | exact HI0.out), by repeat (first | (with_reducible first | exact HB.out | apply below_alloc | apply pw_below_drewN | apply below_drew1 | refine below_set ?_ (IsS145.ge HI0.out)) | exact HB.out), by repeat (first | (with_reducible first | exact HK.out | apply KeepBut.set_ | apply keep_drewN | apply keep_drew | apply keep_alloc) | exact HK.out)⟩
            · rw [if_neg c7] at H
              exact absurd H (by simp)
          · rw [if_neg c6] at H
            exact absurd H (by simp)
      · rw [if_neg c2] at H
        have c2b0 : decide (x3_1 < 4) = false := decide_eq_false c2
        clear c2
        obtain ⟨y286, hy286⟩ : ∃ y_ : List Int, y_ = (([0, 7, 12, 32, 64] : List Int)) := ⟨_, rfl⟩
        replace H : (if 0 ≤ x3_1 then (if x3_1 < (y286.length : Int) then ((dryrotref11_in_take.f k1 s0_0 x1001_1 x1002_1 (rd y286 x3_1)).bind fun bt290 => (if (rd y286 x3_1) > 0 then (if (rd y286 x3_1) < 64 then (if 0 ≤ (wrap64 ((rd y286 x3_1) - 1)) then (if (wrap64 (bt290.1)) ≥ (shl .i64 1 (wrap64 ((rd y286 x3_1) - 1))) then (if 0 ≤ (rd y286 x3_1) then (some (wrap64 ((wrap64 (bt290.1)) - (shl .i64 1 (rd y286 x3_1))), bt290.2.1, bt290.2.2)) else (none)) else (some (wrap64 (bt290.1), bt290.2.1, bt290.2.2))) else (none)) else (some (wrap64 (bt290.1), bt290.2.1, bt290.2.2))) else (some (wrap64 (bt290.1), bt290.2.1, bt290.2.2)))) else (none)) else (none)) = some (r1, r2, r3) := by first | (rw [hy286]; with_reducible exact H) | (have H2_ := (Option.bind_some _ _).symm.trans H; rw [hy286]; with_reducible exact H2_) | (have H2_ := (Option.bind_some _ _).symm.trans H; with_reducible exact H2_) | with_reducible exact H | (rw [hy286]; exact H) | exact H
        have Ny286 := Aside0.mk hy286
        clear hy286
        by_cases c37 : 0 ≤ x3_1
        · rw [if_pos c37] at H
          have c37b0 : decide (0 ≤ x3_1) = true := decide_eq_true c37
          clear c37
          by_cases c38 : x3_1 < (y286.length : Int)
          · rw [if_pos c38] at H
            have c38b0 : decide (x3_1 < (y286.length : Int)) = true := decide_eq_true c38
            clear c38
            replace H := Option.bind_eq_some_iff.mp H
            obtain ⟨⟨t290, t291, t292⟩, A390, H⟩ := H
            replace H : (if (rd y286 x3_1) > 0 then (if (rd y286 x3_1) < 64 then (if 0 ≤ (wrap64 ((rd y286 x3_1) - 1)) then (if (wrap64 (t290)) ≥ (shl .i64 1 (wrap64 ((rd y286 x3_1) - 1))) then (if 0 ≤ (rd y286 x3_1) then (some (wrap64 ((wrap64 (t290)) - (shl .i64 1 (rd y286 x3_1))), t291, t292)) else (none)) else (some (wrap64 (t290), t291, t292))) else (none)) else (some (wrap64 (t290), t291, t292))) else (some (wrap64 (t290), t291, t292))) = some (r1, r2, r3) := H
            have A39 := Aside0.mk A390
            clear A390
            by_cases c40 : (rd y286 x3_1) > 0
            · rw [if_pos c40] at H
              have c40b0 : decide (0 < (rd y286 x3_1)) = true := decide_eq_true c40
              clear c40
              by_cases c41 : (rd y286 x3_1) < 64
              · rw [if_pos c41] at H
                have c41b0 : decide ((rd y286 x3_1) < 64) = true := decide_eq_true c41
                clear c41
                obtain ⟨ji42, hji42⟩ : ∃ j_ : Int, (wrap64 ((rd y286 x3_1) - 1)) = j_ := ⟨_, rfl⟩
                replace H : (if 0 ≤ (ji42) then (if (wrap64 (t290)) ≥ (shl .i64 1 (ji42)) then (if 0 ≤ (rd y286 x3_1) then (some (wrap64 ((wrap64 (t290)) - (shl .i64 1 (rd y286 x3_1))), t291, t292)) else (none)) else (some (wrap64 (t290), t291, t292))) else (none)) = some (r1, r2, r3) := by first | (rw [hji42] at H; exact H) | (simp only [hji42] at H ⊢; exact H)
                (try rw [hji42] at A39)
                have hji42w : (IntKind.i64.wrap ((rd y286 x3_1) - 1)) = ji42 := (i64_w _).trans hji42
                by_cases c43 : 0 ≤ (ji42)
                · rw [if_pos c43] at H
                  have c43b0 := eq_true c43
                  have c43b1 : decide (0 ≤ (ji42)) = true := decide_eq_true c43
                  clear c43
                  obtain ⟨ji44, hji44⟩ : ∃ j_ : Int, (shl .i64 1 (ji42)) = j_ := ⟨_, rfl⟩
                  replace H : (if (wrap64 (t290)) ≥ (ji44) then (if 0 ≤ (rd y286 x3_1) then (some (wrap64 ((wrap64 (t290)) - (shl .i64 1 (rd y286 x3_1))), t291, t292)) else (none)) else (some (wrap64 (t290), t291, t292))) = some (r1, r2, r3) := by first | (rw [hji44] at H; exact H) | (simp only [hji44] at H ⊢; exact H)
                  (try rw [hji44] at A39)
                  have hji44_ : (IntKind.i64.wrap (1 * 2 ^ min (ji42).toNat 64)) = ji44 := hji44
                  have hji44z : (ji42) ≤ 64 → (IntKind.i64.wrap (1 * 2 ^ (ji42).toNat)) = ji44 := shl_small hji44
                  have hji44u : (IntKind.i64.wrap (2 ^ min (ji42).toNat 64)) = ji44 := by have h_ := hji44_; rw [Int.one_mul] at h_; exact h_
                  have hji44v : (ji42) ≤ 64 → (IntKind.i64.wrap (2 ^ (ji42).toNat)) = ji44 := fun hle_ => by have h_ := hji44z hle_; rw [Int.one_mul] at h_; exact h_
                  have hji44y : (wrap64 (1 * 2 ^ min (ji42).toNat 64)) = ji44 := (i64_w _).symm.trans hji44_
                  have hji44x : (ji42) ≤ 64 → (wrap64 (1 * 2 ^ (ji42).toNat)) = ji44 := fun h_ => (i64_w _).symm.trans (hji44z h_)
                  by_cases c45 : (wrap64 (t290)) ≥ (ji44)
                  · rw [if_pos c45] at H
                    have c45b0 : decide ((ji44) ≤ (wrap64 (t290))) = true := decide_eq_true c45
                    clear c45
                    by_cases c46 : 0 ≤ (rd y286 x3_1)
                    · rw [if_pos c46] at H
                      have c46b0 := eq_true c46
                      have c46b1 : decide (0 ≤ (rd y286 x3_1)) = true := decide_eq_true c46
                      clear c46
                      obtain ⟨ji47, hji47⟩ : ∃ j_ : Int, (shl .i64 1 (rd y286 x3_1)) = j_ := ⟨_, rfl⟩
                      replace H : (some (wrap64 ((wrap64 (t290)) - (ji47)), t291, t292)) = some (r1, r2, r3) := by first | (rw [hji47] at H; exact H) | (simp only [hji47] at H ⊢; exact H)
                      (try rw [hji47] at A39)
                      have hji47_ : (IntKind.i64.wrap (1 * 2 ^ min (rd y286 x3_1).toNat 64)) = ji47 := hji47
                      have hji47z : (rd y286 x3_1) ≤ 64 → (IntKind.i64.wrap (1 * 2 ^ (rd y286 x3_1).toNat)) = ji47 := shl_small hji47
                      have hji47u : (IntKind.i64.wrap (2 ^ min (rd y286 x3_1).toNat 64)) = ji47 := by have h_ := hji47_; rw [Int.one_mul] at h_; exact h_
                      have hji47v : (rd y286 x3_1) ≤ 64 → (IntKind.i64.wrap (2 ^ (rd y286 x3_1).toNat)) = ji47 := fun hle_ => by have h_ := hji47z hle_; rw [Int.one_mul] at h_; exact h_
                      have hji47y : (wrap64 (1 * 2 ^ min (rd y286 x3_1).toNat 64)) = ji47 := (i64_w _).symm.trans hji47_
                      have hji47x : (rd y286 x3_1) ≤ 64 → (wrap64 (1 * 2 ^ (rd y286 x3_1).toNat)) = ji47 := fun h_ => (i64_w _).symm.trans (hji47z h_)
                      simp only [Option.some.injEq, Prod.mk.injEq] at H
                      obtain ⟨rfl, rfl, rfl⟩ := H
                      go_wp2_with (first | ((with_reducible refine gate_dst (N := 15) rfl ?_); refine Kd.R_lit (Kd.int .i64) _ 3 ?hg (N := 15) ?hd (xs := ([0, 7, 12, 32, 64] : List Int)) (inner := [.int .i64 0, .int .i64 7, .int .i64 12, .int .i64 32, .int .i64 64]) (ok := fun _ => True) (okp := fun _ => True) ?hr ?hp (fun _ hk => hk) trivial (Below.refl _ _) (Nat.le_refl _) (by simp) ?_; (case hd => rfl); (case hg => rfl); (case hr => first | (go_simp; done) | (go_simp; rfl)); (case hp => exact (Reps.one (show Kd.M (Kd.int .i64) _ _ _ 0 [.int .i64 0] from rfl) (Reps.one (show Kd.M (Kd.int .i64) _ _ _ 7 [.int .i64 7] from rfl) (Reps.one (show Kd.M (Kd.int .i64) _ _ _ 12 [.int .i64 12] from rfl) (Reps.one (show Kd.M (Kd.int .i64) _ _ _ 32 [.int .i64 32] from rfl) (Reps.one (show Kd.M (Kd.int .i64) _ _ _ 64 [.int .i64 64] from rfl) (Reps.none _ _))))))); intro v287 w48 ho49 hb hg_ hnew_; clear hg_ hnew_; (first | rw [← Ny286.out] at ho49 | (simp only [Int.reduceToNat] at ho49; rw [← Ny286.out] at ho49)); have n0_ := Aside0.mk (Kd.R_lower ho49 (keep_size (w := w) (g := g) (row := none) (by repeat (first | (with_reducible first | exact HK.out | apply KeepBut.set_ | apply keep_drewN | apply keep_drew | apply keep_alloc) | exact HK.out)))); have n1_ := Aside0.mk (IsS145.below (by repeat (first | (with_reducible first | exact HI0.out | apply IsS145.alloc | apply IsS145.drewN | apply IsS145.drew | apply IsS145.set_1 | apply IsS145.set_2) | exact HI0.out)) hb); have n2_ := Aside0.mk (KeepBut.trans (by repeat (first | (with_reducible first | exact HK.out | apply KeepBut.set_ | apply keep_drewN | apply keep_drew | apply keep_alloc) | exact HK.out)) (KeepBut.of_below hb g none) (.inl rfl)); have n3_ := Aside0.mk (below_step (by repeat (first | (with_reducible first | exact HB.out | apply below_alloc | apply pw_below_drewN | apply below_drew1 | refine below_set ?_ (IsS145.ge HI0.out)) | exact HB.out)) hb); clear HI0; clear HK; clear HB; have HO288 := n0_; have HI0 := n1_; have HK := n2_; have HB := n3_; clear n0_ n1_ n2_ n3_; clear hb ho49; obtain ⟨Ao50, co50, eo50⟩ := Kd.R_slice HO288.out; subst eo50; have p289 : 0 ≤ (x3_1 : Int) := of_decide_eq_true (by first | (with_reducible assumption) | assumption); have q289 : x3_1 < (y286.length : Int) := of_decide_eq_true (by first | (with_reducible assumption) | assumption); obtain ⟨ad289, e289, hx289_0⟩ := Kd.at_int (Kd.R_reads' HO288.out).2.2 x3_1 p289 q289; cases e289; replace p289 := eq_true p289; replace q289 := eq_true q289) | ((with_reducible refine gate_callee (f := 105) rfl ?_); refine goesL_ (some 21) rfl rfl Tryd.func105 (by kernel_rfl) rfl #[.pointer (some ⟨g, 0, none⟩), .int .i64 (rd y286 x3_1)] rfl (by (try simp only [List.map_toArray, List.map_cons, List.map_nil]); first | done | rfl | (simp only [List.length_drop, List.length_take]; rfl)) ?_; (with_reducible refine (dryrotref11_in_take.calls k1 g s0_0 x1001_1 x1002_1 (rd y286 x3_1) t290 t291 t292 w0 _ ?side1 ?side2 A39.out).mono ?_); (case side1 => repeat (first | (with_reducible first | exact HI0.out | apply IsS145.alloc | apply IsS145.drewN | apply IsS145.drew | apply IsS145.set_1 | apply IsS145.set_2) | exact HI0.out)); (case side2 => repeat (first | (with_reducible first | exact HB.out | apply below_alloc | apply pw_below_drewN | apply below_drew1 | refine below_set ?_ (IsS145.ge HI0.out)) | exact HB.out)); rintro e w51 ⟨rfl, hi, hb, hk⟩; refine ⟨_, rfl, ?_⟩; have n0_ := Aside0.mk (Kd.R_mono (Kd.R_keep (IsS145.apart (show IsS145 w0 _ g s0_0 x1001_1 x1002_1 from by repeat (first | (with_reducible first | exact HI0.out | apply IsS145.alloc | apply IsS145.drewN | apply IsS145.drew | apply IsS145.set_1 | apply IsS145.set_2) | exact HI0.out)) (by (with_reducible repeat (first | apply Kd.R_alloc | apply Kd.R_drewN | apply Kd.R_drew)); exact HO288.out) (by decide)) hk (fun _ h => h.2)) (fun _ h => h.1)); have n1_ := Aside0.mk (KeepBut.trans (by repeat (first | (with_reducible first | exact HK.out | apply KeepBut.set_ | apply keep_drewN | apply keep_drew | apply keep_alloc) | exact HK.out)) hk (.inl rfl)); have n2_ := Aside0.mk (hb); have n3_ := Aside0.mk (hi); clear HO288; clear HK; clear HB; clear HI0; have HO288 := n0_; have HK := n1_; have HB := n2_; have HI0 := n3_; clear n0_ n1_ n2_ n3_; (try clear hb); (try clear hb2); (try clear hk); (try clear hi)))
                      go_ret
                      exact ⟨by first | rfl | (simp [errW_none, errW_some] <;> rfl) | (simp only [← hji42, ← hji44, ← hji47]; first | rfl | (simp [errW_none, errW_some] <;> rfl)) | (simp [*, errW_none, errW_some] <;> rfl), by repeat (first | (with_reducible first | exact HI0.out | apply IsS145.alloc | apply IsS145.drewN | apply IsS145.drew | apply IsS145.set_1 | apply IsS145.set_2) | exact HI0.out), by repeat (first | (with_reducible first | exact HB.out | apply below_alloc | apply pw_below_drewN | apply below_drew1 | refine below_set ?_ (IsS145.ge HI0.out)) | exact HB.out), by repeat (first | (with_reducible first | exact HK.out | apply KeepBut.set_ | apply keep_drewN | apply keep_drew | apply keep_alloc) | exact HK.out)⟩
                    · rw [if_neg c46] at H
                      exact absurd H (by simp)
                  · rw [if_neg c45] at H
                    have c45b0 : decide ((ji44) ≤ (wrap64 (t290))) = false := decide_eq_false c45
                    clear c45
                    simp only [Option.some.injEq, Prod.mk.injEq] at H
                    obtain ⟨rfl, rfl, rfl⟩ := H
                    go_wp2_with (first | ((with_reducible refine gate_dst (N := 15) rfl ?_); refine Kd.R_lit (Kd.int .i64) _ 3 ?hg (N := 15) ?hd (xs := ([0, 7, 12, 32, 64] : List Int)) (inner := [.int .i64 0, .int .i64 7, .int .i64 12, .int .i64 32, .int .i64 64]) (ok := fun _ => True) (okp := fun _ => True) ?hr ?hp (fun _ hk => hk) trivial (Below.refl _ _) (Nat.le_refl _) (by simp) ?_; (case hd => rfl); (case hg => rfl); (case hr => first | (go_simp; done) | (go_simp; rfl)); (case hp => exact (Reps.one (show Kd.M (Kd.int .i64) _ _ _ 0 [.int .i64 0] from rfl) (Reps.one (show Kd.M (Kd.int .i64) _ _ _ 7 [.int .i64 7] from rfl) (Reps.one (show Kd.M (Kd.int .i64) _ _ _ 12 [.int .i64 12] from rfl) (Reps.one (show Kd.M (Kd.int .i64) _ _ _ 32 [.int .i64 32] from rfl) (Reps.one (show Kd.M (Kd.int .i64) _ _ _ 64 [.int .i64 64] from rfl) (Reps.none _ _))))))); intro v287 w52 ho53 hb hg_ hnew_; clear hg_ hnew_; (first | rw [← Ny286.out] at ho53 | (simp only [Int.reduceToNat] at ho53; rw [← Ny286.out] at ho53)); have n0_ := Aside0.mk (Kd.R_lower ho53 (keep_size (w := w) (g := g) (row := none) (by repeat (first | (with_reducible first | exact HK.out | apply KeepBut.set_ | apply keep_drewN | apply keep_drew | apply keep_alloc) | exact HK.out)))); have n1_ := Aside0.mk (IsS145.below (by repeat (first | (with_reducible first | exact HI0.out | apply IsS145.alloc | apply IsS145.drewN | apply IsS145.drew | apply IsS145.set_1 | apply IsS145.set_2) | exact HI0.out)) hb); have n2_ := Aside0.mk (KeepBut.trans (by repeat (first | (with_reducible first | exact HK.out | apply KeepBut.set_ | apply keep_drewN | apply keep_drew | apply keep_alloc) | exact HK.out)) (KeepBut.of_below hb g none) (.inl rfl)); have n3_ := Aside0.mk (below_step (by repeat (first | (with_reducible first | exact HB.out | apply below_alloc | apply pw_below_drewN | apply below_drew1 | refine below_set ?_ (IsS145.ge HI0.out)) | exact HB.out)) hb); clear HI0; clear HK; clear HB; have HO288 := n0_; have HI0 := n1_; have HK := n2_; have HB := n3_; clear n0_ n1_ n2_ n3_; clear hb ho53; obtain ⟨Ao54, co54, eo54⟩ := Kd.R_slice HO288.out; subst eo54; have p289 : 0 ≤ (x3_1 : Int) := of_decide_eq_true (by first | (with_reducible assumption) | assumption); have q289 : x3_1 < (y286.length : Int) := of_decide_eq_true (by first | (with_reducible assumption) | assumption); obtain ⟨ad289, e289, hx289_0⟩ := Kd.at_int (Kd.R_reads' HO288.out).2.2 x3_1 p289 q289; cases e289; replace p289 := eq_true p289; replace q289 := eq_true q289) | ((with_reducible refine gate_callee (f := 105) rfl ?_); refine goesL_ (some 21) rfl rfl Tryd.func105 (by kernel_rfl) rfl #[.pointer (some ⟨g, 0, none⟩), .int .i64 (rd y286 x3_1)] rfl (by (try simp only [List.map_toArray, List.map_cons, List.map_nil]); first | done | rfl | (simp only [List.length_drop, List.length_take]; rfl)) ?_; (with_reducible refine (dryrotref11_in_take.calls k1 g s0_0 x1001_1 x1002_1 (rd y286 x3_1) t290 t291 t292 w0 _ ?side1 ?side2 A39.out).mono ?_); (case side1 => repeat (first | (with_reducible first | exact HI0.out | apply IsS145.alloc | apply IsS145.drewN | apply IsS145.drew | apply IsS145.set_1 | apply IsS145.set_2) | exact HI0.out)); (case side2 => repeat (first | (with_reducible first | exact HB.out | apply below_alloc | apply pw_below_drewN | apply below_drew1 | refine below_set ?_ (IsS145.ge HI0.out)) | exact HB.out)); rintro e w55 ⟨rfl, hi, hb, hk⟩; refine ⟨_, rfl, ?_⟩; have n0_ := Aside0.mk (Kd.R_mono (Kd.R_keep (IsS145.apart (show IsS145 w0 _ g s0_0 x1001_1 x1002_1 from by repeat (first | (with_reducible first | exact HI0.out | apply IsS145.alloc | apply IsS145.drewN | apply IsS145.drew | apply IsS145.set_1 | apply IsS145.set_2) | exact HI0.out)) (by (with_reducible repeat (first | apply Kd.R_alloc | apply Kd.R_drewN | apply Kd.R_drew)); exact HO288.out) (by decide)) hk (fun _ h => h.2)) (fun _ h => h.1)); have n1_ := Aside0.mk (KeepBut.trans (by repeat (first | (with_reducible first | exact HK.out | apply KeepBut.set_ | apply keep_drewN | apply keep_drew | apply keep_alloc) | exact HK.out)) hk (.inl rfl)); have n2_ := Aside0.mk (hb); have n3_ := Aside0.mk (hi); clear HO288; clear HK; clear HB; clear HI0; have HO288 := n0_; have HK := n1_; have HB := n2_; have HI0 := n3_; clear n0_ n1_ n2_ n3_; (try clear hb); (try clear hb2); (try clear hk); (try clear hi)))
                    go_ret
                    exact ⟨by first | rfl | (simp [errW_none, errW_some] <;> rfl) | (simp only [← hji42, ← hji44]; first | rfl | (simp [errW_none, errW_some] <;> rfl)) | (simp [*, errW_none, errW_some] <;> rfl), by repeat (first | (with_reducible first | exact HI0.out | apply IsS145.alloc | apply IsS145.drewN | apply IsS145.drew | apply IsS145.set_1 | apply IsS145.set_2) | exact HI0.out), by repeat (first | (with_reducible first | exact HB.out | apply below_alloc | apply pw_below_drewN | apply below_drew1 | refine below_set ?_ (IsS145.ge HI0.out)) | exact HB.out), by repeat (first | (with_reducible first | exact HK.out | apply KeepBut.set_ | apply keep_drewN | apply keep_drew | apply keep_alloc) | exact HK.out)⟩
                · rw [if_neg c43] at H
                  exact absurd H (by simp)
              · rw [if_neg c41] at H
                have c41b0 : decide ((rd y286 x3_1) < 64) = false := decide_eq_false c41
                clear c41
                simp only [Option.some.injEq, Prod.mk.injEq] at H
                obtain ⟨rfl, rfl, rfl⟩ := H
                go_wp2_with (first | ((with_reducible refine gate_dst (N := 15) rfl ?_); refine Kd.R_lit (Kd.int .i64) _ 3 ?hg (N := 15) ?hd (xs := ([0, 7, 12, 32, 64] : List Int)) (inner := [.int .i64 0, .int .i64 7, .int .i64 12, .int .i64 32, .int .i64 64]) (ok := fun _ => True) (okp := fun _ => True) ?hr ?hp (fun _ hk => hk) trivial (Below.refl _ _) (Nat.le_refl _) (by simp) ?_; (case hd => rfl); (case hg => rfl); (case hr => first | (go_simp; done) | (go_simp; rfl)); (case hp => exact (Reps.one (show Kd.M (Kd.int .i64) _ _ _ 0 [.int .i64 0] from rfl) (Reps.one (show Kd.M (Kd.int .i64) _ _ _ 7 [.int .i64 7] from rfl) (Reps.one (show Kd.M (Kd.int .i64) _ _ _ 12 [.int .i64 12] from rfl) (Reps.one (show Kd.M (Kd.int .i64) _ _ _ 32 [.int .i64 32] from rfl) (Reps.one (show Kd.M (Kd.int .i64) _ _ _ 64 [.int .i64 64] from rfl) (Reps.none _ _))))))); intro v287 w56 ho57 hb hg_ hnew_; clear hg_ hnew_; (first | rw [← Ny286.out] at ho57 | (simp only [Int.reduceToNat] at ho57; rw [← Ny286.out] at ho57)); have n0_ := Aside0.mk (Kd.R_lower ho57 (keep_size (w := w) (g := g) (row := none) (by repeat (first | (with_reducible first | exact HK.out | apply KeepBut.set_ | apply keep_drewN | apply keep_drew | apply keep_alloc) | exact HK.out)))); have n1_ := Aside0.mk (IsS145.below (by repeat (first | (with_reducible first | exact HI0.out | apply IsS145.alloc | apply IsS145.drewN | apply IsS145.drew | apply IsS145.set_1 | apply IsS145.set_2) | exact HI0.out)) hb); have n2_ := Aside0.mk (KeepBut.trans (by repeat (first | (with_reducible first | exact HK.out | apply KeepBut.set_ | apply keep_drewN | apply keep_drew | apply keep_alloc) | exact HK.out)) (KeepBut.of_below hb g none) (.inl rfl)); have n3_ := Aside0.mk (below_step (by repeat (first | (with_reducible first | exact HB.out | apply below_alloc | apply pw_below_drewN | apply below_drew1 | refine below_set ?_ (IsS145.ge HI0.out)) | exact HB.out)) hb); clear HI0; clear HK; clear HB; have HO288 := n0_; have HI0 := n1_; have HK := n2_; have HB := n3_; clear n0_ n1_ n2_ n3_; clear hb ho57; obtain ⟨Ao58, co58, eo58⟩ := Kd.R_slice HO288.out; subst eo58; have p289 : 0 ≤ (x3_1 : Int) := of_decide_eq_true (by first | (with_reducible assumption) | assumption); have q289 : x3_1 < (y286.length : Int) := of_decide_eq_true (by first | (with_reducible assumption) | assumption); obtain ⟨ad289, e289, hx289_0⟩ := Kd.at_int (Kd.R_reads' HO288.out).2.2 x3_1 p289 q289; cases e289; replace p289 := eq_true p289; replace q289 := eq_true q289) | ((with_reducible refine gate_callee (f := 105) rfl ?_); refine goesL_ (some 21) rfl rfl Tryd.func105 (by kernel_rfl) rfl #[.pointer (some ⟨g, 0, none⟩), .int .i64 (rd y286 x3_1)] rfl (by (try simp only [List.map_toArray, List.map_cons, List.map_nil]); first | done | rfl | (simp only [List.length_drop, List.length_take]; rfl)) ?_; (with_reducible refine (dryrotref11_in_take.calls k1 g s0_0 x1001_1 x1002_1 (rd y286 x3_1) t290 t291 t292 w0 _ ?side1 ?side2 A39.out).mono ?_); (case side1 => repeat (first | (with_reducible first | exact HI0.out | apply IsS145.alloc | apply IsS145.drewN | apply IsS145.drew | apply IsS145.set_1 | apply IsS145.set_2) | exact HI0.out)); (case side2 => repeat (first | (with_reducible first | exact HB.out | apply below_alloc | apply pw_below_drewN | apply below_drew1 | refine below_set ?_ (IsS145.ge HI0.out)) | exact HB.out)); rintro e w59 ⟨rfl, hi, hb, hk⟩; refine ⟨_, rfl, ?_⟩; have n0_ := Aside0.mk (Kd.R_mono (Kd.R_keep (IsS145.apart (show IsS145 w0 _ g s0_0 x1001_1 x1002_1 from by repeat (first | (with_reducible first | exact HI0.out | apply IsS145.alloc | apply IsS145.drewN | apply IsS145.drew | apply IsS145.set_1 | apply IsS145.set_2) | exact HI0.out)) (by (with_reducible repeat (first | apply Kd.R_alloc | apply Kd.R_drewN | apply Kd.R_drew)); exact HO288.out) (by decide)) hk (fun _ h => h.2)) (fun _ h => h.1)); have n1_ := Aside0.mk (KeepBut.trans (by repeat (first | (with_reducible first | exact HK.out | apply KeepBut.set_ | apply keep_drewN | apply keep_drew | apply keep_alloc) | exact HK.out)) hk (.inl rfl)); have n2_ := Aside0.mk (hb); have n3_ := Aside0.mk (hi); clear HO288; clear HK; clear HB; clear HI0; have HO288 := n0_; have HK := n1_; have HB := n2_; have HI0 := n3_; clear n0_ n1_ n2_ n3_; (try clear hb); (try clear hb2); (try clear hk); (try clear hi)))
                go_ret
                exact ⟨by first | rfl | (simp [errW_none, errW_some] <;> rfl) | (simp [*, errW_none, errW_some] <;> rfl), by repeat (first | (with_reducible first | exact HI0.out | apply IsS145.alloc | apply IsS145.drewN | apply IsS145.drew | apply IsS145.set_1 | apply IsS145.set_2) | exact HI0.out), by repeat (first | (with_reducible first | exact HB.out | apply below_alloc | apply pw_below_drewN | apply below_drew1 | refine below_set ?_ (IsS145.ge HI0.out)) | exact HB.out), by repeat (first | (with_reducible first | exact HK.out | apply KeepBut.set_ | apply keep_drewN | apply keep_drew | apply keep_alloc) | exact HK.out)⟩
            · rw [if_neg c40] at H
              have c40b0 : decide (0 < (rd y286 x3_1)) = false := decide_eq_false c40
              clear c40
              simp only [Option.some.injEq, Prod.mk.injEq] at H
              obtain ⟨rfl, rfl, rfl⟩ := H
              go_wp2_with (first | ((with_reducible refine gate_dst (N := 15) rfl ?_); refine Kd.R_lit (Kd.int .i64) _ 3 ?hg (N := 15) ?hd (xs := ([0, 7, 12, 32, 64] : List Int)) (inner := [.int .i64 0, .int .i64 7, .int .i64 12, .int .i64 32, .int .i64 64]) (ok := fun _ => True) (okp := fun _ => True) ?hr ?hp (fun _ hk => hk) trivial (Below.refl _ _) (Nat.le_refl _) (by simp) ?_; (case hd => rfl); (case hg => rfl); (case hr => first | (go_simp; done) | (go_simp; rfl)); (case hp => exact (Reps.one (show Kd.M (Kd.int .i64) _ _ _ 0 [.int .i64 0] from rfl) (Reps.one (show Kd.M (Kd.int .i64) _ _ _ 7 [.int .i64 7] from rfl) (Reps.one (show Kd.M (Kd.int .i64) _ _ _ 12 [.int .i64 12] from rfl) (Reps.one (show Kd.M (Kd.int .i64) _ _ _ 32 [.int .i64 32] from rfl) (Reps.one (show Kd.M (Kd.int .i64) _ _ _ 64 [.int .i64 64] from rfl) (Reps.none _ _))))))); intro v287 w60 ho61 hb hg_ hnew_; clear hg_ hnew_; (first | rw [← Ny286.out] at ho61 | (simp only [Int.reduceToNat] at ho61; rw [← Ny286.out] at ho61)); have n0_ := Aside0.mk (Kd.R_lower ho61 (keep_size (w := w) (g := g) (row := none) (by repeat (first | (with_reducible first | exact HK.out | apply KeepBut.set_ | apply keep_drewN | apply keep_drew | apply keep_alloc) | exact HK.out)))); have n1_ := Aside0.mk (IsS145.below (by repeat (first | (with_reducible first | exact HI0.out | apply IsS145.alloc | apply IsS145.drewN | apply IsS145.drew | apply IsS145.set_1 | apply IsS145.set_2) | exact HI0.out)) hb); have n2_ := Aside0.mk (KeepBut.trans (by repeat (first | (with_reducible first | exact HK.out | apply KeepBut.set_ | apply keep_drewN | apply keep_drew | apply keep_alloc) | exact HK.out)) (KeepBut.of_below hb g none) (.inl rfl)); have n3_ := Aside0.mk (below_step (by repeat (first | (with_reducible first | exact HB.out | apply below_alloc | apply pw_below_drewN | apply below_drew1 | refine below_set ?_ (IsS145.ge HI0.out)) | exact HB.out)) hb); clear HI0; clear HK; clear HB; have HO288 := n0_; have HI0 := n1_; have HK := n2_; have HB := n3_; clear n0_ n1_ n2_ n3_; clear hb ho61; obtain ⟨Ao62, co62, eo62⟩ := Kd.R_slice HO288.out; subst eo62; have p289 : 0 ≤ (x3_1 : Int) := of_decide_eq_true (by first | (with_reducible assumption) | assumption); have q289 : x3_1 < (y286.length : Int) := of_decide_eq_true (by first | (with_reducible assumption) | assumption); obtain ⟨ad289, e289, hx289_0⟩ := Kd.at_int (Kd.R_reads' HO288.out).2.2 x3_1 p289 q289; cases e289; replace p289 := eq_true p289; replace q289 := eq_true q289) | ((with_reducible refine gate_callee (f := 105) rfl ?_); refine goesL_ (some 21) rfl rfl Tryd.func105 (by kernel_rfl) rfl #[.pointer (some ⟨g, 0, none⟩), .int .i64 (rd y286 x3_1)] rfl (by (try simp only [List.map_toArray, List.map_cons, List.map_nil]); first | done | rfl | (simp only [List.length_drop, List.length_take]; rfl)) ?_; (with_reducible refine (dryrotref11_in_take.calls k1 g s0_0 x1001_1 x1002_1 (rd y286 x3_1) t290 t291 t292 w0 _ ?side1 ?side2 A39.out).mono ?_); (case side1 => repeat (first | (with_reducible first | exact HI0.out | apply IsS145.alloc | apply IsS145.drewN | apply IsS145.drew | apply IsS145.set_1 | apply IsS145.set_2) | exact HI0.out)); (case side2 => repeat (first | (with_reducible first | exact HB.out | apply below_alloc | apply pw_below_drewN | apply below_drew1 | refine below_set ?_ (IsS145.ge HI0.out)) | exact HB.out)); rintro e w63 ⟨rfl, hi, hb, hk⟩; refine ⟨_, rfl, ?_⟩; have n0_ := Aside0.mk (Kd.R_mono (Kd.R_keep (IsS145.apart (show IsS145 w0 _ g s0_0 x1001_1 x1002_1 from by repeat (first | (with_reducible first | exact HI0.out | apply IsS145.alloc | apply IsS145.drewN | apply IsS145.drew | apply IsS145.set_1 | apply IsS145.set_2) | exact HI0.out)) (by (with_reducible repeat (first | apply Kd.R_alloc | apply Kd.R_drewN | apply Kd.R_drew)); exact HO288.out) (by decide)) hk (fun _ h => h.2)) (fun _ h => h.1)); have n1_ := Aside0.mk (KeepBut.trans (by repeat (first | (with_reducible first | exact HK.out | apply KeepBut.set_ | apply keep_drewN | apply keep_drew | apply keep_alloc) | exact HK.out)) hk (.inl rfl)); have n2_ := Aside0.mk (hb); have n3_ := Aside0.mk (hi); clear HO288; clear HK; clear HB; clear HI0; have HO288 := n0_; have HK := n1_; have HB := n2_; have HI0 := n3_; clear n0_ n1_ n2_ n3_; (try clear hb); (try clear hb2); (try clear hk); (try clear hi)))
              go_ret
              exact ⟨by first | rfl | (simp [errW_none, errW_some] <;> rfl) | (simp [*, errW_none, errW_some] <;> rfl), by repeat (first | (with_reducible first | exact HI0.out | apply IsS145.alloc | apply IsS145.drewN | apply IsS145.drew | apply IsS145.set_1 | apply IsS145.set_2) | exact HI0.out), by repeat (first | (with_reducible first | exact HB.out | apply below_alloc | apply pw_below_drewN | apply below_drew1 | refine below_set ?_ (IsS145.ge HI0.out)) | exact HB.out), by repeat (first | (with_reducible first | exact HK.out | apply KeepBut.set_ | apply keep_drewN | apply keep_drew | apply keep_alloc) | exact HK.out)⟩
          · rw [if_neg c38] at H
            exact absurd H (by simp)
        · rw [if_neg c37] at H
          exact absurd H (by simp)
end Go.Proofs.YtbgmnmjokdfmlaaDoor.PA
namespace Go.Proofs.YtbgmnmjokdfmlaaDoor.PA
open Go.RowKit Go.Proofs.YtbgmnmjokdfmlaaDoorW.PrintWords Go.Proofs.YtbgmnmjokdfmlaaDoorW.PrintLast Go.Proofs.YtbgmnmjokdfmlaaDoorW.PrintMore
attribute [local go_sem] max2_int min2_int max_two min_two max_three min_three max_four min_four   -- for this text's walks alone
set_option linter.unusedVariables false
set_option linter.unusedSimpArgs false
def dryrotref11_in_takeXor.f (k : Nat) (s0_0 : List Int) (s0_1 : Int) (s0_2 : Bool) : Option (Int × Int × Bool) := (dryrotref11_in_take.f k s0_0 s0_1 s0_2 1).bind fun bt293 => (if bt293.1 = 0 then (some (0, bt293.2.1, bt293.2.2)) else ((dryrotref11_in_take.f k s0_0 bt293.2.1 bt293.2.2 6).bind fun bt296 => ((dryrotref11_in_take.f k s0_0 bt296.2.1 bt296.2.2 6).bind fun bt299 => ((dryrotref11_in_take.f k s0_0 bt299.2.1 bt299.2.2 (wrap64 ((wrap64 (bt299.1)) + 1))).bind fun bt302 => (if (wrap64 ((wrap64 (bt296.1)) + (wrap64 ((wrap64 (bt299.1)) + 1)))) > 64 then (some (0, bt302.2.1, true)) else (if 0 ≤ (wrap64 ((wrap64 (64 - (wrap64 (bt296.1)))) - (wrap64 ((wrap64 (bt299.1)) + 1)))) then (some (shl .u64 bt302.1 (wrap64 ((wrap64 (64 - (wrap64 (bt296.1)))) - (wrap64 ((wrap64 (bt299.1)) + 1)))), bt302.2.1, bt302.2.2)) else (none)))))))
theorem dryrotref11_in_takeXor.mono : ∀ a0 a1 a2 k, LeO (dryrotref11_in_takeXor.f k a0 a1 a2) (dryrotref11_in_takeXor.f (k + 1) a0 a1 a2) := by
  intro a0 a1 a2 k
  unfold dryrotref11_in_takeXor.f
  repeat' first
      | (with_reducible exact dryrotref11_in_take.mono _ _ _ _ _)
      | (with_reducible exact LeO.refl _)
      | (with_reducible exact LeO.none _)
      | (with_reducible refine LeO.ite ?_ ?_)
      | (with_reducible refine LeO.bind ?_ (fun _ => ?_))
      | exact dryrotref11_in_take.mono _ _ _ _ _
      | exact LeO.none _
      | refine LeO.ite ?_ ?_
      | refine LeO.bind ?_ (fun _ => ?_)
set_option maxHeartbeats 8000000 in
set_option maxRecDepth 100000 in
theorem dryrotref11_in_takeXor.calls (k : Nat) (g : Nat) (s0_0 : List Int) (s0_1 : Int) (s0_2 : Bool) (r1 : Int) (r2 : Int) (r3 : Bool) (w0 w : World) (hI : IsS145 w0 w g s0_0 s0_1 s0_2) (hB : Below w0.heap.size w0 w) (h : dryrotref11_in_takeXor.f k s0_0 s0_1 s0_2 = some (r1, r2, r3)) :
    Calls Tryd.prog 107 #[.pointer (some ⟨g, 0, none⟩)] w fun e w' => e = .returned (.int .u64 r1) ∧ IsS145 w0 w' g s0_0 r2 r3 ∧ Below w0.heap.size w0 w' ∧ KeepBut w w' g none := by
  have HI0 := Aside0.mk hI
  have HK := Aside0.mk (KeepBut.refl w g none)
  have HL := Aside0.mk hB.size
  clear hI
  have HW0 := Aside0.mk hB.size
  have HB := Aside0.mk hB
  clear hB
  have H : ((dryrotref11_in_take.f k s0_0 s0_1 s0_2 1).bind fun bt293 => (if bt293.1 = 0 then (some (0, bt293.2.1, bt293.2.2)) else ((dryrotref11_in_take.f k s0_0 bt293.2.1 bt293.2.2 6).bind fun bt296 => ((dryrotref11_in_take.f k s0_0 bt296.2.1 bt296.2.2 6).bind fun bt299 => ((dryrotref11_in_take.f k s0_0 bt299.2.1 bt299.2.2 (wrap64 ((wrap64 (bt299.1)) + 1))).bind fun bt302 => (if (wrap64 ((wrap64 (bt296.1)) + (wrap64 ((wrap64 (bt299.1)) + 1)))) > 64 then (some (0, bt302.2.1, true)) else (if 0 ≤ (wrap64 ((wrap64 (64 - (wrap64 (bt296.1)))) - (wrap64 ((wrap64 (bt299.1)) + 1)))) then (some (shl .u64 bt302.1 (wrap64 ((wrap64 (64 - (wrap64 (bt296.1)))) - (wrap64 ((wrap64 (bt299.1)) + 1)))), bt302.2.1, bt302.2.2)) else (none)))))))) = some (r1, r2, r3) := h
  clear h
  replace H := Option.bind_eq_some_iff.mp H
  obtain ⟨⟨t293, t294, t295⟩, A20, H⟩ := H
  replace H : (if t293 = 0 then (some (0, t294, t295)) else ((dryrotref11_in_take.f k s0_0 t294 t295 6).bind fun bt296 => ((dryrotref11_in_take.f k s0_0 bt296.2.1 bt296.2.2 6).bind fun bt299 => ((dryrotref11_in_take.f k s0_0 bt299.2.1 bt299.2.2 (wrap64 ((wrap64 (bt299.1)) + 1))).bind fun bt302 => (if (wrap64 ((wrap64 (bt296.1)) + (wrap64 ((wrap64 (bt299.1)) + 1)))) > 64 then (some (0, bt302.2.1, true)) else (if 0 ≤ (wrap64 ((wrap64 (64 - (wrap64 (bt296.1)))) - (wrap64 ((wrap64 (bt299.1)) + 1)))) then (some (shl .u64 bt302.1 (wrap64 ((wrap64 (64 - (wrap64 (bt296.1)))) - (wrap64 ((wrap64 (bt299.1)) + 1)))), bt302.2.1, bt302.2.2)) else (none))))))) = some (r1, r2, r3) := H
  have A2 := Aside0.mk A20
  clear A20
  by_cases c3 : t293 = 0
  · rw [if_pos c3] at H
    have c3b0 : (t293 == 0) = true := beq_iff_eq.mpr c3
    have c3b1 : (t293 != 0) = false := bne_eq_false_iff_eq.mpr c3
    clear c3
    simp only [Option.some.injEq, Prod.mk.injEq] at H
    obtain ⟨rfl, rfl, rfl⟩ := H
    go_enter Tryd.func107, Tryd.ntmps107
    go_wp2_with (first | ((with_reducible refine gate_callee (f := 105) rfl ?_); refine goesL_ (some 7) rfl rfl Tryd.func105 (by kernel_rfl) rfl #[.pointer (some ⟨g, 0, none⟩), .int .i64 1] rfl (by (try simp only [List.map_toArray, List.map_cons, List.map_nil]); first | done | rfl | (simp only [List.length_drop, List.length_take]; rfl)) ?_; (with_reducible refine (dryrotref11_in_take.calls k g s0_0 s0_1 s0_2 1 t293 t294 t295 w0 _ ?side1 ?side2 A2.out).mono ?_); (case side1 => repeat (first | (with_reducible first | exact HI0.out | apply IsS145.alloc | apply IsS145.drewN | apply IsS145.drew | apply IsS145.set_1 | apply IsS145.set_2) | exact HI0.out)); (case side2 => repeat (first | (with_reducible first | exact HB.out | apply below_alloc | apply pw_below_drewN | apply below_drew1 | refine below_set ?_ (IsS145.ge HI0.out)) | exact HB.out)); rintro e w4 ⟨rfl, hi, hb, hk⟩; refine ⟨_, rfl, ?_⟩; have n0_ := Aside0.mk (KeepBut.trans (by repeat (first | (with_reducible first | exact HK.out | apply KeepBut.set_ | apply keep_drewN | apply keep_drew | apply keep_alloc) | exact HK.out)) hk (.inl rfl)); have n1_ := Aside0.mk (hb); have n2_ := Aside0.mk (hi); clear HK; clear HB; clear HI0; have HK := n0_; have HB := n1_; have HI0 := n2_; clear n0_ n1_ n2_; (try clear hb); (try clear hb2); (try clear hk); (try clear hi)))
    go_ret
    exact ⟨by first | rfl | (simp [errW_none, errW_some] <;> rfl) | (simp [*, errW_none, errW_some] <;> rfl), by repeat (first | (with_reducible first | exact HI0.out | apply IsS145.alloc | apply IsS145.drewN | apply IsS145.drew | apply IsS145.set_1 | apply IsS145.set_2) | exact HI0.out), by repeat (first | (with_reducible first | exact HB.out | apply below_alloc | apply pw_below_drewN | apply below_drew1 | refine below_set ?_ (IsS145.ge HI0.out)) | exact HB.out), by repeat (first | (with_reducible first | exact HK.out | apply KeepBut.set_ | apply keep_drewN | apply keep_drew | apply keep_alloc) | exact HK.out)⟩
  · rw [if_neg c3] at H
    have c3b0 : (t293 == 0) = false := beq_eq_false_iff_ne.mpr c3
    have c3b1 : (t293 != 0) = true := bne_iff_ne.mpr c3
    replace H := Option.bind_eq_some_iff.mp H
    obtain ⟨⟨t296, t297, t298⟩, A50, H⟩ := H
    replace H : ((dryrotref11_in_take.f k s0_0 t297 t298 6).bind fun bt299 => ((dryrotref11_in_take.f k s0_0 bt299.2.1 bt299.2.2 (wrap64 ((wrap64 (bt299.1)) + 1))).bind fun bt302 => (if (wrap64 ((wrap64 (t296)) + (wrap64 ((wrap64 (bt299.1)) + 1)))) > 64 then (some (0, bt302.2.1, true)) else (if 0 ≤ (wrap64 ((wrap64 (64 - (wrap64 (t296)))) - (wrap64 ((wrap64 (bt299.1)) + 1)))) then (some (shl .u64 bt302.1 (wrap64 ((wrap64 (64 - (wrap64 (t296)))) - (wrap64 ((wrap64 (bt299.1)) + 1)))), bt302.2.1, bt302.2.2)) else (none))))) = some (r1, r2, r3) := H
    have A5 := Aside0.mk A50
    clear A50
    replace H := Option.bind_eq_some_iff.mp H
    obtain ⟨⟨t299, t300, t301⟩, A60, H⟩ := H
    replace H : ((dryrotref11_in_take.f k s0_0 t300 t301 (wrap64 ((wrap64 (t299)) + 1))).bind fun bt302 => (if (wrap64 ((wrap64 (t296)) + (wrap64 ((wrap64 (t299)) + 1)))) > 64 then (some (0, bt302.2.1, true)) else (if 0 ≤ (wrap64 ((wrap64 (64 - (wrap64 (t296)))) - (wrap64 ((wrap64 (t299)) + 1)))) then (some (shl .u64 bt302.1 (wrap64 ((wrap64 (64 - (wrap64 (t296)))) - (wrap64 ((wrap64 (t299)) + 1)))), bt302.2.1, bt302.2.2)) else (none)))) = some (r1, r2, r3) := H
    have A6 := Aside0.mk A60
    clear A60
    replace H := Option.bind_eq_some_iff.mp H
    obtain ⟨⟨t302, t303, t304⟩, A70, H⟩ := H
    replace H : (if (wrap64 ((wrap64 (t296)) + (wrap64 ((wrap64 (t299)) + 1)))) > 64 then (some (0, t303, true)) else (if 0 ≤ (wrap64 ((wrap64 (64 - (wrap64 (t296)))) - (wrap64 ((wrap64 (t299)) + 1)))) then (some (shl .u64 t302 (wrap64 ((wrap64 (64 - (wrap64 (t296)))) - (wrap64 ((wrap64 (t299)) + 1)))), t303, t304)) else (none))) = some (r1, r2, r3) := H
    have A7 := Aside0.mk A70
    clear A70
    by_cases c8 : (wrap64 ((wrap64 (t296)) + (wrap64 ((wrap64 (t299)) + 1)))) > 64
    · rw [if_pos c8] at H
      have c8b0 : decide (64 < (wrap64 ((wrap64 (t296)) + (wrap64 ((wrap64 (t299)) + 1))))) = true := decide_eq_true c8
      clear c8
      simp only [Option.some.injEq, Prod.mk.injEq] at H
      obtain ⟨rfl, rfl, rfl⟩ := H
      go_enter Tryd.func107, Tryd.ntmps107
      go_wp2_with (first | ((with_reducible refine gate_callee (f := 105) rfl ?_); refine goesL_ (some 7) rfl rfl Tryd.func105 (by kernel_rfl) rfl #[.pointer (some ⟨g, 0, none⟩), .int .i64 1] rfl (by (try simp only [List.map_toArray, List.map_cons, List.map_nil]); first | done | rfl | (simp only [List.length_drop, List.length_take]; rfl)) ?_; (with_reducible refine (dryrotref11_in_take.calls k g s0_0 s0_1 s0_2 1 t293 t294 t295 w0 _ ?side1 ?side2 A2.out).mono ?_); (case side1 => repeat (first | (with_reducible first | exact HI0.out | apply IsS145.alloc | apply IsS145.drewN | apply IsS145.drew | apply IsS145.set_1 | apply IsS145.set_2) | exact HI0.out)); (case side2 => repeat (first | (with_reducible first | exact HB.out | apply below_alloc | apply pw_below_drewN | apply below_drew1 | refine below_set ?_ (IsS145.ge HI0.out)) | exact HB.out)); rintro e w9 ⟨rfl, hi, hb, hk⟩; refine ⟨_, rfl, ?_⟩; have n0_ := Aside0.mk (KeepBut.trans (by repeat (first | (with_reducible first | exact HK.out | apply KeepBut.set_ | apply keep_drewN | apply keep_drew | apply keep_alloc) | exact HK.out)) hk (.inl rfl)); have n1_ := Aside0.mk (hb); have n2_ := Aside0.mk (hi); clear HK; clear HB; clear HI0; have HK := n0_; have HB := n1_; have HI0 := n2_; clear n0_ n1_ n2_; (try clear hb); (try clear hb2); (try clear hk); (try clear hi)) | ((with_reducible refine gate_callee (f := 105) rfl ?_); refine goesL_ (some 10) rfl rfl Tryd.func105 (by kernel_rfl) rfl #[.pointer (some ⟨g, 0, none⟩), .int .i64 6] rfl (by (try simp only [List.map_toArray, List.map_cons, List.map_nil]); first | done | rfl | (simp only [List.length_drop, List.length_take]; rfl)) ?_; (with_reducible refine (dryrotref11_in_take.calls k g s0_0 t294 t295 6 t296 t297 t298 w0 _ ?side1 ?side2 A5.out).mono ?_); (case side1 => repeat (first | (with_reducible first | exact HI0.out | apply IsS145.alloc | apply IsS145.drewN | apply IsS145.drew | apply IsS145.set_1 | apply IsS145.set_2) | exact HI0.out)); (case side2 => repeat (first | (with_reducible first | exact HB.out | apply below_alloc | apply pw_below_drewN | apply below_drew1 | refine below_set ?_ (IsS145.ge HI0.out)) | exact HB.out)); rintro e w10 ⟨rfl, hi, hb, hk⟩; refine ⟨_, rfl, ?_⟩; have n0_ := Aside0.mk (KeepBut.trans (by repeat (first | (with_reducible first | exact HK.out | apply KeepBut.set_ | apply keep_drewN | apply keep_drew | apply keep_alloc) | exact HK.out)) hk (.inl rfl)); have n1_ := Aside0.mk (hb); have n2_ := Aside0.mk (hi); clear HK; clear HB; clear HI0; have HK := n0_; have HB := n1_; have HI0 := n2_; clear n0_ n1_ n2_; (try clear hb); (try clear hb2); (try clear hk); (try clear hi)) | ((with_reducible refine gate_callee (f := 105) rfl ?_); refine goesL_ (some 13) rfl rfl Tryd.func105 (by kernel_rfl) rfl #[.pointer (some ⟨g, 0, none⟩), .int .i64 6] rfl (by (try simp only [List.map_toArray, List.map_cons, List.map_nil]); first | done | rfl | (simp only [List.length_drop, List.length_take]; rfl)) ?_; (with_reducible refine (dryrotref11_in_take.calls k g s0_0 t297 t298 6 t299 t300 t301 w0 _ ?side1 ?side2 A6.out).mono ?_); (case side1 => repeat (first | (with_reducible first | exact HI0.out | apply IsS145.alloc | apply IsS145.drewN | apply IsS145.drew | apply IsS145.set_1 | apply IsS145.set_2) | exact HI0.out)); (case side2 => repeat (first | (with_reducible first | exact HB.out | apply below_alloc | apply pw_below_drewN | apply below_drew1 | refine below_set ?_ (IsS145.ge HI0.out)) | exact HB.out)); rintro e w11 ⟨rfl, hi, hb, hk⟩; refine ⟨_, rfl, ?_⟩; have n0_ := Aside0.mk (KeepBut.trans (by repeat (first | (with_reducible first | exact HK.out | apply KeepBut.set_ | apply keep_drewN | apply keep_drew | apply keep_alloc) | exact HK.out)) hk (.inl rfl)); have n1_ := Aside0.mk (hb); have n2_ := Aside0.mk (hi); clear HK; clear HB; clear HI0; have HK := n0_; have HB := n1_; have HI0 := n2_; clear n0_ n1_ n2_; (try clear hb); (try clear hb2); (try clear hk); (try clear hi)) | ((with_reducible refine gate_callee (f := 105) rfl ?_); refine goesL_ (some 18) rfl rfl Tryd.func105 (by kernel_rfl) rfl #[.pointer (some ⟨g, 0, none⟩), .int .i64 (wrap64 ((wrap64 (t299)) + 1))] rfl (by (try simp only [List.map_toArray, List.map_cons, List.map_nil]); first | done | rfl | (simp only [List.length_drop, List.length_take]; rfl)) ?_; (with_reducible refine (dryrotref11_in_take.calls k g s0_0 t300 t301 (wrap64 ((wrap64 (t299)) + 1)) t302 t303 t304 w0 _ ?side1 ?side2 A7.out).mono ?_); (case side1 => repeat (first | (with_reducible first | exact HI0.out | apply IsS145.alloc | apply IsS145.drewN | apply IsS145.drew | apply IsS145.set_1 | apply IsS145.set_2) | exact HI0.out)); (case side2 => repeat (first | (with_reducible first | exact HB.out | apply below_alloc | apply pw_below_drewN | apply below_drew1 | refine below_set ?_ (IsS145.ge HI0.out)) | exact HB.out)); rintro e w12 ⟨rfl, hi, hb, hk⟩; refine ⟨_, rfl, ?_⟩; have n0_ := Aside0.mk (KeepBut.trans (by repeat (first | (with_reducible first | exact HK.out | apply KeepBut.set_ | apply keep_drewN | apply keep_drew | apply keep_alloc) | exact HK.out)) hk (.inl rfl)); have n1_ := Aside0.mk (hb); have n2_ := Aside0.mk (hi); clear HK; clear HB; clear HI0; have HK := n0_; have HB := n1_; have HI0 := n2_; clear n0_ n1_ n2_; (try clear hb); (try clear hb2); (try clear hk); (try clear hi); obtain ⟨ASz13_0, cSz13_0, HGz13, hgz13, HSz13_0⟩ := HI0.out; have hcz13_0 := cellS145_0 HGz13; have hcz13_1 := cellS145_1 HGz13; have hcz13_2 := cellS145_2 HGz13; have hfz13_1 := blk_frozen HGz13 1; have hfz13_2 := blk_frozen HGz13 2; clear HGz13 hgz13))
      go_ret
      exact ⟨by first | rfl | (simp [errW_none, errW_some] <;> rfl) | (simp [*, errW_none, errW_some] <;> rfl), by repeat (first | (with_reducible first | exact HI0.out | apply IsS145.alloc | apply IsS145.drewN | apply IsS145.drew | apply IsS145.set_1 | apply IsS145.set_2) | exact HI0.out), by repeat (first | (with_reducible first | exact HB.out | apply below_alloc | apply pw_below_drewN | apply below_drew1 | refine below_set ?_ (IsS145.ge HI0.out)) | exact HB.out), by repeat (first | (with_reducible first | exact HK.out | apply KeepBut.set_ | apply keep_drewN | apply keep_drew | apply keep_alloc) | exact HK.out)⟩
    · rw [if_neg c8] at H
      have c8b0 : decide (64 < (wrap64 ((wrap64 (t296)) + (wrap64 ((wrap64 (t299)) + 1))))) = false := decide_eq_false c8
      clear c8
      obtain ⟨ji14, hji14⟩ : ∃ j_ : Int, (wrap64 ((wrap64 (64 - (wrap64 (t296)))) - (wrap64 ((wrap64 (t299)) + 1)))) = j_ := ⟨_, rfl⟩
      replace H : (if 0 ≤ (ji14) then (some (shl .u64 t302 (ji14), t303, t304)) else (none)) = some (r1, r2, r3) := by first | (rw [hji14] at H; exact H) | (simp only [hji14] at H ⊢; exact H)
      (try rw [hji14] at A2)
      (try rw [hji14] at A5)
      (try rw [hji14] at A6)
      (try rw [hji14] at A7)
      have hji14w : (IntKind.i64.wrap ((wrap64 (64 - (wrap64 (t296)))) - (wrap64 ((wrap64 (t299)) + 1)))) = ji14 := (i64_w _).trans hji14
      by_cases c15 : 0 ≤ (ji14)
      · rw [if_pos c15] at H
        have c15b0 := eq_true c15
        have c15b1 : decide (0 ≤ (ji14)) = true := decide_eq_true c15
        clear c15
        obtain ⟨ji16, hji16⟩ : ∃ j_ : Int, (shl .u64 t302 (ji14)) = j_ := ⟨_, rfl⟩
        replace H : (some (ji16, t303, t304)) = some (r1, r2, r3) := by first | (rw [hji16] at H; exact H) | (simp only [hji16] at H ⊢; exact H)
        (try rw [hji16] at A2)
        (try rw [hji16] at A5)
        (try rw [hji16] at A6)
        (try rw [hji16] at A7)
        have hji16_ : (IntKind.u64.wrap (t302 * 2 ^ min (ji14).toNat 64)) = ji16 := hji16
        have hji16z : (ji14) ≤ 64 → (IntKind.u64.wrap (t302 * 2 ^ (ji14).toNat)) = ji16 := shl_small hji16
        simp only [Option.some.injEq, Prod.mk.injEq] at H
        obtain ⟨rfl, rfl, rfl⟩ := H
        go_enter Tryd.func107, Tryd.ntmps107
        go_wp2_with (first | ((with_reducible refine gate_callee (f := 105) rfl ?_); refine goesL_ (some 7) rfl rfl Tryd.func105 (by kernel_rfl) rfl #[.pointer (some ⟨g, 0, none⟩), .int .i64 1] rfl (by (try simp only [List.map_toArray, List.map_cons, List.map_nil]); first | done | rfl | (simp only [List.length_drop, List.length_take]; rfl)) ?_; (with_reducible refine (dryrotref11_in_take.calls k g s0_0 s0_1 s0_2 1 t293 t294 t295 w0 _ ?side1 ?side2 A2.out).mono ?_); (case side1 => repeat (first | (with_reducible first | exact HI0.out | apply IsS145.alloc | apply IsS145.drewN | apply IsS145.drew | apply IsS145.set_1 | apply IsS145.set_2) | exact HI0.out)); (case side2 => repeat (first | (with_reducible first | exact HB.out | apply below_alloc | apply pw_below_drewN | apply below_drew1 | refine below_set ?_ (IsS145.ge HI0.out)) | exact HB.out)); rintro e w17 ⟨rfl, hi, hb, hk⟩; refine ⟨_, rfl, ?_⟩; have n0_ := Aside0.mk (KeepBut.trans (by repeat (first | (with_reducible first | exact HK.out | apply KeepBut.set_ | apply keep_drewN | apply keep_drew | apply keep_alloc) | exact HK.out)) hk (.inl rfl)); have n1_ := Aside0.mk (hb); have n2_ := Aside0.mk (hi); clear HK; clear HB; clear HI0; have HK := n0_; have HB := n1_; have HI0 := n2_; clear n0_ n1_ n2_; (try clear hb); (try clear hb2); (try clear hk); (try clear hi)) | ((with_reducible refine gate_callee (f := 105) rfl ?_); refine goesL_ (some 10) rfl rfl Tryd.func105 (by kernel_rfl) rfl #[.pointer (some ⟨g, 0, none⟩), .int .i64 6] rfl (by (try simp only [List.map_toArray, List.map_cons, List.map_nil]); first | done | rfl | (simp only [List.length_drop, List.length_take]; rfl)) ?_; (with_reducible refine (dryrotref11_in_take.calls k g s0_0 t294 t295 6 t296 t297 t298 w0 _ ?side1 ?side2 A5.out).mono ?_); (case side1 => repeat (first | (with_reducible first | exact HI0.out | apply IsS145.alloc | apply IsS145.drewN | apply IsS145.drew | apply IsS145.set_1 | apply IsS145.set_2) | exact HI0.out)); (case side2 => repeat (first | (with_reducible first | exact HB.out | apply below_alloc | apply pw_below_drewN | apply below_drew1 | refine below_set ?_ (IsS145.ge HI0.out)) | exact HB.out)); rintro e w18 ⟨rfl, hi, hb, hk⟩; refine ⟨_, rfl, ?_⟩; have n0_ := Aside0.mk (KeepBut.trans (by repeat (first | (with_reducible first | exact HK.out | apply KeepBut.set_ | apply keep_drewN | apply keep_drew | apply keep_alloc) | exact HK.out)) hk (.inl rfl)); have n1_ := Aside0.mk (hb); have n2_ := Aside0.mk (hi); clear HK; clear HB; clear HI0; have HK := n0_; have HB := n1_; have HI0 := n2_; clear n0_ n1_ n2_; (try clear hb); (try clear hb2); (try clear hk); (try clear hi)) | ((with_reducible refine gate_callee (f := 105) rfl ?_); refine goesL_ (some 13) rfl rfl Tryd.func105 (by kernel_rfl) rfl #[.pointer (some ⟨g, 0, none⟩), .int .i64 6] rfl (by (try simp only [List.map_toArray, List.map_cons, List.map_nil]); first | done | rfl | (simp only [List.length_drop, List.length_take]; rfl)) ?_; (with_reducible refine (dryrotref11_in_take.calls k g s0_0 t297 t298 6 t299 t300 t301 w0 _ ?side1 ?side2 A6.out).mono ?_); (case side1 => repeat (first | (with_reducible first | exact HI0.out | apply IsS145.alloc | apply IsS145.drewN | apply IsS145.drew | apply IsS145.set_1 | apply IsS145.set_2) | exact HI0.out)); (case side2 => repeat (first | (with_reducible first | exact HB.out | apply below_alloc | apply pw_below_drewN | apply below_drew1 | refine below_set ?_ (IsS145.ge HI0.out)) | exact HB.out)); rintro e w19 ⟨rfl, hi, hb, hk⟩; refine ⟨_, rfl, ?_⟩; have n0_ := Aside0.mk (KeepBut.trans (by repeat (first | (with_reducible first | exact HK.out | apply KeepBut.set_ | apply keep_drewN | apply keep_drew | apply keep_alloc) | exact HK.out)) hk (.inl rfl)); have n1_ := Aside0.mk (hb); have n2_ := Aside0.mk (hi); clear HK; clear HB; clear HI0; have HK := n0_; have HB := n1_; have HI0 := n2_; clear n0_ n1_ n2_; (try clear hb); (try clear hb2); (try clear hk); (try clear hi)) | ((with_reducible refine gate_callee (f := 105) rfl ?_); refine goesL_ (some 18) rfl rfl Tryd.func105 (by kernel_rfl) rfl #[.pointer (some ⟨g, 0, none⟩), .int .i64 (wrap64 ((wrap64 (t299)) + 1))] rfl (by (try simp only [List.map_toArray, List.map_cons, List.map_nil]); first | done | rfl | (simp only [List.length_drop, List.length_take]; rfl)) ?_; (with_reducible refine (dryrotref11_in_take.calls k g s0_0 t300 t301 (wrap64 ((wrap64 (t299)) + 1)) t302 t303 t304 w0 _ ?side1 ?side2 A7.out).mono ?_); (case side1 => repeat (first | (with_reducible first | exact HI0.out | apply IsS145.alloc | apply IsS145.drewN | apply IsS145.drew | apply IsS145.set_1 | apply IsS145.set_2) | exact HI0.out)); (case side2 => repeat (first | (with_reducible first | exact HB.out | apply below_alloc | apply pw_below_drewN | apply below_drew1 | refine below_set ?_ (IsS145.ge HI0.out)) | exact HB.out)); rintro e w20 ⟨rfl, hi, hb, hk⟩; refine ⟨_, rfl, ?_⟩; have n0_ := Aside0.mk (KeepBut.trans (by repeat (first | (with_reducible first | exact HK.out | apply KeepBut.set_ | apply keep_drewN | apply keep_drew | apply keep_alloc) | exact HK.out)) hk (.inl rfl)); have n1_ := Aside0.mk (hb); have n2_ := Aside0.mk (hi); clear HK; clear HB; clear HI0; have HK := n0_; have HB := n1_; have HI0 := n2_; clear n0_ n1_ n2_; (try clear hb); (try clear hb2); (try clear hk); (try clear hi)))
        go_ret
        exact ⟨by first | rfl | (simp [errW_none, errW_some] <;> rfl) | (simp only [← hji14, ← hji16]; first | rfl | (simp [errW_none, errW_some] <;> rfl)) | (simp [*, errW_none, errW_some] <;> rfl), by repeat (first | (with_reducible first | exact HI0.out | apply IsS145.alloc | apply IsS145.drewN | apply IsS145.drew | apply IsS145.set_1 | apply IsS145.set_2) | exact HI0.out), by repeat (first | (with_reducible first | exact HB.out | apply below_alloc | apply pw_below_drewN | apply below_drew1 | refine below_set ?_ (IsS145.ge HI0.out)) | exact HB.out), by repeat (first | (with_reducible first | exact HK.out | apply KeepBut.set_ | apply keep_drewN | apply keep_drew | apply keep_alloc) | exact HK.out)⟩
      · rw [if_neg c15] at H
        exact absurd H (by simp)
end Go.Proofs.YtbgmnmjokdfmlaaDoor.PA
namespace Go.Proofs.YtbgmnmjokdfmlaaDoor.PA
open Go.RowKit Go.Proofs.YtbgmnmjokdfmlaaDoor.G Go.Proofs.YtbgmnmjokdfmlaaDoorW.PrintWords Go.Proofs.YtbgmnmjokdfmlaaDoorW.PrintLast Go.Proofs.YtbgmnmjokdfmlaaDoorW.PrintMore
set_option linter.unusedVariables false
set_option linter.unusedSimpArgs false
def rT (xb : List Int) (p : Nat) (bad : Bool) (c : Nat) : Nat × Nat × Bool := if p + c ≤ 8 * xb.length then (num (win xb p c), p + c, bad) else (0, 8 * xb.length, true)
theorem bit_val {xb : List Int} (hx : OkL xb) (p : Nat) : IntKind.u64.wrap (Go.bits .and .u8 (shr .u8 (rd xb ((p / 8 : Nat) : Int)) ((7 - p % 8 : Nat) : Int)) 1) = (((bit xb p).toNat : Nat) : Int) := by
  have ha := hx.at (p / 8)
  rw [rd_nat]
  unfold bit
  obtain ⟨a, hA⟩ := Int.eq_ofNat_of_zero_le ha.1
  rw [hA] at ha ⊢
  have ha2 : a < 256 := by omega
  rw [Int.toNat_natCast, shr_nat .u8 a (7 - p % 8) (by simp [IntKind.bits]; omega), show (1 : Int) = ((1 : Nat) : Int) from rfl, u8_and_nat _ 1 (Nat.lt_of_le_of_lt (Nat.div_le_self _ _) ha2) (by omega), Nat.and_one_is_mod]
  rw [u64wrap (by have := Nat.mod_lt (a / 2 ^ (7 - p % 8)) (show 0 < 2 by decide); omega), Nat.testBit_eq_decide_div_mod_eq]
  rcases Nat.mod_two_eq_zero_or_one (a / 2 ^ (7 - p % 8)) with h | h <;> rw [h] <;> rfl
theorem win_snoc (l : List Int) (p i : Nat) : win l p (i + 1) = win l p i ++ [bit l (p + i)] := by
  unfold win
  rw [List.range_succ, List.map_append]
  rfl
theorem num_snoc (l : List Int) (p i : Nat) : num (win l p (i + 1)) = 2 * num (win l p i) + (bit l (p + i)).toNat := by
  rw [win_snoc, num_append]
  show num (win l p i) * 2 ^ 1 + num [bit l (p + i)] = _
  rw [show num [bit l (p + i)] = (bit l (p + i)).toNat by cases bit l (p + i) <;> rfl]
  omega
theorem w_td {q : Nat} (h : q ≤ 10000000) : wrap64 (Int.tdiv (q : Int) 8) = ((q / 8 : Nat) : Int) := by rw [td8]; exact w64n (by omega)
theorem w_tm {q : Nat} (h : q ≤ 10000000) : wrap64 (7 - Int.tmod (q : Int) 8) = ((7 - q % 8 : Nat) : Int) := by rw [tm8, w64 (by omega) (by omega)]; omega
theorem w_s1 {q : Nat} (h : q ≤ 10000000) : wrap64 ((q : Int) + 1) = ((q + 1 : Nat) : Int) := by rw [w64 (by omega) (by omega)]; omega
theorem w_8 {q : Nat} (h : q ≤ 10000000) : wrap64 (8 * (q : Int)) = ((8 * q : Nat) : Int) := by rw [w64 (by omega) (by omega)]; omega
theorem acc_step (xb : List Int) (p i : Nat) (hi : i < 64) : IntKind.u64.wrap (IntKind.u64.wrap (((num (win xb p i) : Nat) : Int) * 2) + (((bit xb (p + i)).toNat : Nat) : Int)) = ((num (win xb p (i + 1)) : Nat) : Int) := by
  have hlt := num_lt (win xb p i)
  rw [win_length] at hlt
  have h2 : 2 ^ (i + 1) ≤ 2 ^ 64 := Nat.pow_le_pow_right (by decide) (by omega)
  rw [Nat.pow_succ] at h2
  have hb1 : (bit xb (p + i)).toNat ≤ 1 := by cases bit xb (p + i) <;> decide
  rw [num_snoc]
  generalize num (win xb p i) = n at *
  generalize (bit xb (p + i)).toNat = b at *
  have h3 : n * 2 < 18446744073709551616 := by omega
  clear hlt h2
  rw [show ((n : Int) * 2) = ((n * 2 : Nat) : Int) by omega, u64wrap h3, show (((n * 2 : Nat) : Int) + (b : Int)) = ((2 * n + b : Nat) : Int) by omega]
  exact u64wrap (by omega)
theorem take_one {xb : List Int} (hx : OkL xb) (hlen : xb.length ≤ 100000) (p0 : Nat) (bad : Bool) (c i k : Nat) (hi : i < c) (hc : c ≤ 64) (hq : p0 + i < 8 * xb.length) :
    dryrotref11_in_take.l0 (k + 1) ((num (win xb p0 i) : Nat) : Int) (c : Int) (i : Int) xb ((p0 + i : Nat) : Int) bad = dryrotref11_in_take.l0 k ((num (win xb p0 (i + 1)) : Nat) : Int) (c : Int) ((i + 1 : Nat) : Int) xb ((p0 + (i + 1) : Nat) : Int) bad := by
  rw [dryrotref11_in_take.l0]
  rw [if_pos (by omega), w_8 (by omega), if_neg (by omega), w_td (by omega), w_tm (by omega), if_pos (by omega), if_pos (by omega), if_pos (by omega), bit_val hx, acc_step xb p0 i (by omega), w_s1 (by omega), w_s1 (by omega), Nat.add_assoc]
theorem take_go {xb : List Int} (hx : OkL xb) (hlen : xb.length ≤ 100000) (p0 : Nat) (bad : Bool) (c : Nat) (hc : c ≤ 64) : ∀ d i, i + d = c → p0 + i ≤ 8 * xb.length → ∀ k, d < k →
    dryrotref11_in_take.l0 k ((num (win xb p0 i) : Nat) : Int) (c : Int) (i : Int) xb ((p0 + i : Nat) : Int) bad = some (((rT xb p0 bad c).1 : Int), ((rT xb p0 bad c).2.1 : Int), (rT xb p0 bad c).2.2)
  | 0, i, h, hp, k + 1, hk => by
    rw [dryrotref11_in_take.l0]
    obtain rfl : i = c := by omega
    rw [if_neg (by omega), rT, if_pos hp]
  | d + 1, i, h, hp, k + 1, hk => by
    by_cases hq : p0 + i < 8 * xb.length
    · rw [take_one hx hlen p0 bad c i k (by omega) hc hq]
      exact take_go hx hlen p0 bad c hc d (i + 1) (by omega) (by omega) k (by omega)
    · rw [dryrotref11_in_take.l0]
      rw [if_pos (by omega), w_8 (by omega), if_pos (by omega), rT, if_neg (by omega), show p0 + i = 8 * xb.length by omega]
      rfl
theorem take_r {xb : List Int} (hx : OkL xb) (hlen : xb.length ≤ 100000) (p : Nat) (bad : Bool) (c : Nat) (hc : c ≤ 64) (hp : p ≤ 8 * xb.length) (k : Nat) (hk : c < k) :
    dryrotref11_in_take.f k xb (p : Int) bad (c : Int) = some (((rT xb p bad c).1 : Int), ((rT xb p bad c).2.1 : Int), (rT xb p bad c).2.2) := by
  unfold dryrotref11_in_take.f
  exact take_go hx hlen p bad c hc c 0 (by omega) (by omega) k hk
theorem rT_place (xb : List Int) (p : Nat) (bad : Bool) (c : Nat) (hp : p ≤ 8 * xb.length) : p ≤ (rT xb p bad c).2.1 ∧ (rT xb p bad c).2.1 ≤ 8 * xb.length ∧ ((rT xb p bad c).2.2 = false → bad = false ∧ (rT xb p bad c).2.1 = p + c) ∧ (rT xb p bad c).1 < 2 ^ c := by
  unfold rT
  split
  · refine ⟨Nat.le_add_right _ _, by assumption, fun h => ⟨h, rfl⟩, ?_⟩
    have := num_lt (win xb p c)
    rwa [win_length] at this
  · exact ⟨hp, Nat.le_refl _, fun h => by simp at h, Nat.two_pow_pos _⟩
def rTail (xb : List Int) (p : Nat) (bad : Bool) (K : Int) : Int × Nat × Bool := (sgn (rT xb p bad (widthN K).toNat).1 (widthN K).toNat, (rT xb p bad (widthN K).toNat).2)
def rHead (xb : List Int) : Nat → Nat → Bool → Int × Nat × Bool
  | 0, p, bad => rTail xb p bad 4
  | m + 1, p, bad => if (rT xb p bad 1).1 = 1 then rHead xb m (rT xb p bad 1).2.1 (rT xb p bad 1).2.2 else rTail xb (rT xb p bad 1).2.1 (rT xb p bad 1).2.2 (3 - (m : Int))
theorem sgn_step {n w : Nat} (P : Int) (b : Bool) (hw : w = 0 ∨ w = 7 ∨ w = 12 ∨ w = 32 ∨ w = 64) (hn : n < 2 ^ w) :
    (if (w : Int) > 0 then (if (w : Int) < 64 then (if 0 ≤ wrap64 ((w : Int) - 1) then (if wrap64 (n : Int) ≥ shl .i64 1 (wrap64 ((w : Int) - 1)) then (if 0 ≤ (w : Int) then some (wrap64 (wrap64 (n : Int) - shl .i64 1 (w : Int)), P, b) else none) else some (wrap64 (n : Int), P, b)) else none) else some (wrap64 (n : Int), P, b)) else some (wrap64 (n : Int), P, b)) = some (sgn n w, P, b) := by
  have hsm : w = 0 ∨ w = 7 ∨ w = 12 ∨ w = 32 ∨ w = 64 := hw
  rcases hw with rfl | rfl | rfl | rfl | rfl
  · have : n = 0 := by omega
    subst this
    rw [if_neg (by decide), show wrap64 ((0 : Nat) : Int) = sgn 0 0 by decide +kernel]
  · rw [if_pos (by decide), if_pos (by decide), if_pos (by decide +kernel), show shl .i64 1 (wrap64 (((7 : Nat) : Int) - 1)) = 64 by decide +kernel, show shl .i64 1 ((7 : Nat) : Int) = 128 by decide +kernel, w64n (by omega)]
    unfold sgn
    by_cases h : 64 ≤ n
    · rw [if_pos (by omega), if_pos (by decide), w64 (by omega) (by omega), if_pos ⟨by decide, by simpa using h⟩]; rfl
    · rw [if_neg (by omega), if_neg (by simp; omega)]
  · rw [if_pos (by decide), if_pos (by decide), if_pos (by decide +kernel), show shl .i64 1 (wrap64 (((12 : Nat) : Int) - 1)) = 2048 by decide +kernel, show shl .i64 1 ((12 : Nat) : Int) = 4096 by decide +kernel, w64n (by omega)]
    unfold sgn
    by_cases h : 2048 ≤ n
    · rw [if_pos (by omega), if_pos (by decide), w64 (by omega) (by omega), if_pos ⟨by decide, by simpa using h⟩]; rfl
    · rw [if_neg (by omega), if_neg (by simp; omega)]
  · rw [if_pos (by decide), if_pos (by decide), if_pos (by decide +kernel), show shl .i64 1 (wrap64 (((32 : Nat) : Int) - 1)) = 2147483648 by decide +kernel, show shl .i64 1 ((32 : Nat) : Int) = 4294967296 by decide +kernel, w64n (by omega)]
    unfold sgn
    by_cases h : 2147483648 ≤ n
    · rw [if_pos (by omega), if_pos (by decide), w64 (by omega) (by omega), if_pos ⟨by decide, by simpa using h⟩]; rfl
    · rw [if_neg (by omega), if_neg (by simp; omega)]
  · rw [if_pos (by decide), if_neg (by decide), sgn_64 (by omega)]
theorem widths5 (K : Int) : (widthN K).toNat = 0 ∨ (widthN K).toNat = 7 ∨ (widthN K).toNat = 12 ∨ (widthN K).toNat = 32 ∨ (widthN K).toNat = 64 := widths K
theorem tint_go {xb : List Int} (hx : OkL xb) (hlen : xb.length ≤ 100000) : ∀ (m : Nat), m ≤ 4 → ∀ (p : Nat) (bad : Bool), p ≤ 8 * xb.length → ∀ k, 70 + m < k →
    dryrotref11_in_takeInt.l0 k (4 - (m : Int)) xb (p : Int) bad = some ((rHead xb m p bad).1, ((rHead xb m p bad).2.1 : Int), (rHead xb m p bad).2.2) := by
  have hw : ∀ K : Int, widthN K = (((widthN K).toNat : Nat) : Int) := fun K => by have := (width_le K).1; omega
  have hw64 : ∀ K : Int, (widthN K).toNat ≤ 64 := fun K => by have := (width_le K).2; omega
  intro m
  induction m with
  | zero =>
    intro _ p bad hp k hk
    obtain ⟨k, rfl⟩ : ∃ k', k = k' + 1 := ⟨k - 1, by omega⟩
    rw [dryrotref11_in_takeInt.l0, show (4 - ((0 : Nat) : Int)) = 4 from rfl]
    rw [if_neg (by decide), Option.bind_some, if_pos (by decide), if_pos (by decide), table5 4 (by decide) (by decide), hw 4, take_r hx hlen p bad _ (hw64 4) hp k (by have := hw64 4; omega), Option.bind_some]
    have h3 := (rT_place xb p bad (widthN 4).toNat hp).2.2.2
    exact sgn_step _ _ (widths5 4) h3
  | succ m ih =>
    intro hm p bad hp k hk
    obtain ⟨k, rfl⟩ : ∃ k', k = k' + 1 := ⟨k - 1, by omega⟩
    rw [dryrotref11_in_takeInt.l0]
    have h1 := rT_place xb p bad 1 hp
    have ht := take_r hx hlen p bad 1 (by decide) hp k (by omega)
    rw [show ((1 : Nat) : Int) = 1 from rfl] at ht
    rw [if_pos (by omega), ht, Option.bind_some]
    simp only
    obtain ⟨⟨t1, p1, b1⟩, e1⟩ : ∃ t, rT xb p bad 1 = t := ⟨_, rfl⟩
    rw [rHead]
    rw [e1] at h1 ⊢
    simp only at h1 ⊢
    by_cases h : t1 = 1
    · rw [if_pos (by omega), if_pos h, show wrap64 (4 - ((m + 1 : Nat) : Int) + 1) = 4 - (m : Int) by rw [w64 (by omega) (by omega)]; omega]
      exact ih (by omega) p1 b1 h1.2.1 k (by omega)
    · rw [if_neg (by omega), if_neg h, Option.bind_some, show 4 - ((m + 1 : Nat) : Int) = 3 - (m : Int) by omega, if_pos (by omega), if_pos (by simp; omega), table5 (3 - (m : Int)) (by omega) (by omega), hw (3 - (m : Int)), take_r hx hlen p1 b1 _ (hw64 _) h1.2.1 k (by have := hw64 (3 - (m : Int)); omega), Option.bind_some]
      have h3 := (rT_place xb p1 b1 (widthN (3 - (m : Int))).toNat h1.2.1).2.2.2
      exact sgn_step _ _ (widths5 _) h3
theorem tint_r {xb : List Int} (hx : OkL xb) (hlen : xb.length ≤ 100000) (p : Nat) (bad : Bool) (hp : p ≤ 8 * xb.length) :
    dryrotref11_in_takeInt.f 100 xb (p : Int) bad = some ((rHead xb 4 p bad).1, ((rHead xb 4 p bad).2.1 : Int), (rHead xb 4 p bad).2.2) := by
  unfold dryrotref11_in_takeInt.f
  exact tint_go hx hlen 4 (by decide) p bad hp 100 (by decide)
theorem rTail_place (xb : List Int) (p : Nat) (bad : Bool) (K : Int) (hp : p ≤ 8 * xb.length) : p ≤ (rTail xb p bad K).2.1 ∧ (rTail xb p bad K).2.1 ≤ 8 * xb.length ∧ ((rTail xb p bad K).2.2 = false → bad = false) := by
  have h := rT_place xb p bad (widthN K).toNat hp
  exact ⟨h.1, h.2.1, fun e => (h.2.2.1 e).1⟩
theorem rHead_place (xb : List Int) : ∀ (m p : Nat) (bad : Bool), p ≤ 8 * xb.length → p ≤ (rHead xb m p bad).2.1 ∧ (rHead xb m p bad).2.1 ≤ 8 * xb.length ∧ ((rHead xb m p bad).2.2 = false → bad = false ∧ p + (if m = 0 then 0 else 1) ≤ (rHead xb m p bad).2.1)
  | 0, p, bad, hp => by
    have h := rTail_place xb p bad 4 hp
    exact ⟨h.1, h.2.1, fun e => ⟨h.2.2 e, h.1⟩⟩
  | m + 1, p, bad, hp => by
    have h1 := rT_place xb p bad 1 hp
    have hz : (if m + 1 = 0 then 0 else 1) = 1 := if_neg (Nat.succ_ne_zero m)
    rw [hz]
    by_cases h : (rT xb p bad 1).1 = 1
    · rw [rHead, if_pos h]
      have h2 := rHead_place xb m (rT xb p bad 1).2.1 (rT xb p bad 1).2.2 h1.2.1
      refine ⟨by omega, h2.2.1, fun e => ?_⟩
      have h3 := h2.2.2 e
      have h4 := h1.2.2.1 h3.1
      exact ⟨h4.1, by omega⟩
    · rw [rHead, if_neg h]
      have h2 := rTail_place xb (rT xb p bad 1).2.1 (rT xb p bad 1).2.2 (3 - (m : Int)) h1.2.1
      refine ⟨by omega, h2.2.1, fun e => ?_⟩
      have h4 := h1.2.2.1 (h2.2.2 e)
      exact ⟨h4.1, by omega⟩
theorem rHead_of (xb : List Int) (bad : Bool) {v q : Int} : ∀ (m p : Nat), p ≤ 8 * xb.length → headI xb (8 * xb.length) m p = (v, q, 0) → (rHead xb m p bad).1 = v ∧ ((rHead xb m p bad).2.1 : Int) = q ∧ (rHead xb m p bad).2.2 = bad := by
  have tl : ∀ (K : Int) (p : Nat), tailI xb (8 * xb.length) p K = (v, q, 0) → (rTail xb p bad K).1 = v ∧ ((rTail xb p bad K).2.1 : Int) = q ∧ (rTail xb p bad K).2.2 = bad := by
    intro K p h
    have hw := (width_le K).1
    unfold tailI at h
    split at h
    · simp at h
    · split at h
      · simp only [Prod.mk.injEq, and_true] at h
        unfold rTail rT
        rw [if_pos (by omega)]
        exact ⟨h.1, h.2, rfl⟩
      · simp at h
  intro m
  induction m with
  | zero => intro p hp h; exact tl 4 p h
  | succ m ih =>
    intro p hp h
    rw [headI] at h
    split at h
    · simp at h
    · rename_i hlt
      have e1 : rT xb p bad 1 = ((bit xb p).toNat, p + 1, bad) := by
        unfold rT
        rw [if_pos (by omega), win_one]
        congr 1
        cases bit xb p <;> rfl
      rw [rHead, e1]
      split at h
      · rename_i hb
        rw [if_pos (by rw [hb]; rfl)]
        exact ih (p + 1) (by omega) h
      · rename_i hb
        rw [if_neg (by rw [Bool.not_eq_true] at hb; rw [hb]; simp)]
        exact tl _ (p + 1) h
def rX (xb : List Int) (p : Nat) (bad : Bool) : Int × Nat × Bool :=
  if (rT xb p bad 1).1 = 0 then (0, (rT xb p bad 1).2) else
  if 64 < (rT xb (rT xb p bad 1).2.1 (rT xb p bad 1).2.2 6).1 + ((rT xb (rT xb (rT xb p bad 1).2.1 (rT xb p bad 1).2.2 6).2.1 (rT xb (rT xb p bad 1).2.1 (rT xb p bad 1).2.2 6).2.2 6).1 + 1) then
    (0, (rT xb (rT xb (rT xb (rT xb p bad 1).2.1 (rT xb p bad 1).2.2 6).2.1 (rT xb (rT xb p bad 1).2.1 (rT xb p bad 1).2.2 6).2.2 6).2.1 (rT xb (rT xb (rT xb p bad 1).2.1 (rT xb p bad 1).2.2 6).2.1 (rT xb (rT xb p bad 1).2.1 (rT xb p bad 1).2.2 6).2.2 6).2.2 ((rT xb (rT xb (rT xb p bad 1).2.1 (rT xb p bad 1).2.2 6).2.1 (rT xb (rT xb p bad 1).2.1 (rT xb p bad 1).2.2 6).2.2 6).1 + 1)).2.1, true) else
  (shl .u64 (rT xb (rT xb (rT xb (rT xb p bad 1).2.1 (rT xb p bad 1).2.2 6).2.1 (rT xb (rT xb p bad 1).2.1 (rT xb p bad 1).2.2 6).2.2 6).2.1 (rT xb (rT xb (rT xb p bad 1).2.1 (rT xb p bad 1).2.2 6).2.1 (rT xb (rT xb p bad 1).2.1 (rT xb p bad 1).2.2 6).2.2 6).2.2 ((rT xb (rT xb (rT xb p bad 1).2.1 (rT xb p bad 1).2.2 6).2.1 (rT xb (rT xb p bad 1).2.1 (rT xb p bad 1).2.2 6).2.2 6).1 + 1)).1 ((64 - (rT xb (rT xb p bad 1).2.1 (rT xb p bad 1).2.2 6).1 - ((rT xb (rT xb (rT xb p bad 1).2.1 (rT xb p bad 1).2.2 6).2.1 (rT xb (rT xb p bad 1).2.1 (rT xb p bad 1).2.2 6).2.2 6).1 + 1) : Nat) : Int),
    (rT xb (rT xb (rT xb (rT xb p bad 1).2.1 (rT xb p bad 1).2.2 6).2.1 (rT xb (rT xb p bad 1).2.1 (rT xb p bad 1).2.2 6).2.2 6).2.1 (rT xb (rT xb (rT xb p bad 1).2.1 (rT xb p bad 1).2.2 6).2.1 (rT xb (rT xb p bad 1).2.1 (rT xb p bad 1).2.2 6).2.2 6).2.2 ((rT xb (rT xb (rT xb p bad 1).2.1 (rT xb p bad 1).2.2 6).2.1 (rT xb (rT xb p bad 1).2.1 (rT xb p bad 1).2.2 6).2.2 6).1 + 1)).2)
theorem rX_eq {xb : List Int} {p : Nat} {bad : Bool} {n1 p1 n2 p2 n3 p3 n4 p4 : Nat} {b1 b2 b3 b4 : Bool} (h1 : rT xb p bad 1 = (n1, p1, b1)) (h2 : rT xb p1 b1 6 = (n2, p2, b2)) (h3 : rT xb p2 b2 6 = (n3, p3, b3)) (h4 : rT xb p3 b3 (n3 + 1) = (n4, p4, b4)) :
    rX xb p bad = if n1 = 0 then (0, p1, b1) else if 64 < n2 + (n3 + 1) then (0, p4, true) else (shl .u64 (n4 : Int) ((64 - n2 - (n3 + 1) : Nat) : Int), p4, b4) := by
  unfold rX
  simp only [h1, h2, h3, h4]
theorem txor_r {xb : List Int} (hx : OkL xb) (hlen : xb.length ≤ 100000) (p : Nat) (bad : Bool) (hp : p ≤ 8 * xb.length) :
    dryrotref11_in_takeXor.f 100 xb (p : Int) bad = some ((rX xb p bad).1, ((rX xb p bad).2.1 : Int), (rX xb p bad).2.2) := by
  obtain ⟨⟨n1, p1, b1⟩, h1⟩ : ∃ t, rT xb p bad 1 = t := ⟨_, rfl⟩
  obtain ⟨⟨n2, p2, b2⟩, h2⟩ : ∃ t, rT xb p1 b1 6 = t := ⟨_, rfl⟩
  obtain ⟨⟨n3, p3, b3⟩, h3⟩ : ∃ t, rT xb p2 b2 6 = t := ⟨_, rfl⟩
  obtain ⟨⟨n4, p4, b4⟩, h4⟩ : ∃ t, rT xb p3 b3 (n3 + 1) = t := ⟨_, rfl⟩
  have g1 := rT_place xb p bad 1 hp
  rw [h1] at g1
  have g2 := rT_place xb p1 b1 6 g1.2.1
  rw [h2] at g2
  have g3 := rT_place xb p2 b2 6 g2.2.1
  rw [h3] at g3
  simp only at g1 g2 g3
  have m2 : n2 < 64 := g2.2.2.2
  have m3 : n3 < 64 := g3.2.2.2
  have t1 := take_r hx hlen p bad 1 (by decide) hp 100 (by decide)
  have t2 := take_r hx hlen p1 b1 6 (by decide) g1.2.1 100 (by decide)
  have t3 := take_r hx hlen p2 b2 6 (by decide) g2.2.1 100 (by decide)
  have t4 := take_r hx hlen p3 b3 (n3 + 1) (by omega) g3.2.1 100 (by omega)
  rw [h1] at t1
  rw [h2] at t2
  rw [h3] at t3
  rw [h4] at t4
  rw [rX_eq h1 h2 h3 h4]
  unfold dryrotref11_in_takeXor.f
  rw [show (1 : Int) = ((1 : Nat) : Int) from rfl, t1, Option.bind_some]
  simp only
  by_cases z : n1 = 0
  · rw [if_pos (by omega), if_pos z]
  · rw [if_neg (by omega), if_neg z, show (6 : Int) = ((6 : Nat) : Int) from rfl, t2, Option.bind_some]
    simp only
    rw [t3, Option.bind_some]
    simp only
    have e3 : wrap64 (wrap64 (n3 : Int) + ((1 : Nat) : Int)) = ((n3 + 1 : Nat) : Int) := by rw [w64nat (by omega), w64 (by omega) (by omega)]; omega
    have e2 : wrap64 (n2 : Int) = (n2 : Int) := w64nat (by omega)
    rw [e3, t4, Option.bind_some, e2]
    simp only
    clear e3 e2
    have e5 : wrap64 ((n2 : Int) + ((n3 + 1 : Nat) : Int)) = ((n2 + (n3 + 1) : Nat) : Int) := by rw [w64 (by omega) (by omega)]; omega
    rw [e5]
    clear e5
    by_cases y : 64 < n2 + (n3 + 1)
    · rw [if_pos (by omega), if_pos y]
    · have e6 : wrap64 (wrap64 (64 - (n2 : Int)) - ((n3 + 1 : Nat) : Int)) = ((64 - n2 - (n3 + 1) : Nat) : Int) := by rw [w64 (x := 64 - (n2 : Int)) (by omega) (by omega), w64 (by omega) (by omega)]; omega
      rw [if_neg (by omega), if_neg y, e6]
      clear e6
      rw [if_pos (by omega)]
theorem rX_range (xb : List Int) (p : Nat) (bad : Bool) : 0 ≤ (rX xb p bad).1 ∧ (rX xb p bad).1 < 18446744073709551616 := by
  unfold rX
  split
  · exact ⟨Int.le_refl 0, (by decide : (0 : Int) < 18446744073709551616)⟩
  · split
    · exact ⟨Int.le_refl 0, (by decide : (0 : Int) < 18446744073709551616)⟩
    · unfold shl
      exact u64_wrap_range _
theorem rX_place (xb : List Int) (p : Nat) (bad : Bool) (hp : p ≤ 8 * xb.length) : p ≤ (rX xb p bad).2.1 ∧ (rX xb p bad).2.1 ≤ 8 * xb.length ∧ ((rX xb p bad).2.2 = false → bad = false ∧ p < (rX xb p bad).2.1) := by
  obtain ⟨⟨n1, p1, b1⟩, h1⟩ : ∃ t, rT xb p bad 1 = t := ⟨_, rfl⟩
  obtain ⟨⟨n2, p2, b2⟩, h2⟩ : ∃ t, rT xb p1 b1 6 = t := ⟨_, rfl⟩
  obtain ⟨⟨n3, p3, b3⟩, h3⟩ : ∃ t, rT xb p2 b2 6 = t := ⟨_, rfl⟩
  obtain ⟨⟨n4, p4, b4⟩, h4⟩ : ∃ t, rT xb p3 b3 (n3 + 1) = t := ⟨_, rfl⟩
  have g1 := rT_place xb p bad 1 hp
  rw [h1] at g1
  have g2 := rT_place xb p1 b1 6 g1.2.1
  rw [h2] at g2
  have g3 := rT_place xb p2 b2 6 g2.2.1
  rw [h3] at g3
  have g4 := rT_place xb p3 b3 (n3 + 1) g3.2.1
  rw [h4] at g4
  simp only at g1 g2 g3 g4
  rw [rX_eq h1 h2 h3 h4]
  split
  · refine ⟨g1.1, g1.2.1, fun e => ?_⟩
    have := g1.2.2.1 e
    exact ⟨this.1, by show p < p1; omega⟩
  · split
    · exact ⟨by show p ≤ p4; omega, g4.2.1, fun e => by simp at e⟩
    · refine ⟨by show p ≤ p4; omega, g4.2.1, fun e => ?_⟩
      have a4 := g4.2.2.1 e
      have a3 := g3.2.2.1 a4.1
      have a2 := g2.2.2.1 a3.1
      have a1 := g1.2.2.1 a2.1
      exact ⟨a1.1, by show p < p4; omega⟩
theorem unT_rT {xb : List Int} {p c : Nat} (bad : Bool) (h : (unT xb ((8 * xb.length : Nat) : Int) ((p : Int), false) (c : Int)).2.2 = false) (hl : xb.length ≤ 100000) :
    (unT xb ((8 * xb.length : Nat) : Int) ((p : Int), false) (c : Int)) = (((rT xb p bad c).1 : Int), ((rT xb p bad c).2.1 : Int), false) ∧ (rT xb p bad c).2.2 = bad := by
  have hq := unT_place (l := xb) (N := 8 * xb.length) (c := (c : Int)) (s := ((p : Int), false)) (by omega) h
  simp only at hq
  have hle : p + c ≤ 8 * xb.length := by omega
  have e : rT xb p bad c = (num (win xb p c), p + c, bad) := by rw [rT, if_pos hle]
  rw [e]
  refine ⟨?_, rfl⟩
  unfold unT takeR at h ⊢
  simp only [Bool.false_or] at h ⊢
  split at h
  · simp at h
  · rename_i z
    rw [if_neg z]
    split at h
    · simp at h
    · rename_i y
      rw [if_neg y, Int.toNat_natCast, Int.toNat_natCast]
      simp only [Prod.mk.injEq, true_and]
      refine ⟨?_, rfl⟩
      rw [w64 (by omega) (by omega)]
      omega
theorem rX_of {xb : List Int} {p : Nat} (bad : Bool) {v q : Int} (h : unV xb ((8 * xb.length : Nat) : Int) ((p : Int), false) = (v, q, false)) (hl : xb.length ≤ 100000) : (rX xb p bad).1 = v ∧ ((rX xb p bad).2.1 : Int) = q ∧ (rX xb p bad).2.2 = bad := by
  obtain ⟨⟨n1, p1, b1⟩, h1⟩ : ∃ t, rT xb p bad 1 = t := ⟨_, rfl⟩
  obtain ⟨⟨n2, p2, b2⟩, h2⟩ : ∃ t, rT xb p1 b1 6 = t := ⟨_, rfl⟩
  obtain ⟨⟨n3, p3, b3⟩, h3⟩ : ∃ t, rT xb p2 b2 6 = t := ⟨_, rfl⟩
  obtain ⟨⟨n4, p4, b4⟩, h4⟩ : ∃ t, rT xb p3 b3 (n3 + 1) = t := ⟨_, rfl⟩
  rw [rX_eq h1 h2 h3 h4]
  obtain ⟨a, ha⟩ : ∃ a, unT xb ((8 * xb.length : Nat) : Int) ((p : Int), false) 1 = a := ⟨_, rfl⟩
  obtain ⟨b, hb⟩ : ∃ b, unT xb ((8 * xb.length : Nat) : Int) a.2 6 = b := ⟨_, rfl⟩
  obtain ⟨d, hd⟩ : ∃ d, unT xb ((8 * xb.length : Nat) : Int) b.2 6 = d := ⟨_, rfl⟩
  obtain ⟨w, hw⟩ : ∃ w, wrap64 (wrap64 d.1 + 1) = w := ⟨_, rfl⟩
  obtain ⟨t, ht⟩ : ∃ t, unT xb ((8 * xb.length : Nat) : Int) d.2 w = t := ⟨_, rfl⟩
  unfold unV at h
  simp only [ha, hb, hd, hw, ht] at h
  rw [if_neg (by simp)] at h
  by_cases c1 : a.1 = 0
  · rw [if_pos c1] at h
    simp only [Prod.mk.injEq] at h
    obtain ⟨hv, hq⟩ := h
    have z : (unT xb ((8 * xb.length : Nat) : Int) ((p : Int), false) ((1 : Nat) : Int)).2.2 = false := by show (unT xb _ _ 1).2.2 = false; rw [ha, hq]
    obtain ⟨e1, e2⟩ := unT_rT bad z hl
    rw [h1] at e1 e2
    have e1' : a = ((n1 : Int), (p1 : Int), false) := ha ▸ e1
    rw [e1'] at c1 hq
    simp only [Prod.mk.injEq] at hq
    rw [if_pos (by simpa using c1)]
    exact ⟨hv, hq.1, e2⟩
  · rw [if_neg c1] at h
    by_cases c2 : (d.2.2 || decide (64 < wrap64 (wrap64 b.1 + w))) = true
    · rw [if_pos c2] at h
      simp at h
    · rw [if_neg c2] at h
      rw [Bool.not_eq_true, Bool.or_eq_false_iff, decide_eq_false_iff_not] at c2
      have pd := unT_place (l := xb) (N := 8 * xb.length) (c := 6) (s := b.2) (by omega) (by rw [hd]; exact c2.1)
      have pb := unT_place (l := xb) (N := 8 * xb.length) (c := 6) (s := a.2) (by omega) (by rw [hb]; exact pd.1)
      have z1 : (unT xb ((8 * xb.length : Nat) : Int) ((p : Int), false) ((1 : Nat) : Int)).2.2 = false := by show (unT xb _ _ 1).2.2 = false; rw [ha]; exact pb.1
      obtain ⟨e1, f1⟩ := unT_rT bad z1 hl
      rw [h1] at e1 f1
      have e1' : a = ((n1 : Int), (p1 : Int), false) := ha ▸ e1
      have z2 : (unT xb ((8 * xb.length : Nat) : Int) ((p1 : Int), false) ((6 : Nat) : Int)).2.2 = false := by
        have : (unT xb ((8 * xb.length : Nat) : Int) a.2 6).2.2 = false := by rw [hb]; exact pd.1
        rw [e1'] at this
        exact this
      obtain ⟨e2, f2⟩ := unT_rT b1 z2 hl
      rw [h2] at e2 f2
      have e2' : b = ((n2 : Int), (p2 : Int), false) := by rw [← hb, e1']; exact e2
      have z3 : (unT xb ((8 * xb.length : Nat) : Int) ((p2 : Int), false) ((6 : Nat) : Int)).2.2 = false := by
        have : (unT xb ((8 * xb.length : Nat) : Int) b.2 6).2.2 = false := by rw [hd]; exact c2.1
        rw [e2'] at this
        exact this
      obtain ⟨e3, f3⟩ := unT_rT b2 z3 hl
      rw [h3] at e3 f3
      have e3' : d = ((n3 : Int), (p3 : Int), false) := by rw [← hd, e2']; exact e3
      have hn3 : n3 < 64 := by
        have := unT_six xb ((8 * xb.length : Nat) : Int) b.2
        rw [hd, e3'] at this
        simp only at this
        omega
      have hn2 : n2 < 64 := by
        have := unT_six xb ((8 * xb.length : Nat) : Int) a.2
        rw [hb, e2'] at this
        simp only at this
        omega
      have hw' : w = ((n3 + 1 : Nat) : Int) := by rw [← hw, e3', w64nat (by omega), w64 (by omega) (by omega)]; omega
      simp only [Prod.mk.injEq] at h
      obtain ⟨hv, hq⟩ := h
      have z4 : (unT xb ((8 * xb.length : Nat) : Int) ((p3 : Int), false) ((n3 + 1 : Nat) : Int)).2.2 = false := by
        have : (unT xb ((8 * xb.length : Nat) : Int) d.2 w).2.2 = false := by rw [ht, hq]
        rw [e3', hw'] at this
        exact this
      obtain ⟨e4, f4⟩ := unT_rT b3 z4 hl
      rw [h4] at e4 f4
      have e4' : t = ((n4 : Int), (p4 : Int), false) := by rw [← ht, e3', hw']; exact e4
      have c3 := c2.2
      rw [e2', hw', w64nat (by omega), show ((n2 : Int) + ((n3 + 1 : Nat) : Int)) = ((n2 + (n3 + 1) : Nat) : Int) by omega, w64nat (by omega)] at c3
      rw [e1'] at c1
      rw [if_neg (by simpa using c1), if_neg (by omega)]
      rw [e4'] at hv hq
      simp only [Prod.mk.injEq, and_true] at hq
      refine ⟨?_, hq, f4.trans (f3.trans (f2.trans f1))⟩
      rw [← hv, e2', hw']
      congr 1
      rw [w64nat (by omega), show 64 - (n2 : Int) = ((64 - n2 : Nat) : Int) by omega, w64nat (by omega), show (((64 - n2 : Nat) : Int) - ((n3 + 1 : Nat) : Int)) = ((64 - n2 - (n3 + 1) : Nat) : Int) by omega, w64nat (by omega)]
end Go.Proofs.YtbgmnmjokdfmlaaDoor.PA
namespace Go.Proofs.YtbgmnmjokdfmlaaDoor.PA
open Go.RowKit Go.Proofs.YtbgmnmjokdfmlaaDoor.G Go.Proofs.YtbgmnmjokdfmlaaDoorW.PrintWords Go.Proofs.YtbgmnmjokdfmlaaDoorW.PrintLast Go.Proofs.YtbgmnmjokdfmlaaDoorW.PrintMore
set_option linter.unusedVariables false
set_option linter.unusedSimpArgs false
def Good (b : List Int) (l0 : List S54) : Prop := (∀ x ∈ l0, okS x) ∧ canS l0 = true ∧ l0.length ≤ 20000 ∧ encL l0 = b
def RI (b xb : List Int) (l : List S54) (k p : Nat) : Prop := l.length = k ∧ (∀ x ∈ l, okS x) ∧ k ≤ p ∧ p ≤ 8 * xb.length ∧ ∀ l0, Good b l0 → k ≤ l0.length → l = l0.take k ∧ p = (encP l0 k).length
def StepOK (b xb : List Int) (l : List S54) (k : Nat) (s : S54) (p' : Nat) (bad' : Bool) : Prop := p' ≤ 8 * xb.length ∧ (bad' = false → RI b xb (l ++ [s]) (k + 1) p') ∧ ∀ l0, Good b l0 → k < l0.length → bad' = false
theorem good_bits {b xb : List Int} {l0 : List S54} (h : Good b l0) (hxb : b.drop 2 = xb) : OkX xb (8 * xb.length) ∧ (∃ Z, Bs xb (8 * xb.length) = encP l0 l0.length ++ Z) ∧ beV 0 (b.take 2) = l0.length ∧ 2 ≤ b.length := by
  obtain ⟨h1, h2, h3, h4⟩ := h
  have hP := encP_len l0 h1 l0.length (Nat.le_refl _)
  obtain ⟨hX, hBs⟩ := packB_ok (encP l0 l0.length) (by omega)
  obtain ⟨Z, hZ⟩ := Bs_full hX
  rw [hBs] at hZ
  have hd : xb = packB (encP l0 l0.length) := by rw [← hxb, ← h4, encL, List.drop_left' (beL_length _ _)]
  have ht : b.take 2 = beL l0.length 2 := by rw [← h4, encL, List.take_left' (beL_length _ _)]
  have hb : b.length = 2 + (packB (encP l0 l0.length)).length := by rw [← h4, encL, List.length_append, beL_length]
  rw [hd]
  exact ⟨okX_full hX, ⟨Z, hZ⟩, by rw [ht]; exact beV_two _ (by omega), by omega⟩
theorem headI_part {l : List Int} {N : Nat} {B Z : List Bool} {v : Int} (hv : (Lit.int .i64 v).wf = true) (h : Bs l N = B ++ intBits v ++ Z) : headI l N 4 B.length = (v, ((B.length + (intBits v).length : Nat) : Int), 0) := by
  have hN : B.length + (intBits v).length ≤ N := by have := congrArg List.length h; simp at this; omega
  have h1 := Bs_take h (m := B.length + (intBits v).length) (by simp)
  exact headI_mono hN 4 B.length (head_back v hv h1)
theorem ri_0 {b xb : List Int} {p : Nat} (hx : OkL xb) (hl : xb.length ≤ 100000) (hxb : b.drop 2 = xb) (h : RI b xb [] 0 p) {a d : Nat × Nat × Bool} (ha : rT xb p false 64 = a) (hd : rT xb a.2.1 a.2.2 64 = d) (hp0 : p = 0) : StepOK b xb [] 0 ⟨wrap64 (a.1 : Int), (d.1 : Int)⟩ d.2.1 d.2.2 := by
  subst hp0
  have g1 := rT_place xb 0 false 64 (by omega)
  rw [ha] at g1
  have g2 := rT_place xb a.2.1 a.2.2 64 g1.2.1
  rw [hd] at g2
  have key : ∀ l0, Good b l0 → 0 < l0.length → d.2.2 = false ∧ wrap64 (a.1 : Int) = (rd_T54 l0 0).f0 ∧ (d.1 : Int) = (rd_T54 l0 0).f1 ∧ d.2.1 = (encP l0 1).length := by
    intro l0 hg hl0
    obtain ⟨hX, ⟨Z, hZ⟩, _, _⟩ := good_bits hg hxb
    obtain ⟨Y, hY⟩ := encP_pre l0 1 (l0.length - 1)
    rw [show 1 + (l0.length - 1) = l0.length by omega] at hY
    have hm := hg.1 _ (rd_mem54 l0 0 hl0)
    have hu := u64_wrap_range (rd_T54 l0 0).f0
    obtain ⟨u, eu⟩ := Int.eq_ofNat_of_zero_le hu.1
    obtain ⟨v, ev⟩ := Int.eq_ofNat_of_zero_le hm.2.1
    have ev' : (rd_T54 l0 0).f1 = (v : Int) := ev
    have hv : v < 18446744073709551616 := by have := hm.2.2; rw [ev] at this; omega
    have huu : u < 18446744073709551616 := by rw [eu] at hu; omega
    have e1 : encP l0 1 = low u 64 ++ low v 64 := by
      show low (IntKind.u64.wrap (rd_T54 l0 0).f0).toNat 64 ++ low (rd_T54 l0 0).f1.toNat 64 = _
      rw [eu, ev']
      rfl
    rw [hY, e1] at hZ
    have a1 := unT_part (c := 64) (B := []) (L := low u 64) (Z := low v 64 ++ (Y ++ Z)) hX (low_length _ _) (by decide) (by simp) (by rw [hZ]; simp only [List.nil_append, List.append_assoc])
    have a2 := unT_part (c := 64) (B := low u 64) (L := low v 64) (Z := Y ++ Z) hX (low_length _ _) (by decide) (by simp) (by rw [hZ]; simp only [List.append_assoc])
    rw [num_low, Nat.mod_eq_of_lt huu] at a1
    rw [num_low, Nat.mod_eq_of_lt hv, low_length] at a2
    obtain ⟨q1, f1⟩ := unT_rT (xb := xb) (p := 0) (c := 64) false (by have := congrArg (fun z => z.2.2) a1; exact this) hl
    rw [show ((0 : Nat) : Int) = ((([] : List Bool).length : Nat) : Int) from rfl, a1] at q1
    rw [ha] at q1 f1
    simp only [Prod.mk.injEq, and_true] at q1
    have hp1 : a.2.1 = 64 := by have := q1.2; simp at this; omega
    obtain ⟨q2, f2⟩ := unT_rT (xb := xb) (p := 64) (c := 64) a.2.2 (by have := congrArg (fun z => z.2.2) a2; exact this) hl
    have hd' := hd
    rw [hp1] at hd'
    rw [a2, hd'] at q2
    rw [hd'] at f2
    simp only [Prod.mk.injEq, and_true] at q2
    have ef : wrap64 (u : Int) = (rd_T54 l0 0).f0 := by
      have := first_back (rd_T54 l0 0).f0 hm.1
      rw [eu] at this
      exact this
    refine ⟨f2.trans f1, ?_, ?_, ?_⟩
    · rw [← q1.1]; exact ef
    · rw [← q2.1]; exact ev'.symm
    · rw [e1, List.length_append, low_length, low_length]; omega
  refine ⟨g2.2.1, fun e => ⟨rfl, fun x hx => ?_, ?_, g2.2.1, fun l0 hg hl0 => ?_⟩, fun l0 hg hl0 => (key l0 hg hl0).1⟩
  · simp only [List.nil_append, List.mem_singleton] at hx
    subst hx
    refine ⟨wrap64_in _, Int.natCast_nonneg _, ?_⟩
    show (d.1 : Int) < _
    have := g2.2.2.2
    omega
  · have := g2.2.2.1 e
    omega
  · have hk := key l0 hg (by omega)
    refine ⟨?_, hk.2.2.2⟩
    rw [take_succ54 l0 0 (by omega), hk.2.1, hk.2.2.1]
    rfl
theorem wrap_add (a b : Int) : wrap64 (wrap64 a + b) = wrap64 (a + b) := by unfold wrap64; omega
theorem wrap_add' (a b : Int) : wrap64 (a + wrap64 b) = wrap64 (a + b) := by unfold wrap64; omega
theorem stepP_take (l0 : List S54) (k m : Nat) (h : k ≤ m) : stepP (l0.take m) k = stepP l0 k := by
  match k, h with
  | 0, _ => rfl
  | 1, _ => rfl
  | k + 2, h => rw [stepP, stepP, rd_take54 _ _ _ (by omega), rd_take54 _ _ _ (by omega)]
theorem ri_succ {b xb : List Int} {l : List S54} {k p : Nat} (hx : OkL xb) (hl : xb.length ≤ 100000) (hxb : b.drop 2 = xb) (h : RI b xb l (k + 1) p) {y : S54} (hy : rd_T54 l (k : Int) = y) {a d : Int × Nat × Bool} (ha : rHead xb 4 p false = a) (hd : rX xb a.2.1 a.2.2 = d) : StepOK b xb l (k + 1) ⟨wrap64 (y.f0 + wrap64 (stepP l (k + 1) + a.1)), Go.bits .xor .u64 y.f1 d.1⟩ d.2.1 d.2.2 := by
  obtain ⟨r1, r2, r3, r4, r5⟩ := h
  have g1 := rHead_place xb 4 p false r4
  rw [ha] at g1
  have g2 := rX_place xb a.2.1 a.2.2 g1.2.1
  rw [hd] at g2
  have hdr := rX_range xb a.2.1 a.2.2
  rw [hd] at hdr
  have hyok : okS y := hy ▸ okS_rd r2 (k : Int)
  have key : ∀ l0, Good b l0 → k + 1 < l0.length → d.2.2 = false ∧ wrap64 (y.f0 + wrap64 (stepP l (k + 1) + a.1)) = (rd_T54 l0 ((k + 1 : Nat) : Int)).f0 ∧ Go.bits .xor .u64 y.f1 d.1 = (rd_T54 l0 ((k + 1 : Nat) : Int)).f1 ∧ d.2.1 = (encP l0 (k + 2)).length ∧ l = l0.take (k + 1) := by
    intro l0 hg hl0
    obtain ⟨hX, ⟨Z, hZ⟩, _, _⟩ := good_bits hg hxb
    obtain ⟨el, ep⟩ := r5 l0 hg (by omega)
    obtain ⟨Y, hY⟩ := encP_pre l0 (k + 2) (l0.length - (k + 2))
    rw [show k + 2 + (l0.length - (k + 2)) = l0.length by omega] at hY
    have hlen := encP_len l0 hg.1 (k + 1) (by omega)
    have h20 := hg.2.2.1
    have hx1 := hg.1 _ (rd_mem54 l0 (k + 1) (by omega))
    have e2 : encP l0 (k + 2) = encP l0 (k + 1) ++ (intBits (wrap64 (wrap64 ((rd_T54 l0 ((k + 1 : Nat) : Int)).f0 - (rd_T54 l0 ((k : Nat) : Int)).f0) - stepP l0 (k + 1))) ++ xorBits ((rd_T54 l0 ((k + 1 : Nat) : Int)).f1.toNat ^^^ (rd_T54 l0 ((k : Nat) : Int)).f1.toNat)) := rfl
    have hst := stepP_in l0 (k + 1)
    have es : stepP l (k + 1) = stepP l0 (k + 1) := by rw [el]; exact stepP_take l0 (k + 1) (k + 1) (Nat.le_refl _)
    have ey : rd_T54 l0 ((k : Nat) : Int) = y := by rw [← hy, el]; exact (rd_take54 l0 k (k + 1) (by omega)).symm
    rw [ey] at e2
    obtain ⟨x, ex⟩ : ∃ x, rd_T54 l0 ((k + 1 : Nat) : Int) = x := ⟨_, rfl⟩
    rw [ex] at e2 hx1 ⊢
    obtain ⟨st, est⟩ : ∃ st, stepP l0 (k + 1) = st := ⟨_, rfl⟩
    rw [est] at e2 hst es
    obtain ⟨v, ev⟩ : ∃ v, wrap64 (wrap64 (x.f0 - y.f0) - st) = v := ⟨_, rfl⟩
    have hv : (Lit.int .i64 v).wf = true := ev ▸ i64_wf (wrap64_in _)
    have hxx := xor_lt hx1.2 hyok.2
    have htb := time_back x.f0 y.f0 st hx1.1 hst
    have hxbk := xor_back hx1.2 hyok.2
    rw [ev] at e2 htb
    obtain ⟨q, eq⟩ : ∃ q, x.f1.toNat ^^^ y.f1.toNat = q := ⟨_, rfl⟩
    rw [eq] at e2 hxx hxbk
    rw [hY, e2] at hZ
    have a1 := headI_part (B := encP l0 (k + 1)) (Z := xorBits q ++ (Y ++ Z)) hv (by rw [hZ]; simp only [List.append_assoc])
    have hil := intBits_len v
    have a2 := unV_part (x := q) (B := encP l0 (k + 1) ++ intBits v) (Z := Y ++ Z) hX hxx (by simp; omega) (by rw [hZ]; simp only [List.append_assoc])
    rw [← ep] at a1
    obtain ⟨b1, b2, b3⟩ := rHead_of xb false 4 p r4 a1
    rw [ha] at b1 b2 b3
    have hpa : a.2.1 = (encP l0 (k + 1) ++ intBits v).length := by rw [List.length_append]; omega
    rw [← hpa] at a2
    obtain ⟨c1, c2, c3⟩ := rX_of a.2.2 a2 hl
    rw [hd] at c1 c2 c3
    refine ⟨c3.trans b3, ?_, ?_, ?_, el⟩
    · rw [es, b1, htb.1, htb.2]
    · rw [c1]; exact hxbk
    · rw [e2]
      simp only [List.length_append] at hpa ⊢
      omega
  refine ⟨g2.2.1, fun e => ⟨by simp [r1], fun s hs => ?_, ?_, g2.2.1, fun l0 hg hl0 => ?_⟩, fun l0 hg hl0 => (key l0 hg hl0).1⟩
  · rcases List.mem_append.1 hs with hs | hs
    · exact r2 s hs
    · rw [List.mem_singleton] at hs
      subst hs
      have hxx := xor_in hyok.2 hdr
      refine ⟨wrap64_in _, ?_, ?_⟩
      · show 0 ≤ Go.bits .xor .u64 _ _
        rw [hxx.1]; omega
      · show Go.bits .xor .u64 _ _ < _
        rw [hxx.1]; have := hxx.2; omega
  · have e2 := g2.2.2 e
    have e1 := g1.2.2 e2.1
    rw [if_neg (by decide)] at e1
    omega
  · have hk := key l0 hg (by omega)
    refine ⟨?_, hk.2.2.2.1⟩
    rw [take_succ54 l0 (k + 1) (by omega), ← hk.2.2.2.2, hk.2.1, hk.2.2.1]
theorem dec_agree {b : List Int} {l : List S54} {e : Int} (h1 : e = 0 ∧ encF l = (b, 0) ∧ (∀ x ∈ l, okS x) ∧ l.length ≤ 20000 ∨ e = 5 ∧ l = []) (h2 : ∀ l0, Good b l0 → e = 0 ∧ l = l0) (hd : ∀ x ∈ (decF b).1, okS x) (hdl : (decF b).1.length ≤ 20000) : decF b = (l, e) := by
  rcases h1 with ⟨rfl, h3, h4, h5⟩ | ⟨rfl, rfl⟩
  · have hc : canS l = true := by
      rcases hq : canS l with _ | _
      · rw [encF, if_neg (by rw [hq]; simp)] at h3
        simp at h3
      · rfl
    have hde := dec_enc l h4 h5 hc
    have hb : encL l = b := by rw [hde.1] at h3; exact (Prod.mk.inj h3).1
    rw [← hb]
    exact hde.2.1
  · unfold decF at hd hdl ⊢
    split
    · rfl
    · rename_i hlt
      rw [if_neg hlt] at hd hdl
      split
      · rename_i hq
        rw [if_pos hq] at hd hdl
        have hc : canS (decS (b.drop 2) ((8 * (b.length - 2) : Nat) : Int) (beV 0 (b.take 2))).2.2.1 = true := by
          rcases hz : canS (decS (b.drop 2) ((8 * (b.length - 2) : Nat) : Int) (beV 0 (b.take 2))).2.2.1 with _ | _
          · have := hq.2
            rw [encF, if_neg (by rw [hz]; simp)] at this
            simp at this
          · rfl
        have hg : Good b (decS (b.drop 2) ((8 * (b.length - 2) : Nat) : Int) (beV 0 (b.take 2))).2.2.1 := ⟨hd, hc, hdl, by have := hq.2; rw [encF, if_pos hc] at this; exact (Prod.mk.inj this).1⟩
        exact absurd (h2 _ hg).1 (by decide)
      · rfl
end Go.Proofs.YtbgmnmjokdfmlaaDoor.PA
namespace Go.Proofs.YtbgmnmjokdfmlaaDoor.PA
open Go.RowKit Go.Proofs.YtbgmnmjokdfmlaaDoor.G Go.Proofs.YtbgmnmjokdfmlaaDoorW.PrintWords Go.Proofs.YtbgmnmjokdfmlaaDoorW.PrintLast Go.Proofs.YtbgmnmjokdfmlaaDoorW.PrintMore
set_option linter.unusedVariables false
set_option linter.unusedSimpArgs false
theorem rtake.calls (g : Nat) (xb : List Int) (p : Nat) (bad : Bool) (c : Nat) (r : Nat × Nat × Bool) (w0 w : World) (hI : IsS145 w0 w g xb (p : Int) bad) (hB : Below w0.heap.size w0 w) (hx : OkL xb) (hl : xb.length ≤ 100000) (hp : p ≤ 8 * xb.length) (hc : c ≤ 64) (h : rT xb p bad c = r) :
    Calls Tryd.prog 105 #[.pointer (some ⟨g, 0, none⟩), .int .i64 (c : Int)] w fun e w' => e = .returned (.int .u64 (r.1 : Int)) ∧ IsS145 w0 w' g xb (r.2.1 : Int) r.2.2 ∧ Below w0.heap.size w0 w' ∧ KeepBut w w' g none := by
  subst h
  exact dryrotref11_in_take.calls 100 g xb p bad c _ _ _ w0 w hI hB (take_r hx hl p bad c hc hp 100 (by omega))
theorem rint.calls (g : Nat) (xb : List Int) (p : Nat) (bad : Bool) (r : Int × Nat × Bool) (w0 w : World) (hI : IsS145 w0 w g xb (p : Int) bad) (hB : Below w0.heap.size w0 w) (hx : OkL xb) (hl : xb.length ≤ 100000) (hp : p ≤ 8 * xb.length) (h : rHead xb 4 p bad = r) :
    Calls Tryd.prog 106 #[.pointer (some ⟨g, 0, none⟩)] w fun e w' => e = .returned (.int .i64 r.1) ∧ IsS145 w0 w' g xb (r.2.1 : Int) r.2.2 ∧ Below w0.heap.size w0 w' ∧ KeepBut w w' g none := by
  subst h
  exact dryrotref11_in_takeInt.calls 100 g xb p bad _ _ _ w0 w hI hB (tint_r hx hl p bad hp)
theorem rxor.calls (g : Nat) (xb : List Int) (p : Nat) (bad : Bool) (r : Int × Nat × Bool) (w0 w : World) (hI : IsS145 w0 w g xb (p : Int) bad) (hB : Below w0.heap.size w0 w) (hx : OkL xb) (hl : xb.length ≤ 100000) (hp : p ≤ 8 * xb.length) (h : rX xb p bad = r) :
    Calls Tryd.prog 107 #[.pointer (some ⟨g, 0, none⟩)] w fun e w' => e = .returned (.int .u64 r.1) ∧ IsS145 w0 w' g xb (r.2.1 : Int) r.2.2 ∧ Below w0.heap.size w0 w' ∧ KeepBut w w' g none := by
  subst h
  exact dryrotref11_in_takeXor.calls 100 g xb p bad _ _ _ w0 w hI hB (txor_r hx hl p bad hp)
theorem rGet_at {n : Nat} (A0 : Option Addr) (c0 : Nat) (l0 : List Int) (r1 : Int) (r2 : Bool) (w : World) (hn : l0.length = n) (hr0 : Kd.C (Kd.int .u8) w A0 l0.length l0) (hc0 : n ≤ c0) (h : crc_Get.f l0 = some (r1, r2)) :
    Calls Tryd.prog 103 #[.slice A0 n c0] w fun e w' => e = .returned (.tuple #[.int .u64 r1, .bool r2]) ∧ Below w.heap.size w w' := by
  subst hn
  exact (G.dryrotref01_Get.calls A0 c0 l0 r1 r2 w hr0 hc0 h).mono fun e w' ⟨he, hd⟩ => ⟨he, hd.below⟩
theorem rEnc_at {n : Nat} (A : Option Addr) (c : Nat) (l : List S54) (w : World) (eb : List Int) (ee : Int) (hn : l.length = n) (hr : Kd.C k54 w A l.length l) (hc : n ≤ c) (hw : ∀ x ∈ l, okS x) (hlen : n ≤ 20000) (he : encF l = (eb, ee)) :
    Calls Tryd.prog 36 #[.slice A n c] w fun e w' => ∃ v : Value, e = .returned (.tuple #[v, .int .i64 ee]) ∧ Kd.R (Kd.int .u8) 5 w' w.heap.size (fun _ => True) v eb ∧ Below w.heap.size w w' := by
  subst hn
  cases h : canS l with
  | true =>
    rw [encF, if_pos h] at he
    obtain ⟨rfl, rfl⟩ := Prod.mk.inj he
    exact rEncode.ok A c l w hr hc hw hlen h
  | false =>
    rw [encF, if_neg (by rw [h]; simp)] at he
    obtain ⟨rfl, rfl⟩ := Prod.mk.inj he
    refine (rEncode.bad A c l w hr hc hlen h).mono ?_
    rintro e w' ⟨rfl, hb⟩
    exact ⟨_, rfl, Kd.R_nil _ _ _ _ _, hb⟩
theorem decF_ok (b : List Int) (hlen : b.length ≤ 2500) : (∀ x ∈ (decF b).1, okS x) ∧ (decF b).1.length ≤ 20000 := by
  have h := decS_inv (b.drop 2) (8 * (b.length - 2)) (by omega) (beV 0 (b.take 2))
  unfold decF
  split
  · exact ⟨fun x hx => absurd hx (by simp), by simp⟩
  · split
    · exact ⟨h.1, Nat.le_trans h.2.1 (by omega)⟩
    · exact ⟨fun x hx => absurd hx (by simp), by simp⟩
def Ans (b : List Int) (l : List S54) (e : Int) : Prop := (e = 0 ∧ encF l = (b, 0) ∧ (∀ x ∈ l, okS x) ∧ l.length ≤ 20000 ∨ e = 5 ∧ l = []) ∧ ∀ l0, Good b l0 → e = 0 ∧ l = l0
theorem ans_dec {b : List Int} {l : List S54} {e : Int} (h : Ans b l e) (hlen : b.length ≤ 2500) : decF b = (l, e) := dec_agree h.1 h.2 (decF_ok b hlen).1 (decF_ok b hlen).2
theorem ans_bad {b xb : List Int} {l : List S54} {k p : Nat} {s : S54} (h : StepOK b xb l k s p true) (hk : ∀ l0, Good b l0 → k < l0.length) : Ans b [] 5 :=
  ⟨.inr ⟨rfl, rfl⟩, fun l0 hg => absurd (h.2.2 l0 hg (hk l0 hg)) (by simp)⟩
set_option maxHeartbeats 8000000 in
set_option maxRecDepth 100000 in
theorem rDecode.calls0 (A : Option Addr) (c : Nat) (b : List Int) (w : World) (hr : Kd.C (Kd.int .u8) w A b.length b) (hc : b.length ≤ c) (hok : okB b = true) (hlen : b.length ≤ 2500) :
    Calls Tryd.prog 79 #[.slice A b.length c] w fun e w' => ∃ (v : Value) (l : List S54) (ee : Int), e = .returned (.tuple #[v, .int .i64 ee]) ∧ Ans b l ee ∧ Kd.R k54 54 w' w.heap.size (fun _ => True) v l ∧ Below w.heap.size w w' := by
  by_cases h2 : b.length < 2
  · have d0 : decide ((b.length : Int) < 2) = true := decide_eq_true (by omega)
    have HA : Aside0 (Ans b [] 5) := ⟨.inr ⟨rfl, rfl⟩, fun l0 hg => absurd (good_bits hg rfl).2.2.2 (by omega)⟩
    clear h2 hr hc
    go_enter Tryd.func79, Tryd.ntmps79
    go_wp2
    refine bodyPost_ret (results_tmp2 rfl _ _ _) rfl ?_
    exact ⟨_, [], 5, rfl, HA.out, Kd.R_nil _ _ _ _ _, Below.refl _ _⟩
  have d0 : decide ((b.length : Int) < 2) = false := decide_eq_false (by omega)
  obtain ⟨xb, hxb⟩ : ∃ xb, b.drop 2 = xb := ⟨_, rfl⟩
  have hxl : xb.length = b.length - 2 := by rw [← hxb, List.length_drop]
  obtain ⟨hget, hn64⟩ := get2 hok (by omega)
  obtain ⟨n, hn⟩ : ∃ n, beV 0 (b.take 2) = n := ⟨_, rfl⟩
  rw [hn] at hget hn64
  have HGN : Aside0 (∀ l0, Good b l0 → l0.length = n) := ⟨fun l0 hg => by rw [← (good_bits hg hxb).2.2.1, hn]⟩
  have hokx : OkL xb := fun x hx => okB_iff.1 hok x (List.mem_of_mem_drop (hxb ▸ hx))
  obtain ⟨i05, hi05, _, hsz5, _⟩ := info_parts infoU8
  have hto := cut_to (P := Tryd.prog) 22 5 .i64 Tryd.underlying22 hi05 A b.length c 2 (by omega) (by omega) hc
  have hfrom := cut_from (P := Tryd.prog) 22 5 .i64 Tryd.underlying22 hi05 1 hsz5 A b.length c 2 (by omega) (by omega)
  have hdr := Kd.C_drop (m := 2) (c := c) hr (by omega) hc
  rw [hxb] at hdr
  obtain ⟨A', hA'⟩ : ∃ A', (if c = (2 : Int).toNat then A else A.map (·.add ((2 : Int).toNat * 1))) = A' := ⟨_, rfl⟩
  rw [hA'] at hfrom
  have HX : Aside0 (Kd.C (Kd.int .u8) w A' xb.length xb) := ⟨by rw [← hA']; exact hdr⟩
  have HTK := Aside0.mk (Kd.C_take hr (show 2 ≤ b.length by omega))
  have HTL : Aside0 ((b.take 2).length = 2) := ⟨by rw [List.length_take]; omega⟩
  have HGET := Aside0.mk hget
  have HRB := Aside0.mk hr
  have HC := Aside0.mk hc
  have HOK := Aside0.mk hok
  have HOX := Aside0.mk hokx
  have HXB := Aside0.mk hxb
  have HLX : Aside0 (xb.length ≤ 2500) := ⟨by omega⟩
  have HLB := Aside0.mk hlen
  rw [show (2 : Int).toNat = 2 from rfl, ← hxl] at hfrom
  rw [show (2 : Int).toNat = 2 from rfl] at hto
  clear hr hc hok hokx hA' hdr hget hxl hn hxb hlen
  go_enter Tryd.func79, Tryd.ntmps79
  go_wp2_with (first
    | (go_at_call 103; (with_reducible refine (rGet_at A c (b.take 2) (n : Int) true _ HTL.out HTK.out (by have := HC.out; omega) HGET.out).mono ?_); rintro e w1 ⟨rfl, hb⟩; have HB1 := Aside0.mk hb; clear hb)
    | ((with_reducible refine gate_dst (N := 24) rfl ?_); refine box_event ?hg (N := 24) ?hd (cs := #[.slice A' xb.length (c - 2), .int .i64 0, .bool false]) (t := 145) ?hr ?_; (case hd => rfl); (case hg => rfl); (case hr => first | (go_simp; done) | (go_simp; rfl)); intro g hg w2 hbox hb; have HB2 := Aside0.mk (below_step HB1.out hb); have HS2 : Aside0 (IsS145 w w2 g xb 0 false) := ⟨⟨A', c - 2, hbox, by have := HB1.out.size; omega, HX.out⟩⟩; clear hb hbox hg))
  clear hto hfrom HTK HTL HGET HB1
  have HLX' : Aside0 (xb.length ≤ 100000) := ⟨by have := HLX.out; omega⟩
  have CT := Aside0.mk (fun p bad r W hI hB hp h => (show Calls Tryd.prog 105 #[.pointer (some ⟨g, 0, none⟩), .int .i64 64] W fun e w' => e = .returned (.int .u64 ((r : Nat × Nat × Bool).1 : Int)) ∧ IsS145 w w' g xb (r.2.1 : Int) r.2.2 ∧ Below w.heap.size w w' ∧ KeepBut W w' g none from rtake.calls g xb p bad 64 r w W hI hB HOX.out HLX'.out hp (by decide) h))
  have CI := Aside0.mk (fun p bad r W hI hB hp h => rint.calls g xb p bad r w W hI hB HOX.out HLX'.out hp h)
  have CX := Aside0.mk (fun p bad r W hI hB hp h => rxor.calls g xb p bad r w W hI hB HOX.out HLX'.out hp h)
  go_loopw [7, 27] (fun v7 i wr => ∃ (k : Nat) (l : List S54) (p : Nat), k ≤ n ∧ i = .int .i64 k ∧ Aside0 (RI b xb l k p ∧ (k = 0 → p = 0)) ∧ Aside0 (Kd.R k54 54 wr w.heap.size (fun q => q ≠ g) v7 l) ∧ Aside0 (IsS145 w wr g xb (p : Int) false) ∧ Aside0 (Below w.heap.size w wr)) (fun _ i _ => n - (intOf i).toNat)
  case atStart => exact ⟨0, [], 0, Nat.zero_le _, rfl, ⟨⟨rfl, fun x hx => absurd hx (by simp), Nat.le_refl _, by omega, fun l0 hg _ => ⟨rfl, rfl⟩⟩, fun _ => rfl⟩, ⟨Kd.R_nil _ _ _ _ _⟩, HS2, HB2⟩
  case round =>
    clear HS2 HB2
    obtain ⟨k, l, p, hk, rfl, HI0, HO, HS, HB⟩ := hrel
    have HI := Aside0.mk HI0.out.1
    have HZ := Aside0.mk HI0.out.2
    clear HI0
    obtain ⟨A7, c7, rfl⟩ := Kd.R_slice HO.out
    have hl20 : l.length ≤ 20000 := by have := HI.out.1; have := HI.out.2.2.1; have := HI.out.2.2.2.1; have := HLX.out; omega
    by_cases hlt : k < n
    · have HLL : Aside0 (l.length = k) := ⟨HI.out.1⟩
      have HP8 := Aside0.mk HI.out.2.2.2.1
      have HLK : Aside0 (∀ l0, Good b l0 → k < l0.length) := ⟨fun l0 hg => by rw [HGN.out l0 hg]; exact hlt⟩
      have gne : Aside0 (wr.heap.size ≠ g) := ⟨by have := HS.out.lt; omega⟩
      have HOA := Aside0.mk (Kd.R_alloc (Kd.R_mono (ok' := fun q => q ≠ g ∧ q ≠ wr.heap.size) (Kd.R_bound HO.out) (fun q hq => ⟨hq.1, by have := hq.2; omega⟩)) (.cells #[.int .i64 0, .int .u64 0] 54))
      have HBA := Aside0.mk (below_alloc HB.out (.cells #[.int .i64 0, .int .u64 0] 54))
      have HSA := Aside0.mk (HS.out.alloc (.cells #[.int .i64 0, .int .u64 0] 54))
      have HXA := Aside0.mk (blk_new wr (.cells #[.int .i64 0, .int .u64 0] 54))
      have HWA : Aside0 (wr.heap.size < (wr.alloc (.cells #[.int .i64 0, .int .u64 0] 54)).heap.size) := ⟨by simp⟩
      have HBS : Aside0 (w.heap.size ≤ wr.heap.size) := ⟨HB.out.size⟩
      clear hl20
      go_upto_block 2 with (fail)
      go_cut [] (fun wx => ∃ (T V : Int) (p' : Nat) (bad' : Bool), Aside0 (StepOK b xb l k ⟨T, V⟩ p' bad') ∧ Aside0 (wx.heap[wr.heap.size]? = some (.cells #[.int .i64 T, .int .u64 V] 54 (0, 0))) ∧ Aside0 (IsS145 w wx g xb (p' : Int) bad') ∧ Aside0 (Kd.R k54 54 wx w.heap.size (fun q => q ≠ g) (.slice A7 l.length c7) l) ∧ Aside0 (Below w.heap.size w wx))
      case first =>
        cases k with
        | zero =>
          obtain rfl : p = 0 := HZ.out rfl
          obtain rfl : l = [] := List.eq_nil_of_length_eq_zero HLL.out
          obtain ⟨a, ha⟩ : ∃ a, rT xb 0 false 64 = a := ⟨_, rfl⟩
          obtain ⟨d, hd⟩ : ∃ d, rT xb a.2.1 a.2.2 64 = d := ⟨_, rfl⟩
          have HST := Aside0.mk (ri_0 HOX.out HLX'.out HXB.out HI.out ha hd rfl)
          have HA := Aside0.mk ha
          have HD := Aside0.mk hd
          have HP2 : Aside0 (a.2.1 ≤ 8 * xb.length) := ⟨ha ▸ (rT_place xb 0 false 64 (by omega)).2.1⟩
          clear ha hd
          go_wp2_with (first
            | (go_at_call 105; (with_reducible refine (CT.out 0 false a _ HSA.out HBA.out HP8.out HA.out).mono ?_); rintro e w3 ⟨rfl, hs, hb, hk⟩; have hx3 := (hk.2 wr.heap.size HWA.out gne.out (by simp)).trans HXA.out; have c30 := (blk_cell hx3 0).trans rfl; have f30 := blk_frozen hx3 0; have HX3 : Aside0 ((w3.setCell ⟨wr.heap.size, 0, none⟩ (.int .i64 (wrap64 (a.1 : Int)))).heap[wr.heap.size]? = some (.cells #[.int .i64 (wrap64 (a.1 : Int)), .int .u64 0] 54 (0, 0))) := ⟨blk_put hx3 0 _ rfl⟩; have HS3 : Aside0 (IsS145 w (w3.setCell ⟨wr.heap.size, 0, none⟩ (.int .i64 (wrap64 (a.1 : Int)))) g xb (a.2.1 : Int) a.2.2) := ⟨hs.far (p := ⟨wr.heap.size, 0, none⟩) gne.out.symm _⟩; have HB3 : Aside0 (Below w.heap.size w (w3.setCell ⟨wr.heap.size, 0, none⟩ (.int .i64 (wrap64 (a.1 : Int))))) := ⟨hb.setCell (p := ⟨wr.heap.size, 0, none⟩) HBS.out _⟩; have HO3 : Aside0 (Kd.R k54 54 (w3.setCell ⟨wr.heap.size, 0, none⟩ (.int .i64 (wrap64 (a.1 : Int)))) w.heap.size (fun q => q ≠ g ∧ q ≠ wr.heap.size) (.slice A7 ([] : List S54).length c7) []) := ⟨Kd.R_far (p := ⟨wr.heap.size, 0, none⟩) (Kd.R_keep HOA.out hk (fun _ q => q.1)) (fun _ q => q.2) _⟩; have HW3 : Aside0 (wr.heap.size < (w3.setCell ⟨wr.heap.size, 0, none⟩ (.int .i64 (wrap64 (a.1 : Int)))).heap.size) := ⟨by have := hk.1; have := HWA.out; simp [World.setCell] at *; omega⟩; clear hs hb hk hx3)
            | (go_at_call 105; (with_reducible refine (CT.out a.2.1 a.2.2 d _ HS3.out HB3.out HP2.out HD.out).mono ?_); rintro e w4 ⟨rfl, hs, hb, hk⟩; have hx4 := (hk.2 wr.heap.size HW3.out gne.out (by simp)).trans HX3.out; have c41 := (blk_cell hx4 1).trans rfl; have f41 := blk_frozen hx4 1; have HX4 := Aside0.mk hx4; have HS4 := Aside0.mk hs; have HB4 := Aside0.mk hb; have HO4 := Aside0.mk (Kd.R_keep HO3.out hk (fun _ q => q.1)); clear hs hb hk hx4))
          go_meet
          exact ⟨wrap64 (a.1 : Int), (d.1 : Int), d.2.1, d.2.2, HST, ⟨blk_put HX4.out 1 _ rfl⟩, ⟨HS4.out.far (p := ⟨wr.heap.size, 1, none⟩) gne.out.symm _⟩, ⟨Kd.R_mono (Kd.R_far (p := ⟨wr.heap.size, 1, none⟩) HO4.out (fun _ q => q.2) _) (fun _ q => q.1)⟩, ⟨HB4.out.setCell (p := ⟨wr.heap.size, 1, none⟩) HBS.out _⟩⟩
        | succ k =>
          obtain ⟨y, hy⟩ : ∃ y, rd_T54 l (k : Int) = y := ⟨_, rfl⟩
          obtain ⟨a, ha⟩ : ∃ a, rHead xb 4 p false = a := ⟨_, rfl⟩
          obtain ⟨d, hd⟩ : ∃ d, rX xb a.2.1 a.2.2 = d := ⟨_, rfl⟩
          have hst := ri_succ HOX.out HLX'.out HXB.out HI.out hy ha hd
          obtain ⟨Tn, hTn⟩ : ∃ Tn, wrap64 (y.f0 + wrap64 (stepP l (k + 1) + a.1)) = Tn := ⟨_, rfl⟩
          rw [hTn] at hst
          have HST := Aside0.mk hst
          have HA := Aside0.mk ha
          have HD := Aside0.mk hd
          have HY := Aside0.mk hy
          have HP2 : Aside0 (a.2.1 ≤ 8 * xb.length) := ⟨ha ▸ (rHead_place xb 4 p false HP8.out).2.1⟩
          have hll : l.length = k + 1 := HLL.out
          have HCK : Aside0 (∀ (Q : Prop) (W : World), KeepBut W W g none → Q → Q) := ⟨fun _ _ _ h => h⟩
          clear HCK
          obtain ⟨ad, e7, y0, y1⟩ := at_T54 (Kd.R_reads' HOA.out).2.2 (k : Int) (by omega) (by omega)
          subst e7
          rw [Int.toNat_natCast, hy] at y0 y1
          obtain ⟨inn, hown⟩ := Kd.R_own HOA.out
          have hn1 : ad.block ≠ g := own_blk hown (Kd.R_away HOA.out (fun q hq => hq.1))
          have hn2 : ad.block ≠ wr.heap.size := own_blk hown (Kd.R_away HOA.out (fun q hq => hq.2))
          have HNA := Aside0.mk (And.intro hn1 hn2)
          clear hown hn1 hn2 hy ha hd hst
          cases k with
          | zero =>
            rw [show ((0 + 1 : Nat) : Int) = 1 from rfl] at *
            have HTN : Aside0 (Tn = wrap64 (y.f0 + a.1)) := ⟨by rw [← hTn, show stepP l (0 + 1) = 0 from rfl, wrap_add', Int.zero_add]⟩
            have hs0 : (wr.alloc (.cells #[.int .i64 0, .int .u64 0] 54)).cell? ad = some (.int .i64 y.f0) := by simpa [Addr.add] using y0
            have HN1 : Aside0 (ad.block ≠ g ∧ ad.block ≠ wr.heap.size) := HNA
            have HCK : Aside0 (∀ (W W' : World), KeepBut W W' g none → W.cell? ad = some (.int .i64 y.f0) → W'.cell? ad = some (.int .i64 y.f0)) := ⟨fun W W' hk h => keep_cell hk h HNA.out.1⟩
            have HCF : Aside0 (∀ (W : World) (q : Addr), q.block = wr.heap.size → ∀ v, W.cell? ad = some (.int .i64 y.f0) → (W.setCell q v).cell? ad = some (.int .i64 y.f0)) := ⟨fun W q hq v h => (cell_far (by rw [hq]; exact HNA.out.2) v).trans h⟩
            have b3 : (0 : Int) < (l.length : Int) := by omega
            have b4 : 0 < l.length := by omega
            clear y0 y1 hTn hll
            go_wp2_with fail
            go_cut [] (fun wx => Aside0 (wx.heap[wr.heap.size]? = some (.cells #[.int .i64 Tn, .int .u64 0] 54 (0, 0))) ∧ Aside0 (IsS145 w wx g xb (a.2.1 : Int) a.2.2) ∧ Aside0 (Kd.R k54 54 wx w.heap.size (fun q => q ≠ g ∧ q ≠ wr.heap.size) (.slice (some ad) l.length c7) l) ∧ Aside0 (Below w.heap.size w wx) ∧ Aside0 (wr.heap.size < wx.heap.size))
            case first =>
              go_region_held3 (fun W => W.cell? ad = some (.int .i64 y.f0)) (first | exact hs0 | exact hs1 | exact hs2 _)
                (first | (go_at_call 106; (refine (CI.out p false a _ ?s121 ?s122 HP8.out HA.out).mono ?_); (case s121 => exact HSA.out.drew); (case s122 => exact below_drew1 HBA.out); rintro e w3 ⟨rfl, hs, hb, hk⟩; have hs1 := HCK.out _ w3 hk hs0; have hs2 := (fun v => HCF.out w3 ⟨wr.heap.size, 0, none⟩ rfl v hs1); have hx3 := (hk.2 wr.heap.size HWA.out gne.out (by simp)).trans HXA.out; have c30 := (blk_cell hx3 0).trans rfl; have f30 := blk_frozen hx3 0; have HX3 := Aside0.mk hx3; have HS3 := Aside0.mk hs; have HB3 := Aside0.mk hb; have HK3 := Aside0.mk hk; clear hx3 hs hb hk))
              all_goals
                go_wp2_with fail
                go_meet
                refine ⟨⟨?_⟩, ⟨?_⟩, ⟨?_⟩, ⟨?_⟩, ⟨?_⟩⟩
                · rw [HTN.out]
                  simp only [i64_w]
                  exact blk_put HX3.out 0 _ rfl
                · exact HS3.out.far (p := ⟨wr.heap.size, 0, none⟩) gne.out.symm _
                · exact Kd.R_far (p := ⟨wr.heap.size, 0, none⟩) (Kd.R_keep (Kd.R_drew HOA.out) HK3.out (fun _ q => q.1)) (fun _ q => q.2) _
                · exact HB3.out.setCell (p := ⟨wr.heap.size, 0, none⟩) HBS.out _
                · exact Nat.lt_of_lt_of_le (blk_lt HX3.out) (Nat.le_of_eq (by simp [World.setCell]))
            case rest =>
              obtain ⟨HX5, HS5, HO5, HB5, HW5⟩ := hcut
              obtain ⟨ad5, e5, _, t0⟩ := at_T54 (Kd.R_reads' HO5.out).2.2 ((0 : Nat) : Int) (by omega) (by omega)
              obtain rfl := Option.some.inj e5
              clear e5 hs0
              have t1 : wc.cell? ⟨ad.block, ad.off + 1, none⟩ = some (.int .u64 y.f1) := by rw [show ((0 : Nat) : Int) = 0 from rfl] at t0; have h_ := HY.out; rw [show ((0 : Nat) : Int) = 0 from rfl] at h_; rw [h_] at t0; simpa [Addr.add] using t0
              clear t0
              go_wp2_with fail
              go_region_held3 (fun W => W.cell? ⟨ad.block, ad.off + 1, none⟩ = some (.int .u64 y.f1)) (first | exact t1 | exact t2 | exact t3 _)
                (first | (go_at_call 107; (refine (CX.out a.2.1 a.2.2 d _ ?s123 ?s124 HP2.out HD.out).mono ?_); (case s123 => exact HS5.out.drew); (case s124 => exact below_drew1 HB5.out); rintro e w6 ⟨rfl, hs, hb, hk⟩; have t2 : w6.cell? ⟨ad.block, ad.off + 1, none⟩ = some (.int .u64 y.f1) := (keep_cell hk t1 HN1.out.1); have t3 := (fun v => (cell_far (p := ⟨wr.heap.size, 1, none⟩) (W := w6) (a := ⟨ad.block, ad.off + 1, none⟩) HN1.out.2 v).trans t2); have hx6 := (hk.2 wr.heap.size HW5.out gne.out (by simp)).trans HX5.out; have c61 := (blk_cell hx6 1).trans rfl; have f61 := blk_frozen hx6 1; have HX6 := Aside0.mk hx6; have HS6 := Aside0.mk hs; have HB6 := Aside0.mk hb; have HK6 := Aside0.mk hk; clear hx6 hs hb hk))
              all_goals
                go_wp2_with fail
                go_meet
                exact ⟨Tn, Go.bits .xor .u64 y.f1 d.1, d.2.1, d.2.2, HST, ⟨blk_put HX6.out 1 _ rfl⟩, ⟨HS6.out.far (p := ⟨wr.heap.size, 1, none⟩) gne.out.symm _⟩, ⟨Kd.R_mono (Kd.R_far (p := ⟨wr.heap.size, 1, none⟩) (Kd.R_keep (Kd.R_drew HO5.out) HK6.out (fun _ q => q.1)) (fun _ q => q.2) _) (fun _ q => q.1)⟩, ⟨HB6.out.setCell (p := ⟨wr.heap.size, 1, none⟩) HBS.out _⟩⟩
          | succ k =>
            obtain ⟨z, hz⟩ : ∃ z, rd_T54 l (k : Int) = z := ⟨_, rfl⟩
            obtain ⟨ad', e8, z0, -⟩ := at_T54 (Kd.R_reads' HOA.out).2.2 (k : Int) (by omega) (by omega)
            obtain rfl := Option.some.inj e8
            rw [Int.toNat_natCast, hz] at z0
            have HSP : Aside0 (stepP l (k + 1 + 1) = wrap64 (y.f0 - z.f0)) := ⟨by rw [← HY.out, ← hz]; rfl⟩
            have HTN : Aside0 (Tn = wrap64 (wrap64 (y.f0 + wrap64 (y.f0 - z.f0)) + a.1)) := ⟨by rw [← hTn, HSP.out, wrap_add', wrap_add, Int.add_assoc]⟩
            have hs0 : (wr.alloc (.cells #[.int .i64 0, .int .u64 0] 54)).cell? (ad.add ((k + 1) * 2)) = some (.int .i64 y.f0) ∧ (wr.alloc (.cells #[.int .i64 0, .int .u64 0] 54)).cell? (ad.add (k * 2)) = some (.int .i64 z.f0) := ⟨y0, z0⟩
            have HN1 : Aside0 ((ad.add ((k + 1) * 2)).block ≠ g ∧ (ad.add ((k + 1) * 2)).block ≠ wr.heap.size) := ⟨by rw [add_block]; exact HNA.out⟩
            have HN2 : Aside0 ((ad.add (k * 2)).block ≠ g ∧ (ad.add (k * 2)).block ≠ wr.heap.size) := ⟨by rw [add_block]; exact HNA.out⟩
            have HCK : Aside0 (∀ (W W' : World), KeepBut W W' g none → (W.cell? (ad.add ((k + 1) * 2)) = some (.int .i64 y.f0) ∧ W.cell? (ad.add (k * 2)) = some (.int .i64 z.f0)) → (W'.cell? (ad.add ((k + 1) * 2)) = some (.int .i64 y.f0) ∧ W'.cell? (ad.add (k * 2)) = some (.int .i64 z.f0))) := ⟨fun W W' hk h => ⟨keep_cell hk h.1 HN1.out.1, keep_cell hk h.2 HN2.out.1⟩⟩
            have HCF : Aside0 (∀ (W : World) (q : Addr), q.block = wr.heap.size → ∀ v, (W.cell? (ad.add ((k + 1) * 2)) = some (.int .i64 y.f0) ∧ W.cell? (ad.add (k * 2)) = some (.int .i64 z.f0)) → ((W.setCell q v).cell? (ad.add ((k + 1) * 2)) = some (.int .i64 y.f0) ∧ (W.setCell q v).cell? (ad.add (k * 2)) = some (.int .i64 z.f0))) := ⟨fun W q hq v h => ⟨(cell_far (by rw [hq]; exact HN1.out.2) v).trans h.1, (cell_far (by rw [hq]; exact HN2.out.2) v).trans h.2⟩⟩
            rw [show ((k + 1 + 1 : Nat) : Int) = (k : Int) + 2 from by omega] at *
            have b0 : (0 : Int) ≤ (k : Int) := by omega
            have b1 : (k : Int) < (l.length : Int) := by omega
            have b2 : (0 : Int) ≤ (k : Int) + 1 := by omega
            have b3 : (k : Int) + 1 < (l.length : Int) := by omega
            have hwk : IntKind.i64.wrap (k : Int) = (k : Int) := (i64_w _).trans (w64 (by omega) (by omega))
            have hwk1 : IntKind.i64.wrap ((k : Int) + 1) = (k : Int) + 1 := (i64_w _).trans (w64 (by omega) (by omega))
            have hwk2 : IntKind.i64.wrap ((k : Int) + 2 - 1) = (k : Int) + 1 := (i64_w _).trans ((w64 (by omega) (by omega)).trans (by omega))
            have hwk3 : IntKind.i64.wrap ((k : Int) + 2 - 2) = (k : Int) := (i64_w _).trans ((w64 (by omega) (by omega)).trans (by omega))
            have hn1 : ((k : Int) + 1).toNat = k + 1 := by omega
            have d1 : ((k : Int) + 2 == 0) = false := beq_eq_false_iff_ne.2 (by omega)
            have d2 : ((k : Int) + 2 == 1) = false := beq_eq_false_iff_ne.2 (by omega)
            clear y0 y1 z0 hz e8 hTn hll
            go_wp2_with fail
            go_cut [] (fun wx => Aside0 (wx.heap[wr.heap.size]? = some (.cells #[.int .i64 Tn, .int .u64 0] 54 (0, 0))) ∧ Aside0 (IsS145 w wx g xb (a.2.1 : Int) a.2.2) ∧ Aside0 (Kd.R k54 54 wx w.heap.size (fun q => q ≠ g ∧ q ≠ wr.heap.size) (.slice (some ad) l.length c7) l) ∧ Aside0 (Below w.heap.size w wx) ∧ Aside0 (wr.heap.size < wx.heap.size))
            case first =>
              go_region_held3 (fun W => W.cell? (ad.add ((k + 1) * 2)) = some (.int .i64 y.f0) ∧ W.cell? (ad.add (k * 2)) = some (.int .i64 z.f0)) (first | exact hs0 | exact hs1 | exact hs2 _)
                (first | (go_at_call 106; (refine (CI.out p false a _ ?u121 ?u122 HP8.out HA.out).mono ?_); (case u121 => exact HSA.out.drew); (case u122 => exact below_drew1 HBA.out); rintro e w3 ⟨rfl, hs, hb, hk⟩; have hs1 := HCK.out _ w3 hk hs0; have hs2 := (fun v => HCF.out w3 ⟨wr.heap.size, 0, none⟩ rfl v hs1); have hx3 := (hk.2 wr.heap.size HWA.out gne.out (by simp)).trans HXA.out; have c30 := (blk_cell hx3 0).trans rfl; have f30 := blk_frozen hx3 0; have HX3 := Aside0.mk hx3; have HS3 := Aside0.mk hs; have HB3 := Aside0.mk hb; have HK3 := Aside0.mk hk; clear hx3 hs hb hk))
              all_goals
                go_wp2_with fail
                go_meet
                refine ⟨⟨?_⟩, ⟨?_⟩, ⟨?_⟩, ⟨?_⟩, ⟨?_⟩⟩
                · rw [HTN.out]
                  simp only [i64_w]
                  exact blk_put HX3.out 0 _ rfl
                · exact HS3.out.far (p := ⟨wr.heap.size, 0, none⟩) gne.out.symm _
                · exact Kd.R_far (p := ⟨wr.heap.size, 0, none⟩) (Kd.R_keep (Kd.R_drew HOA.out) HK3.out (fun _ q => q.1)) (fun _ q => q.2) _
                · exact HB3.out.setCell (p := ⟨wr.heap.size, 0, none⟩) HBS.out _
                · exact Nat.lt_of_lt_of_le (blk_lt HX3.out) (Nat.le_of_eq (by simp [World.setCell]))
            case rest =>
              obtain ⟨HX5, HS5, HO5, HB5, HW5⟩ := hcut
              obtain ⟨ad5, e5, _, t0⟩ := at_T54 (Kd.R_reads' HO5.out).2.2 ((k + 1 : Nat) : Int) (by omega) (by omega)
              obtain rfl := Option.some.inj e5
              clear e5 hs0
              have t1 : wc.cell? ⟨(ad.add ((k + 1) * 2)).block, (ad.add ((k + 1) * 2)).off + 1, none⟩ = some (.int .u64 y.f1) := by have h_ := HY.out; rw [h_, Int.toNat_natCast] at t0; exact t0
              clear t0
              go_wp2_with fail
              go_region_held3 (fun W => W.cell? ⟨(ad.add ((k + 1) * 2)).block, (ad.add ((k + 1) * 2)).off + 1, none⟩ = some (.int .u64 y.f1)) (first | exact t1 | exact t2 | exact t3 _)
                (first | (go_at_call 107; (refine (CX.out a.2.1 a.2.2 d _ ?u123 ?u124 HP2.out HD.out).mono ?_); (case u123 => exact HS5.out.drew); (case u124 => exact below_drew1 HB5.out); rintro e w6 ⟨rfl, hs, hb, hk⟩; have t2 : w6.cell? ⟨(ad.add ((k + 1) * 2)).block, (ad.add ((k + 1) * 2)).off + 1, none⟩ = some (.int .u64 y.f1) := (keep_cell hk t1 HN1.out.1); have t3 := (fun v => (cell_far (p := ⟨wr.heap.size, 1, none⟩) (W := w6) (a := ⟨(ad.add ((k + 1) * 2)).block, (ad.add ((k + 1) * 2)).off + 1, none⟩) HN1.out.2 v).trans t2); have hx6 := (hk.2 wr.heap.size HW5.out gne.out (by simp)).trans HX5.out; have c61 := (blk_cell hx6 1).trans rfl; have f61 := blk_frozen hx6 1; have HX6 := Aside0.mk hx6; have HS6 := Aside0.mk hs; have HB6 := Aside0.mk hb; have HK6 := Aside0.mk hk; clear hx6 hs hb hk))
              all_goals
                go_wp2_with fail
                go_meet
                exact ⟨Tn, Go.bits .xor .u64 y.f1 d.1, d.2.1, d.2.2, HST, ⟨blk_put HX6.out 1 _ rfl⟩, ⟨HS6.out.far (p := ⟨wr.heap.size, 1, none⟩) gne.out.symm _⟩, ⟨Kd.R_mono (Kd.R_far (p := ⟨wr.heap.size, 1, none⟩) (Kd.R_keep (Kd.R_drew HO5.out) HK6.out (fun _ q => q.1)) (fun _ q => q.2) _) (fun _ q => q.1)⟩, ⟨HB6.out.setCell (p := ⟨wr.heap.size, 1, none⟩) HBS.out _⟩⟩
      case rest =>
        obtain ⟨T, V, p', bad', HST, HXB2, HS2, HO2, HB2⟩ := hcut
        obtain ⟨A9, c9, hs9, hs9g, -⟩ := HS2.out
        have s92 := (blk_cell hs9 2).trans rfl
        have x20 := (blk_cell HXB2.out 0).trans rfl
        have x21 := (blk_cell HXB2.out 1).trans rfl
        clear hs9 hs9g
        cases bad' with
        | true =>
          have HAN := Aside0.mk (ans_bad HST.out HLK.out)
          go_wp2_with fail
          refine bodyPost_ret (results_tmp2 rfl _ _ _) rfl ?_
          exact ⟨_, [], 5, rfl, HAN.out, Kd.R_nil _ _ _ _ _, HB2.out⟩
        | false =>
          have hl20 : l.length ≤ 20000 := by have := HLL.out; have := HP8.out; have := HI.out.2.2.1; have := HLX.out; omega
          have HL20 := Aside0.mk hl20
          clear hl20
          go_wp2_with ((with_reducible refine gate_builtin (b := .append) (xs := #[.tmp 97, .tmp 99]) rfl ?_); at_builtin; refine Kd.R_append k54 (w0 := w) w.heap.size rfl (.tmp 97) (.tmp 99) 30 54 (.agg #[.int .i64 0, .int .u64 0]) 16 rfl Tryd.underlying30 info54 rfl (by decide) (by omega) (.slice A7 l.length c7) l (⟨T, V⟩ : S54) [.int .i64 T, .int .u64 V] (fun q => q ≠ g) (fun _ => False) rfl ?hx ?aP (fun _ hk => hk.elim) ?aF HO2.out HB2.out HB2.out.size ?aL ?_; (case hx => first | rfl | (go_simp; done) | (show Value.slice _ 1 1 = Value.slice _ 1 1; simp; done)); (case aP => exact k54_mkM _ _ _ (⟨T, V⟩ : S54)); (case aF => exact fun q hq e => by have := HS2.out.lt; omega); (case aL => have := HL20.out; omega); intro v9 w9 ho hb hg9 hat; have HO9 := Aside0.mk ho; have HB9 := Aside0.mk hb; have HS9 := Aside0.mk (HS2.out.grown hg9 (HS2.out.own_ne HO2.out (by decide))); clear ho hb hg9 hat)
          go_roundw
          case rel => exact ⟨k + 1, l ++ [(⟨T, V⟩ : S54)], p', by omega, by go_num, ⟨⟨HST.out.2.1 rfl, fun h => absurd h (by omega)⟩⟩, HO9, HS9, HB9⟩
          case measure => simp [intOf] <;> omega
    · obtain rfl : k = n := by omega
      have HIO : Aside0 (∀ x ∈ l, okS x) := ⟨HI.out.2.1⟩
      obtain ⟨eb, ee, henc⟩ : ∃ eb ee, encF l = (eb, ee) := ⟨_, _, rfl⟩
      have HENC := Aside0.mk henc
      have HEOK : Aside0 (okB eb = true) := ⟨by have := encF_okB l hl20 HI.out.2.1; rw [henc] at this; exact this⟩
      have HL20 := Aside0.mk hl20
      have HGE : Aside0 (∀ l0, Good b l0 → l = l0) := ⟨fun l0 hg => by
        have h1 := (HI.out.2.2.2.2 l0 hg (by rw [HGN.out l0 hg]; exact Nat.le_refl _)).1
        rw [h1, ← HGN.out l0 hg, List.take_length]⟩
      have HBAD : Aside0 (¬ encF l = (b, 0) → Ans b [] 5) := ⟨fun hne => ⟨.inr ⟨rfl, rfl⟩, fun l0 hg => by
        have h1 := HGE.out l0 hg
        refine absurd ?_ hne
        rw [h1, encF, if_pos hg.2.1, hg.2.2.2]⟩⟩
      clear henc hl20
      by_cases hee : ee = 0
      · subst hee
        have hee0 : ((0 : Int) != 0) = false := rfl
        cases heq : decide (eb = b) with
        | false =>
          have HEQ := Aside0.mk heq
          go_wp2_with (first
            | (go_at_call 36; (with_reducible refine (rEnc_at A7 c7 l _ eb 0 rfl (Kd.R_reads' HO.out).2.2 (Kd.R_reads' HO.out).2.1 HIO.out HL20.out HENC.out).mono ?_); rintro e w6 ⟨v6, rfl, hr6, hb⟩; obtain ⟨A6, c6, rfl⟩ := Kd.R_slice hr6; have HB6 := Aside0.mk (below_step HB.out hb); have hcv3 := Kd.C_string (P := Tryd.prog) (A := A6) (c := c6) Tryd.underlying22 Tryd.underlying5 Tryd.underlying9 (Kd.R_reads' hr6).2.2; have hcv4 := Kd.C_string (P := Tryd.prog) (A := A) (c := c) Tryd.underlying22 Tryd.underlying5 Tryd.underlying9 (Kd.C_below HRB.out HB6.out); have hse := strOfNums_inj HEOK.out HOK.out; rw [HEQ.out] at hse; clear hr6 hb))
          refine bodyPost_ret (results_tmp2 rfl _ _ _) rfl ?_
          exact ⟨_, [], 5, rfl, HBAD.out (by rw [HENC.out]; intro q; exact of_decide_eq_false HEQ.out (congrArg Prod.fst q)), Kd.R_nil _ _ _ _ _, HB6.out⟩
        | true =>
          have HEQ := Aside0.mk heq
          go_wp2_with (first
            | (go_at_call 36; (with_reducible refine (rEnc_at A7 c7 l _ eb 0 rfl (Kd.R_reads' HO.out).2.2 (Kd.R_reads' HO.out).2.1 HIO.out HL20.out HENC.out).mono ?_); rintro e w6 ⟨v6, rfl, hr6, hb⟩; obtain ⟨A6, c6, rfl⟩ := Kd.R_slice hr6; have HB6 := Aside0.mk (below_step HB.out hb); have HO6 := Aside0.mk (Kd.R_below HO.out hb); have hcv3 := Kd.C_string (P := Tryd.prog) (A := A6) (c := c6) Tryd.underlying22 Tryd.underlying5 Tryd.underlying9 (Kd.R_reads' hr6).2.2; have hcv4 := Kd.C_string (P := Tryd.prog) (A := A) (c := c) Tryd.underlying22 Tryd.underlying5 Tryd.underlying9 (Kd.C_below HRB.out HB6.out); have hse := strOfNums_inj HEOK.out HOK.out; rw [HEQ.out] at hse; clear hr6 hb))
          refine bodyPost_ret (results_tmp2 rfl _ _ _) rfl ?_
          exact ⟨_, l, 0, rfl, ⟨.inl ⟨rfl, by rw [HENC.out]; exact congrArg (fun z => (z, (0 : Int))) (of_decide_eq_true HEQ.out), HIO.out, HL20.out⟩, fun l0 hg => ⟨rfl, HGE.out l0 hg⟩⟩, Kd.R_mono HO6.out (fun _ _ => trivial), HB6.out⟩
      · have hee0 : (ee != 0) = true := bne_iff_ne.2 hee
        have HEE := Aside0.mk hee
        clear hee
        go_wp2_with (first
          | (go_at_call 36; (with_reducible refine (rEnc_at A7 c7 l _ eb ee rfl (Kd.R_reads' HO.out).2.2 (Kd.R_reads' HO.out).2.1 HIO.out HL20.out HENC.out).mono ?_); rintro e w6 ⟨v6, rfl, hr6, hb⟩; obtain ⟨A6, c6, rfl⟩ := Kd.R_slice hr6; have HB6 := Aside0.mk (below_step HB.out hb); clear hr6 hb))
        refine bodyPost_ret (results_tmp2 rfl _ _ _) rfl ?_
        exact ⟨_, [], 5, rfl, HBAD.out (by rw [HENC.out]; intro q; exact HEE.out (congrArg Prod.snd q)), Kd.R_nil _ _ _ _ _, HB6.out⟩
theorem rDecode.calls_at {n : Nat} (A : Option Addr) (c : Nat) (b : List Int) (w : World) (rl : List S54) (re : Int) (hn : b.length = n) (hr : Kd.C (Kd.int .u8) w A b.length b) (hc : n ≤ c) (hok : okB b = true) (hlen : n ≤ 2500) (he : decF b = (rl, re)) :
    Calls Tryd.prog 79 #[.slice A n c] w fun e w' => ∃ v : Value, e = .returned (.tuple #[v, .int .i64 re]) ∧ Kd.R k54 54 w' w.heap.size (fun _ => True) v rl ∧ Below w.heap.size w w' := by
  subst hn
  refine (rDecode.calls0 A c b w hr hc hok hlen).mono ?_
  rintro e w' ⟨v, l, ee, rfl, ha, hr, hb⟩
  have h1 := ans_dec ha hlen
  rw [he] at h1
  obtain ⟨rfl, rfl⟩ := Prod.mk.inj h1
  exact ⟨v, rfl, hr, hb⟩
end Go.Proofs.YtbgmnmjokdfmlaaDoor.PA
