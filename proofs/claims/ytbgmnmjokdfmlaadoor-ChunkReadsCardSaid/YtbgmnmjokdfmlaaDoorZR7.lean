/- Lemmas and contracts that the law ChunkReads leans on (packed by a program of this session out of its texts and the print's words). -/
import Derived.Test.YtbgmnmjokdfmlaaDoorZR5
import Derived.Test.YtbgmnmjokdfmlaaDoorZR6
import Derived.Test.YtbgmnmjokdfmlaaDoorZR4
import Derived.BigRegion
import Derived.Test.YtbgmnmjokdfmlaaDoorZR2
namespace Go.Proofs.YtbgmnmjokdfmlaaDoor.PA
open Go.RowKit Go.Proofs.YtbgmnmjokdfmlaaDoor.G Go.Proofs.YtbgmnmjokdfmlaaDoorW.PrintWords Go.Proofs.YtbgmnmjokdfmlaaDoorW.PrintLast Go.Proofs.YtbgmnmjokdfmlaaDoorW.PrintMore
set_option linter.unusedVariables false
set_option linter.unusedSimpArgs false
set_option maxHeartbeats 8000000 in
set_option maxRecDepth 100000 in
theorem rFirst.calls (A : Option Addr) (c n : Nat) (b : List Int) (w : World) (hn : b.length = n) (hr : Kd.C (Kd.int .u8) w A n b) (hc : n ≤ c) (hok : okB b = true) (hlen : n ≤ 1000000) (hseg : n ≤ 2504 ∨ segN b ≤ 2500) :
    Calls Tryd.prog 43 #[.slice A n c] w (ChPost w b) := by
  subst hn
  by_cases h4 : b.length < 4
  · have HE : Aside0 (chunkB b = ([], [], 0)) := ⟨by rw [chunkB, if_pos h4]⟩
    have h4i : ((b.length : Int) < 4) := by omega
    have INT := Aside0.mk (rInt10.short A c b.length b w rfl h4)
    clear hr hok hseg h4 h4i
    go_enter Tryd.func43, Tryd.ntmps43
    go_wp2_with (first | (go_at_call 77; (with_reducible refine INT.out.mono ?_); rintro e w1 ⟨rfl, hb⟩; have HB1 := Aside0.mk hb; clear hb))
    refine bodyPost_ret (results_tmp3 rfl _ _ _) rfl ?_
    exact ChPost.bad HE.out HB1.out
  · have h4i : ¬ ((b.length : Int) < 4) := by omega
    have hs32 := segN_lt hok
    have h4l : (b.take 4).length = 4 := by rw [List.length_take]; omega
    have HR := Aside0.mk hr
    have HOK := Aside0.mk hok
    obtain ⟨A1, c1, r1, hr1, HC1, hc1, _, hcut⟩ := cutB2 A c b 4 (by omega) hc
    have INT := Aside0.mk (rInt10.calls A c b.length b w rfl hr hc hok (by omega) A1 c1 r1.length (hcut 4 rfl))
    have hr1l : r1.length = b.length - 4 := by rw [hr1.out, List.length_drop]
    have HR1 := Aside0.mk hr1.out
    clear hcut hr1
    by_cases hlong : b.length - 4 < segN b
    · have HE : Aside0 (chunkB b = ([], [], 0)) := ⟨by rw [chunkB, if_neg h4, if_pos hlong]⟩
      have hli : ((r1.length : Int) < ((segN b : Nat) : Int)) := by omega
      generalize segN b = N at *
      clear hr hok hseg h4 hlong
      go_enter Tryd.func43, Tryd.ntmps43
      go_wp2_with (first | (go_at_call 77; (with_reducible refine INT.out.mono ?_); rintro e w1 ⟨rfl, hb⟩; have HB1 := Aside0.mk hb; clear hb))
      refine bodyPost_ret (results_tmp3 rfl _ _ _) rfl ?_
      exact ChPost.bad HE.out HB1.out
    · have hli : ¬ ((r1.length : Int) < ((segN b : Nat) : Int)) := by omega
      have HSG : Aside0 (seg b = r1.take (segN b)) := ⟨by rw [seg, HR1.out, List.drop_take, Nat.add_sub_cancel_left]⟩
      obtain ⟨r, hr2⟩ : ∃ r, r1.take (segN b) = r := ⟨_, rfl⟩
      rw [hr2] at HSG
      have hrN : r.length = segN b := by rw [← hr2, List.length_take]; omega
      have hrl : r.length ≤ 2500 := by omega
      have HRK : Aside0 (okB r = true) := ⟨okB_sub hok (fun x hx => by rw [← hr2, HR1.out] at hx; exact List.mem_of_mem_drop (List.mem_of_mem_take hx))⟩
      have DL : Aside0 (∀ W, Below w.heap.size w W → Calls Tryd.prog 78 #[.slice A1 (segN b) c1] W (DecPost W r)) := ⟨fun W hb => rdecLb.calls A1 c1 (segN b) r W hrN (by
        have h1 := Kd.C_take (HC1.out W (Kd.C_below hr hb)) (m := segN b) (by omega)
        rw [hr2] at h1
        rwa [hrN] at h1) (by omega) HRK.out (by omega)⟩
      obtain ⟨rl, rr, re, hd⟩ : ∃ rl rr re, decLb r = (rl, rr, re) := ⟨_, _, _, rfl⟩
      have HD := Aside0.mk hd
      have HRR : Aside0 (okB rr = true ∧ rr.length ≤ 2500) := ⟨by
        have h1 := decLb_rest r
        rw [hd] at h1
        exact ⟨okB_sub HRK.out h1.1, by have := h1.2; simp only at this; omega⟩⟩
      have HN4 : Aside0 (segN b < 4294967296) := ⟨hs32⟩
      have HCB : Aside0 (chunkB b = if re ≠ 0 then ([], [], 0) else if (decF rr).2 ≠ 0 ∨ (decF rr).1.length = 0 ∨ 20 < (decF rr).1.length then ([], [], 0) else (rl, (decF rr).1, ((4 + segN b : Nat) : Int))) := ⟨by rw [chunkB, if_neg h4, if_neg hlong, HSG.out, hd]⟩
      have hNr : segN b ≤ r1.length := by omega
      clear hr2 hok hseg h4 hlong hr hd hr1l
      generalize segN b = N at *
      by_cases hre : re = 0
      · subst hre
        obtain ⟨sl, se, hs⟩ : ∃ sl se, decF rr = (sl, se) := ⟨_, _, rfl⟩
        have HDE : Aside0 (∀ A' c' W, Kd.C (Kd.int .u8) W A' rr.length rr → rr.length ≤ c' → Below w.heap.size w W → Calls Tryd.prog 79 #[.slice A' rr.length c'] W fun e w' => ∃ v : Value, e = .returned (.tuple #[v, .int .i64 se]) ∧ Kd.R k54 54 w' W.heap.size (fun _ => True) v sl ∧ Below W.heap.size W w') := ⟨fun A' c' W h1 h2 hb => rDecode.calls_at A' c' rr W sl se rfl h1 h2 HRR.out.1 HRR.out.2 hs⟩
        rw [hs] at HCB
        simp only [ne_eq, not_true_eq_false, if_false] at HCB
        clear hs
        by_cases hs0 : se = 0
        · subst hs0
          have e0 : ((0 : Int) != 0) = false := by decide
          by_cases hl0 : sl.length = 0
          · have HE : Aside0 (chunkB b = ([], [], 0)) := ⟨by rw [HCB.out, if_pos (.inr (.inl hl0))]⟩
            have hl0i : ((sl.length : Int) < 1) := by omega
            clear HCB hl0
            go_enter Tryd.func43, Tryd.ntmps43
            go_wp2_with (first | (go_at_call 77; (with_reducible refine INT.out.mono ?_); rintro e w1 ⟨rfl, hb⟩; have HB1 := Aside0.mk hb; clear hb) | (go_at_call 78; (with_reducible refine (DL.out _ HB1.out).mono ?_); rintro e w2 ⟨v1, v2, rfl, h1, h2, hb⟩; rw [HD.out] at h1 h2 ⊢; dsimp only at h1 h2 ⊢; obtain ⟨A8, c8, rfl⟩ := Kd.R_slice h2; have HV1 := Aside0.mk h1; have HV2 := Aside0.mk h2; have HB2 := Aside0.mk (below_step HB1.out hb); clear hb h1 h2) | (go_at_call 79; (with_reducible refine (HDE.out A8 c8 _ (Kd.R_reads' HV2.out).2.2 (Kd.R_reads' HV2.out).2.1 HB2.out).mono ?_); rintro e w3 ⟨v3, rfl, h3, hb⟩; obtain ⟨A9, c9, rfl⟩ := Kd.R_slice h3; have HV3 := Aside0.mk h3; have HV13 := Aside0.mk (Kd.R_below HV1.out hb); have HB3 := Aside0.mk (below_step HB2.out hb); clear hb h3))
            refine bodyPost_ret (results_tmp3 rfl _ _ _) rfl ?_
            exact ChPost.bad HE.out HB3.out
          · have hl0i : ¬ ((sl.length : Int) < 1) := by omega
            by_cases hl2 : 20 < sl.length
            · have HE : Aside0 (chunkB b = ([], [], 0)) := ⟨by rw [HCB.out, if_pos (.inr (.inr hl2))]⟩
              have hl2i : (20 : Int) < (sl.length : Int) := by omega
              clear HCB hl0 hl2
              go_enter Tryd.func43, Tryd.ntmps43
              go_wp2_with (first | (go_at_call 77; (with_reducible refine INT.out.mono ?_); rintro e w1 ⟨rfl, hb⟩; have HB1 := Aside0.mk hb; clear hb) | (go_at_call 78; (with_reducible refine (DL.out _ HB1.out).mono ?_); rintro e w2 ⟨v1, v2, rfl, h1, h2, hb⟩; rw [HD.out] at h1 h2 ⊢; dsimp only at h1 h2 ⊢; obtain ⟨A8, c8, rfl⟩ := Kd.R_slice h2; have HV1 := Aside0.mk h1; have HV2 := Aside0.mk h2; have HB2 := Aside0.mk (below_step HB1.out hb); clear hb h1 h2) | (go_at_call 79; (with_reducible refine (HDE.out A8 c8 _ (Kd.R_reads' HV2.out).2.2 (Kd.R_reads' HV2.out).2.1 HB2.out).mono ?_); rintro e w3 ⟨v3, rfl, h3, hb⟩; obtain ⟨A9, c9, rfl⟩ := Kd.R_slice h3; have HV3 := Aside0.mk h3; have HV13 := Aside0.mk (Kd.R_below HV1.out hb); have HB3 := Aside0.mk (below_step HB2.out hb); clear hb h3))
              refine bodyPost_ret (results_tmp3 rfl _ _ _) rfl ?_
              exact ChPost.bad HE.out HB3.out
            · have HE : Aside0 (chunkB b = (rl, sl, ((4 + N : Nat) : Int))) := ⟨by rw [HCB.out, if_neg (by omega)]⟩
              have hl2i : ¬ (20 : Int) < (sl.length : Int) := by omega
              clear HCB hl0 hl2
              go_enter Tryd.func43, Tryd.ntmps43
              go_wp2_with (first | (go_at_call 77; (with_reducible refine INT.out.mono ?_); rintro e w1 ⟨rfl, hb⟩; have HB1 := Aside0.mk hb; clear hb) | (go_at_call 78; (with_reducible refine (DL.out _ HB1.out).mono ?_); rintro e w2 ⟨v1, v2, rfl, h1, h2, hb⟩; rw [HD.out] at h1 h2 ⊢; dsimp only at h1 h2 ⊢; obtain ⟨A8, c8, rfl⟩ := Kd.R_slice h2; have HV1 := Aside0.mk h1; have HV2 := Aside0.mk h2; have HB2 := Aside0.mk (below_step HB1.out hb); clear hb h1 h2) | (go_at_call 79; (with_reducible refine (HDE.out A8 c8 _ (Kd.R_reads' HV2.out).2.2 (Kd.R_reads' HV2.out).2.1 HB2.out).mono ?_); rintro e w3 ⟨v3, rfl, h3, hb⟩; obtain ⟨A9, c9, rfl⟩ := Kd.R_slice h3; have HV3 := Aside0.mk h3; have HV13 := Aside0.mk (Kd.R_below HV1.out hb); have HB3 := Aside0.mk (below_step HB2.out hb); clear hb h3))
              refine bodyPost_ret (results_tmp3 rfl _ _ _) rfl ?_
              refine ⟨_, _, by rw [HE.out]; dsimp only; rw [show ((4 + N : Nat) : Int) = (N : Int) + 4 by omega]; rfl, ?_, ?_, HB3.out⟩
              · rw [HE.out]
                exact Kd.R_lower HV13.out (by have := HB1.out.size; omega)
              · rw [HE.out]
                exact Kd.R_lower HV3.out (by have := HB2.out.size; omega)
        · have HE : Aside0 (chunkB b = ([], [], 0)) := ⟨by rw [HCB.out, if_pos (.inl hs0)]⟩
          have hs0i : (se == 0) = false := beq_eq_false_iff_ne.2 hs0
          clear HCB
          go_enter Tryd.func43, Tryd.ntmps43
          go_wp2_with (first | (go_at_call 77; (with_reducible refine INT.out.mono ?_); rintro e w1 ⟨rfl, hb⟩; have HB1 := Aside0.mk hb; clear hb) | (go_at_call 78; (with_reducible refine (DL.out _ HB1.out).mono ?_); rintro e w2 ⟨v1, v2, rfl, h1, h2, hb⟩; rw [HD.out] at h1 h2 ⊢; dsimp only at h1 h2 ⊢; obtain ⟨A8, c8, rfl⟩ := Kd.R_slice h2; have HV1 := Aside0.mk h1; have HV2 := Aside0.mk h2; have HB2 := Aside0.mk (below_step HB1.out hb); clear hb h1 h2) | (go_at_call 79; (with_reducible refine (HDE.out A8 c8 _ (Kd.R_reads' HV2.out).2.2 (Kd.R_reads' HV2.out).2.1 HB2.out).mono ?_); rintro e w3 ⟨v3, rfl, h3, hb⟩; obtain ⟨A9, c9, rfl⟩ := Kd.R_slice h3; have HV3 := Aside0.mk h3; have HV13 := Aside0.mk (Kd.R_below HV1.out hb); have HB3 := Aside0.mk (below_step HB2.out hb); clear hb h3))
          refine bodyPost_ret (results_tmp3 rfl _ _ _) rfl ?_
          exact ChPost.bad HE.out HB3.out
      · have HE : Aside0 (chunkB b = ([], [], 0)) := ⟨by rw [HCB.out, if_pos hre]⟩
        have hrei : (re == 0) = false := beq_eq_false_iff_ne.2 hre
        clear HCB hre
        go_enter Tryd.func43, Tryd.ntmps43
        go_wp2_with (first | (go_at_call 77; (with_reducible refine INT.out.mono ?_); rintro e w1 ⟨rfl, hb⟩; have HB1 := Aside0.mk hb; clear hb) | (go_at_call 78; (with_reducible refine (DL.out _ HB1.out).mono ?_); rintro e w2 ⟨v1, v2, rfl, h1, h2, hb⟩; rw [HD.out] at h1 h2 ⊢; dsimp only at h1 h2 ⊢; have HV1 := Aside0.mk h1; have HV2 := Aside0.mk h2; have HB2 := Aside0.mk (below_step HB1.out hb); clear hb h1 h2))
        refine bodyPost_ret (results_tmp3 rfl _ _ _) rfl ?_
        exact ChPost.bad HE.out HB2.out
end Go.Proofs.YtbgmnmjokdfmlaaDoor.PA
namespace Go.Proofs.YtbgmnmjokdfmlaaDoor.PA
open Go.RowKit Go.Proofs.YtbgmnmjokdfmlaaDoor.G Go.Proofs.YtbgmnmjokdfmlaaDoorW.PrintWords Go.Proofs.YtbgmnmjokdfmlaaDoorW.PrintLast Go.Proofs.YtbgmnmjokdfmlaaDoorW.PrintMore
set_option linter.unusedVariables false
set_option linter.unusedSimpArgs false
theorem of_if {c A B : Prop} [Decidable c] (hc : c) (h : if c then A else B) : A := by rwa [if_pos hc] at h
theorem wp_region_head {P : Program} {id : Nat} {ops : Array Oper} {Q : Exit → Act → World → Prop} {a : Act} {w : World} (hm : P.follows .mixedOrders = true)
    (h : wpAny P .any ops (fun e a w => e = .normal ∧ Q .normal a w) ops.size (Array.replicate ops.size false) a w.drew) : (Code.region id ops true).wp P Q a w :=
  wp_mono (Q := fun e a w => e = .normal ∧ Q .normal a w) (wp_region_any hm h) (fun e a w he => by obtain ⟨h1, h2⟩ := he; subst h1; exact h2)
theorem info_E : (Tryd.prog.info? 29).map (fun i => (i.zero, i.size, i.bytes)) = some (some (.agg #[.slice none 0 0, .int .i64 0, .int .i64 0, .int .i64 0, .int .i64 0]), 5, 56) := by kernel_rfl
theorem info_SS : (Tryd.prog.info? 30).map (fun i => (i.zero, i.size, i.bytes)) = some (some (.slice none 0 0), 1, 24) := by kernel_rfl
set_option maxHeartbeats 8000000 in
set_option maxRecDepth 100000 in
theorem rAll.calls (A : Option Addr) (c n : Nat) (b : List Int) (q : Int) (w : World) (hn : b.length = n) (hr : Kd.C (Kd.int .u8) w A n b) (hc : n ≤ c) (hok : okB b = true) (hlen : n ≤ 2504) :
    Calls Tryd.prog 20 #[.slice A n c, .int .i64 q] w fun e w' => ∃ v1 v2 : Value, e = .returned (.tuple #[v1, v2, .int .i64 (allR n b (atC q)).2.2]) ∧ Kd.N kE 29 w' w.heap.size (fun k => w.heap.size ≤ k) v1 (allR n b (atC q)).1 ∧ Kd.N kSS 30 w' w.heap.size (fun k => w.heap.size ≤ k) v2 (allR n b (atC q)).2.1 ∧ Below w.heap.size w w' := by
  subst hn
  obtain ⟨Z, hZ⟩ : ∃ Z, allR b.length b (atC q) = Z := ⟨_, rfl⟩
  have hq : 0 ≤ atC q ∧ atC q ≤ 2147483647 := by unfold atC; omega
  rw [hZ]
  obtain ⟨q0, hq0⟩ : ∃ q0, atC q = q0 := ⟨_, rfl⟩
  rw [hq0] at hZ hq
  have hqe : min (max q 0) 2147483647 = q0 := hq0
  have HZ := Aside0.mk hZ
  have HR := Aside0.mk hr
  have HOK := Aside0.mk hok
  have hq1 := hq.1
  have hq2 := hq.2
  clear hZ hr hok hq hq0
  go_enter Tryd.func20, Tryd.ntmps20
  go_wp2
  clear hqe
  go_loopw [0, 1, 7, 8] (fun s i v u wr => ∃ (Ai : Option Addr) (ci k' : Nat) (bi : List Int) (qi : Int) (out : List SE) (smp : List (List S54)), s = .slice Ai bi.length ci ∧ i = .int .i64 qi ∧ bi.length ≤ ci ∧ bi.length ≤ k' ∧ bi.length ≤ b.length ∧ 0 ≤ qi ∧ qi + bi.length ≤ 2147483647 + b.length ∧ Aside0 (okB bi = true) ∧ Aside0 (Kd.C (Kd.int .u8) w Ai bi.length bi) ∧
    Aside0 (Z = (out ++ (allR k' bi qi).1, smp ++ (allR k' bi qi).2.1, (allR k' bi qi).2.2)) ∧ Aside0 (out.length + bi.length ≤ b.length ∧ smp.length + bi.length ≤ b.length) ∧ Aside0 (Kd.N kE 29 wr w.heap.size (fun k => w.heap.size ≤ k ∧ some k ≠ u.ownBlock) v out) ∧ Aside0 (Kd.N kSS 30 wr w.heap.size (fun k => w.heap.size ≤ k ∧ some k ≠ v.ownBlock) u smp) ∧ Aside0 (Below w.heap.size w wr)) (fun s _ _ _ _ => match s with | .slice _ n _ => n | _ => 0)
  case atStart => exact ⟨A, c, b.length, b, q0, [], [], rfl, rfl, hc, Nat.le_refl _, Nat.le_refl _, hq1, by omega, HOK, HR, ⟨by rw [HZ.out]; rfl⟩, ⟨by simp⟩, ⟨Kd.N_nil _ _ _ _ _⟩, ⟨Kd.N_nil _ _ _ _ _⟩, ⟨Below.refl _ _⟩⟩
  case round =>
    clear HZ HR HOK
    obtain ⟨Ai, ci, k', bi, qi, out, smp, rfl, rfl, hci, hk', hbl, hq1, hq2, HOK, HR, HZ, HLN, HN1, HN2, HB⟩ := hrel
    by_cases h0 : bi.length = 0
    · have h0i : ¬ ((bi.length : Int) > 0) := by omega
      have HE : Aside0 (Z = (out, smp, 0)) := ⟨by rw [HZ.out, allR_end _ _ _ h0]; simp⟩
      obtain ⟨Av, cv, rfl⟩ := Kd.N_slice HN1.out
      obtain ⟨Au, cu, rfl⟩ := Kd.N_slice HN2.out
      clear HZ h0
      go_wp2
      refine bodyPost_ret (results_tmp3 rfl _ _ _) rfl ?_
      exact ⟨_, _, by rw [HE.out]; rfl, by rw [HE.out]; exact Kd.N_mono HN1.out (fun _ h => h.1), by rw [HE.out]; exact Kd.N_mono HN2.out (fun _ h => h.1), HB.out⟩
    · have h0i : ((bi.length : Int) > 0) := by omega
      have FI := Aside0.mk (rFirst.calls Ai ci bi.length bi wr rfl (Kd.C_below HR.out HB.out) hci HOK.out (by omega) (.inl (by omega)))
      rcases chunkB_cases bi with hbad | ⟨ls, ss, m, hch, hm4, hml, hs1, hs2⟩
      · have HE : Aside0 (Z = (out, smp, 5)) := ⟨by rw [HZ.out, allR_bad _ _ _ hk' h0 hbad]; simp⟩
        have HCB := Aside0.mk hbad
        obtain ⟨Av, cv, rfl⟩ := Kd.N_slice HN1.out
        obtain ⟨Au, cu, rfl⟩ := Kd.N_slice HN2.out
        clear HZ h0 hbad
        go_wp2_with (first | (go_at_call 43; (with_reducible refine FI.out.mono ?_); rintro e w1 ⟨v1, v2, rfl, h1, h2, hb⟩; rw [HCB.out]; dsimp only; have HB1 := Aside0.mk hb; clear h1 h2 hb))
        refine bodyPost_ret (results_tmp3 rfl _ _ _) rfl ?_
        exact ⟨_, _, by rw [HE.out]; rfl, by rw [HE.out]; exact Kd.N_mono (Kd.N_below HN1.out HB1.out) (fun _ h => h.1), by rw [HE.out]; exact Kd.N_mono (Kd.N_below HN2.out HB1.out) (fun _ h => h.1), below_step HB.out HB1.out⟩
      · have HCB := Aside0.mk hch
        have HM : Aside0 (4 ≤ m ∧ m ≤ bi.length) := ⟨hm4, hml⟩
        have hm0 : ((m : Int) == 0) = false := beq_eq_false_iff_ne.2 (by omega)
        clear hch h0
        go_wp2_with (first | (go_at_call 43; (with_reducible refine FI.out.mono ?_); rintro e w1 ⟨v1, v2, rfl, h1, h2, hb⟩; rw [HCB.out] at h1 h2 ⊢; dsimp only at h1 h2 ⊢; obtain ⟨a5, c5, rfl⟩ := Kd.R_slice1 h2 (by omega); obtain ⟨A4, c4, rfl⟩ := Kd.R_slice h1; have HV1 := Aside0.mk h1; have HV2 := Aside0.mk h2; have HB1 := Aside0.mk hb; clear h1 h2 hb))
        obtain ⟨ad0, had0, s0, _⟩ := at_T54 (Kd.R_reads' HV2.out).2.2 (0 : Int) (by omega) (by omega)
        obtain ⟨ad1, had1, s1, _⟩ := at_T54 (Kd.R_reads' HV2.out).2.2 ((ss.length : Int) - 1) (by omega) (by omega)
        cases had0
        cases had1
        have s0 : w1.cell? a5 = some (.int .i64 (rd_T54 ss 0).f0) := by simpa [Addr.add] using s0
        rw [show ((ss.length : Int) - 1).toNat = ss.length - 1 by omega] at s1
        have hs0 : 0 < ss.length := by omega
        have hs3 : ss.length - 1 < ss.length := by omega
        have hs4 : (1 : Int) ≤ (ss.length : Int) := by omega
        have hs5 : (ss.length : Int) - 1 < (ss.length : Int) := by omega
        have hwr : IntKind.i64.wrap ((ss.length : Int) - 1) = (ss.length : Int) - 1 := by rw [IntKind.wrap_i64]; omega
        have hv5 : ((ss.length : Int) - 1).toNat = ss.length - 1 := by omega
        have HS0 : Aside0 (∀ W' : World, (W'.cell? a5 = some (.int .i64 (rd_T54 ss 0).f0) ∧ W'.cell? (a5.add ((ss.length - 1) * 2)) = some (.int .i64 (rd_T54 ss ((ss.length : Int) - 1)).f0)) → W'.cell? a5 = some (.int .i64 (rd_T54 ss 0).f0)) := ⟨fun W' h => h.1⟩
        have HS1 : Aside0 (∀ W' : World, (W'.cell? a5 = some (.int .i64 (rd_T54 ss 0).f0) ∧ W'.cell? (a5.add ((ss.length - 1) * 2)) = some (.int .i64 (rd_T54 ss ((ss.length : Int) - 1)).f0)) → W'.cell? (a5.add ((ss.length - 1) * 2)) = some (.int .i64 (rd_T54 ss ((ss.length : Int) - 1)).f0)) := ⟨fun W' h => h.2⟩
        have HS : Aside0 (w1.drew.cell? a5 = some (.int .i64 (rd_T54 ss 0).f0) ∧ w1.drew.cell? (a5.add ((ss.length - 1) * 2)) = some (.int .i64 (rd_T54 ss ((ss.length : Int) - 1)).f0)) := ⟨⟨s0, s1⟩⟩
        refine wp_region_head (by kernel_rfl) (GHead.start (n := 18) (S := fun W' => W'.cell? a5 = some (.int .i64 (rd_T54 ss 0).f0) ∧ W'.cell? (a5.add ((ss.length - 1) * 2)) = some (.int .i64 (rd_T54 ss ((ss.length : Int) - 1)).f0)) (by decide) ?_)
        refine GHead.take' (i := 0) (v := ?_) rfl rfl (by kernel_rfl) (fun _ _ _ h => by cases h.1) (Or.inl ⟨by rfl, ?_⟩) HS.out ?_
        rotate_left
        · (intro W' hW'; have c1 := HS0.out W' hW'; have c2 := HS1.out W' hW'; go_simp; try (with_reducible rfl))
        try simp only [List.setIfInBounds_toArray, List.set_cons_zero, List.set_cons_succ]
        refine GHead.take' (i := 1) (v := ?_) rfl rfl (by kernel_rfl) (fun _ _ _ h => by cases h.1) (Or.inl ⟨by rfl, ?_⟩) HS.out ?_
        rotate_left
        · (intro W' hW'; have c1 := HS0.out W' hW'; have c2 := HS1.out W' hW'; go_simp; try (with_reducible rfl))
        try simp only [List.setIfInBounds_toArray, List.set_cons_zero, List.set_cons_succ]
        refine GHead.take' (i := 2) (v := ?_) rfl rfl (by kernel_rfl) (fun _ _ _ h => by cases h.1) (Or.inl ⟨by rfl, ?_⟩) HS.out ?_
        rotate_left
        · (intro W' hW'; have c1 := HS0.out W' hW'; have c2 := HS1.out W' hW'; go_simp; try (with_reducible rfl))
        try simp only [List.setIfInBounds_toArray, List.set_cons_zero, List.set_cons_succ]
        refine GHead.take' (i := 3) (v := ?_) rfl rfl (by kernel_rfl) (fun _ _ _ h => by cases h.1) (Or.inl ⟨by rfl, ?_⟩) HS.out ?_
        rotate_left
        · (intro W' hW'; have c1 := HS0.out W' hW'; have c2 := HS1.out W' hW'; go_simp; try (with_reducible rfl))
        try simp only [List.setIfInBounds_toArray, List.set_cons_zero, List.set_cons_succ]
        refine GHead.take' (i := 4) (v := ?_) rfl rfl (by kernel_rfl) (fun _ _ _ h => by cases h.1) (Or.inl ⟨by rfl, ?_⟩) HS.out ?_
        rotate_left
        · (intro W' hW'; have c1 := HS0.out W' hW'; have c2 := HS1.out W' hW'; go_simp; try (with_reducible rfl))
        try simp only [List.setIfInBounds_toArray, List.set_cons_zero, List.set_cons_succ]
        refine GHead.take' (i := 5) (v := ?_) rfl rfl (by kernel_rfl) (fun _ _ _ h => by cases h.1) (Or.inl ⟨by rfl, ?_⟩) HS.out ?_
        rotate_left
        · (intro W' hW'; have c1 := HS0.out W' hW'; have c2 := HS1.out W' hW'; go_simp; try (with_reducible rfl))
        try simp only [List.setIfInBounds_toArray, List.set_cons_zero, List.set_cons_succ]
        refine GHead.take' (i := 6) (v := ?_) rfl rfl (by kernel_rfl) (fun _ _ _ h => by cases h.1) (Or.inl ⟨by rfl, ?_⟩) HS.out ?_
        rotate_left
        · (intro W' hW'; have c1 := HS0.out W' hW'; have c2 := HS1.out W' hW'; go_simp; try (with_reducible rfl))
        try simp only [List.setIfInBounds_toArray, List.set_cons_zero, List.set_cons_succ]
        refine GHead.take' (i := 7) (v := ?_) rfl rfl (by kernel_rfl) (fun _ _ _ h => by cases h.1) (Or.inl ⟨by rfl, ?_⟩) HS.out ?_
        rotate_left
        · (intro W' hW'; have c1 := HS0.out W' hW'; have c2 := HS1.out W' hW'; go_simp; try (with_reducible rfl))
        try simp only [List.setIfInBounds_toArray, List.set_cons_zero, List.set_cons_succ]
        refine GHead.take' (i := 8) (v := ?_) rfl rfl (by kernel_rfl) (fun _ _ _ h => by cases h.1) (Or.inl ⟨by rfl, ?_⟩) HS.out ?_
        rotate_left
        · (intro W' hW'; have c1 := HS0.out W' hW'; have c2 := HS1.out W' hW'; go_simp; try (with_reducible rfl))
        try simp only [List.setIfInBounds_toArray, List.set_cons_zero, List.set_cons_succ]
        refine GHead.take' (i := 9) (v := ?_) rfl rfl (by kernel_rfl) (fun _ _ _ h => by cases h.1) (Or.inl ⟨by rfl, ?_⟩) HS.out ?_
        rotate_left
        · (intro W' hW'; have c1 := HS0.out W' hW'; have c2 := HS1.out W' hW'; go_simp; try (with_reducible rfl))
        try simp only [List.setIfInBounds_toArray, List.set_cons_zero, List.set_cons_succ]
        refine GHead.take' (i := 10) (v := ?_) rfl rfl (by kernel_rfl) (fun _ _ _ h => by cases h.1) (Or.inl ⟨by rfl, ?_⟩) HS.out ?_
        rotate_left
        · (intro W' hW'; have c1 := HS0.out W' hW'; have c2 := HS1.out W' hW'; go_simp; try (with_reducible rfl))
        try simp only [List.setIfInBounds_toArray, List.set_cons_zero, List.set_cons_succ]
        refine GHead.take' (i := 11) (v := ?_) rfl rfl (by kernel_rfl) (fun _ _ _ h => by cases h.1) (Or.inl ⟨by rfl, ?_⟩) HS.out ?_
        rotate_left
        · (intro W' hW'; have c1 := HS0.out W' hW'; have c2 := HS1.out W' hW'; go_simp; try (with_reducible rfl))
        try simp only [List.setIfInBounds_toArray, List.set_cons_zero, List.set_cons_succ]
        refine GHead.take' (i := 12) (v := ?_) rfl rfl (by kernel_rfl) (fun _ _ _ h => by cases h.1) (Or.inl ⟨by rfl, ?_⟩) HS.out ?_
        rotate_left
        · (intro W' hW'; have c1 := HS0.out W' hW'; have c2 := HS1.out W' hW'; go_simp; try (with_reducible rfl))
        try simp only [List.setIfInBounds_toArray, List.set_cons_zero, List.set_cons_succ]
        refine GHead.take' (i := 13) (v := ?_) rfl rfl (by kernel_rfl) (fun _ _ _ h => by cases h.1) (Or.inl ⟨by rfl, ?_⟩) HS.out ?_
        rotate_left
        · (intro W' hW'; have c1 := HS0.out W' hW'; have c2 := HS1.out W' hW'; go_simp; try (with_reducible rfl))
        try simp only [List.setIfInBounds_toArray, List.set_cons_zero, List.set_cons_succ]
        refine GHead.take' (i := 14) (v := ?_) rfl rfl (by kernel_rfl) (fun _ _ _ h => by cases h.1) (Or.inl ⟨by rfl, ?_⟩) HS.out ?_
        rotate_left
        · (intro W' hW'; have c1 := HS0.out W' hW'; have c2 := HS1.out W' hW'; go_simp; try (with_reducible rfl))
        try simp only [List.setIfInBounds_toArray, List.set_cons_zero, List.set_cons_succ]
        refine GHead.take' (i := 15) (v := ?_) rfl rfl (by kernel_rfl) (fun _ _ _ h => by cases h.1) (Or.inl ⟨by rfl, ?_⟩) HS.out ?_
        rotate_left
        · (intro W' hW'; have c1 := HS0.out W' hW'; have c2 := HS1.out W' hW'; go_simp; try (with_reducible rfl))
        try simp only [List.setIfInBounds_toArray, List.set_cons_zero, List.set_cons_succ]
        refine GHead.one (i := 16) rfl (by kernel_rfl) (by rfl) (fun K1 hK1 => ?_)
        go_simp
        refine hK1 _ _ ⟨cell_alloc_old _ HS.out.1, cell_alloc_old _ HS.out.2⟩ ?_
        clear hK1
        refine GHead.one (i := 17) rfl (by kernel_rfl) (by rfl) (fun K2 hK2 => ?_)
        have HO5 := (Kd.R_bound HV2.out).1 a5.block rfl
        have hl7 := Kd.N_lt HN1.out
        have hl8 := Kd.N_lt HN2.out
        have HF4 := Aside0.mk (Kd.F_drew (Kd.R_F (Kd.R_mono (Kd.R_bound HV1.out) (ok' := fun k => wr.heap.size ≤ k ∧ k < w1.heap.size) (fun k hk => ⟨hk.2.1, hk.2.2.1⟩))))
        have HL4 := Aside0.mk (Kd.R_reads' HV1.out).2.1
        refine of_if (c := Region.wanted _ _ = true) (by rfl) (Kd.N_append_step (ops := #[]) (W := w1.drew) kE (w0 := w) w.heap.size (by rfl) (.tmp 28) (.tmp 44) 45 29 (.agg #[.slice none 0 0, .int .i64 0, .int .i64 0, .int .i64 0, .int .i64 0]) 56 rfl Tryd.underlying45 info_E rfl (by decide) (by decide) u7 out (entE ls ss qi m) _ (fun k => w.heap.size ≤ k ∧ some k ≠ u8.ownBlock) (fun k => wr.heap.size ≤ k ∧ k < w1.heap.size) rfl rfl (kE_mkF _ _ (entE ls ss qi m) HL4.out HF4.out) ?ap1 ?ap2 (Kd.N_drew (Kd.N_below HN1.out HB1.out)) (below_drew (below_step HB.out HB1.out)) ?ap3 ?ap4 ?ap5)
        case ap1 => exact fun k hk => ⟨⟨Nat.le_trans HB.out.size hk.1, fun e => by have := hl8 k e.symm; omega⟩, fun e => by have := hl7 k e.symm; omega⟩
        case ap2 => exact fun k hk => ⟨by have h1 := HB1.out.size; have h2 : w1.heap.size ≤ k := hk; have h3 := HB.out.size; omega, fun e => by have := hl8 k e.symm; have h1 := HB1.out.size; have h2 : w1.heap.size ≤ k := hk; omega⟩
        case ap3 => have h1 := HB1.out.size; have h2 := HB.out.size; show w.heap.size ≤ w1.heap.size; omega
        case ap4 => have := HLN.out; omega
        case ap5 =>
          intro v7 w2 hn7 hb7 hg7 hat7
          have hblk : w2.heap[a5.block]? = w1.drew.heap[a5.block]? := hg7.block _ HO5.2.2.1 (fun e => by have := hl7 _ e.symm; have := HO5.2.1; omega)
          refine hK2 _ _ ⟨(World.cell?_of_block hblk).trans HS.out.1, (World.cell?_of_block (a := a5.add ((ss.length - 1) * 2)) (by rw [add_block]; exact hblk)).trans HS.out.2⟩ ?_
          clear hK2
          have HN7 := Aside0.mk hn7
          have HB7 := Aside0.mk hb7
          have HN8 := Aside0.mk (Kd.N_after (Kd.N_drew (Kd.N_below HN2.out HB1.out)) hg7 hat7)
          have HV27 : Aside0 (Kd.R k54 54 w2 wr.heap.size (fun k => wr.heap.size ≤ k ∧ k < w1.heap.size) (.slice (some a5) ss.length c5) ss) := ⟨Kd.R_grown (Kd.R_drew (Kd.R_mono (Kd.R_bound HV2.out) (fun k hk => ⟨hk.2.1, hk.2.2.1⟩))) hg7 (fun k hk e => by have := hl7 k e.symm; omega)⟩
          have HAT7 := Aside0.mk hat7
          have hs27 : w1.heap.size ≤ w2.heap.size := hg7.size
          clear hn7 hb7 hg7 hat7 hblk
          refine GHead.last rfl (by kernel_rfl) (by rfl) (fun K3 hK3 => ?_)
          go_simp
          refine hK3 _ _ ⟨rfl, ?_⟩
          clear hK3
          obtain ⟨A', c', r, hr, HCR, hc', _, hcut⟩ := cutB2 Ai ci bi m HM.out.2 hci
          have hcut1 := hcut (m : Int) rfl
          obtain ⟨k2, hk2, hz2⟩ := allR_ok k' bi qi hk' HCB.out HM.out.1 HM.out.2
          have HZ2 : Aside0 (Z = ((out ++ [entE ls ss qi m]) ++ (allR k2 r (qi + m)).1, (smp ++ [ss]) ++ (allR k2 r (qi + m)).2.1, (allR k2 r (qi + m)).2.2)) := ⟨by rw [HZ.out, hz2, hr.out]; simp⟩
          have hrl : r.length = bi.length - m := by rw [hr.out, List.length_drop]
          have hk2' : r.length ≤ k2 := by rw [hr.out]; exact hk2
          have HRK : Aside0 (okB r = true) := ⟨okB_sub HOK.out (fun x hx => by rw [hr.out] at hx; exact List.mem_of_mem_drop hx)⟩
          have HCR2 := Aside0.mk (HCR.out w HR.out)
          have HM1 := HM.out
          have HLN2 := HLN.out
          have hwq : IntKind.i64.wrap (qi + (m : Int)) = qi + (m : Int) := by rw [IntKind.wrap_i64]; omega
          have HF5 := Aside0.mk (Kd.R_F HV27.out)
          have HL5 := Aside0.mk (Kd.R_reads' HV27.out).2.1
          have HB27 := Aside0.mk HB7.out.size
          have HL8 := Aside0.mk (Kd.N_lt HN2.out)
          have HW1 : Aside0 (w1.heap.size ≤ w2.heap.size ∧ wr.heap.size ≤ w1.heap.size) := ⟨⟨hs27, HB1.out.size⟩⟩
          have HA8 : Aside0 (∀ k, (wr.heap.size ≤ k ∧ k < w1.heap.size) → (w.heap.size ≤ k ∧ some k ≠ v7.ownBlock) ∧ some k ≠ u8.ownBlock) := ⟨fun k hk => ⟨⟨Nat.le_trans HB.out.size hk.1, fun e => by
            rcases HAT7.out with h1 | ⟨g, h1, h2⟩
            · have := hl7 k (by rw [← h1]; exact e.symm); omega
            · rw [h1] at e; injection e with e; subst e; have h2' : w1.heap.size ≤ k := h2; omega⟩, fun e => by have := HL8.out k e.symm; omega⟩⟩
          have HA9 : Aside0 (∀ k, w2.heap.size ≤ k → w.heap.size ≤ k ∧ some k ≠ v7.ownBlock) := ⟨fun k hk => ⟨by have h1 := HB7.out.size; omega, fun e => by have := Kd.N_lt HN7.out k e.symm; omega⟩⟩
          clear hcut hz2 hk2 hr HCR HO5 hl7 hl8 hs27 HS HS0 HS1 s0 s1 FI
          go_wp2_with (first | ((with_reducible refine gate_dst (N := 49) rfl ?_); go_must (refine Kd.N_append kSS (w0 := w) w.heap.size rfl (.tmp 46) (.tmp 48) 46 30 (.slice none 0 0) 24 rfl Tryd.underlying46 info_SS rfl (by decide) (by decide) u8 smp ss [.slice (some a5) ss.length c5] (fun k => w.heap.size ≤ k ∧ some k ≠ v7.ownBlock) (fun k => wr.heap.size ≤ k ∧ k < w1.heap.size) rfl rfl (kSS_mkF _ _ ss HL5.out HF5.out) HA8.out HA9.out HN8.out HB7.out HB27.out ?h6 ?_); (case h6 => omega); intro v9 w3 hn9 hb9 hg9 hat9; have HN9 := Aside0.mk hn9; have HB9 := Aside0.mk hb9; have HN79 := Aside0.mk (Kd.N_after HN7.out hg9 hat9); clear hn9 hb9 hg9 hat9))
          go_roundw
          case rel => exact ⟨A', c', k2, r, qi + m, _, _, by rw [hrl], by first | rfl | go_num, hc', hk2', by omega, by omega, by omega, HRK, HCR2, HZ2, ⟨by simp only [List.length_append, List.length_cons, List.length_nil]; omega⟩, HN79, HN9, HB9⟩
          case measure => simp; omega
end Go.Proofs.YtbgmnmjokdfmlaaDoor.PA
namespace Go.Proofs.YtbgmnmjokdfmlaaDoor.PA
open Go.RowKit Go.Proofs.YtbgmnmjokdfmlaaDoor.G Go.Proofs.YtbgmnmjokdfmlaaDoorW.PrintWords Go.Proofs.YtbgmnmjokdfmlaaDoorW.PrintLast Go.Proofs.YtbgmnmjokdfmlaaDoorW.PrintMore
set_option linter.unusedVariables false
set_option linter.unusedSimpArgs false
set_option maxHeartbeats 4000000 in
set_option maxRecDepth 100000 in
theorem equalL.calls (A0 : Option Addr) (c0 : Nat) (A1 : Option Addr) (c1 n : Nat) (l : List S65) (w : World) (hn : l.length = n) (hr0 : Kd.C k65 w A0 n l) (hr1 : Kd.C k65 w A1 n l) (hl : n ≤ 1000000) :
    Calls Tryd.prog 46 #[.slice A0 n c0, .slice A1 n c1] w fun e w' => e = .returned (.bool true) ∧ Below w.heap.size w w' := by
  subst hn
  have HR0 := Aside0.mk hr0
  have HR1 := Aside0.mk hr1
  clear hr0 hr1
  have hnn : ((l.length : Int) != (l.length : Int)) = false := by simp
  go_enter Tryd.func46, Tryd.ntmps46
  go_wp2
  go_loopw [13] (fun i wr => ∃ k : Nat, k ≤ l.length ∧ i = .int .i64 k ∧ Aside0 (Below w.heap.size w wr)) (fun i _ => l.length - (intOf i).toNat)
  case atStart => exact ⟨0, Nat.zero_le _, rfl, ⟨Below.refl _ _⟩⟩
  case round =>
    obtain ⟨k, hk, rfl, HB⟩ := hrel
    by_cases hlt : k < l.length
    · obtain ⟨ad, rfl, e0, e1⟩ := at_T65 (Kd.C_below HR0.out HB.out) (k : Int) (by omega) (by omega)
      obtain ⟨ae, rfl, g0, g1⟩ := at_T65 (Kd.C_below HR1.out HB.out) (k : Int) (by omega) (by omega)
      rw [Int.toNat_natCast] at e0 e1 g0 g1
      generalize rd_T65 l (k : Int) = x at e0 e1 g0 g1
      go_wp2
      go_region
      go_wp2
      go_roundw
      case rel => exact ⟨k + 1, by omega, by go_num, ⟨below_drew HB.out⟩⟩
      case measure => simp [intOf]; omega
    · obtain rfl : k = l.length := by omega
      go_wp2
      go_ret
      exact ⟨rfl, HB.out⟩
set_option maxHeartbeats 4000000 in
set_option maxRecDepth 100000 in
theorem entEq.calls (A0 : Option Addr) (c0 : Nat) (A1 : Option Addr) (c1 : Nat) (x : SE) (w : World) (hr0 : Kd.C k65 w A0 x.f0.length x.f0) (hr1 : Kd.C k65 w A1 x.f0.length x.f0) (hl : x.f0.length ≤ 1000000) :
    Calls Tryd.prog 45 #[.agg #[.slice A0 x.f0.length c0, .int .i64 x.f1, .int .i64 x.f2, .int .i64 x.f3, .int .i64 x.f4], .agg #[.slice A1 x.f0.length c1, .int .i64 x.f1, .int .i64 x.f2, .int .i64 x.f3, .int .i64 x.f4]] w fun e w' => e = .returned (.bool true) ∧ Below w.heap.size w w' := by
  obtain ⟨o0, ho0⟩ : ∃ o0 : Obj, Obj.cells #[.slice A0 x.f0.length c0, .int .i64 x.f1, .int .i64 x.f2, .int .i64 x.f3, .int .i64 x.f4] 29 = o0 := ⟨_, rfl⟩
  obtain ⟨o1, ho1⟩ : ∃ o1 : Obj, Obj.cells #[.slice A1 x.f0.length c1, .int .i64 x.f1, .int .i64 x.f2, .int .i64 x.f3, .int .i64 x.f4] 29 = o1 := ⟨_, rfl⟩
  have HB0 := Aside0.mk (below_alloc (below_alloc (Below.refl w.heap.size w) o0) o1)
  have EQ := Aside0.mk (equalL.calls A0 c0 A1 c1 x.f0.length x.f0 ((w.alloc o0).alloc o1) rfl (Kd.C_below hr0 HB0.out) (Kd.C_below hr1 HB0.out) hl)
  have H0 : Aside0 (((w.alloc o0).alloc o1).heap[w.heap.size]? = some o0) := ⟨blk_alloc (blk_new w o0) o1⟩
  have H1 : Aside0 (((w.alloc o0).alloc o1).heap[w.heap.size + 1]? = some o1) := ⟨by have := blk_new (w.alloc o0) o1; rwa [World.size_alloc] at this⟩
  subst ho0 ho1
  clear hr0 hr1
  go_enter Tryd.func45, Tryd.ntmps45
  go_wp2_with (first | (go_at_call 46; (with_reducible refine EQ.out.mono ?_); rintro e w1 ⟨rfl, hb⟩; have HB1 := Aside0.mk (below_step HB0.out hb); have b0 := blk_below H0.out hb; have b1 := blk_below H1.out hb; have x1 := (blk_cell b0 1).trans rfl; have x2 := (blk_cell b0 2).trans rfl; have x3 := (blk_cell b0 3).trans rfl; have x4 := (blk_cell b0 4).trans rfl; have y1 := (blk_cell b1 1).trans rfl; have y2 := (blk_cell b1 2).trans rfl; have y3 := (blk_cell b1 3).trans rfl; have y4 := (blk_cell b1 4).trans rfl; clear hb b0 b1))
  go_ret
  exact ⟨rfl, HB1.out⟩
set_option maxHeartbeats 4000000 in
set_option maxRecDepth 100000 in
theorem sameE.calls (a0 a1 : Addr) (x : SE) (w : World) (hr0 : Kd.C kE w (some a0) 1 [x]) (hr1 : Kd.C kE w (some a1) 1 [x]) (hl : x.f0.length ≤ 1000000) :
    Calls Tryd.prog 22 #[.slice (some a0) 1 1, .slice (some a1) 1 1] w fun e w' => e = .returned (.bool true) ∧ Below w.heap.size w w' := by
  obtain ⟨ad, A0, c0, e0, hc0, _, hC0⟩ := at_E hr0 0 (by decide) (by decide)
  obtain ⟨ae, A1, c1, e1, hc1, _, hC1⟩ := at_E hr1 0 (by decide) (by decide)
  cases e0
  cases e1
  have hx : rd_E [x] 0 = x := rfl
  rw [hx] at hc0 hc1 hC0 hC1
  have z : (0 : Int).toNat * 5 = 0 := rfl
  rw [z] at hc0 hc1
  have p0 : w.cell? a0 = some (.slice A0 x.f0.length c0) := by simpa [Addr.add] using hc0 0 _ rfl
  have p1 : w.cell? ⟨a0.block, a0.off + 1, none⟩ = some (.int .i64 x.f1) := by simpa [Addr.add] using hc0 1 _ rfl
  have p2 : w.cell? ⟨a0.block, a0.off + 2, none⟩ = some (.int .i64 x.f2) := by simpa [Addr.add] using hc0 2 _ rfl
  have p3 : w.cell? ⟨a0.block, a0.off + 3, none⟩ = some (.int .i64 x.f3) := by simpa [Addr.add] using hc0 3 _ rfl
  have p4 : w.cell? ⟨a0.block, a0.off + 4, none⟩ = some (.int .i64 x.f4) := by simpa [Addr.add] using hc0 4 _ rfl
  have r0 : w.cell? a1 = some (.slice A1 x.f0.length c1) := by simpa [Addr.add] using hc1 0 _ rfl
  have r1 : w.cell? ⟨a1.block, a1.off + 1, none⟩ = some (.int .i64 x.f1) := by simpa [Addr.add] using hc1 1 _ rfl
  have r2 : w.cell? ⟨a1.block, a1.off + 2, none⟩ = some (.int .i64 x.f2) := by simpa [Addr.add] using hc1 2 _ rfl
  have r3 : w.cell? ⟨a1.block, a1.off + 3, none⟩ = some (.int .i64 x.f3) := by simpa [Addr.add] using hc1 3 _ rfl
  have r4 : w.cell? ⟨a1.block, a1.off + 4, none⟩ = some (.int .i64 x.f4) := by simpa [Addr.add] using hc1 4 _ rfl
  have EE := Aside0.mk (fun W (hb : Below w.heap.size w W) => entEq.calls A0 c0 A1 c1 x W (Kd.C_below hC0 hb) (Kd.C_below hC1 hb) hl)
  obtain ⟨o0, ho0⟩ : ∃ o0 : Obj, Obj.cells #[.slice A0 x.f0.length c0, .int .i64 x.f1, .int .i64 x.f2, .int .i64 x.f3, .int .i64 x.f4] 29 = o0 := ⟨_, rfl⟩
  obtain ⟨o1, ho1⟩ : ∃ o1 : Obj, Obj.cells #[.slice A1 x.f0.length c1, .int .i64 x.f1, .int .i64 x.f2, .int .i64 x.f3, .int .i64 x.f4] 29 = o1 := ⟨_, rfl⟩
  have HB0 := Aside0.mk (below_alloc (below_alloc (Below.refl w.heap.size w) o0) o1)
  have r0' := cell_alloc_old o0 r0
  have r1' := cell_alloc_old o0 r1
  have r2' := cell_alloc_old o0 r2
  have r3' := cell_alloc_old o0 r3
  have r4' := cell_alloc_old o0 r4
  subst ho0 ho1
  clear hr0 hr1 hc0 hc1 hC0 hC1 hx z
  go_enter Tryd.func22, Tryd.ntmps22
  go_wp2
  refine wp_loop_rounds 2 ?_
  rw [rounds_succ]
  go_wp2_with (first | (go_at_call 45; (with_reducible refine (EE.out _ HB0.out).mono ?_); rintro e w1 ⟨rfl, hb⟩; have HB1 := Aside0.mk (below_step HB0.out hb); clear hb))
  rw [rounds_succ]
  go_wp2
  go_ret
  exact ⟨rfl, HB1.out⟩
end Go.Proofs.YtbgmnmjokdfmlaaDoor.PA
namespace Go.Proofs.YtbgmnmjokdfmlaaDoor.PA
open Go.RowKit Go.Proofs.YtbgmnmjokdfmlaaDoor.G Go.Proofs.YtbgmnmjokdfmlaaDoorW.PrintWords Go.Proofs.YtbgmnmjokdfmlaaDoorW.PrintLast Go.Proofs.YtbgmnmjokdfmlaaDoorW.PrintMore
set_option linter.unusedVariables false
set_option linter.unusedSimpArgs false
def BytesIn (W : World) (g n : Nat) : Prop := ∃ cs, W.heap[g]? = some (.cells cs 5 (0, 0)) ∧ ∀ i, i < n → ∃ x : Int, cs[i]? = some (.int .u8 x)
theorem BytesIn.set {W : World} {g n : Nat} (h : BytesIn W g n) (i : Nat) (x : Int) : BytesIn (W.setCell ⟨g, i, none⟩ (.int .u8 x)) g n := by
  obtain ⟨cs, h1, h2⟩ := h
  refine ⟨_, blk_put h1 i _ rfl, fun j hj => ?_⟩
  obtain ⟨y, hy⟩ := h2 j hj
  by_cases hij : i = j
  · subst hij
    exact ⟨x, by rw [Array.getElem?_setIfInBounds_self_of_lt (Array.getElem?_eq_some_iff.1 hy).1]⟩
  · exact ⟨y, by rw [Array.getElem?_setIfInBounds_ne hij]; exact hy⟩
theorem bytesIn_of {W : World} {base g c : Nat} {b : List Int} (h : Kd.R (Kd.int .u8) 5 W base (fun _ => True) (.slice (some ⟨g, 0, none⟩) b.length c) b) : BytesIn W g b.length := by
  obtain ⟨cells, hc⟩ := Kd.R_typed h g rfl
  refine ⟨cells, hc, fun i hi => ?_⟩
  obtain ⟨ad, cb, e, _, hKb, hcb⟩ := Kd.C_get (Kd.R_reads' h).2.2 (0 : Int) (i : Int) (by omega) (by omega)
  injection e with e
  subst e
  have := hcb 0 (.int .u8 (b.getD (i : Int).toNat 0)) (by rw [show cb = [Value.int .u8 (b.getD (i : Int).toNat 0)] from hKb]; rfl)
  rw [Int.toNat_natCast, show (Kd.int .u8).sz = 1 from rfl, Nat.mul_one, Nat.add_zero, add_plain] at this
  exact ⟨_, (blk_cell hc i).symm.trans this⟩
set_option maxHeartbeats 4000000 in
set_option maxRecDepth 100000 in
theorem spoil.nil (p : Addr) (A : Option Addr) (c : Nat) (w : World) (hp : w.cell? p = some (.slice A 0 c)) :
    Calls Tryd.prog 21 #[.slice (some p) 1 1] w fun e w' => (∃ v, e = .returned v) ∧ w' = w := by
  go_enter Tryd.func21, Tryd.ntmps21
  go_wp2
  refine wp_loop_rounds 2 ?_
  rw [rounds_succ]
  go_wp2
  refine wp_loop_rounds 1 ?_
  rw [rounds_succ]
  go_wp2
  rw [rounds_succ]
  go_wp2
  go_end0
  exact ⟨⟨_, rfl⟩, rfl⟩
set_option maxHeartbeats 4000000 in
set_option maxRecDepth 100000 in
theorem spoil.calls (p : Addr) (g n c : Nat) (w : World) (hp : w.cell? p = some (.slice (some ⟨g, 0, none⟩) n c)) (hb : BytesIn w g n) (hn : n ≤ 1000000) :
    Calls Tryd.prog 21 #[.slice (some p) 1 1] w fun e w' => (∃ v, e = .returned v) ∧ But g w.heap.size w w' := by
  have HI := Aside0.mk hb
  go_enter Tryd.func21, Tryd.ntmps21
  go_wp2
  refine wp_loop_rounds 2 ?_
  rw [rounds_succ]
  go_wp2
  go_loopw [13] (fun i wr => ∃ k : Nat, k ≤ n ∧ i = .int .i64 k ∧ Aside0 (BytesIn wr g n) ∧ Aside0 (But g w.heap.size w wr)) (fun i _ => n - (intOf i).toNat)
  case atStart => exact ⟨0, Nat.zero_le _, rfl, HI, ⟨But.refl _ _ _⟩⟩
  case round =>
    clear HI
    obtain ⟨k, hk, rfl, HI, HB⟩ := hrel
    by_cases hlt : k < n
    · obtain ⟨cs, h1, h2⟩ := HI.out
      obtain ⟨x, hx⟩ := h2 k hlt
      have c1 : wr.cell? ⟨g, k, none⟩ = some (.int .u8 x) := (blk_cell h1 k).trans hx
      have f1 := blk_frozen h1 k
      have hads : (Addr.add ⟨g, 0, none⟩ k) = ⟨g, k, none⟩ := add_plain _ _
      clear h1 h2 hx hb
      go_wp2
      exact ⟨⟨k + 1, by omega, by go_num, ⟨HI.out.set k _⟩, ⟨HB.out.setCell k _⟩⟩, by simp [intOf]; omega⟩
    · obtain rfl : k = n := by omega
      go_wp2
      rw [rounds_succ]
      go_wp2
      go_end0
      exact ⟨⟨_, rfl⟩, HB.out⟩
end Go.Proofs.YtbgmnmjokdfmlaaDoor.PA
namespace Go.Proofs.YtbgmnmjokdfmlaaDoor.PA
open Go.RowKit Go.Proofs.YtbgmnmjokdfmlaaDoorW.PrintWords Go.Proofs.YtbgmnmjokdfmlaaDoorW.PrintLast Go.Proofs.YtbgmnmjokdfmlaaDoorW.PrintMore
attribute [local go_sem] max2_int min2_int max_two min_two max_three min_three max_four min_four   -- for this text's walks alone
set_option linter.unusedVariables false
set_option linter.unusedSimpArgs false
theorem eqA54 (d : Nat) (w : World) (x0 y0 : Int) (x1 y1 : Int) :
    (Op.equalIn (d + 2) 54 (.agg #[.int .i64 x0, .int .u64 x1]) (.agg #[.int .i64 y0, .int .u64 y1])).run Tryd.prog w = .ok (x0 == y0 && (x1 == y1)) w := by
  refine eqA_of Tryd.underlying54 (by kernel_rfl) ?_
  refine eqf_cons (by rfl) (by go_simp; rfl) (by go_simp; rfl) (by go_simp) ?_
  exact eqf_last (by rfl) (by go_simp; rfl) (by go_simp; rfl) (by go_simp)
end Go.Proofs.YtbgmnmjokdfmlaaDoor.PA
namespace Go.Proofs.YtbgmnmjokdfmlaaDoor.PA
open Go.RowKit Go.Proofs.YtbgmnmjokdfmlaaDoorW.PrintWords Go.Proofs.YtbgmnmjokdfmlaaDoorW.PrintLast Go.Proofs.YtbgmnmjokdfmlaaDoorW.PrintMore
attribute [local go_sem] max2_int min2_int max_two min_two max_three min_three max_four min_four   -- for this text's walks alone
set_option linter.unusedVariables false
set_option linter.unusedSimpArgs false
attribute [local go_sem high] eqA54
def api_Sample_23.l0 : Nat → List (S54) → List (S54) → Int → Int → Option (Bool)
  | 0, _, _, _, _ => none
  | k + 1, x0, x1, x12, x13 => if x13 < x12 then (if 0 ≤ x13 then (if x13 < (x0.length : Int) then (if x13 < (x1.length : Int) then (if (!(((rd_T54 x0 x13).f0) == ((rd_T54 x1 x13).f0)) || (!(((rd_T54 x0 x13).f1) == ((rd_T54 x1 x13).f1)))) = true then (some false) else (api_Sample_23.l0 k x0 x1 x12 (wrap64 (x13 + 1)))) else (none)) else (none)) else (none)) else (some true)
def api_Sample_23.f (k : Nat) (l0 : List (S54)) (l1 : List (S54)) : Option (Bool) := if (l0.length : Int) = (l1.length : Int) then (api_Sample_23.l0 k l0 l1 (l0.length : Int) 0) else (some false)
theorem api_Sample_23.mono_l : ∀ k, (∀ y0 y1 y2 y3, LeO (api_Sample_23.l0 k y0 y1 y2 y3) (api_Sample_23.l0 (k + 1) y0 y1 y2 y3))
  | 0 => fun _ _ _ _ r h => by simp [api_Sample_23.l0] at h
  | k + 1 => by
    have ih0 := api_Sample_23.mono_l k
    · intro y0 y1 y2 y3
      unfold api_Sample_23.l0
      repeat' first
      | (with_reducible exact ih0 _ _ _ _)
      | (with_reducible exact LeO.refl _)
      | (with_reducible exact LeO.none _)
      | (with_reducible refine LeO.ite ?_ ?_)
      | (with_reducible refine LeO.bind ?_ (fun _ => ?_))
      | exact ih0 _ _ _ _
      | exact LeO.none _
      | refine LeO.ite ?_ ?_
      | refine LeO.bind ?_ (fun _ => ?_)
theorem api_Sample_23.mono : ∀ a0 a1 k, LeO (api_Sample_23.f k a0 a1) (api_Sample_23.f (k + 1) a0 a1) := by
  intro a0 a1 k
  have ih0 := api_Sample_23.mono_l k
  unfold api_Sample_23.f
  repeat' first
      | (with_reducible exact ih0 _ _ _ _)
      | (with_reducible exact LeO.refl _)
      | (with_reducible exact LeO.none _)
      | (with_reducible refine LeO.ite ?_ ?_)
      | (with_reducible refine LeO.bind ?_ (fun _ => ?_))
      | exact ih0 _ _ _ _
      | exact LeO.none _
      | refine LeO.ite ?_ ?_
      | refine LeO.bind ?_ (fun _ => ?_)
set_option maxHeartbeats 8000000 in
set_option maxRecDepth 100000 in
theorem api_Sample_23.calls (k : Nat) (A0 : Option Addr) (c0 : Nat) (l0 : List (S54)) (A1 : Option Addr) (c1 : Nat) (l1 : List (S54)) (r : Bool) (w : World) (hr0 : Kd.C k54 w A0 l0.length l0) (hc0 : l0.length ≤ c0) (hr1 : Kd.C k54 w A1 l1.length l1) (hc1 : l1.length ≤ c1) (h : api_Sample_23.f k l0 l1 = some r) :
    Calls Tryd.prog 23 #[.slice A0 l0.length c0, .slice A1 l1.length c1] w fun e w' => e = .returned (.bool r) ∧ Drawn0 w w' := by
  have hu54 := Tryd.underlying54
  have HR0 := Aside0.mk hr0
  have HC0 := Aside0.mk hc0
  clear hr0 hc0
  have HR1 := Aside0.mk hr1
  have HC1 := Aside0.mk hc1
  clear hr1 hc1
  have H : (if (l0.length : Int) = (l1.length : Int) then (api_Sample_23.l0 k l0 l1 (l0.length : Int) 0) else (some false)) = some r := h
  clear h
  by_cases c3 : (l0.length : Int) = (l1.length : Int)
  · rw [if_pos c3] at H
    have c3b0 : ((l0.length : Int) == (l1.length : Int)) = true := beq_iff_eq.mpr c3
    have c3b1 : ((l0.length : Int) != (l1.length : Int)) = false := bne_eq_false_iff_eq.mpr c3
    have c3b2 : (l0.length == l1.length) = true := by first | simpa using c3 | (simp at c3 ⊢; omega)
    clear c3
    have H' := Aside0.mk H
    clear H
    go_enter Tryd.func23, Tryd.ntmps23
    go_wp2
    repeat (go_quiet (fail); try go_wp2)
    go_loopg [13] k (fun kq v13 w' => ∃ (x13_1 : Int), v13 = .int .i64 x13_1 ∧ Aside0 (api_Sample_23.l0 kq l0 l1 (l0.length : Int) x13_1 = some r) ∧ Aside0 (kq ≤ k) ∧ Drawn0 w w')
    case atStart => exact ⟨(0), (by first | rfl | (simp; done) | (simp [*]; done)), H', ⟨Nat.le_refl _⟩, by repeat (first | exact Drawn0.refl _ | apply Drawn0.step)⟩
    case round =>
      clear H'
      try clear c1
      try clear c2
      try clear p2
      try clear c3
      try clear c3b0
      try clear c3b1
      try clear c3b2
      obtain ⟨x13_1, rfl, HA, HK1, ⟨m1, rfl⟩⟩ := hrel
      cases gk with
      | zero => exact absurd HA.out (by simp [api_Sample_23.l0])
      | succ k1 =>
        have H := HA.out
        clear HA
        simp only [api_Sample_23.l0] at H
        by_cases c4 : x13_1 < (l0.length : Int)
        · rw [if_pos c4] at H
          have c4b0 : decide (x13_1 < (l0.length : Int)) = true := decide_eq_true c4
          clear c4
          by_cases c5 : 0 ≤ x13_1
          · rw [if_pos c5] at H
            have c5b0 : decide (0 ≤ x13_1) = true := decide_eq_true c5
            clear c5
            by_cases c6 : x13_1 < (l0.length : Int)
            · rw [if_pos c6] at H
              have c6b0 : decide (x13_1 < (l0.length : Int)) = true := decide_eq_true c6
              clear c6
              by_cases c7 : x13_1 < (l1.length : Int)
              · rw [if_pos c7] at H
                have c7b0 : decide (x13_1 < (l1.length : Int)) = true := decide_eq_true c7
                clear c7
                by_cases c8 : (!(((rd_T54 l0 x13_1).f0) == ((rd_T54 l1 x13_1).f0)) || (!(((rd_T54 l0 x13_1).f1) == ((rd_T54 l1 x13_1).f1)))) = true
                · rw [if_pos c8] at H
                  have c8b0 : (!(((rd_T54 l0 x13_1).f0) == ((rd_T54 l1 x13_1).f0)) || (!(((rd_T54 l0 x13_1).f1) == ((rd_T54 l1 x13_1).f1)))) = true := c8
                  clear c8
                  obtain rfl := Option.some.inj H
                  have p321 : 0 ≤ (x13_1 : Int) := of_decide_eq_true (by first | (with_reducible assumption) | assumption)
                  have q321 : x13_1 < (l0.length : Int) := of_decide_eq_true (by first | (with_reducible assumption) | assumption)
                  obtain ⟨ad321, e321, hx321_0, hx321_1⟩ := at_T54 HR0.out x13_1 p321 q321
                  cases e321
                  replace p321 := eq_true p321
                  replace q321 := eq_true q321
                  have p322 : 0 ≤ (x13_1 : Int) := of_decide_eq_true (by first | (with_reducible assumption) | assumption)
                  have q322 : x13_1 < (l1.length : Int) := of_decide_eq_true (by first | (with_reducible assumption) | assumption)
                  obtain ⟨ad322, e322, hx322_0, hx322_1⟩ := at_T54 HR1.out x13_1 p322 q322
                  cases e322
                  replace p322 := eq_true p322
                  replace q322 := eq_true q322
                  go_wp2
                  repeat (go_quiet (fail); try go_wp2)
                  go_ret
                  exact ⟨by first | rfl | (simp; done) | (simp [*]; done) | (simp; decide +kernel), by repeat (first | exact Drawn0.refl _ | apply Drawn0.step)⟩
                · rw [if_neg c8] at H
                  have c8b0 : (!(((rd_T54 l0 x13_1).f0) == ((rd_T54 l1 x13_1).f0)) || (!(((rd_T54 l0 x13_1).f1) == ((rd_T54 l1 x13_1).f1)))) = false := by simpa using c8
                  clear c8
                  have H' := Aside0.mk H
                  clear H
                  have p321 : 0 ≤ (x13_1 : Int) := of_decide_eq_true (by first | (with_reducible assumption) | assumption)
                  have q321 : x13_1 < (l0.length : Int) := of_decide_eq_true (by first | (with_reducible assumption) | assumption)
                  obtain ⟨ad321, e321, hx321_0, hx321_1⟩ := at_T54 HR0.out x13_1 p321 q321
                  cases e321
                  replace p321 := eq_true p321
                  replace q321 := eq_true q321
                  have p322 : 0 ≤ (x13_1 : Int) := of_decide_eq_true (by first | (with_reducible assumption) | assumption)
                  have q322 : x13_1 < (l1.length : Int) := of_decide_eq_true (by first | (with_reducible assumption) | assumption)
                  obtain ⟨ad322, e322, hx322_0, hx322_1⟩ := at_T54 HR1.out x13_1 p322 q322
                  cases e322
                  replace p322 := eq_true p322
                  replace q322 := eq_true q322
                  go_wp2
                  repeat (go_quiet (fail); try go_wp2)
                  go_roundg k1
                  case measure => have := HK1.out; omega
                  case rel => exact ⟨(wrap64 (x13_1 + 1)), (by first | rfl | (simp; done) | (simp [*]; done)), H', ⟨by have := HK1.out; omega⟩, by repeat (first | exact Drawn0.refl _ | apply Drawn0.step)⟩
              · rw [if_neg c7] at H
                exact absurd H (by simp)
            · rw [if_neg c6] at H
              exact absurd H (by simp)
          · rw [if_neg c5] at H
            exact absurd H (by simp)
        · rw [if_neg c4] at H
          have c4b0 : decide (x13_1 < (l0.length : Int)) = false := decide_eq_false c4
          clear c4
          obtain rfl := Option.some.inj H
          go_wp2
          repeat (go_quiet (fail); try go_wp2)
          go_ret
          exact ⟨by first | rfl | (simp; done) | (simp [*]; done) | (simp; decide +kernel), by repeat (first | exact Drawn0.refl _ | apply Drawn0.step)⟩
  · rw [if_neg c3] at H
    have c3b0 : ((l0.length : Int) == (l1.length : Int)) = false := beq_eq_false_iff_ne.mpr c3
    have c3b1 : ((l0.length : Int) != (l1.length : Int)) = true := bne_iff_ne.mpr c3
    have c3b2 : (l0.length == l1.length) = false := by first | simpa using c3 | (simp at c3 ⊢; omega)
    obtain rfl := Option.some.inj H
    go_enter Tryd.func23, Tryd.ntmps23
    go_wp2
    repeat (go_quiet (fail); try go_wp2)
    go_ret
    exact ⟨by first | rfl | (simp; done) | (simp [*]; done) | (simp; decide +kernel), by repeat (first | exact Drawn0.refl _ | apply Drawn0.step)⟩
end Go.Proofs.YtbgmnmjokdfmlaaDoor.PA
namespace Go.Proofs.YtbgmnmjokdfmlaaDoor.PA
open Go.RowKit Go.Proofs.YtbgmnmjokdfmlaaDoorW.PrintWords Go.Proofs.YtbgmnmjokdfmlaaDoorW.PrintLast Go.Proofs.YtbgmnmjokdfmlaaDoorW.PrintMore
attribute [local go_sem] max2_int min2_int max_two min_two max_three min_three max_four min_four   -- for this text's walks alone
set_option linter.unusedVariables false
set_option linter.unusedSimpArgs false
def slices_Equal_byte_byte.l0 : Nat → List Int → List Int → Int → Int → Option (Bool)
  | 0, _, _, _, _ => none
  | k + 1, x0, x1, x12, x13 => if x13 < x12 then (if 0 ≤ x13 then (if x13 < (x0.length : Int) then (if x13 < (x1.length : Int) then (if (rd x0 x13) = (rd x1 x13) then (slices_Equal_byte_byte.l0 k x0 x1 x12 (wrap64 (x13 + 1))) else (some false)) else (none)) else (none)) else (none)) else (some true)
def slices_Equal_byte_byte.f (k : Nat) (l0 : List Int) (l1 : List Int) : Option (Bool) := if (l0.length : Int) = (l1.length : Int) then (slices_Equal_byte_byte.l0 k l0 l1 (l0.length : Int) 0) else (some false)
theorem slices_Equal_byte_byte.mono_l : ∀ k, (∀ y0 y1 y2 y3, LeO (slices_Equal_byte_byte.l0 k y0 y1 y2 y3) (slices_Equal_byte_byte.l0 (k + 1) y0 y1 y2 y3))
  | 0 => fun _ _ _ _ r h => by simp [slices_Equal_byte_byte.l0] at h
  | k + 1 => by
    have ih0 := slices_Equal_byte_byte.mono_l k
    · intro y0 y1 y2 y3
      unfold slices_Equal_byte_byte.l0
      repeat' first
      | (with_reducible exact ih0 _ _ _ _)
      | (with_reducible exact LeO.refl _)
      | (with_reducible exact LeO.none _)
      | (with_reducible refine LeO.ite ?_ ?_)
      | (with_reducible refine LeO.bind ?_ (fun _ => ?_))
      | exact ih0 _ _ _ _
      | exact LeO.none _
      | refine LeO.ite ?_ ?_
      | refine LeO.bind ?_ (fun _ => ?_)
theorem slices_Equal_byte_byte.mono : ∀ a0 a1 k, LeO (slices_Equal_byte_byte.f k a0 a1) (slices_Equal_byte_byte.f (k + 1) a0 a1) := by
  intro a0 a1 k
  have ih0 := slices_Equal_byte_byte.mono_l k
  unfold slices_Equal_byte_byte.f
  repeat' first
      | (with_reducible exact ih0 _ _ _ _)
      | (with_reducible exact LeO.refl _)
      | (with_reducible exact LeO.none _)
      | (with_reducible refine LeO.ite ?_ ?_)
      | (with_reducible refine LeO.bind ?_ (fun _ => ?_))
      | exact ih0 _ _ _ _
      | exact LeO.none _
      | refine LeO.ite ?_ ?_
      | refine LeO.bind ?_ (fun _ => ?_)
set_option maxHeartbeats 8000000 in
set_option maxRecDepth 100000 in
theorem slices_Equal_byte_byte.calls (k : Nat) (A0 : Option Addr) (c0 : Nat) (l0 : List Int) (A1 : Option Addr) (c1 : Nat) (l1 : List Int) (r : Bool) (w : World) (hr0 : Kd.C (Kd.int .u8) w A0 l0.length l0) (hc0 : l0.length ≤ c0) (hr1 : Kd.C (Kd.int .u8) w A1 l1.length l1) (hc1 : l1.length ≤ c1) (h : slices_Equal_byte_byte.f k l0 l1 = some r) :
    Calls Tryd.prog 16 #[.slice A0 l0.length c0, .slice A1 l1.length c1] w fun e w' => e = .returned (.bool r) ∧ Drawn0 w w' := by
  have HR0 := Aside0.mk hr0
  have HC0 := Aside0.mk hc0
  clear hr0 hc0
  have HR1 := Aside0.mk hr1
  have HC1 := Aside0.mk hc1
  clear hr1 hc1
  have H : (if (l0.length : Int) = (l1.length : Int) then (slices_Equal_byte_byte.l0 k l0 l1 (l0.length : Int) 0) else (some false)) = some r := h
  clear h
  by_cases c3 : (l0.length : Int) = (l1.length : Int)
  · rw [if_pos c3] at H
    have c3b0 : ((l0.length : Int) == (l1.length : Int)) = true := beq_iff_eq.mpr c3
    have c3b1 : ((l0.length : Int) != (l1.length : Int)) = false := bne_eq_false_iff_eq.mpr c3
    have c3b2 : (l0.length == l1.length) = true := by first | simpa using c3 | (simp at c3 ⊢; omega)
    clear c3
    have H' := Aside0.mk H
    clear H
    go_enter Tryd.func16, Tryd.ntmps16
    go_wp2
    repeat (go_quiet (fail); try go_wp2)
    go_loopg [13] k (fun kq v13 w' => ∃ (x13_1 : Int), v13 = .int .i64 x13_1 ∧ Aside0 (slices_Equal_byte_byte.l0 kq l0 l1 (l0.length : Int) x13_1 = some r) ∧ Aside0 (kq ≤ k) ∧ Drawn0 w w')
    case atStart => exact ⟨(0), (by first | rfl | (simp; done) | (simp [*]; done)), H', ⟨Nat.le_refl _⟩, by repeat (first | exact Drawn0.refl _ | apply Drawn0.step)⟩
    case round =>
      clear H'
      try clear c1
      try clear p2
      try clear c3
      try clear c3b0
      try clear c3b1
      try clear c3b2
      obtain ⟨x13_1, rfl, HA, HK1, ⟨m1, rfl⟩⟩ := hrel
      cases gk with
      | zero => exact absurd HA.out (by simp [slices_Equal_byte_byte.l0])
      | succ k1 =>
        have H := HA.out
        clear HA
        simp only [slices_Equal_byte_byte.l0] at H
        by_cases c4 : x13_1 < (l0.length : Int)
        · rw [if_pos c4] at H
          have c4b0 : decide (x13_1 < (l0.length : Int)) = true := decide_eq_true c4
          clear c4
          by_cases c5 : 0 ≤ x13_1
          · rw [if_pos c5] at H
            have c5b0 : decide (0 ≤ x13_1) = true := decide_eq_true c5
            clear c5
            by_cases c6 : x13_1 < (l0.length : Int)
            · rw [if_pos c6] at H
              have c6b0 : decide (x13_1 < (l0.length : Int)) = true := decide_eq_true c6
              clear c6
              by_cases c7 : x13_1 < (l1.length : Int)
              · rw [if_pos c7] at H
                have c7b0 : decide (x13_1 < (l1.length : Int)) = true := decide_eq_true c7
                clear c7
                by_cases c8 : (rd l0 x13_1) = (rd l1 x13_1)
                · rw [if_pos c8] at H
                  have c8b0 : ((rd l0 x13_1) == (rd l1 x13_1)) = true := beq_iff_eq.mpr c8
                  have c8b1 : ((rd l0 x13_1) != (rd l1 x13_1)) = false := bne_eq_false_iff_eq.mpr c8
                  clear c8
                  have H' := Aside0.mk H
                  clear H
                  have p240 : 0 ≤ (x13_1 : Int) := of_decide_eq_true (by first | (with_reducible assumption) | assumption)
                  have q240 : x13_1 < (l0.length : Int) := of_decide_eq_true (by first | (with_reducible assumption) | assumption)
                  obtain ⟨ad240, e240, hx240_0⟩ := Kd.at_int HR0.out x13_1 p240 q240
                  cases e240
                  replace p240 := eq_true p240
                  replace q240 := eq_true q240
                  have p241 : 0 ≤ (x13_1 : Int) := of_decide_eq_true (by first | (with_reducible assumption) | assumption)
                  have q241 : x13_1 < (l1.length : Int) := of_decide_eq_true (by first | (with_reducible assumption) | assumption)
                  obtain ⟨ad241, e241, hx241_0⟩ := Kd.at_int HR1.out x13_1 p241 q241
                  cases e241
                  replace p241 := eq_true p241
                  replace q241 := eq_true q241
                  go_wp2
                  repeat (go_quiet (fail); try go_wp2)
                  go_roundg k1
                  case measure => have := HK1.out; omega
                  case rel => exact ⟨(wrap64 (x13_1 + 1)), (by first | rfl | (simp; done) | (simp [*]; done)), H', ⟨by have := HK1.out; omega⟩, by repeat (first | exact Drawn0.refl _ | apply Drawn0.step)⟩
                · rw [if_neg c8] at H
                  have c8b0 : ((rd l0 x13_1) == (rd l1 x13_1)) = false := beq_eq_false_iff_ne.mpr c8
                  have c8b1 : ((rd l0 x13_1) != (rd l1 x13_1)) = true := bne_iff_ne.mpr c8
                  obtain rfl := Option.some.inj H
                  have p240 : 0 ≤ (x13_1 : Int) := of_decide_eq_true (by first | (with_reducible assumption) | assumption)
                  have q240 : x13_1 < (l0.length : Int) := of_decide_eq_true (by first | (with_reducible assumption) | assumption)
                  obtain ⟨ad240, e240, hx240_0⟩ := Kd.at_int HR0.out x13_1 p240 q240
                  cases e240
                  replace p240 := eq_true p240
                  replace q240 := eq_true q240
                  have p241 : 0 ≤ (x13_1 : Int) := of_decide_eq_true (by first | (with_reducible assumption) | assumption)
                  have q241 : x13_1 < (l1.length : Int) := of_decide_eq_true (by first | (with_reducible assumption) | assumption)
                  obtain ⟨ad241, e241, hx241_0⟩ := Kd.at_int HR1.out x13_1 p241 q241
                  cases e241
                  replace p241 := eq_true p241
                  replace q241 := eq_true q241
                  go_wp2
                  repeat (go_quiet (fail); try go_wp2)
                  go_ret
                  exact ⟨by first | rfl | (simp; done) | (simp [*]; done) | (simp; decide +kernel), by repeat (first | exact Drawn0.refl _ | apply Drawn0.step)⟩
              · rw [if_neg c7] at H
                exact absurd H (by simp)
            · rw [if_neg c6] at H
              exact absurd H (by simp)
          · rw [if_neg c5] at H
            exact absurd H (by simp)
        · rw [if_neg c4] at H
          have c4b0 : decide (x13_1 < (l0.length : Int)) = false := decide_eq_false c4
          clear c4
          obtain rfl := Option.some.inj H
          go_wp2
          repeat (go_quiet (fail); try go_wp2)
          go_ret
          exact ⟨by first | rfl | (simp; done) | (simp [*]; done) | (simp; decide +kernel), by repeat (first | exact Drawn0.refl _ | apply Drawn0.step)⟩
  · rw [if_neg c3] at H
    have c3b0 : ((l0.length : Int) == (l1.length : Int)) = false := beq_eq_false_iff_ne.mpr c3
    have c3b1 : ((l0.length : Int) != (l1.length : Int)) = true := bne_iff_ne.mpr c3
    have c3b2 : (l0.length == l1.length) = false := by first | simpa using c3 | (simp at c3 ⊢; omega)
    obtain rfl := Option.some.inj H
    go_enter Tryd.func16, Tryd.ntmps16
    go_wp2
    repeat (go_quiet (fail); try go_wp2)
    go_ret
    exact ⟨by first | rfl | (simp; done) | (simp [*]; done) | (simp; decide +kernel), by repeat (first | exact Drawn0.refl _ | apply Drawn0.step)⟩
end Go.Proofs.YtbgmnmjokdfmlaaDoor.PA
namespace Go.Proofs.YtbgmnmjokdfmlaaDoor.PA
open Go.RowKit Go.Proofs.YtbgmnmjokdfmlaaDoor.G Go.Proofs.YtbgmnmjokdfmlaaDoorW.PrintWords Go.Proofs.YtbgmnmjokdfmlaaDoorW.PrintLast Go.Proofs.YtbgmnmjokdfmlaaDoorW.PrintMore
set_option linter.unusedVariables false
set_option linter.unusedSimpArgs false
theorem eqS_go (l : List S54) (hl : l.length ≤ 1000000) : ∀ d i, i + d = l.length → ∀ k, d < k → api_Sample_23.l0 k l l (l.length : Int) (i : Int) = some true
  | 0, i, h, k + 1, hk => by
    unfold api_Sample_23.l0
    rw [if_neg (by omega)]
  | d + 1, i, h, k + 1, hk => by
    unfold api_Sample_23.l0
    have e : wrap64 ((i : Int) + 1) = ((i + 1 : Nat) : Int) := by rw [w64 (by omega) (by omega)]; omega
    rw [if_pos (by omega), if_pos (by omega), if_pos (by omega), if_pos (by omega), if_neg (by simp), e]
    exact eqS_go l hl d (i + 1) (by omega) k (by omega)
theorem EqualS (A0 : Option Addr) (c0 : Nat) (A1 : Option Addr) (c1 : Nat) (l : List S54) (w : World) (hr0 : Kd.C k54 w A0 l.length l) (hc0 : l.length ≤ c0) (hr1 : Kd.C k54 w A1 l.length l) (hc1 : l.length ≤ c1) (hl : l.length ≤ 1000000) :
    Calls Tryd.prog 23 #[.slice A0 l.length c0, .slice A1 l.length c1] w fun e w' => e = .returned (.bool true) ∧ Below w.heap.size w w' :=
  (api_Sample_23.calls (l.length + 1) A0 c0 l A1 c1 l true w hr0 hc0 hr1 hc1 (by
    unfold api_Sample_23.f
    rw [if_pos rfl]
    exact eqS_go l hl l.length 0 (by omega) _ (by omega))).mono fun e w' ⟨he, hd⟩ => ⟨he, hd.below⟩
end Go.Proofs.YtbgmnmjokdfmlaaDoor.PA
