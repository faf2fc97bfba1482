/- The plain law PlanEnds. -/
import Derived.Test.YthjfffgddegmoaaGEnds
import Derived.Test.YthjfffgddegmoaaGPlanM
import Derived.Test.YthjfffgddegmoaaPAf12
import Derived.Test.YthjfffgddegmoaaPAf18
import Derived.Deep.DeepMust
import Derived.Deep.QuietTactic
import Derived.BigQuiet
namespace Go.Proofs.Ythjfffgddegmoaa.G.PlanEnds
open Go.RowKit Go.Proofs.Ythjfffgddegmoaa.G Go.Proofs.Ythjfffgddegmoaa.PA Go.Proofs.YthjfffgddegmoaaW.PrintWords Go.Proofs.YthjfffgddegmoaaW.PrintLast Go.Proofs.YthjfffgddegmoaaW.PrintMore
set_option linter.unusedVariables false
set_option linter.unusedSimpArgs false
attribute [local go_sem] max2_int min2_int
set_option maxHeartbeats 2000000 in
set_option maxRecDepth 100000 in
theorem walk (A0 : Option Addr) (c0 : Nat) (l0 : List Int) (w : World) (hr : Kd.C (Kd.int .i64) w A0 l0.length l0) (hc : l0.length ≤ c0) (hw : ∀ x ∈ l0, (Lit.int .i64 x).wf = true) (hs : l0.length * 8 ≤ 140737488351232) :
    Calls Try.prog 7 #[.slice A0 l0.length c0] w fun e w' => e = .returned (.bool true) ∧ Below w.heap.size w w' := by
  obtain ⟨m, hm⟩ : ∃ m : Nat, min l0.length 20 = m := ⟨_, rfl⟩
  have hm20 : m ≤ 20 ∧ m ≤ l0.length := by omega
  have hmin : (if 20 < (l0.length : Int) then 20 else (l0.length : Int)) = (m : Int) := by split <;> omega
  have hC := Kd.C_take hr hm20.2
  obtain ⟨L, hL⟩ : ∃ L, l0.take m = L := ⟨_, rfl⟩
  have hlen : L.length = m := by rw [← hL, List.length_take]; omega
  rw [hL] at hC
  have hwf : ∀ x ∈ L, (Lit.int .i64 x).wf = true := fun x hx => hw x (List.mem_of_mem_take (by rw [hL]; exact hx))
  have HW := Aside0.mk hwf
  have HR := Aside0.mk hC
  obtain ⟨i05, hi05, _, hsz5, _⟩ := info_parts info3
  have hcut0 := cut_to (P := Try.prog) 27 3 .i64 Try.underlying27 hi05 A0 l0.length c0 (m : Int) (by omega) (by omega) hc
  rw [Int.toNat_natCast, ← hlen] at hcut0
  have HLEN : Aside0 (L.length ≤ 20) := ⟨by omega⟩
  subst hlen
  clear hL hwf hC hr hw hm hm20
  go_enter Try.func7, Try.ntmps7
  go_wp2
  go_loopw [3, 17] (fun v i wr => ∃ k : Nat, k ≤ L.length ∧ i = .int .i64 k ∧ Aside0 (Kd.N k30 30 wr w.heap.size (fun _ => True) v (ini (L.take k) 0)) ∧ Aside0 (Below w.heap.size w wr)) (fun _ i _ => L.length - (intOf i).toNat)
  case atStart => exact ⟨0, Nat.zero_le _, rfl, ⟨Kd.N_nil _ _ _ _ _⟩, ⟨Below.refl _ _⟩⟩
  case round =>
    obtain ⟨k, hk, rfl, HN, HB⟩ := hrel
    have hl20 : L.length ≤ 20 := HLEN.out
    by_cases hlt : k < L.length
    · obtain ⟨ad, cb, rfl, _, hKb, hcb⟩ := Kd.C_get (Kd.C_below HR.out HB.out) (0 : Int) (k : Int) (by omega) (by omega)
      have h0 : wr.cell? (ad.add k) = some (.int .i64 (L.getD k 0)) := by have := hcb 0 _ (by rw [show cb = [Value.int .i64 (L.getD ((k : Int)).toNat 0)] from hKb]; rfl); rwa [show (Kd.int .i64).sz = 1 from rfl, Nat.mul_one, Nat.add_zero, Int.toNat_natCast] at this
      have HST := Aside0.mk (ini_take L k hlt)
      have HIL := Aside0.mk (ini_length (L.take k) 0)
      clear hcb hKb
      rw [show L[k] = L.getD k 0 by simp [List.getD_eq_getElem?_getD, List.getElem?_eq_getElem hlt]] at HST
      generalize L.getD k 0 = x at h0 HST
      go_wp2_with (first | ((with_reducible refine gate_dst (N := 34) rfl ?_); go_must (refine Kd.N_append (w0 := w) k30 w.heap.size rfl (.tmp 22) (.tmp 33) 25 30 _ 80 rfl Try.underlying25 info30 rfl (by decide) (by decide) u3 (ini (L.take k) 0) (el k x) [.int .i64 ((k : Int) + 1), .int .i64 1, .int .i64 (wrap64 (1 + wrap64 ((IntKind.u64.wrap x).tmod 3))), .int .i64 ((k : Int) + 1), .int .i64 0, .int .i64 0, .int .i64 0, .slice none 0 0] (fun _ => True) (fun _ => False) rfl rfl (k30_mkF _ _ (el k x) (A7 := none) (c7 := 0) (Nat.le_refl _) (Kd.F_nil _ _ _)) (fun _ h => h.elim) (fun _ _ => trivial) HN.out HB.out HB.out.size ?hl ?_); (case hl => (have := HIL.out; have := HLEN.out; rw [List.length_take] at *; omega)); intro v4 w4 hN4 hB4 hg4 ho4; have HN4 := Aside0.mk hN4; have HB4 := Aside0.mk hB4; clear hN4 hB4 hg4 ho4))
      go_roundw
      case rel => exact ⟨k + 1, by omega, by go_num, ⟨by rw [HST.out]; exact HN4.out⟩, HB4⟩
      case measure => simp [intOf]; omega
    · obtain rfl : k = L.length := by omega
      rw [List.take_length] at HN
      obtain ⟨A6, c6, rfl⟩ := Kd.N_slice HN.out
      have hrd := Kd.N_reads' HN.out
      rw [ini_length] at hrd ⊢
      have HI : Aside0 (Inv (ini L 0) ((L.length : Int) + 1)) := ⟨by have := (ini_inv L 0 (by omega)).1; simpa using this⟩
      go_wp2
      go_loopw [3, 6, 39] (fun v nx i wq => ∃ (r : Nat) (A : Option Addr) (c : Nat) (l : List S30) (n : Nat), i = .int .i64 r ∧ v = .slice A l.length c ∧ nx = .int .i64 n ∧ r ≤ 20 ∧ 1 ≤ n ∧ n ≤ 21 + r ∧ l.length + 2 * r ≤ 20 ∧ l.length ≤ c ∧ Aside0 (Inv l n) ∧ Aside0 (Kd.C k30 wq A l.length l) ∧ Aside0 (Below w.heap.size w wq)) (fun _ _ i _ => 20 - (intOf i).toNat)
      case atStart => exact ⟨0, A6, c6, ini L 0, L.length + 1, rfl, by rw [ini_length], by rfl, by omega, by omega, by omega, by rw [ini_length]; omega, by rw [ini_length]; exact hrd.2.1, HI, ⟨by rw [ini_length]; exact hrd.2.2⟩, HB⟩
      case round =>
        clear HI hrd HN HB
        obtain ⟨r, A, c, l, n, rfl, rfl, rfl, hr20, hn1, hn2, hlr, hlc, HI, HC, HB⟩ := hrel
        have hlt20 : r < 20 := by omega
        have HM0 : Aside0 (plan_Merge.f l = some (mergeL l)) := ⟨by rw [plan_Merge.f, if_pos (by omega)]⟩
        by_cases hne : mergeL l = []
        · rw [hne] at HM0
          clear hne hl20
          go_wp2_with (first
            | (go_at_call 20; (with_reducible refine (plan_Merge.callsN A c l [] wr HC.out hlc HM0.out).mono ?_); rintro e w2 ⟨v2, rfl, hr2, hb2, hz⟩; obtain rfl := hz rfl; have HB2 := Aside0.mk (below_step HB.out hb2); have HC2 := Aside0.mk (Kd.C_below HC.out hb2); clear hr2 hb2 hz)
            | (go_at_call 20; (with_reducible refine (plan_Merge.callsN A c l [] _ (Kd.C_alloc HC2.out _) hlc HM0.out).mono ?_); rintro e w3 ⟨v3, rfl, hr3, hb3, hz⟩; obtain rfl := hz rfl; have HB3 := Aside0.mk (below_step (below_alloc HB2.out _) hb3); clear hr3 hb3 hz)
            | (go_at_call 12; (with_reducible refine (dryrotlaw16_awake.calls true _ awake_f).mono ?_); rintro e w4 ⟨rfl, hb⟩; have HB4 := Aside0.mk (below_step HB3.out hb); clear hb))
          go_ret
          exact ⟨rfl, HB4.out⟩
        · obtain ⟨p, a, b, d, q, hl, ht, hm⟩ := mergeL_split l hne
          rw [hm] at HM0
          have hll : l.length = p.length + 3 + q.length := by rw [hl]; simp; omega
          have HI' := HI.out
          rw [hl] at HI'
          have HIX : Aside0 (idxF a.f0 l 0 = (p.length : Int)) := ⟨by
            rw [hl, idxF_at a.f0 a (b :: d :: q) p 0 (fun y hy => ?_) rfl, Nat.zero_add]
            have hn := HI'.num
            simp only [List.pairwise_append, List.mem_cons, forall_eq_or_imp] at hn
            exact (hn.2.2 y hy).1⟩
          have HI3 : Aside0 (Inv [a, b, d] n) := ⟨HI'.sub (List.Sublist.trans (List.sublist_append_left [a, b, d] q) (List.sublist_append_right p _))⟩
          have HT := Aside0.mk ht
          have HN3 : Aside0 ((1 : Int) ≤ (n : Int) ∧ (n : Int) ≤ 1000) := ⟨by omega⟩
          have ha2 := (canB_iff a).1 (HI3.out.can a (by simp))
          have ha3 : a.f2 < 3 := by
            simp only [three, Bool.and_eq_true, decide_eq_true_eq] at ht
            omega
          obtain ⟨l', hl'⟩ : ∃ l', p ++ (⟨n, 2, a.f2 + 1, d.f3, 0, 0, 0, [a.f0, b.f0, d.f0]⟩ :: q : List S30) = l' := ⟨_, rfl⟩
          have HJ : Aside0 (Inv l' ((n : Int) + 1)) := ⟨by rw [← hl']; exact HI'.merged ht HN3.out.1 HN3.out.2⟩
          have hll' : l'.length + 2 = l.length := by rw [← hl', hll]; simp; omega
          have HCN : Aside0 (plan_Can.f l' = some true) := ⟨by rw [plan_Can.f, if_pos (by omega), HJ.out.canAll]⟩
          have HL' := Aside0.mk hl'
          have hrd : rd_T30 l (p.length : Int) = a := by rw [rd_nat l p.length (by omega)]; simp [hl]
          have HTK : Aside0 (l.take p.length = p) := ⟨by rw [hl]; simp⟩
          have HDR : Aside0 (l.drop (p.length + 3) = q) := ⟨by rw [hl, ← List.drop_drop]; simp⟩
          have HMI : Aside0 ((l.take (p.length + 3)).drop p.length = [a, b, d]) := ⟨by rw [hl, show p.length + 3 = p.length + 3 from rfl, List.take_length_add_append]; simp⟩
          obtain ⟨i05, hi05, _, hsz5, _⟩ := info_parts info30
          obtain ⟨A5, hA5⟩ : ∃ A5, (if c = p.length then A else A.map (·.add (p.length * 8))) = A5 := ⟨_, rfl⟩
          obtain ⟨A3, hA3⟩ : ∃ A3, (if c = p.length + 3 then A else A.map (·.add ((p.length + 3) * 8))) = A3 := ⟨_, rfl⟩
          have hcut5 := cut_mid (P := Try.prog) 25 30 .i64 .i64 Try.underlying25 hi05 8 hsz5 A l.length c (p.length : Int) ((p.length : Int) + 3) (by omega) (by omega) (by omega) hlc
          have hcutf := cut_from (P := Try.prog) 25 30 .i64 Try.underlying25 hi05 8 hsz5 A l.length c ((p.length : Int) + 3) (by omega) (by omega)
          have hcutt := cut_to (P := Try.prog) 25 30 .i64 Try.underlying25 hi05 A l.length c (p.length : Int) (by omega) (by omega) hlc
          rw [show ((p.length : Int) + 3).toNat = p.length + 3 from by omega, Int.toNat_natCast] at hcut5
          rw [show ((p.length : Int) + 3).toNat = p.length + 3 from by omega] at hcutf
          rw [Int.toNat_natCast] at hcutt
          rw [hA5, show p.length + 3 - p.length = 3 from by omega] at hcut5
          rw [hA3, show l.length - (p.length + 3) = q.length from by omega] at hcutf
          have HM5 : Aside0 (∀ W, Kd.C k30 W A l.length l → Kd.C k30 W A5 3 [a, b, d]) := ⟨fun W h => by
            have h5 := Kd.C_mid (c := c) (lo := p.length) (hi := p.length + 3) h (by omega) (by omega) hlc
            rw [HMI.out] at h5
            rw [← hA5]
            exact h5⟩
          have HMF : Aside0 (∀ W, Kd.C k30 W A l.length l → Kd.C k30 W A3 q.length q) := ⟨fun W h => by
            have h5 := Kd.C_drop (c := c) (m := p.length + 3) h (by omega) hlc
            rw [HDR.out] at h5
            rw [← hA3]
            exact h5⟩
          have HMT : Aside0 (∀ W, Kd.C k30 W A l.length l → Kd.C k30 W A p.length p) := ⟨fun W h => by
            have h5 := Kd.C_take (m := p.length) h (by omega)
            rw [HTK.out] at h5
            exact h5⟩
          have hc5 : 3 ≤ c - p.length := by omega
          have hcf : q.length ≤ c - (p.length + 3) := by omega
          have hct : p.length ≤ c := by omega
          have HQ := Aside0.mk (And.intro hc5 (And.intro hcf hct))
          have hpl : p.length + 3 ≤ l.length := by omega
          have hgt : decide ((l.length : Int) < (p.length : Int) + 3) = false := decide_eq_false (by omega)
          have HLL := Aside0.mk hll
          have HLL' := Aside0.mk hll'
          have HRD := Aside0.mk hrd
          clear hll hll' hrd hl ht hm HI' hA5 hA3 hl' HI hi05 hsz5 hc5 hcf hct hl20
          go_wp2_with (first
            | (go_at_call 20; (with_reducible refine (plan_Merge.callsN A c l [a.f0, b.f0, d.f0] wr HC.out hlc HM0.out).mono ?_); rintro e w2 ⟨v2, rfl, hr2, hb2, _⟩; obtain ⟨A1, c1, rfl⟩ := Kd.R_slice hr2; have HR1 := Aside0.mk (Kd.R_reads' hr2); have HB2 := Aside0.mk (below_step HB.out hb2); have HC2 := Aside0.mk (Kd.C_below HC.out hb2); clear hr2 hb2)
            | (go_at_call 25; (refine (idxFunc.calls A A1 c c1 l a.f0 [b.f0, d.f0] w2.heap.size _ (Kd.C_alloc HC2.out _) ?s1 (blk_new w2 _) (Kd.C_alloc HR1.out.2.2 _)).mono ?_); (case s1 => omega); rintro e w3 ⟨he, hb3⟩; rw [HIX.out] at he; subst he; have HG3 := Aside0.mk ((hb3.block w2.heap.size (by simp)).trans (blk_new w2 _)); have HB3 := Aside0.mk (below_step (below_alloc HB2.out _) hb3); have HC3 := Aside0.mk (Kd.C_below (Kd.C_alloc HC2.out _) hb3); have HR3 := Aside0.mk (Kd.C_below (Kd.C_alloc HR1.out.2.2 _) hb3); clear hb3)
            | (go_at_call 22; (refine (merged3.calls A5 (c - p.length) a b d n n _ (HM5.out _ HC3.out) HQ.out.1 HI3.out HT.out HN3.out.1 HN3.out.2).mono ?_); rintro e w4 ⟨v7, rfl, hr4, hb4⟩; obtain ⟨A7, c7, rfl⟩ := Kd.R_slice hr4; have HR4 := Aside0.mk (Kd.R_reads' hr4); have HG4 := Aside0.mk ((hb4.block w2.heap.size (blk_lt HG3.out)).trans HG3.out); have HB4 := Aside0.mk (below_step HB3.out hb4); have HC4 := Aside0.mk (Kd.C_below HC3.out hb4); have HR14 := Aside0.mk (Kd.C_below HR3.out hb4); clear hr4 hb4))
          have HC5 := Kd.C_alloc HC4.out (.cells #[.int .i64 n, .int .i64 2, .int .i64 (a.f2 + 1), .int .i64 d.f3, .int .i64 0, .int .i64 0, .int .i64 0, .slice A7 3 c7] 30 (0, 0))
          have HG5 := (below_heap_old w4 (.cells #[.int .i64 n, .int .i64 2, .int .i64 (a.f2 + 1), .int .i64 d.f3, .int .i64 0, .int .i64 0, .int .i64 0, .slice A7 3 c7] 30 (0, 0)) (blk_lt HG4.out)).trans HG4.out
          have HG9 := blk_new w4 (.cells #[.int .i64 n, .int .i64 2, .int .i64 (a.f2 + 1), .int .i64 d.f3, .int .i64 0, .int .i64 0, .int .i64 0, .slice A7 3 c7] 30 (0, 0))
          have HB5 := below_alloc HB4.out (.cells #[.int .i64 n, .int .i64 2, .int .i64 (a.f2 + 1), .int .i64 d.f3, .int .i64 0, .int .i64 0, .int .i64 0, .slice A7 3 c7] 30 (0, 0))
          have HR5 := Kd.C_alloc HR14.out (.cells #[.int .i64 n, .int .i64 2, .int .i64 (a.f2 + 1), .int .i64 d.f3, .int .i64 0, .int .i64 0, .int .i64 0, .slice A7 3 c7] 30 (0, 0))
          have HR7 := Kd.C_alloc HR4.out.2.2 (.cells #[.int .i64 n, .int .i64 2, .int .i64 (a.f2 + 1), .int .i64 d.f3, .int .i64 0, .int .i64 0, .int .i64 0, .slice A7 3 c7] 30 (0, 0))
          generalize w4.alloc (.cells #[.int .i64 n, .int .i64 2, .int .i64 (a.f2 + 1), .int .i64 d.f3, .int .i64 0, .int .i64 0, .int .i64 0, .slice A7 3 c7] 30 (0, 0)) = W5 at HC5 HG5 HG9 HB5 HR5 HR7 ⊢
          obtain ⟨ad, E7, d7, hA, _, _, h2, _⟩ := at_T30 HC5 (p.length : Int) (by omega) (by omega)
          rw [HRD.out, Int.toNat_natCast] at h2
          have hpl1 : p.length < l.length := by omega
          have hwa : wrap64 (a.f2 + 1) = a.f2 + 1 := w64 (by omega) (by omega)
          have hwb : IntKind.i64.wrap (a.f2 + 1) = a.f2 + 1 := by rw [IntKind.wrap_i64]; clear hwa; omega
          have hnb : (a.f2 + 1 != a.f2 + 1) = false := by simp
          have hcg := blk_cell HG5 0
          have h92 := blk_cell HG9 2
          have h97 := blk_cell HG9 7
          have HC5 := Aside0.mk HC5
          have HG5 := Aside0.mk HG5
          have HG9 := Aside0.mk HG9
          have HB5 := Aside0.mk HB5
          have HR5 := Aside0.mk HR5
          have HR7 := Aside0.mk HR7
          subst hA
          go_quiet ((go_at_call 18; go_loud (refine Calls.quiet_of ((equal3.calls A7 A1 c7 c1 a.f0 b.f0 d.f0 _ (Kd.C_drewN HR7.out _) HR4.out.2.1 (Kd.C_drewN HR5.out _) HR1.out.2.1)))))
          have HB6 := Aside0.mk (pw_below_drewN HB5.out nq)
          have HC6 := Aside0.mk (Kd.C_drewN HC5.out nq)
          have HG6 := Aside0.mk (blk_drewN HG9.out nq)
          have HR6 := Aside0.mk (Kd.C_drewN HR7.out nq)
          clear h2 hcg h92 h97 hwa hwb hnb
          generalize W5.drewN nq = W6 at HB6 HC6 HG6 HR6 ⊢
          go_wp2
          have h90 := blk_cell HG6.out 0
          have h91 := blk_cell HG6.out 1
          have h92 := blk_cell HG6.out 2
          have h93 := blk_cell HG6.out 3
          have h94 := blk_cell HG6.out 4
          have h95 := blk_cell HG6.out 5
          have h96 := blk_cell HG6.out 6
          have h97 := blk_cell HG6.out 7
          have hq20 : l.length ≤ 20 := by omega
          have hwp : wrap64 ((p.length : Int) + 3) = (p.length : Int) + 3 := w64 (by omega) (by omega)
          have hwq : IntKind.i64.wrap ((p.length : Int) + 3) = (p.length : Int) + 3 := by rw [IntKind.wrap_i64]; clear hwp; omega
          have HH : Aside0 (l'.length ≤ 1000) := ⟨by have := HLL'.out; omega⟩
          go_cut [3] (fun v wx => ∃ (A' : Option Addr) (c' : Nat), v = .slice A' l'.length c' ∧ l'.length ≤ c' ∧ Aside0 (Kd.C k30 wx A' l'.length l') ∧ Aside0 (Below w.heap.size w wx))
          case first =>
            go_region_with (go_at_call 27; (refine (concat3.calls _ 3 p [⟨n, 2, a.f2 + 1, d.f3, 0, 0, 0, [a.f0, b.f0, d.f0]⟩] q l' _ ?s1 HL'.out HH.out).mono ?_); (case s1 => go_must ((repeat apply Kd.C_drew); refine laid3 W6 _ p q ⟨n, 2, a.f2 + 1, d.f3, 0, 0, 0, [a.f0, b.f0, d.f0]⟩ ?b1 rfl HQ.out.2.2 HQ.out.2.1 HR4.out.2.1 (HMT.out _ HC6.out) (HMF.out _ HC6.out) HR6.out 30 25 0; (case b1 => (repeat (first | exact Below.refl _ _ | apply below_alloc | apply below_drew1 | apply pw_below_drewN))))); rintro e w7 ⟨A8, c8, rfl, hl8, hc8, hb8⟩; have HL8 := Aside0.mk hl8; have HC8 := Aside0.mk hc8; have HB8 : Aside0 (Below w.heap.size w w7) := ⟨below_step (by repeat (first | exact HB6.out | apply below_alloc | apply below_drew1 | apply pw_below_drewN)) hb8⟩; clear hl8 hc8 hb8)
            all_goals (go_wp2_with fail; go_meet; exact ⟨A8, c8, rfl, HL8.out, HC8, HB8⟩)
          case rest =>
            obtain ⟨A8, c8, rfl, hl8, HC8, HB8⟩ := hcut
            clear hwp hwq h90 h91 h92 h93 h94 h95 h96 h97
            go_wp2_with (first
              | (go_at_call 16; (with_reducible refine (plan_Can.calls A8 c8 l' true _ HC8.out hl8 HCN.out).mono ?_); rintro e w9 ⟨rfl, hb⟩; have HB9 := Aside0.mk (below_step HB8.out hb); have HC9 := Aside0.mk (Kd.C_below HC8.out hb); clear hb))
            go_roundw
            case rel => exact ⟨r + 1, A8, c8, l', n + 1, by go_num, rfl, by go_num, by omega, by omega, by omega, by have := HLL'.out; omega, hl8, HJ, HC9, HB9⟩
            case measure => simp [intOf]; omega
end Go.Proofs.Ythjfffgddegmoaa.G.PlanEnds
