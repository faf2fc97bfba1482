/- Lemmas and contracts: The contract of codec.Decode. · What was encoded is decoded as it was: plain lists and numbers. · The contracts of awake and cut; Decode's contract at a known answer. · The contract of risen: samples of steps, that rise. · slices.Equal of two lists that are the same: true. · An argument that is a slice of samples, opened to the row that the walk's contracts ask. The theorem open_slice_fields is copied from the guide's page on structs, which offers it for copying. -/
import Derived.Test.YtpeekkpdglfbbaaDoorM2
import Derived.Test.YtpeekkpdglfbbaaDoorM1
import Derived.WalkMore
import Derived.Deep.RegionHeld3
import Derived.Deep.Slices
import Derived.Deep.Fields
import Derived.ChangeSame
import Derived.OpenShut
import Derived.RowKit
namespace Go.Proofs.YtpeekkpdglfbbaaDoor.PA
open Go.RowKit Go.Proofs.YtpeekkpdglfbbaaDoor.G Go.Proofs.YtpeekkpdglfbbaaDoorW.PrintWords Go.Proofs.YtpeekkpdglfbbaaDoorW.PrintLast Go.Proofs.YtpeekkpdglfbbaaDoorW.PrintMore
set_option linter.unusedVariables false
set_option linter.unusedSimpArgs false

/-- Encode's contract in one -/
theorem codec_Encode.calls (A : Option Addr) (c : Nat) (l : List S26) (w : World) (hr : Kd.C k26 w A l.length l) (hc : l.length ≤ c) (hw : ∀ x ∈ l, okS x) (hlen : l.length ≤ 20000) (hT : TabZ w) :
    Calls Tryd.prog 8 #[.slice A l.length c] w fun e w' => ∃ v : Value, e = .returned (.tuple #[v, .int .i64 (encF l).2]) ∧ Kd.R (Kd.int .u8) 5 w' w.heap.size (fun _ => True) v (encF l).1 ∧ Below w.heap.size w w' := by
  cases h : canS l with
  | true =>
    refine (codec_Encode.calls_ok A c l w hr hc hw hlen hT h).mono ?_
    rintro e w' ⟨v, b, rfl, h1, h2, h3, h4⟩
    have e1 : encF l = (beL l.length 2 ++ b, 0) := by rw [encF, if_pos h, encL, packB_of h1 h2]
    rw [e1]
    exact ⟨v, rfl, h3, h4⟩
  | false =>
    refine (codec_Encode.calls_bad A c l w hr hc hlen h).mono ?_
    rintro e w' ⟨rfl, h4⟩
    have e1 : encF l = ([], 1) := by rw [encF, if_neg (by rw [h]; simp)]
    rw [e1]
    exact ⟨_, rfl, Kd.R_nil _ _ _ _ _, h4⟩
theorem codec_Encode.calls_at {n : Nat} (A : Option Addr) (c : Nat) (l : List S26) (w : World) (eb : List Int) (ee : Int) (hn : l.length = n) (hr : Kd.C k26 w A l.length l) (hc : n ≤ c) (hw : ∀ x ∈ l, okS x) (hlen : n ≤ 20000) (hT : TabZ w) (he : encF l = (eb, ee)) :
    Calls Tryd.prog 8 #[.slice A n c] w fun e w' => ∃ v : Value, e = .returned (.tuple #[v, .int .i64 ee]) ∧ Kd.R (Kd.int .u8) 5 w' w.heap.size (fun _ => True) v eb ∧ Below w.heap.size w w' := by
  subst hn
  have := codec_Encode.calls A c l w hr hc hw hlen hT
  rw [he] at this
  exact this
theorem encF_okB (l : List S26) (hn : l.length ≤ 20000) (hw : ∀ x ∈ l, okS x) : okB (encF l).1 = true := by
  unfold encF
  split
  · have h1 := encP_len l hw l.length (Nat.le_refl _)
    have h2 := (packB_ok (encP l l.length) (by omega)).1.bytes
    refine okB_iff.2 fun x hx => ?_
    rcases List.mem_append.1 hx with hx | hx
    · exact okB_iff.1 (okB_beL _ _) x hx
    · exact h2 x hx
  · rfl
theorem Equal_at {n m : Nat} (A0 : Option Addr) (c0 : Nat) (l0 : List Int) (A1 : Option Addr) (c1 : Nat) (l1 : List Int) (r : Bool) (w : World) (hn : l0.length = n) (hm : l1.length = m) (hr0 : Kd.C (Kd.int .u8) w A0 l0.length l0) (hc0 : n ≤ c0) (hr1 : Kd.C (Kd.int .u8) w A1 l1.length l1) (hc1 : m ≤ c1) (h0 : okB l0 = true) (h1 : okB l1 = true) (h : decide (l0 = l1) = r) :
    Calls Tryd.prog 29 #[.slice A0 n c0, .slice A1 m c1] w fun e w' => e = .returned (.bool r) ∧ Below w.heap.size w w' := by
  subst hn hm
  exact (G.bytes_Equal.calls A0 c0 l0 A1 c1 l1 r w hr0 hc0 hr1 hc1 (by rw [G.bytes_Equal.f, if_pos ⟨h0, h1⟩, h])).mono fun e w' ⟨he, hd⟩ => ⟨he, hd.below⟩
theorem number_pair (g : Nat) (A : Option Addr) (c : Nat) (l : List Int) (N p : Int) (r : Int × Int × Bool) (w0 w : World) (hr : Kd.C (Kd.int .u8) w0 A l.length l) (hc : l.length ≤ c) (hg : w0.heap.size ≤ g)
    (hl : OkL l) (hn : l.length ≤ 1000000) (hN : -9223372036854775808 ≤ N ∧ N ≤ 9223372036854775807) (hU : UP w g A l.length c N p false) (hB : Below w0.heap.size w0 w) (he : decN l N p = r) :
    Calls Tryd.prog 27 #[.pointer (some ⟨g, 0, none⟩)] w fun e w' => e = .returned (.int .i64 r.1) ∧ UP w' g A l.length c N r.2.1 r.2.2 ∧ Below w0.heap.size w0 w' ∧ KeepBut w w' g none := by
  subst he
  exact unpack_number.calls g A c l N p false w0 w hU hr hc hB hg hl hn hN
theorem value_pair (g : Nat) (A : Option Addr) (c : Nat) (l : List Int) (N p : Int) (s r : Int × Int × Bool) (w0 w : World) (hr : Kd.C (Kd.int .u8) w0 A l.length l) (hc : l.length ≤ c) (hg : w0.heap.size ≤ g)
    (hl : OkL l) (hn : l.length ≤ 1000000) (hN : -9223372036854775808 ≤ N ∧ N ≤ 9223372036854775807) (hU : UP w g A l.length c N s.2.1 s.2.2) (hB : Below w0.heap.size w0 w) (hs : decN l N p = s) (he : decV l N p = r) :
    Calls Tryd.prog 28 #[.pointer (some ⟨g, 0, none⟩)] w fun e w' => e = .returned (.int .u64 r.1) ∧ UP w' g A l.length c N r.2.1 r.2.2 ∧ Below w0.heap.size w0 w' ∧ KeepBut w w' g none := by
  subst he
  subst hs
  exact unpack_value.calls g A c l N (decN l N p).2.1 (decN l N p).2.2 w0 w hU hr hc hB hg hl hn hN
theorem get2 {b : List Int} (h : okB b = true) (hl : 2 ≤ b.length) : crc_Get.f (b.take 2) = some (((beV 0 (b.take 2) : Nat) : Int), true) ∧ beV 0 (b.take 2) < 65536 := by
  refine ⟨?_, beV_take_lt h 2⟩
  have h1 : okB (b.take 2) = true := okB_iff.2 fun x hx => okB_iff.1 h x (List.mem_of_mem_take hx)
  rw [crc_Get.f, if_pos h1, if_pos (by rw [List.length_take]; omega)]
theorem Get_at {n : Nat} (A0 : Option Addr) (c0 : Nat) (l0 : List Int) (r1 : Int) (r2 : Bool) (w : World) (hn : l0.length = n) (hr0 : Kd.C (Kd.int .u8) w A0 l0.length l0) (hc0 : n ≤ c0) (h : crc_Get.f l0 = some (r1, r2)) :
    Calls Tryd.prog 25 #[.slice A0 n c0] w fun e w' => e = .returned (.tuple #[.int .u64 r1, .bool r2]) ∧ Below w.heap.size w w' := by
  subst hn
  exact (crc_Get.calls A0 c0 l0 r1 r2 w hr0 hc0 h).mono fun e w' ⟨he, hd⟩ => ⟨he, hd.below⟩

theorem decS_stay {xb : List Int} {N : Int} {k : Nat} (h : (decS xb N (k + 1)).2.1 = true) : ∀ d, decS xb N (k + 1 + d) = decS xb N (k + 1)
  | 0 => rfl
  | d + 1 => by
    have ih := decS_stay h d
    have e : decS xb N (k + d + 2) = decS xb N (k + d + 1) := by
      rw [decS, if_pos]
      rw [show k + d + 1 = k + 1 + d by omega, ih]
      exact h
    rw [show k + 1 + (d + 1) = k + d + 2 by omega, e, show k + d + 1 = k + 1 + d by omega, ih]
set_option maxHeartbeats 8000000 in
set_option maxRecDepth 100000 in
theorem codec_Decode.calls (A : Option Addr) (c : Nat) (b : List Int) (w : World) (hr : Kd.C (Kd.int .u8) w A b.length b) (hc : b.length ≤ c) (hok : okB b = true) (hlen : b.length ≤ 2500) (hT : TabZ w) :
    Calls Tryd.prog 10 #[.slice A b.length c] w fun e w' => ∃ v : Value, e = .returned (.tuple #[v, .int .i64 (decF b).2]) ∧ Kd.R k26 26 w' w.heap.size (fun _ => True) v (decF b).1 ∧ Below w.heap.size w w' := by
  by_cases h2 : b.length < 2
  · have e0 : decF b = ([], 5) := by rw [decF, if_pos h2]
    rw [e0]
    have d0 : decide ((b.length : Int) < 2) = true := decide_eq_true (by omega)
    clear e0 h2 hr hc hT
    go_enter Tryd.func10, Tryd.ntmps10
    go_wp2
    go_step3
    go_wp2
    try rw [Exit.noGoto_ret]
    refine bodyPost_ret (results_tmp2 rfl _ _ _) rfl ?_
    exact ⟨_, rfl, Kd.R_nil _ _ _ _ _, Below.refl _ _⟩
  have d0 : decide ((b.length : Int) < 2) = false := decide_eq_false (by omega)
  obtain ⟨xb, hxb⟩ : ∃ xb, b.drop 2 = xb := ⟨_, rfl⟩
  have hxl : xb.length = b.length - 2 := by rw [← hxb, List.length_drop]
  obtain ⟨hget, hn64⟩ := get2 hok (by omega)
  obtain ⟨n, hn⟩ : ∃ n, beV 0 (b.take 2) = n := ⟨_, rfl⟩
  rw [hn] at hget hn64
  obtain ⟨NN, hNN⟩ : ∃ N : Nat, 8 * (b.length - 2) = N := ⟨_, rfl⟩
  have HF : Aside0 (decF b = if (decS xb (NN : Int) n).2.1 = false ∧ encF (decS xb (NN : Int) n).2.2.1 = (b, 0) then ((decS xb (NN : Int) n).2.2.1, 0) else ([], 5)) := ⟨by rw [decF, if_neg h2, hxb, hNN, hn]⟩
  have hokx : OkL xb := fun x hx => okB_iff.1 hok x (List.mem_of_mem_drop (hxb ▸ hx))
  obtain ⟨i05, hi05, _, hsz5, _⟩ := info_parts infoU8
  have hto := cut_to (P := Tryd.prog) 27 5 .i64 Tryd.underlying27 hi05 A b.length c 2 (by omega) (by omega) hc
  have hfrom := cut_from (P := Tryd.prog) 27 5 .i64 Tryd.underlying27 hi05 1 hsz5 A b.length c 2 (by omega) (by omega)
  have hdr := Kd.C_drop (m := 2) (c := c) hr (by omega) hc
  rw [hxb] at hdr
  obtain ⟨A', hA'⟩ : ∃ A', (if c = (2 : Int).toNat then A else A.map (·.add ((2 : Int).toNat * 1))) = A' := ⟨_, rfl⟩
  rw [hA'] at hfrom
  have HX : Aside0 (Kd.C (Kd.int .u8) w A' xb.length xb) := ⟨by rw [← hA']; exact hdr⟩
  have HXC : Aside0 (xb.length ≤ c - 2) := ⟨by omega⟩
  have HTK := Aside0.mk (Kd.C_take hr (show 2 ≤ b.length by omega))
  have HTL : Aside0 ((b.take 2).length = 2) := ⟨by rw [List.length_take]; omega⟩
  have HGET := Aside0.mk hget
  have HRB := Aside0.mk hr
  have HC := Aside0.mk hc
  have HOK := Aside0.mk hok
  have HOX := Aside0.mk hokx
  have HT := Aside0.mk hT
  have HXL := Aside0.mk hxl
  have HNN := Aside0.mk hNN
  rw [show (2 : Int).toNat = 2 from rfl, ← hxl] at hfrom
  rw [show (2 : Int).toNat = 2 from rfl] at hto
  have hNe : wrap64 (8 * wrap64 ((b.length : Int) - 2)) = (NN : Int) := by rw [w64 (x := (b.length : Int) - 2) (by omega) (by omega), w64 (by omega) (by omega)]; omega
  clear hr hc hok hokx hT hA' hdr hget hxl hNN hn hxb
  go_enter Tryd.func10, Tryd.ntmps10
  go_wp2
  go_step3
  go_wp2_with (first
    | (go_at_call 25; (with_reducible refine (Get_at A c (b.take 2) (n : Int) true _ HTL.out HTK.out (by have := HC.out; omega) HGET.out).mono ?_); rintro e w1 ⟨rfl, hb⟩; have HB1 := Aside0.mk hb; clear hb)
    | ((with_reducible refine gate_dst (N := 30) rfl ?_); refine box_event ?hg (N := 30) ?hd (cs := #[.slice A' xb.length (c - 2), .int .i64 (NN : Int), .int .i64 0, .bool false]) (t := 55) ?hr ?_; (case hd => rfl); (case hg => rfl); (case hr => first | (go_simp; done) | (go_simp; rfl)); intro g hg w2 hbox hb; have HB2 := Aside0.mk (below_step HB1.out hb); have HBK := Aside0.mk hbox; have HG : Aside0 (w.heap.size ≤ g) := ⟨by have := HB1.out.size; omega⟩; clear hb hbox hg))
  go_step3
  go_wp2
  -- LOOP
  have hN2 : 8 * ((b.length : Int) - 2) = (NN : Int) := by have := HNN.out; omega
  simp only [hN2]
  have HU0 : Aside0 (UP (w1.alloc (.cells #[.slice A' xb.length (c - 2), .int .i64 (NN : Int), .int .i64 0, .bool false] 55)) w1.heap.size A' xb.length (c - 2) (NN : Int) 0 false) := ⟨blk_new _ _⟩
  have HB0 := Aside0.mk (below_alloc HB1.out (.cells #[.slice A' xb.length (c - 2), .int .i64 (NN : Int), .int .i64 0, .bool false] 55))
  have HG : Aside0 (w.heap.size ≤ w1.heap.size) := ⟨HB1.out.size⟩
  generalize w1.alloc (.cells #[.slice A' xb.length (c - 2), .int .i64 (NN : Int), .int .i64 0, .bool false] 55) = w2 at *
  generalize w1.heap.size = g at *
  clear hN2 hNe hto hfrom HB1 HTK HTL HGET
  have hNN : -9223372036854775808 ≤ (NN : Int) ∧ (NN : Int) ≤ 9223372036854775807 := by have := HNN.out; omega
  have hxbl : xb.length ≤ 1000000 := by have := HXL.out; omega
  have CT := Aside0.mk (fun k s r W hU hB he => take_pair g A' (c - 2) xb (NN : Int) k s r w W HX.out HXC.out HG.out HOX.out hxbl hNN hU hB he)
  have CN := Aside0.mk (fun p r W hU hB he => number_pair g A' (c - 2) xb (NN : Int) p r w W HX.out HXC.out HG.out HOX.out hxbl hNN hU hB he)
  have CV := Aside0.mk (fun p s r W hU hB hs he => value_pair g A' (c - 2) xb (NN : Int) p s r w W HX.out HXC.out HG.out HOX.out hxbl hNN hU hB hs he)
  have INV := Aside0.mk (decS_inv xb NN (by have := HNN.out; omega))
  clear hNN hxbl
  go_loopw [7, 8, 33] (fun v7 v8 i wr => ∃ (k : Nat) (l : List S26) (p st : Int), k ≤ n ∧ i = .int .i64 k ∧ v8 = .int .i64 st ∧ Aside0 (decS xb (NN : Int) k = (p, false, l, st)) ∧ Aside0 (Kd.R k26 26 wr w.heap.size (fun q => q ≠ g) v7 l) ∧ Aside0 (UP wr g A' xb.length (c - 2) (NN : Int) p false) ∧ Aside0 (Below w.heap.size w wr)) (fun _ _ i _ => n - (intOf i).toNat)
  case atStart => exact ⟨0, [], 0, 0, Nat.zero_le _, rfl, rfl, ⟨rfl⟩, ⟨Kd.R_nil _ _ _ _ _⟩, HU0, HB0⟩
  case round =>
    clear HU0 HB0
    obtain ⟨k, l, p, st, hk, rfl, rfl, HS, HOt, HUr, HBr⟩ := hrel
    obtain ⟨A7, c7, e7⟩ := Kd.R_slice HOt.out
    subst e7
    have hinv := INV.out k
    rw [HS.out] at hinv
    have HOKS : Aside0 (∀ x ∈ l, okS x) := ⟨hinv.1⟩
    have HLL : Aside0 (l.length = k) := ⟨(hinv.2.2 rfl).1⟩
    have HLEN : Aside0 (l.length ≤ 20000) := ⟨by have := hinv.2.1; have := HNN.out; simp only at *; omega⟩
    clear hinv
    by_cases hlt : k < n
    · have gne : Aside0 (wr.heap.size ≠ g) := ⟨by have := blk_lt HUr.out; omega⟩
      have HOA := Aside0.mk (Kd.R_alloc (Kd.R_mono (ok' := fun q => q ≠ g ∧ q ≠ wr.heap.size) (Kd.R_bound HOt.out) (fun q hq => ⟨hq.1, by have := hq.2; omega⟩)) (.cells #[.int .i64 0, .int .u64 0] 26))
      have HBA := Aside0.mk (below_alloc HBr.out (.cells #[.int .i64 0, .int .u64 0] 26))
      have HUA : Aside0 (UP (wr.alloc (.cells #[.int .i64 0, .int .u64 0] 26)) g A' xb.length (c - 2) (NN : Int) p false) := ⟨blk_alloc HUr.out _⟩
      have HXA := Aside0.mk (blk_new wr (.cells #[.int .i64 0, .int .u64 0] 26))
      have HSA : Aside0 (wr.heap.size < (wr.alloc (.cells #[.int .i64 0, .int .u64 0] 26)).heap.size) := ⟨by simp⟩
      have HBS : Aside0 (w.heap.size ≤ wr.heap.size) := ⟨HBr.out.size⟩
      clear HOt
      cases k with
      | zero =>
        have hs0 := HS.out
        simp only [decS, Prod.mk.injEq] at hs0
        obtain ⟨rfl, -, hl0, rfl⟩ := hs0
        obtain ⟨a, ha⟩ : ∃ a, unT xb (NN : Int) (0, false) 64 = a := ⟨_, rfl⟩
        obtain ⟨d, hd⟩ : ∃ d, unT xb (NN : Int) a.2 64 = d := ⟨_, rfl⟩
        have HST : Aside0 (decS xb (NN : Int) (0 + 1) = (d.2.1, d.2.2, if d.2.2 = true then l else l ++ [⟨wrap64 a.1, d.1⟩], 0)) := ⟨by
          rw [← hl0]
          have e1 : decA xb (NN : Int) 0 = a := ha
          have e2 : decB xb (NN : Int) 0 = d := by unfold decB; rw [e1]; exact hd
          simp only [decS, e1, e2, List.nil_append]⟩
        have HA := Aside0.mk ha
        have HD2 := Aside0.mk hd
        clear ha hd hl0
        cases hbad : d.2.2 with
        | true =>
          have HD : Aside0 (decS xb (NN : Int) n = (d.2.1, true, l, 0)) := ⟨by
            have h1 := HST.out
            rw [hbad, if_pos rfl] at h1
            have h2 := decS_stay (xb := xb) (N := (NN : Int)) (k := 0) (by rw [h1]) (n - (0 + 1))
            rw [show 0 + 1 + (n - (0 + 1)) = n by omega, h1] at h2
            exact h2⟩
          obtain ⟨eb, ee, henc⟩ : ∃ eb ee, encF l = (eb, ee) := ⟨_, _, rfl⟩
          have HENC := Aside0.mk henc
          have HEOK : Aside0 (okB eb = true) := ⟨by have := encF_okB l HLEN.out HOKS.out; rw [henc] at this; exact this⟩
          clear henc
          go_wp2_with (first
            | (go_at_call 26; (with_reducible refine (CT.out 64 (0, 0, false) a _ HUA.out HBA.out HA.out).mono ?_); rintro e w3 ⟨rfl, hu, hb, hk⟩; have HU3 := Aside0.mk hu; have HB3 := Aside0.mk hb; have HX3 := Aside0.mk ((hk.2 wr.heap.size HSA.out gne.out (by simp)).trans HXA.out); have HS3 : Aside0 (wr.heap.size < w3.heap.size) := ⟨Nat.lt_of_lt_of_le HSA.out hk.1⟩; have HO3 := Aside0.mk (Kd.R_keep HOA.out hk (fun _ q => q.1)); clear hu hb hk)
            | (go_at_call 26; (with_reducible refine (CT.out 64 a d _ HU3.out HB3.out HD2.out).mono ?_); rintro e w4 ⟨rfl, hu, hb, hk⟩; rw [hbad] at hu; have hx4 := (hk.2 wr.heap.size HS3.out gne.out (by simp)).trans HX3.out; have c40 := (blk_cell hx4 0).trans rfl; have c41 := (blk_cell hx4 1).trans rfl; have f40 := blk_frozen hx4 0; have f41 := blk_frozen hx4 1; have HXB : Aside0 (((w4.setCell ⟨wr.heap.size, 0, none⟩ (.int .i64 (wrap64 a.1))).setCell ⟨wr.heap.size, 1, none⟩ (.int .u64 d.1)).heap[wr.heap.size]? = some (.cells #[.int .i64 (wrap64 a.1), .int .u64 d.1] 26 (0, 0))) := ⟨blk_put (blk_put hx4 0 _ rfl) 1 _ rfl⟩; have HUt : Aside0 (UP ((w4.setCell ⟨wr.heap.size, 0, none⟩ (.int .i64 (wrap64 a.1))).setCell ⟨wr.heap.size, 1, none⟩ (.int .u64 d.1)) g A' xb.length (c - 2) (NN : Int) d.2.1 true) := ⟨blk_far (p := ⟨wr.heap.size, 1, none⟩) (blk_far (p := ⟨wr.heap.size, 0, none⟩) hu gne.out.symm _) gne.out.symm _⟩; have HOt : Aside0 (Kd.R k26 26 ((w4.setCell ⟨wr.heap.size, 0, none⟩ (.int .i64 (wrap64 a.1))).setCell ⟨wr.heap.size, 1, none⟩ (.int .u64 d.1)) w.heap.size (fun q => q ≠ g) (.slice A7 l.length c7) l) := ⟨Kd.R_mono (Kd.R_far (p := ⟨wr.heap.size, 1, none⟩) (Kd.R_far (p := ⟨wr.heap.size, 0, none⟩) (Kd.R_keep HO3.out hk (fun _ q => q.1)) (fun _ q => q.2) _) (fun _ q => q.2) _) (fun _ q => q.1)⟩; have HBt : Aside0 (Below w.heap.size w ((w4.setCell ⟨wr.heap.size, 0, none⟩ (.int .i64 (wrap64 a.1))).setCell ⟨wr.heap.size, 1, none⟩ (.int .u64 d.1))) := ⟨(hb.setCell (p := ⟨wr.heap.size, 0, none⟩) HBS.out _).setCell (p := ⟨wr.heap.size, 1, none⟩) HBS.out _⟩; have cx3 := (blk_cell HUt.out 3).trans rfl; have cs0 := (blk_cell HXB.out 0).trans rfl; have cs1 := (blk_cell HXB.out 1).trans rfl; clear hu hb hk hx4)
            | (go_at_call 8; (with_reducible refine (codec_Encode.calls_at A7 c7 l _ eb ee rfl (Kd.R_reads' HOt.out).2.2 (Kd.R_reads' HOt.out).2.1 HOKS.out HLEN.out (HT.out.below HBt.out) HENC.out).mono ?_); rintro e w6 ⟨v6, rfl, hr6, hb⟩; obtain ⟨A6, c6, rfl⟩ := Kd.R_slice hr6; have HR6 := Aside0.mk (Kd.R_reads' hr6); have HU6 := Aside0.mk (blk_below HUt.out hb); have HO6 := Aside0.mk (Kd.R_below HOt.out hb); have HB6 := Aside0.mk (below_step HBt.out hb); have c63 := (blk_cell HU6.out 3).trans rfl; clear hr6 hb))
          try rw [Exit.noGoto_ret]
          refine bodyPost_ret (results_tmp2 rfl _ _ _) rfl ?_
          rw [HF.out, HD.out, if_neg (by simp)]
          exact ⟨_, rfl, Kd.R_nil _ _ _ _ _, HB6.out⟩
        | false =>
          go_wp2_with (first
            | (go_at_call 26; (with_reducible refine (CT.out 64 (0, 0, false) a _ HUA.out HBA.out HA.out).mono ?_); rintro e w3 ⟨rfl, hu, hb, hk⟩; have HU3 := Aside0.mk hu; have HB3 := Aside0.mk hb; have HX3 := Aside0.mk ((hk.2 wr.heap.size HSA.out gne.out (by simp)).trans HXA.out); have HS3 : Aside0 (wr.heap.size < w3.heap.size) := ⟨Nat.lt_of_lt_of_le HSA.out hk.1⟩; have HO3 := Aside0.mk (Kd.R_keep HOA.out hk (fun _ q => q.1)); clear hu hb hk)
            | (go_at_call 26; (with_reducible refine (CT.out 64 a d _ HU3.out HB3.out HD2.out).mono ?_); rintro e w4 ⟨rfl, hu, hb, hk⟩; rw [hbad] at hu; have hx4 := (hk.2 wr.heap.size HS3.out gne.out (by simp)).trans HX3.out; have c40 := (blk_cell hx4 0).trans rfl; have c41 := (blk_cell hx4 1).trans rfl; have f40 := blk_frozen hx4 0; have f41 := blk_frozen hx4 1; have HXB : Aside0 (((w4.setCell ⟨wr.heap.size, 0, none⟩ (.int .i64 (wrap64 a.1))).setCell ⟨wr.heap.size, 1, none⟩ (.int .u64 d.1)).heap[wr.heap.size]? = some (.cells #[.int .i64 (wrap64 a.1), .int .u64 d.1] 26 (0, 0))) := ⟨blk_put (blk_put hx4 0 _ rfl) 1 _ rfl⟩; have HUt : Aside0 (UP ((w4.setCell ⟨wr.heap.size, 0, none⟩ (.int .i64 (wrap64 a.1))).setCell ⟨wr.heap.size, 1, none⟩ (.int .u64 d.1)) g A' xb.length (c - 2) (NN : Int) d.2.1 false) := ⟨blk_far (p := ⟨wr.heap.size, 1, none⟩) (blk_far (p := ⟨wr.heap.size, 0, none⟩) hu gne.out.symm _) gne.out.symm _⟩; have HOt : Aside0 (Kd.R k26 26 ((w4.setCell ⟨wr.heap.size, 0, none⟩ (.int .i64 (wrap64 a.1))).setCell ⟨wr.heap.size, 1, none⟩ (.int .u64 d.1)) w.heap.size (fun q => q ≠ g) (.slice A7 l.length c7) l) := ⟨Kd.R_mono (Kd.R_far (p := ⟨wr.heap.size, 1, none⟩) (Kd.R_far (p := ⟨wr.heap.size, 0, none⟩) (Kd.R_keep HO3.out hk (fun _ q => q.1)) (fun _ q => q.2) _) (fun _ q => q.2) _) (fun _ q => q.1)⟩; have HBt : Aside0 (Below w.heap.size w ((w4.setCell ⟨wr.heap.size, 0, none⟩ (.int .i64 (wrap64 a.1))).setCell ⟨wr.heap.size, 1, none⟩ (.int .u64 d.1))) := ⟨(hb.setCell (p := ⟨wr.heap.size, 0, none⟩) HBS.out _).setCell (p := ⟨wr.heap.size, 1, none⟩) HBS.out _⟩; have cx3 := (blk_cell HUt.out 3).trans rfl; have cs0 := (blk_cell HXB.out 0).trans rfl; have cs1 := (blk_cell HXB.out 1).trans rfl; clear hu hb hk hx4)
            | ((with_reducible refine gate_builtin (b := .append) (xs := #[.tmp 70, .tmp 72]) rfl ?_); at_builtin; refine Kd.R_append k26 (w0 := w) w.heap.size rfl (.tmp 70) (.tmp 72) 24 26 (.agg #[.int .i64 0, .int .u64 0]) 16 rfl Tryd.underlying24 info26 rfl (by decide) (by omega) (.slice A7 l.length c7) l (⟨wrap64 a.1, d.1⟩ : S26) [.int .i64 (wrap64 a.1), .int .u64 d.1] (fun q => q ≠ g) (fun _ => False) rfl ?hx ?aP (fun _ hk => hk.elim) ?aF HOt.out HBt.out HBt.out.size ?aL ?_; (case hx => first | rfl | (go_simp; done) | (show Value.slice _ 1 1 = Value.slice _ 1 1; simp; done)); (case aP => exact k26_mkM _ _ _ (⟨wrap64 a.1, d.1⟩ : S26)); (case aF => exact fun q hq e => by have := blk_lt HUt.out; omega); (case aL => have := HLEN.out; omega); intro v9 w9 ho hb hg9 hat; have HO9 := Aside0.mk ho; have HB9 := Aside0.mk hb; have HU9 := Aside0.mk (blk_grown HUt.out hg9 (Kd.R_ne HOt.out HUt.out (by decide))); clear ho hb hg9 hat))
          go_roundw
          case rel => exact ⟨0 + 1, l ++ [(⟨wrap64 a.1, d.1⟩ : S26)], d.2.1, 0, by omega, by go_num, rfl, ⟨by have h1 := HST.out; rw [hbad, if_neg (by simp)] at h1; exact h1⟩, HO9, HU9, HB9⟩
          case measure => simp [intOf]; omega
      | succ k =>
        rw [show ((k + 1 : Nat) : Int) = (k : Int) + 1 from by omega] at *
        obtain ⟨a, ha⟩ : ∃ a, decN xb (NN : Int) p = a := ⟨_, rfl⟩
        obtain ⟨d, hd⟩ : ∃ d, decV xb (NN : Int) p = d := ⟨_, rfl⟩
        obtain ⟨y, hy⟩ : ∃ y, rd_T26 l (k : Int) = y := ⟨_, rfl⟩
        have HST : Aside0 (decS xb (NN : Int) (k + 1 + 1) = (d.2.1, d.2.2, if d.2.2 = true then l else l ++ [⟨wrap64 (y.f0 + wrap64 (st + a.1)), Go.bits .xor .u64 y.f1 d.1⟩], wrap64 (st + a.1))) := ⟨by
          rw [decS, HS.out]
          simp only
          rw [if_neg (by simp), ha, hd, hy]⟩
        have hwk : wrap64 (k : Int) = (k : Int) := w64 (by omega) (by omega)
        have hwk' : IntKind.i64.wrap (k : Int) = (k : Int) := (i64_w _).trans hwk
        have HA := Aside0.mk ha
        have HD2 := Aside0.mk hd
        have HY := Aside0.mk hy
        clear ha hd hy
        go_wp2_with (go_at_call 27; (with_reducible refine (CN.out p a _ HUA.out HBA.out HA.out).mono ?_); rintro e w3 ⟨rfl, hu, hb, hk⟩; have HU3 := Aside0.mk hu; have HB3 := Aside0.mk hb; have HX3 := Aside0.mk ((hk.2 wr.heap.size HSA.out gne.out (by simp)).trans HXA.out); have HS3 : Aside0 (wr.heap.size < w3.heap.size) := ⟨Nat.lt_of_lt_of_le HSA.out hk.1⟩; have HO3 := Aside0.mk (Kd.R_keep HOA.out hk (fun _ q => q.1)); clear hu hb hk)
        go_cut [] (fun wx => Aside0 (wx.heap[wr.heap.size]? = some (.cells #[.int .i64 (wrap64 (y.f0 + wrap64 (st + a.1))), .int .u64 (Go.bits .xor .u64 y.f1 d.1)] 26 (0, 0))) ∧ Aside0 (UP wx g A' xb.length (c - 2) (NN : Int) d.2.1 d.2.2) ∧ Aside0 (Kd.R k26 26 wx w.heap.size (fun q => q ≠ g) (.slice A7 l.length c7) l) ∧ Aside0 (Below w.heap.size w wx))
        case first =>
          obtain ⟨ad, hh, y0, y1⟩ := at_T26 (Kd.R_reads' HO3.out).2.2 (k : Int) (by omega) (by have := HLL.out; omega)
          rw [Int.toNat_natCast, HY.out] at y0 y1
          have hk1 : (k : Int) + 1 = (l.length : Int) := by have := HLL.out; omega
          subst hh
          obtain ⟨inn, hown⟩ := Kd.R_own HO3.out
          have hn1 : ad.block ≠ g := own_blk hown (Kd.R_away HO3.out (fun q hq => hq.1))
          have hn2 : ad.block ≠ wr.heap.size := own_blk hown (Kd.R_away HO3.out (fun q hq => hq.2))
          have HN1 : Aside0 ((ad.add (k * 2)).block ≠ g ∧ (ad.add (k * 2)).block ≠ wr.heap.size) := ⟨by rw [add_block]; exact ⟨hn1, hn2⟩⟩
          clear hown hn1 hn2
          have hb0 : (0 : Int) ≤ (k : Int) := by omega
          have hb1 : (k : Int) < (l.length : Int) := by omega
          clear hk1
          go_region_held3 (fun W => W.cell? (ad.add (k * 2)) = some (.int .i64 y.f0) ∧ W.cell? ⟨(ad.add (k * 2)).block, (ad.add (k * 2)).off + 1, none⟩ = some (.int .u64 y.f1)) (first | exact ⟨y0, y1⟩ | exact ⟨z0, z1⟩ | exact ⟨(cell_far (p := ⟨wr.heap.size, 1, none⟩) HN1.out.2 _).trans ((cell_far (p := ⟨wr.heap.size, 0, none⟩) HN1.out.2 _).trans z0), (cell_far (p := ⟨wr.heap.size, 1, none⟩) (a := ⟨(ad.add (k * 2)).block, (ad.add (k * 2)).off + 1, none⟩) HN1.out.2 _).trans ((cell_far (p := ⟨wr.heap.size, 0, none⟩) (a := ⟨(ad.add (k * 2)).block, (ad.add (k * 2)).off + 1, none⟩) HN1.out.2 _).trans z1)⟩)
            (first | (go_at_call 28; (refine (CV.out p a d _ ?s1 ?s2 HA.out HD2.out).mono ?_); (case s1 => exact HU3.out); (case s2 => exact below_drew1 HB3.out); rintro e w4 ⟨rfl, hu, hb, hk⟩; have z0 := keep_cell hk y0 HN1.out.1; have z1 := keep_cell hk y1 HN1.out.1; have hx4 := (hk.2 wr.heap.size HS3.out gne.out (by simp)).trans HX3.out; have c40 := (blk_cell hx4 0).trans rfl; have c41 := (blk_cell hx4 1).trans rfl; have f40 := blk_frozen hx4 0; have f41 := blk_frozen hx4 1; have HX4 := Aside0.mk hx4; have HU4 := Aside0.mk hu; have HB4 := Aside0.mk hb; have HK4 := Aside0.mk hk; clear hx4 hu hb hk))
          all_goals
            go_wp2_with fail
            go_meet
            refine ⟨⟨?_⟩, ⟨?_⟩, ⟨?_⟩, ⟨?_⟩⟩
            · simp only [i64_w]
              exact blk_put (blk_put HX4.out 0 _ rfl) 1 _ rfl
            · exact blk_far (p := ⟨wr.heap.size, 1, none⟩) (blk_far (p := ⟨wr.heap.size, 0, none⟩) HU4.out gne.out.symm _) gne.out.symm _
            · exact Kd.R_mono (Kd.R_far (p := ⟨wr.heap.size, 1, none⟩) (Kd.R_far (p := ⟨wr.heap.size, 0, none⟩) (Kd.R_keep (Kd.R_drew HO3.out) HK4.out (fun _ q => q.1)) (fun _ q => q.2) _) (fun _ q => q.2) _) (fun _ q => q.1)
            · exact (HB4.out.setCell (p := ⟨wr.heap.size, 0, none⟩) HBS.out _).setCell (p := ⟨wr.heap.size, 1, none⟩) HBS.out _
        case rest =>
          obtain ⟨HXB, HUt, HOt, HBt⟩ := hcut
          have cx3 := (blk_cell HUt.out 3).trans rfl
          have cs0 : wc.cell? ⟨wr.heap.size, 0, none⟩ = some (.int .i64 (wrap64 (y.f0 + wrap64 (st + a.1)))) := (blk_cell HXB.out 0).trans rfl
          have cs1 : wc.cell? ⟨wr.heap.size, 1, none⟩ = some (.int .u64 (Go.bits .xor .u64 y.f1 d.1)) := (blk_cell HXB.out 1).trans rfl
          cases hbad : d.2.2 with
          | true =>
            rw [hbad] at cx3
            have HD : Aside0 (decS xb (NN : Int) n = (d.2.1, true, l, wrap64 (st + a.1))) := ⟨by
              have h1 := HST.out
              rw [hbad, if_pos rfl] at h1
              have h2 := decS_stay (xb := xb) (N := (NN : Int)) (k := k + 1) (by rw [h1]) (n - (k + 1 + 1))
              rw [show k + 1 + 1 + (n - (k + 1 + 1)) = n by omega, h1] at h2
              exact h2⟩
            obtain ⟨eb, ee, henc⟩ : ∃ eb ee, encF l = (eb, ee) := ⟨_, _, rfl⟩
            have HENC := Aside0.mk henc
            have HEOK : Aside0 (okB eb = true) := ⟨by have := encF_okB l HLEN.out HOKS.out; rw [henc] at this; exact this⟩
            clear henc
            go_wp2_with (first
              | (go_at_call 8; (with_reducible refine (codec_Encode.calls_at A7 c7 l _ eb ee rfl (Kd.R_reads' HOt.out).2.2 (Kd.R_reads' HOt.out).2.1 HOKS.out HLEN.out (HT.out.below HBt.out) HENC.out).mono ?_); rintro e w6 ⟨v6, rfl, hr6, hb⟩; obtain ⟨A6, c6, rfl⟩ := Kd.R_slice hr6; have HR6 := Aside0.mk (Kd.R_reads' hr6); have HU6 := Aside0.mk (blk_below HUt.out hb); have HO6 := Aside0.mk (Kd.R_below HOt.out hb); have HB6 := Aside0.mk (below_step HBt.out hb); have c63 := (blk_cell HU6.out 3).trans rfl; clear hr6 hb))
            try rw [Exit.noGoto_ret]
            refine bodyPost_ret (results_tmp2 rfl _ _ _) rfl ?_
            rw [HF.out, HD.out, if_neg (by simp)]
            exact ⟨_, rfl, Kd.R_nil _ _ _ _ _, HB6.out⟩
          | false =>
            rw [hbad] at cx3
            go_wp2_with (first
              | ((with_reducible refine gate_builtin (b := .append) (xs := #[.tmp 70, .tmp 72]) rfl ?_); at_builtin; refine Kd.R_append k26 (w0 := w) w.heap.size rfl (.tmp 70) (.tmp 72) 24 26 (.agg #[.int .i64 0, .int .u64 0]) 16 rfl Tryd.underlying24 info26 rfl (by decide) (by omega) (.slice A7 l.length c7) l (⟨wrap64 (y.f0 + wrap64 (st + a.1)), Go.bits .xor .u64 y.f1 d.1⟩ : S26) [.int .i64 (wrap64 (y.f0 + wrap64 (st + a.1))), .int .u64 (Go.bits .xor .u64 y.f1 d.1)] (fun q => q ≠ g) (fun _ => False) rfl ?hx ?aP (fun _ hk => hk.elim) ?aF HOt.out HBt.out HBt.out.size ?aL ?_; (case hx => first | rfl | (go_simp; done) | (show Value.slice _ 1 1 = Value.slice _ 1 1; simp; done)); (case aP => exact k26_mkM _ _ _ (⟨wrap64 (y.f0 + wrap64 (st + a.1)), Go.bits .xor .u64 y.f1 d.1⟩ : S26)); (case aF => exact fun q hq e => by have := blk_lt HUt.out; omega); (case aL => have := HLEN.out; omega); intro v9 w9 ho hb hg9 hat; have HO9 := Aside0.mk ho; have HB9 := Aside0.mk hb; have HU9 := Aside0.mk (blk_grown HUt.out hg9 (Kd.R_ne HOt.out HUt.out (by decide))); clear ho hb hg9 hat))
            go_roundw
            case rel => exact ⟨k + 1 + 1, l ++ [(⟨wrap64 (y.f0 + wrap64 (st + a.1)), Go.bits .xor .u64 y.f1 d.1⟩ : S26)], d.2.1, wrap64 (st + a.1), by omega, by go_num, rfl, ⟨by have h1 := HST.out; rw [hbad, if_neg (by simp)] at h1; exact h1⟩, HO9, ⟨by rw [← hbad]; exact HU9.out⟩, HB9⟩
            case measure => simp [intOf]; omega
    · obtain rfl : k = n := by omega
      have HD := Aside0.mk HS.out
      have HUt := HUr
      have HBt := HBr
      have cx3 := (blk_cell HUt.out 3).trans rfl
      obtain ⟨eb, ee, henc⟩ : ∃ eb ee, encF l = (eb, ee) := ⟨_, _, rfl⟩
      have HENC := Aside0.mk henc
      have HEOK : Aside0 (okB eb = true) := ⟨by have := encF_okB l HLEN.out HOKS.out; rw [henc] at this; exact this⟩
      clear henc
      by_cases hee : ee = 0
      · subst hee
        have hee0 : ((0 : Int) != 0) = false := rfl
        cases heq : decide (eb = b) with
        | false =>
          have HEQ := Aside0.mk heq
          go_wp2_with (first
            | (go_at_call 8; (with_reducible refine (codec_Encode.calls_at A7 c7 l _ eb 0 rfl (Kd.R_reads' HOt.out).2.2 (Kd.R_reads' HOt.out).2.1 HOKS.out HLEN.out (HT.out.below HBt.out) HENC.out).mono ?_); rintro e w6 ⟨v6, rfl, hr6, hb⟩; obtain ⟨A6, c6, rfl⟩ := Kd.R_slice hr6; have HR6 := Aside0.mk (Kd.R_reads' hr6); have HU6 := Aside0.mk (blk_below HUt.out hb); have HO6 := Aside0.mk (Kd.R_below HOt.out hb); have HB6 := Aside0.mk (below_step HBt.out hb); have c63 := (blk_cell HU6.out 3).trans rfl; clear hr6 hb)
            | (go_at_call 29; (with_reducible refine (Equal_at A6 c6 eb A c b false _ rfl rfl HR6.out.2.2 HR6.out.2.1 (Kd.C_below HRB.out HB6.out) HC.out HEOK.out HOK.out HEQ.out).mono ?_); rintro e w7 ⟨rfl, hb⟩; have HB7 := Aside0.mk (below_step HB6.out hb); clear hb))
          try rw [Exit.noGoto_ret]
          refine bodyPost_ret (results_tmp2 rfl _ _ _) rfl ?_
          rw [HF.out, HD.out, if_neg (by rw [HENC.out]; intro q; have := of_decide_eq_false HEQ.out; exact this (congrArg Prod.fst q.2))]
          exact ⟨_, rfl, Kd.R_nil _ _ _ _ _, HB7.out⟩
        | true =>
          have HEQ := Aside0.mk heq
          go_wp2_with (first
            | (go_at_call 8; (with_reducible refine (codec_Encode.calls_at A7 c7 l _ eb 0 rfl (Kd.R_reads' HOt.out).2.2 (Kd.R_reads' HOt.out).2.1 HOKS.out HLEN.out (HT.out.below HBt.out) HENC.out).mono ?_); rintro e w6 ⟨v6, rfl, hr6, hb⟩; obtain ⟨A6, c6, rfl⟩ := Kd.R_slice hr6; have HR6 := Aside0.mk (Kd.R_reads' hr6); have HU6 := Aside0.mk (blk_below HUt.out hb); have HO6 := Aside0.mk (Kd.R_below HOt.out hb); have HB6 := Aside0.mk (below_step HBt.out hb); have c63 := (blk_cell HU6.out 3).trans rfl; clear hr6 hb)
            | (go_at_call 29; (with_reducible refine (Equal_at A6 c6 eb A c b true _ rfl rfl HR6.out.2.2 HR6.out.2.1 (Kd.C_below HRB.out HB6.out) HC.out HEOK.out HOK.out HEQ.out).mono ?_); rintro e w7 ⟨rfl, hb⟩; have HB7 := Aside0.mk (below_step HB6.out hb); have HO7 := Aside0.mk (Kd.R_below HO6.out hb); clear hb))
          try rw [Exit.noGoto_ret]
          refine bodyPost_ret (results_tmp2 rfl _ _ _) rfl ?_
          rw [HF.out, HD.out, if_pos ⟨rfl, by rw [HENC.out]; exact congrArg (fun z => (z, (0 : Int))) (of_decide_eq_true HEQ.out)⟩]
          exact ⟨_, rfl, Kd.R_mono HO7.out (fun _ _ => trivial), HB7.out⟩
      · have hee0 : (ee != 0) = true := bne_iff_ne.2 hee
        have HEE := Aside0.mk hee
        clear hee
        go_wp2_with (first
          | (go_at_call 8; (with_reducible refine (codec_Encode.calls_at A7 c7 l _ eb ee rfl (Kd.R_reads' HOt.out).2.2 (Kd.R_reads' HOt.out).2.1 HOKS.out HLEN.out (HT.out.below HBt.out) HENC.out).mono ?_); rintro e w6 ⟨v6, rfl, hr6, hb⟩; obtain ⟨A6, c6, rfl⟩ := Kd.R_slice hr6; have HR6 := Aside0.mk (Kd.R_reads' hr6); have HU6 := Aside0.mk (blk_below HUt.out hb); have HO6 := Aside0.mk (Kd.R_below HOt.out hb); have HB6 := Aside0.mk (below_step HBt.out hb); have c63 := (blk_cell HU6.out 3).trans rfl; clear hr6 hb))
        try rw [Exit.noGoto_ret]
        refine bodyPost_ret (results_tmp2 rfl _ _ _) rfl ?_
        rw [HF.out, HD.out, if_neg (by rw [HENC.out]; intro q; exact HEE.out (congrArg Prod.snd q.2))]
        exact ⟨_, rfl, Kd.R_nil _ _ _ _ _, HB6.out⟩
end Go.Proofs.YtpeekkpdglfbbaaDoor.PA
namespace Go.Proofs.YtpeekkpdglfbbaaDoor.PA
open Go.RowKit Go.Proofs.YtpeekkpdglfbbaaDoor.G Go.Proofs.YtpeekkpdglfbbaaDoorW.PrintWords Go.Proofs.YtpeekkpdglfbbaaDoorW.PrintLast Go.Proofs.YtpeekkpdglfbbaaDoorW.PrintMore
set_option linter.unusedVariables false
set_option linter.unusedSimpArgs false

theorem okX_full {l : List Int} {n : Nat} (h : OkX l n) : OkX l (8 * l.length) :=
  ⟨h.bytes, Nat.le_refl _, by omega, fun i h1 h2 => absurd h2 (by omega)⟩
theorem encP_one (l : List S26) : ∀ k, ∃ Z, encP l (k + 1) = encP l k ++ Z
  | 0 => ⟨_, rfl⟩
  | k + 1 => ⟨_, rfl⟩
theorem encP_pre (l : List S26) (k : Nat) : ∀ d, ∃ Z, encP l (k + d) = encP l k ++ Z
  | 0 => ⟨[], by simp⟩
  | d + 1 => by
    obtain ⟨Z, hZ⟩ := encP_pre l k d
    obtain ⟨Y, hY⟩ := encP_one l (k + d)
    exact ⟨Z ++ Y, by rw [← Nat.add_assoc, hY, hZ, List.append_assoc]⟩
theorem Bs_full {l : List Int} {n : Nat} (h : OkX l n) : ∃ Z, Bs l (8 * l.length) = Bs l n ++ Z := by
  unfold Bs
  exact ⟨_, win_split l 0 (8 * l.length) n h.le⟩
theorem i64_wf {v : Int} (h : -9223372036854775808 ≤ v ∧ v ≤ 9223372036854775807) : (Lit.int .i64 v).wf = true := by
  simp [Lit.wf, IntKind.min, IntKind.max, IntKind.signed, IntKind.bits]
  omega
theorem unN_part {l : List Int} {N : Nat} {B Z : List Bool} {v : Int} (hX : OkX l N) (hv : (Lit.int .i64 v).wf = true) (h : Bs l N = B ++ intBits v ++ Z) : unN l (N : Int) ((B.length : Int), false) = (v, ((B.length + (intBits v).length : Nat) : Int), false) := by
  unfold unN
  rw [takeI_part hX hv h]
  rfl
theorem time_back (x y st : Int) (hx : -9223372036854775808 ≤ x ∧ x ≤ 9223372036854775807) (hs : -9223372036854775808 ≤ st ∧ st ≤ 9223372036854775807) : wrap64 (st + wrap64 (wrap64 (x - y) - st)) = wrap64 (x - y) ∧ wrap64 (y + wrap64 (x - y)) = x := by
  constructor
  · generalize hd : wrap64 (x - y) = d
    have : -9223372036854775808 ≤ d ∧ d ≤ 9223372036854775807 := hd ▸ wrap64_in _
    unfold wrap64
    omega
  · unfold wrap64
    omega
theorem stepP_in (l : List S26) : ∀ k, -9223372036854775808 ≤ stepP l k ∧ stepP l k ≤ 9223372036854775807
  | 0 => by simp [stepP]
  | 1 => by simp [stepP]
  | k + 2 => wrap64_in _
theorem first_back (x : Int) (hx : -9223372036854775808 ≤ x ∧ x ≤ 9223372036854775807) : wrap64 (((IntKind.u64.wrap x).toNat : Nat) : Int) = x := by
  rw [wrap_u64]
  unfold wrap64
  omega
theorem xor_back {x y : Int} (hx : 0 ≤ x ∧ x < 18446744073709551616) (hy : 0 ≤ y ∧ y < 18446744073709551616) : Go.bits .xor .u64 y ((x.toNat ^^^ y.toNat : Nat) : Int) = x := by
  obtain ⟨a, ha⟩ := Int.eq_ofNat_of_zero_le hx.1
  obtain ⟨b, hb⟩ := Int.eq_ofNat_of_zero_le hy.1
  subst ha hb
  rw [Int.toNat_natCast, Int.toNat_natCast, u64_xor_nat b (a ^^^ b) (by omega) (Nat.xor_lt_two_pow (n := 64) (by omega) (by omega)), Nat.xor_comm a b, ← Nat.xor_assoc, Nat.xor_self, Nat.zero_xor]
theorem take_succ26 (l : List S26) (k : Nat) (h : k < l.length) : l.take (k + 1) = l.take k ++ [rd_T26 l (k : Int)] := by
  have e : rd_T26 l (k : Int) = l[k] := by simp [rd_T26, List.getD_eq_getElem?_getD, List.getElem?_eq_getElem h]
  rw [List.take_succ_eq_append_getElem h, e]
theorem rd_take26 (l : List S26) (k m : Nat) (h : k < m) : rd_T26 (l.take m) (k : Int) = rd_T26 l (k : Int) := by
  simp only [rd_T26, Int.toNat_natCast, List.getD_eq_getElem?_getD, List.getElem?_take, if_pos h]
/-- the reading of what was written, sample by sample -/
theorem decS_back {xb : List Int} {NN : Nat} {l : List S26} {Z : List Bool} (hok : ∀ x ∈ l, okS x) (hl : l.length ≤ 20000) (hX : OkX xb NN) (hB : Bs xb NN = encP l l.length ++ Z) : ∀ k, k ≤ l.length → decS xb (NN : Int) k = (((encP l k).length : Int), false, l.take k, stepP l k)
  | 0, _ => by simp [decS, encP, stepP]
  | 1, h => by
    obtain ⟨Y, hY⟩ := encP_pre l 1 (l.length - 1)
    rw [show 1 + (l.length - 1) = l.length by omega] at hY
    have hm := hok _ (rd_mem26 l 0 (by omega))
    have hu := u64_wrap_range (rd_T26 l 0).f0
    obtain ⟨u, eu⟩ := Int.eq_ofNat_of_zero_le hu.1
    obtain ⟨v, ev⟩ := Int.eq_ofNat_of_zero_le hm.2.1
    have ev' : (rd_T26 l 0).f1 = (v : Int) := ev
    have hv : v < 18446744073709551616 := by have := hm.2.2; rw [ev] at this; omega
    have huu : u < 18446744073709551616 := by rw [eu] at hu; omega
    have e1 : encP l 1 = low u 64 ++ low v 64 := by
      show low (IntKind.u64.wrap (rd_T26 l 0).f0).toNat 64 ++ low (rd_T26 l 0).f1.toNat 64 = _
      rw [eu, ev']
      rfl
    rw [hY, e1] at hB
    have a1 := unT_part (c := 64) (B := []) (L := low u 64) (Z := low v 64 ++ (Y ++ Z)) hX (low_length _ _) (by decide) (by simp) (by rw [hB]; simp only [List.nil_append, List.append_assoc])
    have a2 := unT_part (c := 64) (B := low u 64) (L := low v 64) (Z := Y ++ Z) hX (low_length _ _) (by decide) (by simp) (by rw [hB]; simp only [List.append_assoc])
    rw [num_low, Nat.mod_eq_of_lt huu] at a1
    rw [num_low, Nat.mod_eq_of_lt hv, low_length] at a2
    have eA : decA xb (NN : Int) 0 = ((u : Int), 64, false) := a1
    have eB : decB xb (NN : Int) 0 = ((v : Int), 128, false) := by
      unfold decB
      rw [eA]
      exact a2
    have ef : wrap64 (u : Int) = (rd_T26 l 0).f0 := by
      have := first_back (rd_T26 l 0).f0 hm.1
      rw [eu] at this
      exact this
    have et := take_succ26 l 0 (by omega)
    rw [decS, eB, eA, e1, et]
    rw [if_neg (by simp)]
    have es : (⟨wrap64 (u : Int), (v : Int)⟩ : S26) = rd_T26 l ((0 : Nat) : Int) := by
      rw [ef, ← ev']
      rfl
    simp only [es]
    simp [stepP]
  | k + 2, h => by
    have ih := decS_back hok hl hX hB (k + 1) (by omega)
    obtain ⟨Y, hY⟩ := encP_pre l (k + 2) (l.length - (k + 2))
    rw [show k + 2 + (l.length - (k + 2)) = l.length by omega] at hY
    have hlen := encP_len l hok (k + 1) (by omega)
    have hx := hok _ (rd_mem26 l (k + 1) (by omega))
    have hy := hok _ (rd_mem26 l k (by omega))
    have e2 : encP l (k + 2) = encP l (k + 1) ++ (intBits (wrap64 (wrap64 ((rd_T26 l ((k + 1 : Nat) : Int)).f0 - (rd_T26 l ((k : Nat) : Int)).f0) - stepP l (k + 1))) ++ xorBits ((rd_T26 l ((k + 1 : Nat) : Int)).f1.toNat ^^^ (rd_T26 l ((k : Nat) : Int)).f1.toNat)) := rfl
    have hst := stepP_in l (k + 1)
    have hsp : stepP l (k + 2) = wrap64 ((rd_T26 l ((k + 1 : Nat) : Int)).f0 - (rd_T26 l ((k : Nat) : Int)).f0) := rfl
    have et := take_succ26 l (k + 1) (by omega)
    have er := rd_take26 l k (k + 1) (by omega)
    obtain ⟨x, ex⟩ : ∃ x, rd_T26 l ((k + 1 : Nat) : Int) = x := ⟨_, rfl⟩
    obtain ⟨y, ey⟩ : ∃ y, rd_T26 l ((k : Nat) : Int) = y := ⟨_, rfl⟩
    rw [ex, ey] at e2 hsp
    rw [ex] at hx et
    rw [ey] at hy er
    obtain ⟨st, est⟩ : ∃ st, stepP l (k + 1) = st := ⟨_, rfl⟩
    rw [est] at e2 hst ih
    obtain ⟨v, ev⟩ : ∃ v, wrap64 (wrap64 (x.f0 - y.f0) - st) = v := ⟨_, rfl⟩
    have hv : (Lit.int .i64 v).wf = true := ev ▸ i64_wf (wrap64_in _)
    have hxx := xor_lt hx.2 hy.2
    have htb := time_back x.f0 y.f0 st hx.1 hst
    have hxb := xor_back hx.2 hy.2
    rw [ev] at e2 htb
    obtain ⟨X, eX⟩ : ∃ X, x.f1.toNat ^^^ y.f1.toNat = X := ⟨_, rfl⟩
    rw [eX] at e2 hxx hxb
    rw [hY, e2] at hB
    have a1 := unN_part (B := encP l (k + 1)) (Z := xorBits X ++ (Y ++ Z)) hX hv (by rw [hB]; simp only [List.append_assoc])
    have hil := intBits_len v
    have a2 := unV_part (x := X) (B := encP l (k + 1) ++ intBits v) (Z := Y ++ Z) hX hxx (by simp; omega) (by rw [hB]; simp only [List.append_assoc])
    rw [List.length_append] at a2
    have eN : decN xb (NN : Int) ((encP l (k + 1)).length : Int) = (v, (((encP l (k + 1)).length + (intBits v).length : Nat) : Int), false) := a1
    have eV : decV xb (NN : Int) ((encP l (k + 1)).length : Int) = ((X : Int), (((encP l (k + 1)).length + (intBits v).length + (xorBits X).length : Nat) : Int), false) := by
      unfold decV
      rw [eN]
      exact a2
    rw [decS, ih]
    simp only
    rw [if_neg (by simp), eV, eN, er, htb.1, htb.2, hxb, hsp, et, e2]
    simp only [List.length_append]
    rw [if_neg (by simp)]
    simp only [Prod.mk.injEq, true_and, and_true]
    omega
theorem beV_two (n : Nat) (h : n ≤ 65535) : beV 0 (beL n 2) = n := by
  rw [beV_beL]
  omega
/-- what was encoded is decoded as it was -/
theorem dec_enc (l : List S26) (hok : ∀ x ∈ l, okS x) (hl : l.length ≤ 20000) (hc : canS l = true) : encF l = (encL l, 0) ∧ decF (encL l) = (l, 0) ∧ (encL l).length ≤ 2 + 20 * l.length + 1 := by
  have e0 : encF l = (encL l, 0) := by rw [encF, if_pos hc]
  have hP := encP_len l hok l.length (Nat.le_refl _)
  obtain ⟨hX, hBs⟩ := packB_ok (encP l l.length) (by omega)
  obtain ⟨Z, hZ⟩ := Bs_full hX
  rw [hBs] at hZ
  have hbl : (encL l).length = 2 + (packB (encP l l.length)).length := by rw [encL, List.length_append, beL_length]
  have hn := hX.near
  refine ⟨e0, ?_, by omega⟩
  have hd : (encL l).drop 2 = packB (encP l l.length) := by rw [encL, List.drop_left' (beL_length _ _)]
  have ht : (encL l).take 2 = beL l.length 2 := by rw [encL, List.take_left' (beL_length _ _)]
  have hs := decS_back hok hl (okX_full hX) hZ l.length (Nat.le_refl _)
  rw [List.take_length] at hs
  have h8 : 8 * ((encL l).length - 2) = 8 * (packB (encP l l.length)).length := by omega
  rw [decF, if_neg (by omega), hd, ht, h8, beV_two _ (by omega), hs, if_pos ⟨rfl, e0⟩]
end Go.Proofs.YtpeekkpdglfbbaaDoor.PA
namespace Go.Proofs.YtpeekkpdglfbbaaDoor.PA
open Go.RowKit Go.Proofs.YtpeekkpdglfbbaaDoor.G Go.Proofs.YtpeekkpdglfbbaaDoorW.PrintWords Go.Proofs.YtpeekkpdglfbbaaDoorW.PrintLast Go.Proofs.YtpeekkpdglfbbaaDoorW.PrintMore
set_option linter.unusedVariables false
set_option linter.unusedSimpArgs false

theorem codec_Decode.calls_at {n : Nat} (A : Option Addr) (c : Nat) (b : List Int) (w : World) (rl : List S26) (re : Int) (hn : b.length = n) (hr : Kd.C (Kd.int .u8) w A b.length b) (hc : n ≤ c) (hok : okB b = true) (hlen : n ≤ 2500) (hT : TabZ w) (he : decF b = (rl, re)) :
    Calls Tryd.prog 10 #[.slice A n c] w fun e w' => ∃ v : Value, e = .returned (.tuple #[v, .int .i64 re]) ∧ Kd.R k26 26 w' w.heap.size (fun _ => True) v rl ∧ Below w.heap.size w w' := by
  subst hn
  have := codec_Decode.calls A c b w hr hc hok hlen hT
  rw [he] at this
  exact this
def awL : List S26 := [⟨1, 5⟩, ⟨3, 5⟩]
theorem awL_ok : (∀ x ∈ awL, okS x) ∧ canS awL = true := by
  refine ⟨fun x hx => ?_, by decide⟩
  simp only [awL, List.mem_cons, List.not_mem_nil, or_false] at hx
  rcases hx with rfl | rfl <;> exact ⟨⟨by decide, by decide⟩, by decide, by decide⟩
theorem encL_ok (l : List S26) (hl : l.length ≤ 20000) (hok : ∀ x ∈ l, okS x) (hc : canS l = true) : okB (encL l) = true := by
  have h := encF_okB l hl hok
  rw [(dec_enc l hok hl hc).1] at h
  exact h
set_option maxHeartbeats 2000000 in
set_option maxRecDepth 100000 in
theorem awake.calls (w : World) (hT : TabZ w) :
    Calls Tryd.prog 12 #[] w fun e w' => e = .returned (.bool true) ∧ Below w.heap.size w w' := by
  have HT := Aside0.mk hT
  have D := Aside0.mk (dec_enc awL awL_ok.1 (by decide) awL_ok.2)
  have HOK := Aside0.mk (encL_ok awL (by decide) awL_ok.1 awL_ok.2)
  have hL : ((awL.length : Int) == 2) = true := rfl
  have hb1 : (1 : Int) < (awL.length : Int) := by decide
  clear hT
  go_enter Tryd.func12, Tryd.ntmps12
  go_wp2_with (first
    | ((with_reducible refine gate_dst (N := 8) rfl ?_); refine Kd.R_lit k26 (w0 := w) w.heap.size 26 ?hg (N := 8) ?hd (xs := awL) (inner := [.int .i64 1, .int .u64 5, .int .i64 3, .int .u64 5]) (ok := fun _ => True) (okp := fun _ => True) ?hr ?hp (fun _ hk => hk) trivial (Below.refl _ _) (Nat.le_refl _) (by decide) ?_; (case hd => rfl); (case hg => rfl); (case hr => first | (go_simp; done) | (go_simp; rfl)); (case hp => exact Reps.snoc (Reps.snoc (Reps.none _ _) (k26_mkM _ _ _ ⟨1, 5⟩) rfl) (k26_mkM _ _ _ ⟨3, 5⟩) rfl); intro v1 w1 ho1 hb1 hg1 ha1; obtain ⟨A1, c1, rfl⟩ := Kd.R_slice ho1; have HO1 := Aside0.mk (Kd.R_reads' ho1); have HB1 := Aside0.mk hb1; clear ho1 hb1 hg1 ha1)
    | (go_at_call 8; (with_reducible refine (codec_Encode.calls_at A1 c1 awL _ (encL awL) 0 rfl HO1.out.2.2 HO1.out.2.1 awL_ok.1 (by decide) (HT.out.below HB1.out) D.out.1).mono ?_); rintro e w2 ⟨v2, rfl, hr2, hb2⟩; obtain ⟨A2, c2, rfl⟩ := Kd.R_slice hr2; have HO2 := Aside0.mk (Kd.R_reads' hr2); have HB2 := Aside0.mk (below_step HB1.out hb2); clear hr2 hb2)
    | (go_at_call 10; (with_reducible refine (codec_Decode.calls_at A2 c2 (encL awL) _ awL 0 rfl HO2.out.2.2 HO2.out.2.1 HOK.out (Nat.le_trans D.out.2.2 (by decide)) (HT.out.below HB2.out) D.out.2.1).mono ?_); rintro e w3 ⟨v3, rfl, hr3, hb3⟩; obtain ⟨A3, c3, rfl⟩ := Kd.R_slice hr3; obtain ⟨ad, rfl, y0, -⟩ := at_T26 (Kd.R_reads' hr3).2.2 1 (by decide) (by decide); have HB3 := Aside0.mk (below_step HB2.out hb3); have y1 : w3.cell? ⟨ad.block, ad.off + 2, none⟩ = some (.int .i64 3) := (by simpa [Addr.add, show (rd_T26 awL 1).f0 = 3 from rfl] using y0); clear y0 hr3 hb3))
  go_ret
  exact ⟨rfl, HB3.out⟩
/-- the first 60 samples, where they lie -/
theorem cut.calls (A : Option Addr) (c : Nat) (l : List S26) (w : World) (hc : l.length ≤ c) :
    Calls Tryd.prog 16 #[.slice A l.length c] w fun e w' => e = .returned (.slice A (l.take 60).length c) ∧ w' = w := by
  have hl : (min (l.length : Int) 60).toNat = min 60 l.length := by omega
  have hr : Ending.returned (.slice A (min (l.length : Int) 60).toNat c) = Ending.returned (.slice A (min 60 l.length) c) := by rw [hl]
  have HR := Aside0.mk hr
  have HR2 : Aside0 (Ending.returned (.slice A (min (l.length : Int) 60).toNat c) = Ending.returned (.slice A (l.take 60).length c)) := ⟨by rw [hl, List.length_take]⟩
  clear hl hr
  by_cases h : (60 : Int) < l.length
  · go_enter Tryd.func16, Tryd.ntmps16
    go_wp2
    go_ret
    first | exact ⟨HR.out, rfl⟩ | exact ⟨HR2.out, rfl⟩
  · go_enter Tryd.func16, Tryd.ntmps16
    go_wp2
    go_ret
    first | exact ⟨HR.out, rfl⟩ | exact ⟨HR2.out, rfl⟩
end Go.Proofs.YtpeekkpdglfbbaaDoor.PA
namespace Go.Proofs.YtpeekkpdglfbbaaDoor.PA
open Go.RowKit Go.Proofs.YtpeekkpdglfbbaaDoor.G Go.Proofs.YtpeekkpdglfbbaaDoorW.PrintWords Go.Proofs.YtpeekkpdglfbbaaDoorW.PrintLast Go.Proofs.YtpeekkpdglfbbaaDoorW.PrintMore
set_option linter.unusedVariables false
set_option linter.unusedSimpArgs false

theorem rd_app_lt (l : List S26) (y : S26) (i : Nat) (h : i < l.length) : rd_T26 (l ++ [y]) (i : Int) = rd_T26 l (i : Int) := by
  simp only [rd_T26, Int.toNat_natCast, List.getD_eq_getElem?_getD, List.getElem?_append_left h]
theorem rd_app_eq (l : List S26) (y : S26) : rd_T26 (l ++ [y]) (l.length : Int) = y := by
  simp [rd_T26, List.getD_eq_getElem?_getD]
theorem canS_iff (l : List S26) : canS l = true ↔ (∀ i, i + 1 < l.length → (rd_T26 l ((i : Nat) : Int)).f0 < (rd_T26 l ((i + 1 : Nat) : Int)).f0) ∧ l.length ≤ 65535 := by
  simp only [canS, Bool.and_eq_true, List.all_eq_true, List.mem_range, decide_eq_true_eq]
  exact ⟨fun h => ⟨fun i hi => h.1 i (by omega), h.2⟩, fun h => ⟨fun i hi => h.1 i (by omega), h.2⟩⟩
theorem canS_snoc (l : List S26) (y : S26) (h : canS l = true) (hy : ∀ j, l.length = j + 1 → (rd_T26 l (j : Int)).f0 < y.f0) (hl : l.length ≤ 60) : canS (l ++ [y]) = true := by
  rw [canS_iff] at h ⊢
  refine ⟨fun i hi => ?_, by simp; omega⟩
  rw [List.length_append, List.length_singleton] at hi
  rw [rd_app_lt l y i (by omega)]
  by_cases h1 : i + 1 < l.length
  · rw [rd_app_lt l y (i + 1) h1]
    exact h.1 i h1
  · have h2 : l.length = i + 1 := by omega
    rw [← h2, rd_app_eq]
    exact hy i h2
/-- what holds of the rows behind so many rounds -/
def risI (x : List S26) (k : Nat) (t : Int) : Prop := x.length = k ∧ (0 ≤ t ∧ t < 18446744073709551616) ∧ canS x = true ∧ (∀ s ∈ x, okS s) ∧ ∀ j, k = j + 1 → (rd_T26 x (j : Int)).f0 = wrap64 t
/-- the time behind a step -/
abbrev risT (x : S26) (t : Int) : Int := IntKind.u64.wrap (t + IntKind.u64.wrap ((IntKind.u64.wrap x.f0 / 2).tmod 1099511627776 + 1))
theorem ris_first {x5 : List S26} {t : Int} {x : S26} (h : risI x5 0 t) (hx : okS x) : risI (x5 ++ [⟨wrap64 t, x.f1⟩]) 1 t := by
  obtain ⟨h1, h2, h3, h4, h5⟩ := h
  obtain rfl := List.eq_nil_of_length_eq_zero h1
  refine ⟨rfl, h2, canS_snoc _ _ h3 (fun j hj => by cases hj) (by simp), fun s hs => ?_, fun j hj => ?_⟩
  · simp only [List.nil_append, List.mem_singleton] at hs
    subst hs
    exact ⟨wrap64_in _, hx.2⟩
  · obtain rfl : j = 0 := by omega
    rfl
theorem ris_step {x5 : List S26} {t : Int} {x : S26} {k : Nat} (h : risI x5 (k + 1) t) (hx : okS x) (hb : ¬ wrap64 (IntKind.u64.wrap (IntKind.u64.wrap (t + (IntKind.u64.wrap x.f0 / 2).tmod 1099511627776) + 1)) ≤ (rd_T26 x5 (k : Int)).f0) (hk : k + 1 ≤ 60) : risI (x5 ++ [⟨wrap64 (risT x t), x.f1⟩]) (k + 1 + 1) (risT x t) := by
  obtain ⟨h1, h2, h3, h4, h5⟩ := h
  have hq : 0 ≤ (IntKind.u64.wrap x.f0 / 2).tmod 1099511627776 ∧ (IntKind.u64.wrap x.f0 / 2).tmod 1099511627776 < 1099511627776 := by
    have := u64_wrap_range x.f0
    exact ⟨Int.tmod_nonneg _ (by omega), Int.tmod_lt_of_pos _ (by decide)⟩
  unfold risT
  generalize (IntKind.u64.wrap x.f0 / 2).tmod 1099511627776 = q at *
  have e : IntKind.u64.wrap (IntKind.u64.wrap (t + q) + 1) = IntKind.u64.wrap (t + IntKind.u64.wrap (q + 1)) := by
    rw [wrap_u64, wrap_u64, wrap_u64, wrap_u64]
    omega
  rw [e] at hb
  refine ⟨by simp [h1], u64_wrap_range _, canS_snoc _ _ h3 (fun j hj => ?_) (by omega), fun s hs => ?_, fun j hj => ?_⟩
  · obtain rfl : j = k := by omega
    show _ < wrap64 _
    omega
  · rcases List.mem_append.1 hs with hs | hs
    · exact h4 s hs
    · rw [List.mem_singleton] at hs
      subst hs
      exact ⟨wrap64_in _, hx.2⟩
  · have hj2 : j = x5.length := by omega
    subst hj2
    rw [rd_app_eq]
theorem cut_at (A : Option Addr) (c : Nat) (l L : List S26) (w : World) (hc : l.length ≤ c) (hL : l.take 60 = L) :
    Calls Tryd.prog 16 #[.slice A l.length c] w fun e w' => e = .returned (.slice A L.length c) ∧ w' = w := by
  subst hL
  exact cut.calls A c l w hc
set_option maxHeartbeats 4000000 in
set_option maxRecDepth 100000 in
theorem risen.calls (first : Int) (A : Option Addr) (c : Nat) (l : List S26) (w : World) (hr : Kd.C k26 w A l.length l) (hc : l.length ≤ c) (hw : ∀ x ∈ l, okS x) :
    Calls Tryd.prog 9 #[.int .i64 first, .slice A l.length c] w fun e w' => ∃ (v : Value) (r : List S26), e = .returned v ∧ Kd.R k26 26 w' w.heap.size (fun _ => True) v r ∧ canS r = true ∧ (∀ x ∈ r, okS x) ∧ r.length ≤ 60 ∧ Below w.heap.size w w' := by
  obtain ⟨L, hL⟩ : ∃ L, l.take 60 = L := ⟨_, rfl⟩
  have hl60 : L.length ≤ 60 := by rw [← hL, List.length_take]; omega
  have HRL : Aside0 (Kd.C k26 w A L.length L) := ⟨by rw [← hL]; have := Kd.C_take hr (show (l.take 60).length ≤ l.length by rw [List.length_take]; omega); rwa [show l.take (l.take 60).length = l.take 60 from by rw [List.length_take]; rcases Nat.le_total 60 l.length with h | h; rw [Nat.min_eq_left h]; rw [Nat.min_eq_right h, List.take_length, List.take_of_length_le h]] at this⟩
  have HW : Aside0 (∀ x ∈ L, okS x) := ⟨fun x hx => hw x (List.mem_of_mem_take (hL ▸ hx))⟩
  have HC := Aside0.mk hc
  have HLL := Aside0.mk hL
  have H60 := Aside0.mk hl60
  have HU := Aside0.mk (u64_wrap_range first)
  clear hr hw hc hL hl60
  go_enter Tryd.func9, Tryd.ntmps9
  go_wp2_with (first
    | ((with_reducible refine gate_dst (N := 10) rfl ?_); refine Kd.R_lit k26 (w0 := w) w.heap.size 26 ?hg (N := 10) ?hd (xs := ([] : List S26)) (inner := []) (ok := fun _ => True) (okp := fun _ => True) ?hr ?hp (fun _ hk => hk) trivial (Below.refl _ _) (Nat.le_refl _) (by decide) ?_; (case hd => rfl); (case hg => rfl); (case hr => first | (go_simp; done) | (go_simp; rfl)); (case hp => exact Reps.none _ _); intro v1 w1 ho1 hb1 hg1 ha1; obtain ⟨A1, c1, rfl⟩ := Kd.R_slice ho1; have HO1 := Aside0.mk ho1; have HB1 := Aside0.mk hb1; clear ho1 hb1 hg1 ha1)
    | (go_at_call 16; refine (cut_at A c l L _ HC.out HLL.out).mono ?_; rintro e wa ⟨rfl, hw⟩; rw [hw]; clear hw wa))
  go_loopw [5, 6, 16] (fun v5 v6 i wr => ∃ (k : Nat) (A5 : Option Addr) (c5 : Nat) (x5 : List S26) (t : Int), k ≤ L.length ∧ i = .int .i64 k ∧ v5 = .slice A5 k c5 ∧ v6 = .int .u64 t ∧ Aside0 (risI x5 k t) ∧ Aside0 (Kd.R k26 26 wr w.heap.size (fun _ => True) (.slice A5 k c5) x5) ∧ Aside0 (Below w.heap.size w wr)) (fun _ _ i _ => L.length - (intOf i).toNat)
  case atStart => exact ⟨0, A1, c1, [], _, Nat.zero_le _, rfl, rfl, rfl, ⟨⟨rfl, HU.out, by decide, fun s hs => absurd hs (by simp), fun j hj => by cases hj⟩⟩, HO1, HB1⟩
  case round =>
    obtain ⟨k, A5, c5, x5, t, hk, rfl, rfl, rfl, HI, HO, HB⟩ := hrel
    have hl60 : L.length ≤ 60 := H60.out
    by_cases hlt : k < L.length
    · have hC := Kd.C_below HRL.out HB.out
      obtain ⟨ad, rfl, h0, h1⟩ := at_T26 hC (k : Int) (by omega) (by omega)
      rw [Int.toNat_natCast] at h0 h1
      have HX := Aside0.mk (HW.out _ (rd_mem26 L k hlt))
      generalize rd_T26 L (k : Int) = x at h0 h1 HX
      clear hC
      cases k with
      | zero =>
        have h0' : wr.cell? ad = some (.int .i64 x.f0) := by simpa [Addr.add] using h0
        have h1' : wr.cell? ⟨ad.block, ad.off + 1, none⟩ = some (.int .u64 x.f1) := by simpa [Addr.add] using h1
        clear h0 h1
        have HOA := Aside0.mk (Kd.R_alloc HO.out (.cells #[.int .i64 x.f0, .int .u64 x.f1] 26))
        have HBA := Aside0.mk (below_alloc HB.out (.cells #[.int .i64 x.f0, .int .u64 x.f1] 26))
        go_wp2_with ((with_reducible refine gate_builtin (b := .append) (xs := #[.tmp 50, .tmp 56]) rfl ?_); at_builtin; refine Kd.R_append k26 (w0 := w) w.heap.size rfl (.tmp 50) (.tmp 56) 24 26 (.agg #[.int .i64 0, .int .u64 0]) 16 rfl Tryd.underlying24 info26 rfl (by decide) (by omega) _ x5 (⟨wrap64 t, x.f1⟩ : S26) [.int .i64 (wrap64 t), .int .u64 x.f1] (fun _ => True) (fun _ => False) rfl ?hx ?aP (fun _ hk => hk.elim) (fun _ _ => trivial) HOA.out HBA.out HBA.out.size ?aL ?_; (case hx => first | rfl | (go_simp; done) | (show Value.slice _ 1 1 = Value.slice _ 1 1; simp; done)); (case aP => exact k26_mkM _ _ _ (⟨wrap64 t, x.f1⟩ : S26)); (case aL => have := HI.out.1; omega); intro v9 w9 ho hb hg9 hat; obtain ⟨A9, c9, rfl⟩ := Kd.R_slice ho; have HO9 := Aside0.mk ho; have HB9 := Aside0.mk hb; clear ho hb hg9 hat)
        go_roundw
        case rel =>
          have hn : (x5 ++ [(⟨wrap64 t, x.f1⟩ : S26)]).length = 1 := by have := HI.out.1; simp [this]
          rw [hn] at HO9
          exact ⟨1, A9, c9, _, t, by omega, by go_num, by rw [HI.out.1], rfl, ⟨ris_first HI.out HX.out⟩, HO9, HB9⟩
        case measure => simp [intOf]; omega
      | succ k =>
        have hx5 : x5.length = k + 1 := HI.out.1
        obtain ⟨ad5, rfl, y0, y1⟩ := at_T26 (Kd.R_reads' HO.out).2.2 (k : Int) (by omega) (by omega)
        rw [Int.toNat_natCast] at y0 y1
        have y0' := cell_alloc_old (.cells #[.int .i64 x.f0, .int .u64 x.f1] 26) y0
        clear y0 y1
        rw [show ((k + 1 : Nat) : Int) = (k : Int) + 1 from by omega] at *
        have HX5 := Aside0.mk hx5
        clear hx5
        have HOA := Aside0.mk (Kd.R_alloc HO.out (.cells #[.int .i64 x.f0, .int .u64 x.f1] 26))
        have HBA := Aside0.mk (below_alloc HB.out (.cells #[.int .i64 x.f0, .int .u64 x.f1] 26))
        by_cases hbr : wrap64 (IntKind.u64.wrap (IntKind.u64.wrap (t + (IntKind.u64.wrap x.f0 / 2).tmod 1099511627776) + 1)) ≤ (rd_T26 x5 (k : Int)).f0
        · have hbd := decide_eq_true hbr
          clear hbr
          go_wp2
          go_ret
          exact ⟨_, x5, rfl, HOA.out, HI.out.2.2.1, HI.out.2.2.2.1, by have := HX5.out; omega, HBA.out⟩
        · have hbd := decide_eq_false hbr
          have HBR := Aside0.mk hbr
          clear hbr
          go_wp2_with ((with_reducible refine gate_builtin (b := .append) (xs := #[.tmp 50, .tmp 56]) rfl ?_); at_builtin; refine Kd.R_append k26 (w0 := w) w.heap.size rfl (.tmp 50) (.tmp 56) 24 26 (.agg #[.int .i64 0, .int .u64 0]) 16 rfl Tryd.underlying24 info26 rfl (by decide) (by omega) _ x5 (⟨wrap64 (risT x t), x.f1⟩ : S26) [.int .i64 (wrap64 (risT x t)), .int .u64 x.f1] (fun _ => True) (fun _ => False) rfl ?hx ?aP (fun _ hk => hk.elim) (fun _ _ => trivial) HOA.out HBA.out HBA.out.size ?aL ?_; (case hx => first | rfl | (go_simp; done) | (show Value.slice _ 1 1 = Value.slice _ 1 1; simp; done)); (case aP => exact k26_mkM _ _ _ (⟨wrap64 (risT x t), x.f1⟩ : S26)); (case aL => have := HI.out.1; omega); intro v9 w9 ho hb hg9 hat; obtain ⟨A9, c9, rfl⟩ := Kd.R_slice ho; have HO9 := Aside0.mk ho; have HB9 := Aside0.mk hb; clear ho hb hg9 hat)
          go_roundw
          case rel =>
            have hn : (x5 ++ [(⟨wrap64 (risT x t), x.f1⟩ : S26)]).length = k + 1 + 1 := by have := HI.out.1; simp [this]
            rw [hn] at HO9
            exact ⟨k + 1 + 1, A9, c9, _, _, by omega, by go_num, by rw [HI.out.1], rfl, ⟨ris_step HI.out HX.out HBR.out (by omega)⟩, HO9, HB9⟩
          case measure => simp [intOf]; omega
    · obtain rfl : k = L.length := by omega
      go_wp2
      go_ret
      exact ⟨_, x5, rfl, HO.out, HI.out.2.2.1, HI.out.2.2.2.1, by have := HI.out.1; omega, HB.out⟩
end Go.Proofs.YtpeekkpdglfbbaaDoor.PA
-- written by wip/gprint.py of this session (it runs the print of the guide's kit over contracts of the session)
namespace Go.Proofs.YtpeekkpdglfbbaaDoor.PA
open Go.RowKit Go.Proofs.YtpeekkpdglfbbaaDoorW.PrintWords Go.Proofs.YtpeekkpdglfbbaaDoorW.PrintLast Go.Proofs.YtpeekkpdglfbbaaDoorW.PrintMore
attribute [local go_sem] max2_int min2_int max_two min_two max_three min_three max_four min_four   -- for this text's walks alone
set_option linter.unusedVariables false
set_option linter.unusedSimpArgs false

theorem eqA26 (d : Nat) (w : World) (x0 y0 : Int) (x1 y1 : Int) :
    (Op.equalIn (d + 2) 26 (.agg #[.int .i64 x0, .int .u64 x1]) (.agg #[.int .i64 y0, .int .u64 y1])).run Tryd.prog w = .ok (x0 == y0 && (x1 == y1)) w := by
  refine eqA_of Tryd.underlying26 (by kernel_rfl) ?_
  refine eqf_cons (by rfl) (by go_simp; rfl) (by go_simp; rfl) (by go_simp) ?_
  exact eqf_last (by rfl) (by go_simp; rfl) (by go_simp; rfl) (by go_simp)
end Go.Proofs.YtpeekkpdglfbbaaDoor.PA
-- written by wip/gprint.py of this session (it runs the print of the guide's kit over contracts of the session)
namespace Go.Proofs.YtpeekkpdglfbbaaDoor.PA
open Go.RowKit Go.Proofs.YtpeekkpdglfbbaaDoorW.PrintWords Go.Proofs.YtpeekkpdglfbbaaDoorW.PrintLast Go.Proofs.YtpeekkpdglfbbaaDoorW.PrintMore
attribute [local go_sem] max2_int min2_int max_two min_two max_three min_three max_four min_four   -- for this text's walks alone
set_option linter.unusedVariables false
set_option linter.unusedSimpArgs false

attribute [local go_sem high] eqA26
/-! ### api_Sample_11: function 11 -/
def api_Sample_11.l0 : Nat → List (S26) → List (S26) → Int → Int → Option (Bool)
  | 0, _, _, _, _ => none
  | k + 1, x0, x1, x12, x13 => if x13 < x12 then (if 0 ≤ x13 then (if x13 < (x0.length : Int) then (if x13 < (x1.length : Int) then (if (!(((rd_T26 x0 x13).f0) == ((rd_T26 x1 x13).f0)) || (!(((rd_T26 x0 x13).f1) == ((rd_T26 x1 x13).f1)))) = true then (some false) else (api_Sample_11.l0 k x0 x1 x12 (wrap64 (x13 + 1)))) else (none)) else (none)) else (none)) else (some true)
def api_Sample_11.f (k : Nat) (l0 : List (S26)) (l1 : List (S26)) : Option (Bool) := if (l0.length : Int) = (l1.length : Int) then (api_Sample_11.l0 k l0 l1 (l0.length : Int) 0) else (some false)
theorem api_Sample_11.mono_l : ∀ k, (∀ y0 y1 y2 y3, LeO (api_Sample_11.l0 k y0 y1 y2 y3) (api_Sample_11.l0 (k + 1) y0 y1 y2 y3))
  | 0 => fun _ _ _ _ r h => by simp [api_Sample_11.l0] at h
  | k + 1 => by
    have ih0 := api_Sample_11.mono_l k
    · intro y0 y1 y2 y3
      unfold api_Sample_11.l0
      repeat' first
      | (with_reducible exact ih0 _ _ _ _)
      | (with_reducible exact LeO.refl _)
      | (with_reducible exact LeO.none _)
      | (with_reducible refine LeO.ite ?_ ?_)
      | (with_reducible refine LeO.bind ?_ (fun _ => ?_))
      | exact ih0 _ _ _ _
      | exact LeO.none _
      | refine LeO.ite ?_ ?_
      | refine LeO.bind ?_ (fun _ => ?_)
theorem api_Sample_11.mono : ∀ a0 a1 k, LeO (api_Sample_11.f k a0 a1) (api_Sample_11.f (k + 1) a0 a1) := by
  intro a0 a1 k
  have ih0 := api_Sample_11.mono_l k
  unfold api_Sample_11.f
  repeat' first
      | (with_reducible exact ih0 _ _ _ _)
      | (with_reducible exact LeO.refl _)
      | (with_reducible exact LeO.none _)
      | (with_reducible refine LeO.ite ?_ ?_)
      | (with_reducible refine LeO.bind ?_ (fun _ => ?_))
      | exact ih0 _ _ _ _
      | exact LeO.none _
      | refine LeO.ite ?_ ?_
      | refine LeO.bind ?_ (fun _ => ?_)
set_option maxHeartbeats 8000000 in
set_option maxRecDepth 100000 in
theorem api_Sample_11.calls (k : Nat) (A0 : Option Addr) (c0 : Nat) (l0 : List (S26)) (A1 : Option Addr) (c1 : Nat) (l1 : List (S26)) (r : Bool) (w : World) (hr0 : Kd.C k26 w A0 l0.length l0) (hc0 : l0.length ≤ c0) (hr1 : Kd.C k26 w A1 l1.length l1) (hc1 : l1.length ≤ c1) (h : api_Sample_11.f k l0 l1 = some r) :
    Calls Tryd.prog 11 #[.slice A0 l0.length c0, .slice A1 l1.length c1] w fun e w' => e = .returned (.bool r) ∧ Drawn0 w w' := by
  have hu26 := Tryd.underlying26
  have HR0 := Aside0.mk hr0
  have HC0 := Aside0.mk hc0
  clear hr0 hc0
  have HR1 := Aside0.mk hr1
  have HC1 := Aside0.mk hc1
  clear hr1 hc1
  have H : (if (l0.length : Int) = (l1.length : Int) then (api_Sample_11.l0 k l0 l1 (l0.length : Int) 0) else (some false)) = some r := h
  clear h
  by_cases c3 : (l0.length : Int) = (l1.length : Int)
  · rw [if_pos c3] at H
    have c3b0 : ((l0.length : Int) == (l1.length : Int)) = true := beq_iff_eq.mpr c3
    have c3b1 : ((l0.length : Int) != (l1.length : Int)) = false := bne_eq_false_iff_eq.mpr c3
    have c3b2 : (l0.length == l1.length) = true := by first | simpa using c3 | (simp at c3 ⊢; omega)
    clear c3
    have H' := Aside0.mk H
    clear H
    go_enter Tryd.func11, Tryd.ntmps11
    go_wp2
    repeat (go_quiet (fail); try go_wp2)
    go_loopg [13] k (fun kq v13 w' => ∃ (x13_1 : Int), v13 = .int .i64 x13_1 ∧ Aside0 (api_Sample_11.l0 kq l0 l1 (l0.length : Int) x13_1 = some r) ∧ Aside0 (kq ≤ k) ∧ Drawn0 w w')
    case atStart => exact ⟨(0), (by first | rfl | (simp; done) | (simp [*]; done)), H', ⟨Nat.le_refl _⟩, by repeat (first | exact Drawn0.refl _ | apply Drawn0.step)⟩
    case round =>
      clear H'
      try clear c1
      try clear p2
      try clear c3
      try clear c3b0
      try clear c3b1
      try clear c3b2
      obtain ⟨x13_1, rfl, HA, HK1, ⟨m1, rfl⟩⟩ := hrel
      cases gk with
      | zero => exact absurd HA.out (by simp [api_Sample_11.l0])
      | succ k1 =>
        have H := HA.out
        clear HA
        simp only [api_Sample_11.l0] at H
        by_cases c4 : x13_1 < (l0.length : Int)
        · rw [if_pos c4] at H
          have c4b0 : decide (x13_1 < (l0.length : Int)) = true := decide_eq_true c4
          clear c4
          by_cases c5 : 0 ≤ x13_1
          · rw [if_pos c5] at H
            have c5b0 : decide (0 ≤ x13_1) = true := decide_eq_true c5
            clear c5
            by_cases c6 : x13_1 < (l0.length : Int)
            · rw [if_pos c6] at H
              have c6b0 : decide (x13_1 < (l0.length : Int)) = true := decide_eq_true c6
              clear c6
              by_cases c7 : x13_1 < (l1.length : Int)
              · rw [if_pos c7] at H
                have c7b0 : decide (x13_1 < (l1.length : Int)) = true := decide_eq_true c7
                clear c7
                by_cases c8 : (!(((rd_T26 l0 x13_1).f0) == ((rd_T26 l1 x13_1).f0)) || (!(((rd_T26 l0 x13_1).f1) == ((rd_T26 l1 x13_1).f1)))) = true
                · rw [if_pos c8] at H
                  have c8b0 : (!(((rd_T26 l0 x13_1).f0) == ((rd_T26 l1 x13_1).f0)) || (!(((rd_T26 l0 x13_1).f1) == ((rd_T26 l1 x13_1).f1)))) = true := c8
                  clear c8
                  obtain rfl := Option.some.inj H
                  have p175 : 0 ≤ (x13_1 : Int) := of_decide_eq_true (by first | (with_reducible assumption) | assumption)
                  have q175 : x13_1 < (l0.length : Int) := of_decide_eq_true (by first | (with_reducible assumption) | assumption)
                  obtain ⟨ad175, e175, hx175_0, hx175_1⟩ := at_T26 HR0.out x13_1 p175 q175
                  cases e175
                  replace p175 := eq_true p175
                  replace q175 := eq_true q175
                  have p176 : 0 ≤ (x13_1 : Int) := of_decide_eq_true (by first | (with_reducible assumption) | assumption)
                  have q176 : x13_1 < (l1.length : Int) := of_decide_eq_true (by first | (with_reducible assumption) | assumption)
                  obtain ⟨ad176, e176, hx176_0, hx176_1⟩ := at_T26 HR1.out x13_1 p176 q176
                  cases e176
                  replace p176 := eq_true p176
                  replace q176 := eq_true q176
                  go_wp2
                  repeat (go_quiet (fail); try go_wp2)
                  go_ret
                  exact ⟨by first | rfl | (simp; done) | (simp [*]; done) | (simp; decide +kernel), by repeat (first | exact Drawn0.refl _ | apply Drawn0.step)⟩
                · rw [if_neg c8] at H
                  have c8b0 : (!(((rd_T26 l0 x13_1).f0) == ((rd_T26 l1 x13_1).f0)) || (!(((rd_T26 l0 x13_1).f1) == ((rd_T26 l1 x13_1).f1)))) = false := by simpa using c8
                  clear c8
                  have H' := Aside0.mk H
                  clear H
                  have p175 : 0 ≤ (x13_1 : Int) := of_decide_eq_true (by first | (with_reducible assumption) | assumption)
                  have q175 : x13_1 < (l0.length : Int) := of_decide_eq_true (by first | (with_reducible assumption) | assumption)
                  obtain ⟨ad175, e175, hx175_0, hx175_1⟩ := at_T26 HR0.out x13_1 p175 q175
                  cases e175
                  replace p175 := eq_true p175
                  replace q175 := eq_true q175
                  have p176 : 0 ≤ (x13_1 : Int) := of_decide_eq_true (by first | (with_reducible assumption) | assumption)
                  have q176 : x13_1 < (l1.length : Int) := of_decide_eq_true (by first | (with_reducible assumption) | assumption)
                  obtain ⟨ad176, e176, hx176_0, hx176_1⟩ := at_T26 HR1.out x13_1 p176 q176
                  cases e176
                  replace p176 := eq_true p176
                  replace q176 := eq_true q176
                  go_wp2
                  repeat (go_quiet (fail); try go_wp2)
                  go_roundg k1
                  case measure => have := HK1.out; omega
                  case rel => exact ⟨(wrap64 (x13_1 + 1)), (by first | rfl | (simp; done) | (simp [*]; done)), H', ⟨by have := HK1.out; omega⟩, by repeat (first | exact Drawn0.refl _ | apply Drawn0.step)⟩
              · rw [if_neg c7] at H
                exact absurd H (by simp)
            · rw [if_neg c6] at H
              exact absurd H (by simp)
          · rw [if_neg c5] at H
            exact absurd H (by simp)
        · rw [if_neg c4] at H
          have c4b0 : decide (x13_1 < (l0.length : Int)) = false := decide_eq_false c4
          clear c4
          obtain rfl := Option.some.inj H
          go_wp2
          repeat (go_quiet (fail); try go_wp2)
          go_ret
          exact ⟨by first | rfl | (simp; done) | (simp [*]; done) | (simp; decide +kernel), by repeat (first | exact Drawn0.refl _ | apply Drawn0.step)⟩
  · rw [if_neg c3] at H
    have c3b0 : ((l0.length : Int) == (l1.length : Int)) = false := beq_eq_false_iff_ne.mpr c3
    have c3b1 : ((l0.length : Int) != (l1.length : Int)) = true := bne_iff_ne.mpr c3
    have c3b2 : (l0.length == l1.length) = false := by first | simpa using c3 | (simp at c3 ⊢; omega)
    obtain rfl := Option.some.inj H
    go_enter Tryd.func11, Tryd.ntmps11
    go_wp2
    repeat (go_quiet (fail); try go_wp2)
    go_ret
    exact ⟨by first | rfl | (simp; done) | (simp [*]; done) | (simp; decide +kernel), by repeat (first | exact Drawn0.refl _ | apply Drawn0.step)⟩

end Go.Proofs.YtpeekkpdglfbbaaDoor.PA
-- written by wip/gprint.py of this session (it runs the print of the guide's kit over contracts of the session)
namespace Go.Proofs.YtpeekkpdglfbbaaDoor.PA
open Go.RowKit Go.Proofs.YtpeekkpdglfbbaaDoorW.PrintWords Go.Proofs.YtpeekkpdglfbbaaDoorW.PrintLast Go.Proofs.YtpeekkpdglfbbaaDoorW.PrintMore
attribute [local go_sem] max2_int min2_int max_two min_two max_three min_three max_four min_four   -- for this text's walks alone
set_option linter.unusedVariables false
set_option linter.unusedSimpArgs false

/-! ### slices_Equal_byte_byte: function 14 -/
def slices_Equal_byte_byte.l0 : Nat → List Int → List Int → Int → Int → Option (Bool)
  | 0, _, _, _, _ => none
  | k + 1, x0, x1, x12, x13 => if x13 < x12 then (if 0 ≤ x13 then (if x13 < (x0.length : Int) then (if x13 < (x1.length : Int) then (if (rd x0 x13) = (rd x1 x13) then (slices_Equal_byte_byte.l0 k x0 x1 x12 (wrap64 (x13 + 1))) else (some false)) else (none)) else (none)) else (none)) else (some true)
def slices_Equal_byte_byte.f (k : Nat) (l0 : List Int) (l1 : List Int) : Option (Bool) := if (l0.length : Int) = (l1.length : Int) then (slices_Equal_byte_byte.l0 k l0 l1 (l0.length : Int) 0) else (some false)
theorem slices_Equal_byte_byte.mono_l : ∀ k, (∀ y0 y1 y2 y3, LeO (slices_Equal_byte_byte.l0 k y0 y1 y2 y3) (slices_Equal_byte_byte.l0 (k + 1) y0 y1 y2 y3))
  | 0 => fun _ _ _ _ r h => by simp [slices_Equal_byte_byte.l0] at h
  | k + 1 => by
    have ih0 := slices_Equal_byte_byte.mono_l k
    · intro y0 y1 y2 y3
      unfold slices_Equal_byte_byte.l0
      repeat' first
      | (with_reducible exact ih0 _ _ _ _)
      | (with_reducible exact LeO.refl _)
      | (with_reducible exact LeO.none _)
      | (with_reducible refine LeO.ite ?_ ?_)
      | (with_reducible refine LeO.bind ?_ (fun _ => ?_))
      | exact ih0 _ _ _ _
      | exact LeO.none _
      | refine LeO.ite ?_ ?_
      | refine LeO.bind ?_ (fun _ => ?_)
theorem slices_Equal_byte_byte.mono : ∀ a0 a1 k, LeO (slices_Equal_byte_byte.f k a0 a1) (slices_Equal_byte_byte.f (k + 1) a0 a1) := by
  intro a0 a1 k
  have ih0 := slices_Equal_byte_byte.mono_l k
  unfold slices_Equal_byte_byte.f
  repeat' first
      | (with_reducible exact ih0 _ _ _ _)
      | (with_reducible exact LeO.refl _)
      | (with_reducible exact LeO.none _)
      | (with_reducible refine LeO.ite ?_ ?_)
      | (with_reducible refine LeO.bind ?_ (fun _ => ?_))
      | exact ih0 _ _ _ _
      | exact LeO.none _
      | refine LeO.ite ?_ ?_
      | refine LeO.bind ?_ (fun _ => ?_)
set_option maxHeartbeats 8000000 in
set_option maxRecDepth 100000 in
theorem slices_Equal_byte_byte.calls (k : Nat) (A0 : Option Addr) (c0 : Nat) (l0 : List Int) (A1 : Option Addr) (c1 : Nat) (l1 : List Int) (r : Bool) (w : World) (hr0 : Kd.C (Kd.int .u8) w A0 l0.length l0) (hc0 : l0.length ≤ c0) (hr1 : Kd.C (Kd.int .u8) w A1 l1.length l1) (hc1 : l1.length ≤ c1) (h : slices_Equal_byte_byte.f k l0 l1 = some r) :
    Calls Tryd.prog 14 #[.slice A0 l0.length c0, .slice A1 l1.length c1] w fun e w' => e = .returned (.bool r) ∧ Drawn0 w w' := by
  have HR0 := Aside0.mk hr0
  have HC0 := Aside0.mk hc0
  clear hr0 hc0
  have HR1 := Aside0.mk hr1
  have HC1 := Aside0.mk hc1
  clear hr1 hc1
  have H : (if (l0.length : Int) = (l1.length : Int) then (slices_Equal_byte_byte.l0 k l0 l1 (l0.length : Int) 0) else (some false)) = some r := h
  clear h
  by_cases c3 : (l0.length : Int) = (l1.length : Int)
  · rw [if_pos c3] at H
    have c3b0 : ((l0.length : Int) == (l1.length : Int)) = true := beq_iff_eq.mpr c3
    have c3b1 : ((l0.length : Int) != (l1.length : Int)) = false := bne_eq_false_iff_eq.mpr c3
    have c3b2 : (l0.length == l1.length) = true := by first | simpa using c3 | (simp at c3 ⊢; omega)
    clear c3
    have H' := Aside0.mk H
    clear H
    go_enter Tryd.func14, Tryd.ntmps14
    go_wp2
    repeat (go_quiet (fail); try go_wp2)
    go_loopg [13] k (fun kq v13 w' => ∃ (x13_1 : Int), v13 = .int .i64 x13_1 ∧ Aside0 (slices_Equal_byte_byte.l0 kq l0 l1 (l0.length : Int) x13_1 = some r) ∧ Aside0 (kq ≤ k) ∧ Drawn0 w w')
    case atStart => exact ⟨(0), (by first | rfl | (simp; done) | (simp [*]; done)), H', ⟨Nat.le_refl _⟩, by repeat (first | exact Drawn0.refl _ | apply Drawn0.step)⟩
    case round =>
      clear H'
      try clear c1
      try clear p2
      try clear c3
      try clear c3b0
      try clear c3b1
      try clear c3b2
      obtain ⟨x13_1, rfl, HA, HK1, ⟨m1, rfl⟩⟩ := hrel
      cases gk with
      | zero => exact absurd HA.out (by simp [slices_Equal_byte_byte.l0])
      | succ k1 =>
        have H := HA.out
        clear HA
        simp only [slices_Equal_byte_byte.l0] at H
        by_cases c4 : x13_1 < (l0.length : Int)
        · rw [if_pos c4] at H
          have c4b0 : decide (x13_1 < (l0.length : Int)) = true := decide_eq_true c4
          clear c4
          by_cases c5 : 0 ≤ x13_1
          · rw [if_pos c5] at H
            have c5b0 : decide (0 ≤ x13_1) = true := decide_eq_true c5
            clear c5
            by_cases c6 : x13_1 < (l0.length : Int)
            · rw [if_pos c6] at H
              have c6b0 : decide (x13_1 < (l0.length : Int)) = true := decide_eq_true c6
              clear c6
              by_cases c7 : x13_1 < (l1.length : Int)
              · rw [if_pos c7] at H
                have c7b0 : decide (x13_1 < (l1.length : Int)) = true := decide_eq_true c7
                clear c7
                by_cases c8 : (rd l0 x13_1) = (rd l1 x13_1)
                · rw [if_pos c8] at H
                  have c8b0 : ((rd l0 x13_1) == (rd l1 x13_1)) = true := beq_iff_eq.mpr c8
                  have c8b1 : ((rd l0 x13_1) != (rd l1 x13_1)) = false := bne_eq_false_iff_eq.mpr c8
                  clear c8
                  have H' := Aside0.mk H
                  clear H
                  have p226 : 0 ≤ (x13_1 : Int) := of_decide_eq_true (by first | (with_reducible assumption) | assumption)
                  have q226 : x13_1 < (l0.length : Int) := of_decide_eq_true (by first | (with_reducible assumption) | assumption)
                  obtain ⟨ad226, e226, hx226_0⟩ := Kd.at_int HR0.out x13_1 p226 q226
                  cases e226
                  replace p226 := eq_true p226
                  replace q226 := eq_true q226
                  have p227 : 0 ≤ (x13_1 : Int) := of_decide_eq_true (by first | (with_reducible assumption) | assumption)
                  have q227 : x13_1 < (l1.length : Int) := of_decide_eq_true (by first | (with_reducible assumption) | assumption)
                  obtain ⟨ad227, e227, hx227_0⟩ := Kd.at_int HR1.out x13_1 p227 q227
                  cases e227
                  replace p227 := eq_true p227
                  replace q227 := eq_true q227
                  go_wp2
                  repeat (go_quiet (fail); try go_wp2)
                  go_roundg k1
                  case measure => have := HK1.out; omega
                  case rel => exact ⟨(wrap64 (x13_1 + 1)), (by first | rfl | (simp; done) | (simp [*]; done)), H', ⟨by have := HK1.out; omega⟩, by repeat (first | exact Drawn0.refl _ | apply Drawn0.step)⟩
                · rw [if_neg c8] at H
                  have c8b0 : ((rd l0 x13_1) == (rd l1 x13_1)) = false := beq_eq_false_iff_ne.mpr c8
                  have c8b1 : ((rd l0 x13_1) != (rd l1 x13_1)) = true := bne_iff_ne.mpr c8
                  obtain rfl := Option.some.inj H
                  have p226 : 0 ≤ (x13_1 : Int) := of_decide_eq_true (by first | (with_reducible assumption) | assumption)
                  have q226 : x13_1 < (l0.length : Int) := of_decide_eq_true (by first | (with_reducible assumption) | assumption)
                  obtain ⟨ad226, e226, hx226_0⟩ := Kd.at_int HR0.out x13_1 p226 q226
                  cases e226
                  replace p226 := eq_true p226
                  replace q226 := eq_true q226
                  have p227 : 0 ≤ (x13_1 : Int) := of_decide_eq_true (by first | (with_reducible assumption) | assumption)
                  have q227 : x13_1 < (l1.length : Int) := of_decide_eq_true (by first | (with_reducible assumption) | assumption)
                  obtain ⟨ad227, e227, hx227_0⟩ := Kd.at_int HR1.out x13_1 p227 q227
                  cases e227
                  replace p227 := eq_true p227
                  replace q227 := eq_true q227
                  go_wp2
                  repeat (go_quiet (fail); try go_wp2)
                  go_ret
                  exact ⟨by first | rfl | (simp; done) | (simp [*]; done) | (simp; decide +kernel), by repeat (first | exact Drawn0.refl _ | apply Drawn0.step)⟩
              · rw [if_neg c7] at H
                exact absurd H (by simp)
            · rw [if_neg c6] at H
              exact absurd H (by simp)
          · rw [if_neg c5] at H
            exact absurd H (by simp)
        · rw [if_neg c4] at H
          have c4b0 : decide (x13_1 < (l0.length : Int)) = false := decide_eq_false c4
          clear c4
          obtain rfl := Option.some.inj H
          go_wp2
          repeat (go_quiet (fail); try go_wp2)
          go_ret
          exact ⟨by first | rfl | (simp; done) | (simp [*]; done) | (simp; decide +kernel), by repeat (first | exact Drawn0.refl _ | apply Drawn0.step)⟩
  · rw [if_neg c3] at H
    have c3b0 : ((l0.length : Int) == (l1.length : Int)) = false := beq_eq_false_iff_ne.mpr c3
    have c3b1 : ((l0.length : Int) != (l1.length : Int)) = true := bne_iff_ne.mpr c3
    have c3b2 : (l0.length == l1.length) = false := by first | simpa using c3 | (simp at c3 ⊢; omega)
    obtain rfl := Option.some.inj H
    go_enter Tryd.func14, Tryd.ntmps14
    go_wp2
    repeat (go_quiet (fail); try go_wp2)
    go_ret
    exact ⟨by first | rfl | (simp; done) | (simp [*]; done) | (simp; decide +kernel), by repeat (first | exact Drawn0.refl _ | apply Drawn0.step)⟩

end Go.Proofs.YtpeekkpdglfbbaaDoor.PA
namespace Go.Proofs.YtpeekkpdglfbbaaDoor.PA
open Go.RowKit Go.Proofs.YtpeekkpdglfbbaaDoor.G Go.Proofs.YtpeekkpdglfbbaaDoorW.PrintWords Go.Proofs.YtpeekkpdglfbbaaDoorW.PrintLast Go.Proofs.YtpeekkpdglfbbaaDoorW.PrintMore
set_option linter.unusedVariables false
set_option linter.unusedSimpArgs false

theorem eqS_go (l : List S26) (hl : l.length ≤ 1000000) : ∀ d i, i + d = l.length → ∀ k, d < k → api_Sample_11.l0 k l l (l.length : Int) (i : Int) = some true
  | 0, i, h, k + 1, hk => by
    unfold api_Sample_11.l0
    rw [if_neg (by omega)]
  | d + 1, i, h, k + 1, hk => by
    unfold api_Sample_11.l0
    have e : wrap64 ((i : Int) + 1) = ((i + 1 : Nat) : Int) := by rw [w64 (by omega) (by omega)]; omega
    rw [if_pos (by omega), if_pos (by omega), if_pos (by omega), if_pos (by omega), if_neg (by simp), e]
    exact eqS_go l hl d (i + 1) (by omega) k (by omega)
theorem eqB_go (l : List Int) (hl : l.length ≤ 1000000) : ∀ d i, i + d = l.length → ∀ k, d < k → slices_Equal_byte_byte.l0 k l l (l.length : Int) (i : Int) = some true
  | 0, i, h, k + 1, hk => by
    unfold slices_Equal_byte_byte.l0
    rw [if_neg (by omega)]
  | d + 1, i, h, k + 1, hk => by
    unfold slices_Equal_byte_byte.l0
    have e : wrap64 ((i : Int) + 1) = ((i + 1 : Nat) : Int) := by rw [w64 (by omega) (by omega)]; omega
    rw [if_pos (by omega), if_pos (by omega), if_pos (by omega), if_pos (by omega), if_pos rfl, e]
    exact eqB_go l hl d (i + 1) (by omega) k (by omega)
theorem EqualS (A0 : Option Addr) (c0 : Nat) (A1 : Option Addr) (c1 : Nat) (l : List S26) (w : World) (hr0 : Kd.C k26 w A0 l.length l) (hc0 : l.length ≤ c0) (hr1 : Kd.C k26 w A1 l.length l) (hc1 : l.length ≤ c1) (hl : l.length ≤ 1000000) :
    Calls Tryd.prog 11 #[.slice A0 l.length c0, .slice A1 l.length c1] w fun e w' => e = .returned (.bool true) ∧ Below w.heap.size w w' :=
  (api_Sample_11.calls (l.length + 1) A0 c0 l A1 c1 l true w hr0 hc0 hr1 hc1 (by
    unfold api_Sample_11.f
    rw [if_pos rfl]
    exact eqS_go l hl l.length 0 (by omega) _ (by omega))).mono fun e w' ⟨he, hd⟩ => ⟨he, hd.below⟩
theorem EqualB (A0 : Option Addr) (c0 : Nat) (A1 : Option Addr) (c1 : Nat) (l : List Int) (w : World) (hr0 : Kd.C (Kd.int .u8) w A0 l.length l) (hc0 : l.length ≤ c0) (hr1 : Kd.C (Kd.int .u8) w A1 l.length l) (hc1 : l.length ≤ c1) (hl : l.length ≤ 1000000) :
    Calls Tryd.prog 14 #[.slice A0 l.length c0, .slice A1 l.length c1] w fun e w' => e = .returned (.bool true) ∧ Below w.heap.size w w' :=
  (slices_Equal_byte_byte.calls (l.length + 1) A0 c0 l A1 c1 l true w hr0 hc0 hr1 hc1 (by
    unfold slices_Equal_byte_byte.f
    rw [if_pos rfl]
    exact eqB_go l hl l.length 0 (by omega) _ (by omega))).mono fun e w' ⟨he, hd⟩ => ⟨he, hd.below⟩
end Go.Proofs.YtpeekkpdglfbbaaDoor.PA
namespace Go.Proofs.YtpeekkpdglfbbaaDoor.G
open Go.ChangeShapes Go.WideShapes Go.Deep Go.RowKit Go.Proofs.YtpeekkpdglfbbaaDoor.PA Go.Proofs.YtpeekkpdglfbbaaDoorW.PrintWords
set_option linter.unusedVariables false
section
variable {H : Type} {enc : TypeId × Value → H} {P : Program} {w : World} {base : Nat} {spare : Nat → Bool} {held : Bool}
theorem open_slice_fields {t e : TypeId} {fs : Array Field} {fuel : Nat} {cs : List Value} {x : DataW H × List MemPlace} (ht : P.underlying t = some (.slice e)) (he : P.underlying e = some (.struct fs))
    (hone : oneCellFields P fs = true) (hC : P.cellsOf e = fs.size) (h : DataW.trod enc P w base spare held fuel t cs = some x) :
    (cs = [.slice none 0 0] ∧ x = (.nil, [])) ∨
    ∃ (a : Addr) (len cap m : Nat) (D : Nat → DataW H) (Pl : Nat → List MemPlace), cs = [.slice (some a) len cap] ∧ base ≤ a.block ∧ len ≤ cap ∧ cap ≤ maxLen ∧ m = (if spare a.block then cap else len) ∧
      x = (.slice ((List.range len).map D) ((List.range (m - len)).map fun j => D (len + j)), MemPlace.row a (m * fs.size) ++ (List.range m).flatMap Pl) ∧
      ∀ i, i < m → ∃ (ys : List (DataW H × List MemPlace)) (n : Nat), D i = .agg (ys.map (·.1)) ∧ Pl i = ys.flatMap (·.2) ∧ ys.length = fs.size ∧
        ∀ (j : Nat) (f : Field), fs[j]? = some f → ∃ (v : Value) (y : DataW H × List MemPlace), w.cell? (a.add (i * fs.size + j)) = some v ∧ ys[j]? = some y ∧ DataW.trod enc P w base spare held n f.type [v] = some y := by
  rcases open_slice ht h with h0 | ⟨a, len, cap, m, n, D, Pl, hcs, hb, hl, hm, hmm, hx, hi⟩
  · exact .inl h0
  · refine .inr ⟨a, len, cap, m, D, Pl, hcs, hb, hl, hm, hmm, by rw [hC] at hx; exact hx, fun i him => ?_⟩
    obtain ⟨cs', hc, ht'⟩ := hi i him
    rw [hC] at hc
    obtain ⟨ys, n', hn', hy, hlen, hyl, hf⟩ := DataW.trod_struct he ht'
    obtain ⟨_, hcl, hat⟩ := World.cells?_some hc
    simp only [Prod.mk.injEq] at hy
    refine ⟨ys, n', hy.1, hy.2, hyl, fun j f hj => ?_⟩
    obtain ⟨ho, hk⟩ := hone_of hone j f hj
    have hjl : j < fs.size := (Array.getElem?_eq_some_iff.1 hj).1
    have hcell := hat j hjl
    have hv : cs'[j]? = some (cs'[j]'(by omega)) := List.getElem?_eq_getElem (by omega)
    have h1 := hf j f hj
    rw [ho, hk] at h1
    have hone' : (cs'.drop j).take 1 = [cs'[j]'(by omega)] := by
      rw [List.drop_eq_getElem_cons (by omega)]
      rfl
    rw [hone'] at h1
    have hys : ys[j]? = some (ys[j]'(by omega)) := List.getElem?_eq_getElem (by omega)
    refine ⟨_, _, ?_, hys, h1.trans hys⟩
    rw [← Go.Deep.add_add, hcell, hv]
end
section
variable {H : Type} {enc : TypeId × Value → H} {w : World}
theorem choose_list {α : Type} (Q : Nat → α → Prop) : ∀ n, (∀ i, i < n → ∃ x, Q i x) → ∃ l : List α, l.length = n ∧ ∀ i x, l[i]? = some x → Q i x
  | 0, _ => ⟨[], rfl, fun i x h => by simp at h⟩
  | n + 1, h => by
    obtain ⟨l, hl, hq⟩ := choose_list Q n (fun i hi => h i (by omega))
    obtain ⟨x, hx⟩ := h n (by omega)
    refine ⟨l ++ [x], by simp [hl], fun i y hy => ?_⟩
    rcases Nat.lt_trichotomy i n with hi | hi | hi
    · rw [List.getElem?_append_left (by omega)] at hy
      exact hq i y hy
    · subst hi
      rw [List.getElem?_append_right (by omega), hl] at hy
      simp at hy
      exact hy ▸ hx
    · rw [List.getElem?_eq_none (by simp; omega)] at hy
      cases hy
/-- a slice of samples that came in -/
theorem open_rows24 {v : Value} {d : DataW H} {p : List MemPlace} (hv : ∃ a len cap, v = .slice a len cap) (h : DataW.Trod enc Tryd.prog w 0 (fun _ => true) true 24 v d p) :
    ∃ (A : Option Addr) (c : Nat) (l : List S26), v = .slice A l.length c ∧ k26.C w A l.length l ∧ l.length ≤ c ∧ ∀ x ∈ l, okS x := by
  obtain ⟨a, len, cap, rfl⟩ := hv
  obtain ⟨fuel, hf⟩ := h
  rcases open_slice_fields Tryd.underlying24 Tryd.underlying26 (by kernel_rfl) (by kernel_rfl) hf with ⟨hcs, _⟩ | ⟨x, l, c, m, D, Pl, hcs, _, hl, hm, hmm, _, hi⟩
  · simp [Value.cells] at hcs
    obtain ⟨rfl, rfl, rfl⟩ := hcs
    exact ⟨none, 0, [], rfl, ⟨rfl, by simp, fun h => by simp at h⟩, Nat.le_refl _, fun x hx => by cases hx⟩
  · simp [Value.cells] at hcs
    obtain ⟨rfl, rfl, rfl⟩ := hcs
    simp only [if_true] at hmm
    subst hmm
    obtain ⟨xs, hxl, hxs⟩ := choose_list (fun i (s : S26) => okS s ∧ ∃ cs, cs.length = 2 ∧ k26.K w s cs ∧ ∀ j u, cs[j]? = some u → w.cell? (x.add (i * 2 + j)) = some u) len (fun i hil => by
      obtain ⟨ys, n, _, _, _, hfld⟩ := hi i (by omega)
      obtain ⟨v0, y0, c0, _, t0⟩ := hfld 0 _ rfl
      obtain ⟨v1, y1, c1, _, t1⟩ := hfld 1 _ rfl
      obtain ⟨a0, hc0, _, w0⟩ := DataW.trod_int Tryd.underlying3 t0
      obtain rfl : v0 = .int .i64 a0 := by simpa using hc0
      obtain ⟨a1, hc1, _, w1⟩ := DataW.trod_int Tryd.underlying22 t1
      obtain rfl : v1 = .int .u64 a1 := by simpa using hc1
      refine ⟨⟨a0, a1⟩, ⟨i64_bd w0, u64_bd w1⟩, _, rfl, k26_mk w ⟨a0, a1⟩, fun j u hj => ?_⟩
      match j, hj with
      | 0, hj => injection hj with hj; subst hj; exact c0
      | 1, hj => injection hj with hj; subst hj; exact c1
      | n + 2, hj => simp at hj)
    have hmx : maxLen ≤ 9223372036854775807 := by decide
    refine ⟨some x, m, xs, by rw [hxl], ⟨rfl, by rw [hxl]; omega, fun _ => ⟨x, rfl, fun j p hj => ?_⟩⟩, by omega, fun s hs => ?_⟩
    · obtain ⟨_, cs, h1, h2, h3⟩ := hxs j p hj
      exact ⟨cs, h1, h2, h3⟩
    · obtain ⟨j, hj⟩ := List.getElem?_of_mem hs
      exact (hxs j s hj).1
end
end Go.Proofs.YtpeekkpdglfbbaaDoor.G
