/- Lemmas and contracts: The contract of codec.Decode. · What was encoded is decoded as it was: plain lists and numbers. · The contract of codec.Decode at bytes whose decoding is known; what is encoded is bytes. · The iterator that slices.Chunk hands back, over samples, in lists of twenty: which parts come, in which order. · A region that draws its order: its head walked under a condition on the world that every operation keeps, its last operations in one order; and how what is shown of it plain serves in a round of a range over a function. · slices.Grow of nil, and slices.Concat, over bytes: a row of the call's own. · The contract of labels.Compare. · The contract of the reference's Compare over labels: it is the program's answer. · The contracts of the reference's bits as a list: out. · The contracts of the reference's out.putInt and out.putXor. · The bytes of bits, one bit behind the other. · The contracts of the reference's Put and Get: the same functions as the program's. · The contract of the reference's Encode: it is the program's answer. -/
import Derived.Test.YtbgmnmjokdfmlaaDoorM3
import Derived.Test.YtbgmnmjokdfmlaaDoorM2
import Derived.WalkMore
import Derived.Deep.RegionHeld3
import Derived.Test.YtbgmnmjokdfmlaaDoorM1
import Derived.RangeFuncNested
import Derived.RangeFuncBound
import Derived.RangeFuncCalls
import Derived.RangeFuncLeaves
import Derived.Shelf.Abstract
import Derived.Shelf.RegionOpen
import Derived.WalkKit
import Derived.OwnWalkIn
import Derived.TacticsInMore
import Derived.LoopNIn
import Derived.LoopIn
import Derived.Lib.QuietBelowIn
import Derived.Deep.DeepMust
import Derived.OrdersHeld
import Derived.StillTailTactics
import Derived.OrdersIn
import Derived.RangeFuncKeeps
import Derived.Tactics2
import Derived.RegionTactic
import Derived.Deep.RegionLaw
namespace Go.Proofs.YtbgmnmjokdfmlaaDoor.PA
open Go.RowKit Go.Proofs.YtbgmnmjokdfmlaaDoor.G Go.Proofs.YtbgmnmjokdfmlaaDoorW.PrintWords Go.Proofs.YtbgmnmjokdfmlaaDoorW.PrintLast Go.Proofs.YtbgmnmjokdfmlaaDoorW.PrintMore
set_option linter.unusedVariables false
set_option linter.unusedSimpArgs false

/-- Encode's contract in one -/
theorem codec_Encode.calls (A : Option Addr) (c : Nat) (l : List S54) (w : World) (hr : Kd.C k54 w A l.length l) (hc : l.length ≤ c) (hw : ∀ x ∈ l, okS x) (hlen : l.length ≤ 20000) (hT : TabZ w) :
    Calls Tryd.prog 32 #[.slice A l.length c] w fun e w' => ∃ v : Value, e = .returned (.tuple #[v, .int .i64 (encF l).2]) ∧ Kd.R (Kd.int .u8) 5 w' w.heap.size (fun _ => True) v (encF l).1 ∧ Below w.heap.size w w' := by
  cases h : canS l with
  | true =>
    refine (codec_Encode.calls_ok A c l w hr hc hw hlen hT h).mono ?_
    rintro e w' ⟨v, b, rfl, h1, h2, h3, h4⟩
    have e1 : encF l = (beL l.length 2 ++ b, 0) := by rw [encF, if_pos h, encL, packB_of h1 h2]
    rw [e1]
    exact ⟨v, rfl, h3, h4⟩
  | false =>
    refine (codec_Encode.calls_bad A c l w hr hc hlen h).mono ?_
    rintro e w' ⟨rfl, h4⟩
    have e1 : encF l = ([], 1) := by rw [encF, if_neg (by rw [h]; simp)]
    rw [e1]
    exact ⟨_, rfl, Kd.R_nil _ _ _ _ _, h4⟩
theorem codec_Encode.calls_at {n : Nat} (A : Option Addr) (c : Nat) (l : List S54) (w : World) (eb : List Int) (ee : Int) (hn : l.length = n) (hr : Kd.C k54 w A l.length l) (hc : n ≤ c) (hw : ∀ x ∈ l, okS x) (hlen : n ≤ 20000) (hT : TabZ w) (he : encF l = (eb, ee)) :
    Calls Tryd.prog 32 #[.slice A n c] w fun e w' => ∃ v : Value, e = .returned (.tuple #[v, .int .i64 ee]) ∧ Kd.R (Kd.int .u8) 5 w' w.heap.size (fun _ => True) v eb ∧ Below w.heap.size w w' := by
  subst hn
  have := codec_Encode.calls A c l w hr hc hw hlen hT
  rw [he] at this
  exact this
theorem encF_okB (l : List S54) (hn : l.length ≤ 20000) (hw : ∀ x ∈ l, okS x) : okB (encF l).1 = true := by
  unfold encF
  split
  · have h1 := encP_len l hw l.length (Nat.le_refl _)
    have h2 := (packB_ok (encP l l.length) (by omega)).1.bytes
    refine okB_iff.2 fun x hx => ?_
    rcases List.mem_append.1 hx with hx | hx
    · exact okB_iff.1 (okB_beL _ _) x hx
    · exact h2 x hx
  · rfl
theorem Equal_at {n m : Nat} (A0 : Option Addr) (c0 : Nat) (l0 : List Int) (A1 : Option Addr) (c1 : Nat) (l1 : List Int) (r : Bool) (w : World) (hn : l0.length = n) (hm : l1.length = m) (hr0 : Kd.C (Kd.int .u8) w A0 l0.length l0) (hc0 : n ≤ c0) (hr1 : Kd.C (Kd.int .u8) w A1 l1.length l1) (hc1 : m ≤ c1) (h0 : okB l0 = true) (h1 : okB l1 = true) (h : decide (l0 = l1) = r) :
    Calls Tryd.prog 92 #[.slice A0 n c0, .slice A1 m c1] w fun e w' => e = .returned (.bool r) ∧ Below w.heap.size w w' := by
  subst hn hm
  exact (G.bytes_Equal.calls A0 c0 l0 A1 c1 l1 r w hr0 hc0 hr1 hc1 (by rw [G.bytes_Equal.f, if_pos ⟨h0, h1⟩, h])).mono fun e w' ⟨he, hd⟩ => ⟨he, hd.below⟩
theorem number_pair (g : Nat) (A : Option Addr) (c : Nat) (l : List Int) (N p : Int) (r : Int × Int × Bool) (w0 w : World) (hr : Kd.C (Kd.int .u8) w0 A l.length l) (hc : l.length ≤ c) (hg : w0.heap.size ≤ g)
    (hl : OkL l) (hn : l.length ≤ 1000000) (hN : -9223372036854775808 ≤ N ∧ N ≤ 9223372036854775807) (hU : UP w g A l.length c N p false) (hB : Below w0.heap.size w0 w) (he : decN l N p = r) :
    Calls Tryd.prog 90 #[.pointer (some ⟨g, 0, none⟩)] w fun e w' => e = .returned (.int .i64 r.1) ∧ UP w' g A l.length c N r.2.1 r.2.2 ∧ Below w0.heap.size w0 w' ∧ KeepBut w w' g none := by
  subst he
  exact unpack_number.calls g A c l N p false w0 w hU hr hc hB hg hl hn hN
theorem value_pair (g : Nat) (A : Option Addr) (c : Nat) (l : List Int) (N p : Int) (s r : Int × Int × Bool) (w0 w : World) (hr : Kd.C (Kd.int .u8) w0 A l.length l) (hc : l.length ≤ c) (hg : w0.heap.size ≤ g)
    (hl : OkL l) (hn : l.length ≤ 1000000) (hN : -9223372036854775808 ≤ N ∧ N ≤ 9223372036854775807) (hU : UP w g A l.length c N s.2.1 s.2.2) (hB : Below w0.heap.size w0 w) (hs : decN l N p = s) (he : decV l N p = r) :
    Calls Tryd.prog 91 #[.pointer (some ⟨g, 0, none⟩)] w fun e w' => e = .returned (.int .u64 r.1) ∧ UP w' g A l.length c N r.2.1 r.2.2 ∧ Below w0.heap.size w0 w' ∧ KeepBut w w' g none := by
  subst he
  subst hs
  exact unpack_value.calls g A c l N (decN l N p).2.1 (decN l N p).2.2 w0 w hU hr hc hB hg hl hn hN
theorem get2 {b : List Int} (h : okB b = true) (hl : 2 ≤ b.length) : crc_Get.f (b.take 2) = some (((beV 0 (b.take 2) : Nat) : Int), true) ∧ beV 0 (b.take 2) < 65536 := by
  refine ⟨?_, beV_take_lt h 2⟩
  have h1 : okB (b.take 2) = true := okB_iff.2 fun x hx => okB_iff.1 h x (List.mem_of_mem_take hx)
  rw [crc_Get.f, if_pos h1, if_pos (by rw [List.length_take]; omega)]
theorem Get_at {n : Nat} (A0 : Option Addr) (c0 : Nat) (l0 : List Int) (r1 : Int) (r2 : Bool) (w : World) (hn : l0.length = n) (hr0 : Kd.C (Kd.int .u8) w A0 l0.length l0) (hc0 : n ≤ c0) (h : crc_Get.f l0 = some (r1, r2)) :
    Calls Tryd.prog 59 #[.slice A0 n c0] w fun e w' => e = .returned (.tuple #[.int .u64 r1, .bool r2]) ∧ Below w.heap.size w w' := by
  subst hn
  exact (crc_Get.calls A0 c0 l0 r1 r2 w hr0 hc0 h).mono fun e w' ⟨he, hd⟩ => ⟨he, hd.below⟩

theorem decS_stay {xb : List Int} {N : Int} {k : Nat} (h : (decS xb N (k + 1)).2.1 = true) : ∀ d, decS xb N (k + 1 + d) = decS xb N (k + 1)
  | 0 => rfl
  | d + 1 => by
    have ih := decS_stay h d
    have e : decS xb N (k + d + 2) = decS xb N (k + d + 1) := by
      rw [decS, if_pos]
      rw [show k + d + 1 = k + 1 + d by omega, ih]
      exact h
    rw [show k + 1 + (d + 1) = k + d + 2 by omega, e, show k + d + 1 = k + 1 + d by omega, ih]
set_option maxHeartbeats 8000000 in
set_option maxRecDepth 100000 in
theorem codec_Decode.calls (A : Option Addr) (c : Nat) (b : List Int) (w : World) (hr : Kd.C (Kd.int .u8) w A b.length b) (hc : b.length ≤ c) (hok : okB b = true) (hlen : b.length ≤ 2500) (hT : TabZ w) :
    Calls Tryd.prog 61 #[.slice A b.length c] w fun e w' => ∃ v : Value, e = .returned (.tuple #[v, .int .i64 (decF b).2]) ∧ Kd.R k54 54 w' w.heap.size (fun _ => True) v (decF b).1 ∧ Below w.heap.size w w' := by
  by_cases h2 : b.length < 2
  · have e0 : decF b = ([], 5) := by rw [decF, if_pos h2]
    rw [e0]
    have d0 : decide ((b.length : Int) < 2) = true := decide_eq_true (by omega)
    clear e0 h2 hr hc hT
    go_enter Tryd.func61, Tryd.ntmps61
    go_wp2
    go_step3
    go_wp2
    try rw [Exit.noGoto_ret]
    refine bodyPost_ret (results_tmp2 rfl _ _ _) rfl ?_
    exact ⟨_, rfl, Kd.R_nil _ _ _ _ _, Below.refl _ _⟩
  have d0 : decide ((b.length : Int) < 2) = false := decide_eq_false (by omega)
  obtain ⟨xb, hxb⟩ : ∃ xb, b.drop 2 = xb := ⟨_, rfl⟩
  have hxl : xb.length = b.length - 2 := by rw [← hxb, List.length_drop]
  obtain ⟨hget, hn64⟩ := get2 hok (by omega)
  obtain ⟨n, hn⟩ : ∃ n, beV 0 (b.take 2) = n := ⟨_, rfl⟩
  rw [hn] at hget hn64
  obtain ⟨NN, hNN⟩ : ∃ N : Nat, 8 * (b.length - 2) = N := ⟨_, rfl⟩
  have HF : Aside0 (decF b = if (decS xb (NN : Int) n).2.1 = false ∧ encF (decS xb (NN : Int) n).2.2.1 = (b, 0) then ((decS xb (NN : Int) n).2.2.1, 0) else ([], 5)) := ⟨by rw [decF, if_neg h2, hxb, hNN, hn]⟩
  have hokx : OkL xb := fun x hx => okB_iff.1 hok x (List.mem_of_mem_drop (hxb ▸ hx))
  obtain ⟨i05, hi05, _, hsz5, _⟩ := info_parts infoU8
  have hto := cut_to (P := Tryd.prog) 22 5 .i64 Tryd.underlying22 hi05 A b.length c 2 (by omega) (by omega) hc
  have hfrom := cut_from (P := Tryd.prog) 22 5 .i64 Tryd.underlying22 hi05 1 hsz5 A b.length c 2 (by omega) (by omega)
  have hdr := Kd.C_drop (m := 2) (c := c) hr (by omega) hc
  rw [hxb] at hdr
  obtain ⟨A', hA'⟩ : ∃ A', (if c = (2 : Int).toNat then A else A.map (·.add ((2 : Int).toNat * 1))) = A' := ⟨_, rfl⟩
  rw [hA'] at hfrom
  have HX : Aside0 (Kd.C (Kd.int .u8) w A' xb.length xb) := ⟨by rw [← hA']; exact hdr⟩
  have HXC : Aside0 (xb.length ≤ c - 2) := ⟨by omega⟩
  have HTK := Aside0.mk (Kd.C_take hr (show 2 ≤ b.length by omega))
  have HTL : Aside0 ((b.take 2).length = 2) := ⟨by rw [List.length_take]; omega⟩
  have HGET := Aside0.mk hget
  have HRB := Aside0.mk hr
  have HC := Aside0.mk hc
  have HOK := Aside0.mk hok
  have HOX := Aside0.mk hokx
  have HT := Aside0.mk hT
  have HXL := Aside0.mk hxl
  have HNN := Aside0.mk hNN
  rw [show (2 : Int).toNat = 2 from rfl, ← hxl] at hfrom
  rw [show (2 : Int).toNat = 2 from rfl] at hto
  have hNe : wrap64 (8 * wrap64 ((b.length : Int) - 2)) = (NN : Int) := by rw [w64 (x := (b.length : Int) - 2) (by omega) (by omega), w64 (by omega) (by omega)]; omega
  clear hr hc hok hokx hT hA' hdr hget hxl hNN hn hxb
  go_enter Tryd.func61, Tryd.ntmps61
  go_wp2
  go_step3
  go_wp2_with (first
    | (go_at_call 59; (with_reducible refine (Get_at A c (b.take 2) (n : Int) true _ HTL.out HTK.out (by have := HC.out; omega) HGET.out).mono ?_); rintro e w1 ⟨rfl, hb⟩; have HB1 := Aside0.mk hb; clear hb)
    | ((with_reducible refine gate_dst (N := 30) rfl ?_); refine box_event ?hg (N := 30) ?hd (cs := #[.slice A' xb.length (c - 2), .int .i64 (NN : Int), .int .i64 0, .bool false]) (t := 128) ?hr ?_; (case hd => rfl); (case hg => rfl); (case hr => first | (go_simp; done) | (go_simp; rfl)); intro g hg w2 hbox hb; have HB2 := Aside0.mk (below_step HB1.out hb); have HBK := Aside0.mk hbox; have HG : Aside0 (w.heap.size ≤ g) := ⟨by have := HB1.out.size; omega⟩; clear hb hbox hg))
  go_step3
  go_wp2
  -- LOOP
  have hN2 : 8 * ((b.length : Int) - 2) = (NN : Int) := by have := HNN.out; omega
  simp only [hN2]
  have HU0 : Aside0 (UP (w1.alloc (.cells #[.slice A' xb.length (c - 2), .int .i64 (NN : Int), .int .i64 0, .bool false] 128)) w1.heap.size A' xb.length (c - 2) (NN : Int) 0 false) := ⟨blk_new _ _⟩
  have HB0 := Aside0.mk (below_alloc HB1.out (.cells #[.slice A' xb.length (c - 2), .int .i64 (NN : Int), .int .i64 0, .bool false] 128))
  have HG : Aside0 (w.heap.size ≤ w1.heap.size) := ⟨HB1.out.size⟩
  generalize w1.alloc (.cells #[.slice A' xb.length (c - 2), .int .i64 (NN : Int), .int .i64 0, .bool false] 128) = w2 at *
  generalize w1.heap.size = g at *
  clear hN2 hNe hto hfrom HB1 HTK HTL HGET
  have hNN : -9223372036854775808 ≤ (NN : Int) ∧ (NN : Int) ≤ 9223372036854775807 := by have := HNN.out; omega
  have hxbl : xb.length ≤ 1000000 := by have := HXL.out; omega
  have CT := Aside0.mk (fun k s r W hU hB he => take_pair g A' (c - 2) xb (NN : Int) k s r w W HX.out HXC.out HG.out HOX.out hxbl hNN hU hB he)
  have CN := Aside0.mk (fun p r W hU hB he => number_pair g A' (c - 2) xb (NN : Int) p r w W HX.out HXC.out HG.out HOX.out hxbl hNN hU hB he)
  have CV := Aside0.mk (fun p s r W hU hB hs he => value_pair g A' (c - 2) xb (NN : Int) p s r w W HX.out HXC.out HG.out HOX.out hxbl hNN hU hB hs he)
  have INV := Aside0.mk (decS_inv xb NN (by have := HNN.out; omega))
  clear hNN hxbl
  go_loopw [7, 8, 33] (fun v7 v8 i wr => ∃ (k : Nat) (l : List S54) (p st : Int), k ≤ n ∧ i = .int .i64 k ∧ v8 = .int .i64 st ∧ Aside0 (decS xb (NN : Int) k = (p, false, l, st)) ∧ Aside0 (Kd.R k54 54 wr w.heap.size (fun q => q ≠ g) v7 l) ∧ Aside0 (UP wr g A' xb.length (c - 2) (NN : Int) p false) ∧ Aside0 (Below w.heap.size w wr)) (fun _ _ i _ => n - (intOf i).toNat)
  case atStart => exact ⟨0, [], 0, 0, Nat.zero_le _, rfl, rfl, ⟨rfl⟩, ⟨Kd.R_nil _ _ _ _ _⟩, HU0, HB0⟩
  case round =>
    clear HU0 HB0
    obtain ⟨k, l, p, st, hk, rfl, rfl, HS, HOt, HUr, HBr⟩ := hrel
    obtain ⟨A7, c7, e7⟩ := Kd.R_slice HOt.out
    subst e7
    have hinv := INV.out k
    rw [HS.out] at hinv
    have HOKS : Aside0 (∀ x ∈ l, okS x) := ⟨hinv.1⟩
    have HLL : Aside0 (l.length = k) := ⟨(hinv.2.2 rfl).1⟩
    have HLEN : Aside0 (l.length ≤ 20000) := ⟨by have := hinv.2.1; have := HNN.out; simp only at *; omega⟩
    clear hinv
    by_cases hlt : k < n
    · have gne : Aside0 (wr.heap.size ≠ g) := ⟨by have := blk_lt HUr.out; omega⟩
      have HOA := Aside0.mk (Kd.R_alloc (Kd.R_mono (ok' := fun q => q ≠ g ∧ q ≠ wr.heap.size) (Kd.R_bound HOt.out) (fun q hq => ⟨hq.1, by have := hq.2; omega⟩)) (.cells #[.int .i64 0, .int .u64 0] 54))
      have HBA := Aside0.mk (below_alloc HBr.out (.cells #[.int .i64 0, .int .u64 0] 54))
      have HUA : Aside0 (UP (wr.alloc (.cells #[.int .i64 0, .int .u64 0] 54)) g A' xb.length (c - 2) (NN : Int) p false) := ⟨blk_alloc HUr.out _⟩
      have HXA := Aside0.mk (blk_new wr (.cells #[.int .i64 0, .int .u64 0] 54))
      have HSA : Aside0 (wr.heap.size < (wr.alloc (.cells #[.int .i64 0, .int .u64 0] 54)).heap.size) := ⟨by simp⟩
      have HBS : Aside0 (w.heap.size ≤ wr.heap.size) := ⟨HBr.out.size⟩
      clear HOt
      cases k with
      | zero =>
        have hs0 := HS.out
        simp only [decS, Prod.mk.injEq] at hs0
        obtain ⟨rfl, -, hl0, rfl⟩ := hs0
        obtain ⟨a, ha⟩ : ∃ a, unT xb (NN : Int) (0, false) 64 = a := ⟨_, rfl⟩
        obtain ⟨d, hd⟩ : ∃ d, unT xb (NN : Int) a.2 64 = d := ⟨_, rfl⟩
        have HST : Aside0 (decS xb (NN : Int) (0 + 1) = (d.2.1, d.2.2, if d.2.2 = true then l else l ++ [⟨wrap64 a.1, d.1⟩], 0)) := ⟨by
          rw [← hl0]
          have e1 : decA xb (NN : Int) 0 = a := ha
          have e2 : decB xb (NN : Int) 0 = d := by unfold decB; rw [e1]; exact hd
          simp only [decS, e1, e2, List.nil_append]⟩
        have HA := Aside0.mk ha
        have HD2 := Aside0.mk hd
        clear ha hd hl0
        cases hbad : d.2.2 with
        | true =>
          have HD : Aside0 (decS xb (NN : Int) n = (d.2.1, true, l, 0)) := ⟨by
            have h1 := HST.out
            rw [hbad, if_pos rfl] at h1
            have h2 := decS_stay (xb := xb) (N := (NN : Int)) (k := 0) (by rw [h1]) (n - (0 + 1))
            rw [show 0 + 1 + (n - (0 + 1)) = n by omega, h1] at h2
            exact h2⟩
          obtain ⟨eb, ee, henc⟩ : ∃ eb ee, encF l = (eb, ee) := ⟨_, _, rfl⟩
          have HENC := Aside0.mk henc
          have HEOK : Aside0 (okB eb = true) := ⟨by have := encF_okB l HLEN.out HOKS.out; rw [henc] at this; exact this⟩
          clear henc
          go_wp2_with (first
            | (go_at_call 89; (with_reducible refine (CT.out 64 (0, 0, false) a _ HUA.out HBA.out HA.out).mono ?_); rintro e w3 ⟨rfl, hu, hb, hk⟩; have HU3 := Aside0.mk hu; have HB3 := Aside0.mk hb; have HX3 := Aside0.mk ((hk.2 wr.heap.size HSA.out gne.out (by simp)).trans HXA.out); have HS3 : Aside0 (wr.heap.size < w3.heap.size) := ⟨Nat.lt_of_lt_of_le HSA.out hk.1⟩; have HO3 := Aside0.mk (Kd.R_keep HOA.out hk (fun _ q => q.1)); clear hu hb hk)
            | (go_at_call 89; (with_reducible refine (CT.out 64 a d _ HU3.out HB3.out HD2.out).mono ?_); rintro e w4 ⟨rfl, hu, hb, hk⟩; rw [hbad] at hu; have hx4 := (hk.2 wr.heap.size HS3.out gne.out (by simp)).trans HX3.out; have c40 := (blk_cell hx4 0).trans rfl; have c41 := (blk_cell hx4 1).trans rfl; have f40 := blk_frozen hx4 0; have f41 := blk_frozen hx4 1; have HXB : Aside0 (((w4.setCell ⟨wr.heap.size, 0, none⟩ (.int .i64 (wrap64 a.1))).setCell ⟨wr.heap.size, 1, none⟩ (.int .u64 d.1)).heap[wr.heap.size]? = some (.cells #[.int .i64 (wrap64 a.1), .int .u64 d.1] 54 (0, 0))) := ⟨blk_put (blk_put hx4 0 _ rfl) 1 _ rfl⟩; have HUt : Aside0 (UP ((w4.setCell ⟨wr.heap.size, 0, none⟩ (.int .i64 (wrap64 a.1))).setCell ⟨wr.heap.size, 1, none⟩ (.int .u64 d.1)) g A' xb.length (c - 2) (NN : Int) d.2.1 true) := ⟨blk_far (p := ⟨wr.heap.size, 1, none⟩) (blk_far (p := ⟨wr.heap.size, 0, none⟩) hu gne.out.symm _) gne.out.symm _⟩; have HOt : Aside0 (Kd.R k54 54 ((w4.setCell ⟨wr.heap.size, 0, none⟩ (.int .i64 (wrap64 a.1))).setCell ⟨wr.heap.size, 1, none⟩ (.int .u64 d.1)) w.heap.size (fun q => q ≠ g) (.slice A7 l.length c7) l) := ⟨Kd.R_mono (Kd.R_far (p := ⟨wr.heap.size, 1, none⟩) (Kd.R_far (p := ⟨wr.heap.size, 0, none⟩) (Kd.R_keep HO3.out hk (fun _ q => q.1)) (fun _ q => q.2) _) (fun _ q => q.2) _) (fun _ q => q.1)⟩; have HBt : Aside0 (Below w.heap.size w ((w4.setCell ⟨wr.heap.size, 0, none⟩ (.int .i64 (wrap64 a.1))).setCell ⟨wr.heap.size, 1, none⟩ (.int .u64 d.1))) := ⟨(hb.setCell (p := ⟨wr.heap.size, 0, none⟩) HBS.out _).setCell (p := ⟨wr.heap.size, 1, none⟩) HBS.out _⟩; have cx3 := (blk_cell HUt.out 3).trans rfl; have cs0 := (blk_cell HXB.out 0).trans rfl; have cs1 := (blk_cell HXB.out 1).trans rfl; clear hu hb hk hx4)
            | (go_at_call 32; (with_reducible refine (codec_Encode.calls_at A7 c7 l _ eb ee rfl (Kd.R_reads' HOt.out).2.2 (Kd.R_reads' HOt.out).2.1 HOKS.out HLEN.out (HT.out.below HBt.out) HENC.out).mono ?_); rintro e w6 ⟨v6, rfl, hr6, hb⟩; obtain ⟨A6, c6, rfl⟩ := Kd.R_slice hr6; have HR6 := Aside0.mk (Kd.R_reads' hr6); have HU6 := Aside0.mk (blk_below HUt.out hb); have HO6 := Aside0.mk (Kd.R_below HOt.out hb); have HB6 := Aside0.mk (below_step HBt.out hb); have c63 := (blk_cell HU6.out 3).trans rfl; clear hr6 hb))
          try rw [Exit.noGoto_ret]
          refine bodyPost_ret (results_tmp2 rfl _ _ _) rfl ?_
          rw [HF.out, HD.out, if_neg (by simp)]
          exact ⟨_, rfl, Kd.R_nil _ _ _ _ _, HB6.out⟩
        | false =>
          go_wp2_with (first
            | (go_at_call 89; (with_reducible refine (CT.out 64 (0, 0, false) a _ HUA.out HBA.out HA.out).mono ?_); rintro e w3 ⟨rfl, hu, hb, hk⟩; have HU3 := Aside0.mk hu; have HB3 := Aside0.mk hb; have HX3 := Aside0.mk ((hk.2 wr.heap.size HSA.out gne.out (by simp)).trans HXA.out); have HS3 : Aside0 (wr.heap.size < w3.heap.size) := ⟨Nat.lt_of_lt_of_le HSA.out hk.1⟩; have HO3 := Aside0.mk (Kd.R_keep HOA.out hk (fun _ q => q.1)); clear hu hb hk)
            | (go_at_call 89; (with_reducible refine (CT.out 64 a d _ HU3.out HB3.out HD2.out).mono ?_); rintro e w4 ⟨rfl, hu, hb, hk⟩; rw [hbad] at hu; have hx4 := (hk.2 wr.heap.size HS3.out gne.out (by simp)).trans HX3.out; have c40 := (blk_cell hx4 0).trans rfl; have c41 := (blk_cell hx4 1).trans rfl; have f40 := blk_frozen hx4 0; have f41 := blk_frozen hx4 1; have HXB : Aside0 (((w4.setCell ⟨wr.heap.size, 0, none⟩ (.int .i64 (wrap64 a.1))).setCell ⟨wr.heap.size, 1, none⟩ (.int .u64 d.1)).heap[wr.heap.size]? = some (.cells #[.int .i64 (wrap64 a.1), .int .u64 d.1] 54 (0, 0))) := ⟨blk_put (blk_put hx4 0 _ rfl) 1 _ rfl⟩; have HUt : Aside0 (UP ((w4.setCell ⟨wr.heap.size, 0, none⟩ (.int .i64 (wrap64 a.1))).setCell ⟨wr.heap.size, 1, none⟩ (.int .u64 d.1)) g A' xb.length (c - 2) (NN : Int) d.2.1 false) := ⟨blk_far (p := ⟨wr.heap.size, 1, none⟩) (blk_far (p := ⟨wr.heap.size, 0, none⟩) hu gne.out.symm _) gne.out.symm _⟩; have HOt : Aside0 (Kd.R k54 54 ((w4.setCell ⟨wr.heap.size, 0, none⟩ (.int .i64 (wrap64 a.1))).setCell ⟨wr.heap.size, 1, none⟩ (.int .u64 d.1)) w.heap.size (fun q => q ≠ g) (.slice A7 l.length c7) l) := ⟨Kd.R_mono (Kd.R_far (p := ⟨wr.heap.size, 1, none⟩) (Kd.R_far (p := ⟨wr.heap.size, 0, none⟩) (Kd.R_keep HO3.out hk (fun _ q => q.1)) (fun _ q => q.2) _) (fun _ q => q.2) _) (fun _ q => q.1)⟩; have HBt : Aside0 (Below w.heap.size w ((w4.setCell ⟨wr.heap.size, 0, none⟩ (.int .i64 (wrap64 a.1))).setCell ⟨wr.heap.size, 1, none⟩ (.int .u64 d.1))) := ⟨(hb.setCell (p := ⟨wr.heap.size, 0, none⟩) HBS.out _).setCell (p := ⟨wr.heap.size, 1, none⟩) HBS.out _⟩; have cx3 := (blk_cell HUt.out 3).trans rfl; have cs0 := (blk_cell HXB.out 0).trans rfl; have cs1 := (blk_cell HXB.out 1).trans rfl; clear hu hb hk hx4)
            | ((with_reducible refine gate_builtin (b := .append) (xs := #[.tmp 70, .tmp 72]) rfl ?_); at_builtin; refine Kd.R_append k54 (w0 := w) w.heap.size rfl (.tmp 70) (.tmp 72) 30 54 (.agg #[.int .i64 0, .int .u64 0]) 16 rfl Tryd.underlying30 info54 rfl (by decide) (by omega) (.slice A7 l.length c7) l (⟨wrap64 a.1, d.1⟩ : S54) [.int .i64 (wrap64 a.1), .int .u64 d.1] (fun q => q ≠ g) (fun _ => False) rfl ?hx ?aP (fun _ hk => hk.elim) ?aF HOt.out HBt.out HBt.out.size ?aL ?_; (case hx => first | rfl | (go_simp; done) | (show Value.slice _ 1 1 = Value.slice _ 1 1; simp; done)); (case aP => exact k54_mkM _ _ _ (⟨wrap64 a.1, d.1⟩ : S54)); (case aF => exact fun q hq e => by have := blk_lt HUt.out; omega); (case aL => have := HLEN.out; omega); intro v9 w9 ho hb hg9 hat; have HO9 := Aside0.mk ho; have HB9 := Aside0.mk hb; have HU9 := Aside0.mk (blk_grown HUt.out hg9 (Kd.R_ne HOt.out HUt.out (by decide))); clear ho hb hg9 hat))
          go_roundw
          case rel => exact ⟨0 + 1, l ++ [(⟨wrap64 a.1, d.1⟩ : S54)], d.2.1, 0, by omega, by go_num, rfl, ⟨by have h1 := HST.out; rw [hbad, if_neg (by simp)] at h1; exact h1⟩, HO9, HU9, HB9⟩
          case measure => simp [intOf]; omega
      | succ k =>
        rw [show ((k + 1 : Nat) : Int) = (k : Int) + 1 from by omega] at *
        obtain ⟨a, ha⟩ : ∃ a, decN xb (NN : Int) p = a := ⟨_, rfl⟩
        obtain ⟨d, hd⟩ : ∃ d, decV xb (NN : Int) p = d := ⟨_, rfl⟩
        obtain ⟨y, hy⟩ : ∃ y, rd_T54 l (k : Int) = y := ⟨_, rfl⟩
        have HST : Aside0 (decS xb (NN : Int) (k + 1 + 1) = (d.2.1, d.2.2, if d.2.2 = true then l else l ++ [⟨wrap64 (y.f0 + wrap64 (st + a.1)), Go.bits .xor .u64 y.f1 d.1⟩], wrap64 (st + a.1))) := ⟨by
          rw [decS, HS.out]
          simp only
          rw [if_neg (by simp), ha, hd, hy]⟩
        have hwk : wrap64 (k : Int) = (k : Int) := w64 (by omega) (by omega)
        have hwk' : IntKind.i64.wrap (k : Int) = (k : Int) := (i64_w _).trans hwk
        have HA := Aside0.mk ha
        have HD2 := Aside0.mk hd
        have HY := Aside0.mk hy
        clear ha hd hy
        go_wp2_with (go_at_call 90; (with_reducible refine (CN.out p a _ HUA.out HBA.out HA.out).mono ?_); rintro e w3 ⟨rfl, hu, hb, hk⟩; have HU3 := Aside0.mk hu; have HB3 := Aside0.mk hb; have HX3 := Aside0.mk ((hk.2 wr.heap.size HSA.out gne.out (by simp)).trans HXA.out); have HS3 : Aside0 (wr.heap.size < w3.heap.size) := ⟨Nat.lt_of_lt_of_le HSA.out hk.1⟩; have HO3 := Aside0.mk (Kd.R_keep HOA.out hk (fun _ q => q.1)); clear hu hb hk)
        go_cut [] (fun wx => Aside0 (wx.heap[wr.heap.size]? = some (.cells #[.int .i64 (wrap64 (y.f0 + wrap64 (st + a.1))), .int .u64 (Go.bits .xor .u64 y.f1 d.1)] 54 (0, 0))) ∧ Aside0 (UP wx g A' xb.length (c - 2) (NN : Int) d.2.1 d.2.2) ∧ Aside0 (Kd.R k54 54 wx w.heap.size (fun q => q ≠ g) (.slice A7 l.length c7) l) ∧ Aside0 (Below w.heap.size w wx))
        case first =>
          obtain ⟨ad, hh, y0, y1⟩ := at_T54 (Kd.R_reads' HO3.out).2.2 (k : Int) (by omega) (by have := HLL.out; omega)
          rw [Int.toNat_natCast, HY.out] at y0 y1
          have hk1 : (k : Int) + 1 = (l.length : Int) := by have := HLL.out; omega
          subst hh
          obtain ⟨inn, hown⟩ := Kd.R_own HO3.out
          have hn1 : ad.block ≠ g := own_blk hown (Kd.R_away HO3.out (fun q hq => hq.1))
          have hn2 : ad.block ≠ wr.heap.size := own_blk hown (Kd.R_away HO3.out (fun q hq => hq.2))
          have HN1 : Aside0 ((ad.add (k * 2)).block ≠ g ∧ (ad.add (k * 2)).block ≠ wr.heap.size) := ⟨by rw [add_block]; exact ⟨hn1, hn2⟩⟩
          clear hown hn1 hn2
          have hb0 : (0 : Int) ≤ (k : Int) := by omega
          have hb1 : (k : Int) < (l.length : Int) := by omega
          clear hk1
          go_region_held3 (fun W => W.cell? (ad.add (k * 2)) = some (.int .i64 y.f0) ∧ W.cell? ⟨(ad.add (k * 2)).block, (ad.add (k * 2)).off + 1, none⟩ = some (.int .u64 y.f1)) (first | exact ⟨y0, y1⟩ | exact ⟨z0, z1⟩ | exact ⟨(cell_far (p := ⟨wr.heap.size, 1, none⟩) HN1.out.2 _).trans ((cell_far (p := ⟨wr.heap.size, 0, none⟩) HN1.out.2 _).trans z0), (cell_far (p := ⟨wr.heap.size, 1, none⟩) (a := ⟨(ad.add (k * 2)).block, (ad.add (k * 2)).off + 1, none⟩) HN1.out.2 _).trans ((cell_far (p := ⟨wr.heap.size, 0, none⟩) (a := ⟨(ad.add (k * 2)).block, (ad.add (k * 2)).off + 1, none⟩) HN1.out.2 _).trans z1)⟩)
            (first | (go_at_call 91; (refine (CV.out p a d _ ?s1 ?s2 HA.out HD2.out).mono ?_); (case s1 => exact HU3.out); (case s2 => exact below_drew1 HB3.out); rintro e w4 ⟨rfl, hu, hb, hk⟩; have z0 := keep_cell hk y0 HN1.out.1; have z1 := keep_cell hk y1 HN1.out.1; have hx4 := (hk.2 wr.heap.size HS3.out gne.out (by simp)).trans HX3.out; have c40 := (blk_cell hx4 0).trans rfl; have c41 := (blk_cell hx4 1).trans rfl; have f40 := blk_frozen hx4 0; have f41 := blk_frozen hx4 1; have HX4 := Aside0.mk hx4; have HU4 := Aside0.mk hu; have HB4 := Aside0.mk hb; have HK4 := Aside0.mk hk; clear hx4 hu hb hk))
          all_goals
            go_wp2_with fail
            go_meet
            refine ⟨⟨?_⟩, ⟨?_⟩, ⟨?_⟩, ⟨?_⟩⟩
            · simp only [i64_w]
              exact blk_put (blk_put HX4.out 0 _ rfl) 1 _ rfl
            · exact blk_far (p := ⟨wr.heap.size, 1, none⟩) (blk_far (p := ⟨wr.heap.size, 0, none⟩) HU4.out gne.out.symm _) gne.out.symm _
            · exact Kd.R_mono (Kd.R_far (p := ⟨wr.heap.size, 1, none⟩) (Kd.R_far (p := ⟨wr.heap.size, 0, none⟩) (Kd.R_keep (Kd.R_drew HO3.out) HK4.out (fun _ q => q.1)) (fun _ q => q.2) _) (fun _ q => q.2) _) (fun _ q => q.1)
            · exact (HB4.out.setCell (p := ⟨wr.heap.size, 0, none⟩) HBS.out _).setCell (p := ⟨wr.heap.size, 1, none⟩) HBS.out _
        case rest =>
          obtain ⟨HXB, HUt, HOt, HBt⟩ := hcut
          have cx3 := (blk_cell HUt.out 3).trans rfl
          have cs0 : wc.cell? ⟨wr.heap.size, 0, none⟩ = some (.int .i64 (wrap64 (y.f0 + wrap64 (st + a.1)))) := (blk_cell HXB.out 0).trans rfl
          have cs1 : wc.cell? ⟨wr.heap.size, 1, none⟩ = some (.int .u64 (Go.bits .xor .u64 y.f1 d.1)) := (blk_cell HXB.out 1).trans rfl
          cases hbad : d.2.2 with
          | true =>
            rw [hbad] at cx3
            have HD : Aside0 (decS xb (NN : Int) n = (d.2.1, true, l, wrap64 (st + a.1))) := ⟨by
              have h1 := HST.out
              rw [hbad, if_pos rfl] at h1
              have h2 := decS_stay (xb := xb) (N := (NN : Int)) (k := k + 1) (by rw [h1]) (n - (k + 1 + 1))
              rw [show k + 1 + 1 + (n - (k + 1 + 1)) = n by omega, h1] at h2
              exact h2⟩
            obtain ⟨eb, ee, henc⟩ : ∃ eb ee, encF l = (eb, ee) := ⟨_, _, rfl⟩
            have HENC := Aside0.mk henc
            have HEOK : Aside0 (okB eb = true) := ⟨by have := encF_okB l HLEN.out HOKS.out; rw [henc] at this; exact this⟩
            clear henc
            go_wp2_with (first
              | (go_at_call 32; (with_reducible refine (codec_Encode.calls_at A7 c7 l _ eb ee rfl (Kd.R_reads' HOt.out).2.2 (Kd.R_reads' HOt.out).2.1 HOKS.out HLEN.out (HT.out.below HBt.out) HENC.out).mono ?_); rintro e w6 ⟨v6, rfl, hr6, hb⟩; obtain ⟨A6, c6, rfl⟩ := Kd.R_slice hr6; have HR6 := Aside0.mk (Kd.R_reads' hr6); have HU6 := Aside0.mk (blk_below HUt.out hb); have HO6 := Aside0.mk (Kd.R_below HOt.out hb); have HB6 := Aside0.mk (below_step HBt.out hb); have c63 := (blk_cell HU6.out 3).trans rfl; clear hr6 hb))
            try rw [Exit.noGoto_ret]
            refine bodyPost_ret (results_tmp2 rfl _ _ _) rfl ?_
            rw [HF.out, HD.out, if_neg (by simp)]
            exact ⟨_, rfl, Kd.R_nil _ _ _ _ _, HB6.out⟩
          | false =>
            rw [hbad] at cx3
            go_wp2_with (first
              | ((with_reducible refine gate_builtin (b := .append) (xs := #[.tmp 70, .tmp 72]) rfl ?_); at_builtin; refine Kd.R_append k54 (w0 := w) w.heap.size rfl (.tmp 70) (.tmp 72) 30 54 (.agg #[.int .i64 0, .int .u64 0]) 16 rfl Tryd.underlying30 info54 rfl (by decide) (by omega) (.slice A7 l.length c7) l (⟨wrap64 (y.f0 + wrap64 (st + a.1)), Go.bits .xor .u64 y.f1 d.1⟩ : S54) [.int .i64 (wrap64 (y.f0 + wrap64 (st + a.1))), .int .u64 (Go.bits .xor .u64 y.f1 d.1)] (fun q => q ≠ g) (fun _ => False) rfl ?hx ?aP (fun _ hk => hk.elim) ?aF HOt.out HBt.out HBt.out.size ?aL ?_; (case hx => first | rfl | (go_simp; done) | (show Value.slice _ 1 1 = Value.slice _ 1 1; simp; done)); (case aP => exact k54_mkM _ _ _ (⟨wrap64 (y.f0 + wrap64 (st + a.1)), Go.bits .xor .u64 y.f1 d.1⟩ : S54)); (case aF => exact fun q hq e => by have := blk_lt HUt.out; omega); (case aL => have := HLEN.out; omega); intro v9 w9 ho hb hg9 hat; have HO9 := Aside0.mk ho; have HB9 := Aside0.mk hb; have HU9 := Aside0.mk (blk_grown HUt.out hg9 (Kd.R_ne HOt.out HUt.out (by decide))); clear ho hb hg9 hat))
            go_roundw
            case rel => exact ⟨k + 1 + 1, l ++ [(⟨wrap64 (y.f0 + wrap64 (st + a.1)), Go.bits .xor .u64 y.f1 d.1⟩ : S54)], d.2.1, wrap64 (st + a.1), by omega, by go_num, rfl, ⟨by have h1 := HST.out; rw [hbad, if_neg (by simp)] at h1; exact h1⟩, HO9, ⟨by rw [← hbad]; exact HU9.out⟩, HB9⟩
            case measure => simp [intOf]; omega
    · obtain rfl : k = n := by omega
      have HD := Aside0.mk HS.out
      have HUt := HUr
      have HBt := HBr
      have cx3 := (blk_cell HUt.out 3).trans rfl
      obtain ⟨eb, ee, henc⟩ : ∃ eb ee, encF l = (eb, ee) := ⟨_, _, rfl⟩
      have HENC := Aside0.mk henc
      have HEOK : Aside0 (okB eb = true) := ⟨by have := encF_okB l HLEN.out HOKS.out; rw [henc] at this; exact this⟩
      clear henc
      by_cases hee : ee = 0
      · subst hee
        have hee0 : ((0 : Int) != 0) = false := rfl
        cases heq : decide (eb = b) with
        | false =>
          have HEQ := Aside0.mk heq
          go_wp2_with (first
            | (go_at_call 32; (with_reducible refine (codec_Encode.calls_at A7 c7 l _ eb 0 rfl (Kd.R_reads' HOt.out).2.2 (Kd.R_reads' HOt.out).2.1 HOKS.out HLEN.out (HT.out.below HBt.out) HENC.out).mono ?_); rintro e w6 ⟨v6, rfl, hr6, hb⟩; obtain ⟨A6, c6, rfl⟩ := Kd.R_slice hr6; have HR6 := Aside0.mk (Kd.R_reads' hr6); have HU6 := Aside0.mk (blk_below HUt.out hb); have HO6 := Aside0.mk (Kd.R_below HOt.out hb); have HB6 := Aside0.mk (below_step HBt.out hb); have c63 := (blk_cell HU6.out 3).trans rfl; clear hr6 hb)
            | (go_at_call 92; (with_reducible refine (Equal_at A6 c6 eb A c b false _ rfl rfl HR6.out.2.2 HR6.out.2.1 (Kd.C_below HRB.out HB6.out) HC.out HEOK.out HOK.out HEQ.out).mono ?_); rintro e w7 ⟨rfl, hb⟩; have HB7 := Aside0.mk (below_step HB6.out hb); clear hb))
          try rw [Exit.noGoto_ret]
          refine bodyPost_ret (results_tmp2 rfl _ _ _) rfl ?_
          rw [HF.out, HD.out, if_neg (by rw [HENC.out]; intro q; have := of_decide_eq_false HEQ.out; exact this (congrArg Prod.fst q.2))]
          exact ⟨_, rfl, Kd.R_nil _ _ _ _ _, HB7.out⟩
        | true =>
          have HEQ := Aside0.mk heq
          go_wp2_with (first
            | (go_at_call 32; (with_reducible refine (codec_Encode.calls_at A7 c7 l _ eb 0 rfl (Kd.R_reads' HOt.out).2.2 (Kd.R_reads' HOt.out).2.1 HOKS.out HLEN.out (HT.out.below HBt.out) HENC.out).mono ?_); rintro e w6 ⟨v6, rfl, hr6, hb⟩; obtain ⟨A6, c6, rfl⟩ := Kd.R_slice hr6; have HR6 := Aside0.mk (Kd.R_reads' hr6); have HU6 := Aside0.mk (blk_below HUt.out hb); have HO6 := Aside0.mk (Kd.R_below HOt.out hb); have HB6 := Aside0.mk (below_step HBt.out hb); have c63 := (blk_cell HU6.out 3).trans rfl; clear hr6 hb)
            | (go_at_call 92; (with_reducible refine (Equal_at A6 c6 eb A c b true _ rfl rfl HR6.out.2.2 HR6.out.2.1 (Kd.C_below HRB.out HB6.out) HC.out HEOK.out HOK.out HEQ.out).mono ?_); rintro e w7 ⟨rfl, hb⟩; have HB7 := Aside0.mk (below_step HB6.out hb); have HO7 := Aside0.mk (Kd.R_below HO6.out hb); clear hb))
          try rw [Exit.noGoto_ret]
          refine bodyPost_ret (results_tmp2 rfl _ _ _) rfl ?_
          rw [HF.out, HD.out, if_pos ⟨rfl, by rw [HENC.out]; exact congrArg (fun z => (z, (0 : Int))) (of_decide_eq_true HEQ.out)⟩]
          exact ⟨_, rfl, Kd.R_mono HO7.out (fun _ _ => trivial), HB7.out⟩
      · have hee0 : (ee != 0) = true := bne_iff_ne.2 hee
        have HEE := Aside0.mk hee
        clear hee
        go_wp2_with (first
          | (go_at_call 32; (with_reducible refine (codec_Encode.calls_at A7 c7 l _ eb ee rfl (Kd.R_reads' HOt.out).2.2 (Kd.R_reads' HOt.out).2.1 HOKS.out HLEN.out (HT.out.below HBt.out) HENC.out).mono ?_); rintro e w6 ⟨v6, rfl, hr6, hb⟩; obtain ⟨A6, c6, rfl⟩ := Kd.R_slice hr6; have HR6 := Aside0.mk (Kd.R_reads' hr6); have HU6 := Aside0.mk (blk_below HUt.out hb); have HO6 := Aside0.mk (Kd.R_below HOt.out hb); have HB6 := Aside0.mk (below_step HBt.out hb); have c63 := (blk_cell HU6.out 3).trans rfl; clear hr6 hb))
        try rw [Exit.noGoto_ret]
        refine bodyPost_ret (results_tmp2 rfl _ _ _) rfl ?_
        rw [HF.out, HD.out, if_neg (by rw [HENC.out]; intro q; exact HEE.out (congrArg Prod.snd q.2))]
        exact ⟨_, rfl, Kd.R_nil _ _ _ _ _, HB6.out⟩
end Go.Proofs.YtbgmnmjokdfmlaaDoor.PA
namespace Go.Proofs.YtbgmnmjokdfmlaaDoor.PA
open Go.RowKit Go.Proofs.YtbgmnmjokdfmlaaDoor.G Go.Proofs.YtbgmnmjokdfmlaaDoorW.PrintWords Go.Proofs.YtbgmnmjokdfmlaaDoorW.PrintLast Go.Proofs.YtbgmnmjokdfmlaaDoorW.PrintMore
set_option linter.unusedVariables false
set_option linter.unusedSimpArgs false

theorem okX_full {l : List Int} {n : Nat} (h : OkX l n) : OkX l (8 * l.length) :=
  ⟨h.bytes, Nat.le_refl _, by omega, fun i h1 h2 => absurd h2 (by omega)⟩
theorem encP_one (l : List S54) : ∀ k, ∃ Z, encP l (k + 1) = encP l k ++ Z
  | 0 => ⟨_, rfl⟩
  | k + 1 => ⟨_, rfl⟩
theorem encP_pre (l : List S54) (k : Nat) : ∀ d, ∃ Z, encP l (k + d) = encP l k ++ Z
  | 0 => ⟨[], by simp⟩
  | d + 1 => by
    obtain ⟨Z, hZ⟩ := encP_pre l k d
    obtain ⟨Y, hY⟩ := encP_one l (k + d)
    exact ⟨Z ++ Y, by rw [← Nat.add_assoc, hY, hZ, List.append_assoc]⟩
theorem Bs_full {l : List Int} {n : Nat} (h : OkX l n) : ∃ Z, Bs l (8 * l.length) = Bs l n ++ Z := by
  unfold Bs
  exact ⟨_, win_split l 0 (8 * l.length) n h.le⟩
theorem i64_wf {v : Int} (h : -9223372036854775808 ≤ v ∧ v ≤ 9223372036854775807) : (Lit.int .i64 v).wf = true := by
  simp [Lit.wf, IntKind.min, IntKind.max, IntKind.signed, IntKind.bits]
  omega
theorem unN_part {l : List Int} {N : Nat} {B Z : List Bool} {v : Int} (hX : OkX l N) (hv : (Lit.int .i64 v).wf = true) (h : Bs l N = B ++ intBits v ++ Z) : unN l (N : Int) ((B.length : Int), false) = (v, ((B.length + (intBits v).length : Nat) : Int), false) := by
  unfold unN
  rw [takeI_part hX hv h]
  rfl
theorem time_back (x y st : Int) (hx : -9223372036854775808 ≤ x ∧ x ≤ 9223372036854775807) (hs : -9223372036854775808 ≤ st ∧ st ≤ 9223372036854775807) : wrap64 (st + wrap64 (wrap64 (x - y) - st)) = wrap64 (x - y) ∧ wrap64 (y + wrap64 (x - y)) = x := by
  constructor
  · generalize hd : wrap64 (x - y) = d
    have : -9223372036854775808 ≤ d ∧ d ≤ 9223372036854775807 := hd ▸ wrap64_in _
    unfold wrap64
    omega
  · unfold wrap64
    omega
theorem stepP_in (l : List S54) : ∀ k, -9223372036854775808 ≤ stepP l k ∧ stepP l k ≤ 9223372036854775807
  | 0 => by simp [stepP]
  | 1 => by simp [stepP]
  | k + 2 => wrap64_in _
theorem first_back (x : Int) (hx : -9223372036854775808 ≤ x ∧ x ≤ 9223372036854775807) : wrap64 (((IntKind.u64.wrap x).toNat : Nat) : Int) = x := by
  rw [wrap_u64]
  unfold wrap64
  omega
theorem xor_back {x y : Int} (hx : 0 ≤ x ∧ x < 18446744073709551616) (hy : 0 ≤ y ∧ y < 18446744073709551616) : Go.bits .xor .u64 y ((x.toNat ^^^ y.toNat : Nat) : Int) = x := by
  obtain ⟨a, ha⟩ := Int.eq_ofNat_of_zero_le hx.1
  obtain ⟨b, hb⟩ := Int.eq_ofNat_of_zero_le hy.1
  subst ha hb
  rw [Int.toNat_natCast, Int.toNat_natCast, u64_xor_nat b (a ^^^ b) (by omega) (Nat.xor_lt_two_pow (n := 64) (by omega) (by omega)), Nat.xor_comm a b, ← Nat.xor_assoc, Nat.xor_self, Nat.zero_xor]
theorem take_succ54 (l : List S54) (k : Nat) (h : k < l.length) : l.take (k + 1) = l.take k ++ [rd_T54 l (k : Int)] := by
  have e : rd_T54 l (k : Int) = l[k] := by simp [rd_T54, List.getD_eq_getElem?_getD, List.getElem?_eq_getElem h]
  rw [List.take_succ_eq_append_getElem h, e]
theorem rd_take54 (l : List S54) (k m : Nat) (h : k < m) : rd_T54 (l.take m) (k : Int) = rd_T54 l (k : Int) := by
  simp only [rd_T54, Int.toNat_natCast, List.getD_eq_getElem?_getD, List.getElem?_take, if_pos h]
/-- the reading of what was written, sample by sample -/
theorem decS_back {xb : List Int} {NN : Nat} {l : List S54} {Z : List Bool} (hok : ∀ x ∈ l, okS x) (hl : l.length ≤ 20000) (hX : OkX xb NN) (hB : Bs xb NN = encP l l.length ++ Z) : ∀ k, k ≤ l.length → decS xb (NN : Int) k = (((encP l k).length : Int), false, l.take k, stepP l k)
  | 0, _ => by simp [decS, encP, stepP]
  | 1, h => by
    obtain ⟨Y, hY⟩ := encP_pre l 1 (l.length - 1)
    rw [show 1 + (l.length - 1) = l.length by omega] at hY
    have hm := hok _ (rd_mem54 l 0 (by omega))
    have hu := u64_wrap_range (rd_T54 l 0).f0
    obtain ⟨u, eu⟩ := Int.eq_ofNat_of_zero_le hu.1
    obtain ⟨v, ev⟩ := Int.eq_ofNat_of_zero_le hm.2.1
    have ev' : (rd_T54 l 0).f1 = (v : Int) := ev
    have hv : v < 18446744073709551616 := by have := hm.2.2; rw [ev] at this; omega
    have huu : u < 18446744073709551616 := by rw [eu] at hu; omega
    have e1 : encP l 1 = low u 64 ++ low v 64 := by
      show low (IntKind.u64.wrap (rd_T54 l 0).f0).toNat 64 ++ low (rd_T54 l 0).f1.toNat 64 = _
      rw [eu, ev']
      rfl
    rw [hY, e1] at hB
    have a1 := unT_part (c := 64) (B := []) (L := low u 64) (Z := low v 64 ++ (Y ++ Z)) hX (low_length _ _) (by decide) (by simp) (by rw [hB]; simp only [List.nil_append, List.append_assoc])
    have a2 := unT_part (c := 64) (B := low u 64) (L := low v 64) (Z := Y ++ Z) hX (low_length _ _) (by decide) (by simp) (by rw [hB]; simp only [List.append_assoc])
    rw [num_low, Nat.mod_eq_of_lt huu] at a1
    rw [num_low, Nat.mod_eq_of_lt hv, low_length] at a2
    have eA : decA xb (NN : Int) 0 = ((u : Int), 64, false) := a1
    have eB : decB xb (NN : Int) 0 = ((v : Int), 128, false) := by
      unfold decB
      rw [eA]
      exact a2
    have ef : wrap64 (u : Int) = (rd_T54 l 0).f0 := by
      have := first_back (rd_T54 l 0).f0 hm.1
      rw [eu] at this
      exact this
    have et := take_succ54 l 0 (by omega)
    rw [decS, eB, eA, e1, et]
    rw [if_neg (by simp)]
    have es : (⟨wrap64 (u : Int), (v : Int)⟩ : S54) = rd_T54 l ((0 : Nat) : Int) := by
      rw [ef, ← ev']
      rfl
    simp only [es]
    simp [stepP]
  | k + 2, h => by
    have ih := decS_back hok hl hX hB (k + 1) (by omega)
    obtain ⟨Y, hY⟩ := encP_pre l (k + 2) (l.length - (k + 2))
    rw [show k + 2 + (l.length - (k + 2)) = l.length by omega] at hY
    have hlen := encP_len l hok (k + 1) (by omega)
    have hx := hok _ (rd_mem54 l (k + 1) (by omega))
    have hy := hok _ (rd_mem54 l k (by omega))
    have e2 : encP l (k + 2) = encP l (k + 1) ++ (intBits (wrap64 (wrap64 ((rd_T54 l ((k + 1 : Nat) : Int)).f0 - (rd_T54 l ((k : Nat) : Int)).f0) - stepP l (k + 1))) ++ xorBits ((rd_T54 l ((k + 1 : Nat) : Int)).f1.toNat ^^^ (rd_T54 l ((k : Nat) : Int)).f1.toNat)) := rfl
    have hst := stepP_in l (k + 1)
    have hsp : stepP l (k + 2) = wrap64 ((rd_T54 l ((k + 1 : Nat) : Int)).f0 - (rd_T54 l ((k : Nat) : Int)).f0) := rfl
    have et := take_succ54 l (k + 1) (by omega)
    have er := rd_take54 l k (k + 1) (by omega)
    obtain ⟨x, ex⟩ : ∃ x, rd_T54 l ((k + 1 : Nat) : Int) = x := ⟨_, rfl⟩
    obtain ⟨y, ey⟩ : ∃ y, rd_T54 l ((k : Nat) : Int) = y := ⟨_, rfl⟩
    rw [ex, ey] at e2 hsp
    rw [ex] at hx et
    rw [ey] at hy er
    obtain ⟨st, est⟩ : ∃ st, stepP l (k + 1) = st := ⟨_, rfl⟩
    rw [est] at e2 hst ih
    obtain ⟨v, ev⟩ : ∃ v, wrap64 (wrap64 (x.f0 - y.f0) - st) = v := ⟨_, rfl⟩
    have hv : (Lit.int .i64 v).wf = true := ev ▸ i64_wf (wrap64_in _)
    have hxx := xor_lt hx.2 hy.2
    have htb := time_back x.f0 y.f0 st hx.1 hst
    have hxb := xor_back hx.2 hy.2
    rw [ev] at e2 htb
    obtain ⟨X, eX⟩ : ∃ X, x.f1.toNat ^^^ y.f1.toNat = X := ⟨_, rfl⟩
    rw [eX] at e2 hxx hxb
    rw [hY, e2] at hB
    have a1 := unN_part (B := encP l (k + 1)) (Z := xorBits X ++ (Y ++ Z)) hX hv (by rw [hB]; simp only [List.append_assoc])
    have hil := intBits_len v
    have a2 := unV_part (x := X) (B := encP l (k + 1) ++ intBits v) (Z := Y ++ Z) hX hxx (by simp; omega) (by rw [hB]; simp only [List.append_assoc])
    rw [List.length_append] at a2
    have eN : decN xb (NN : Int) ((encP l (k + 1)).length : Int) = (v, (((encP l (k + 1)).length + (intBits v).length : Nat) : Int), false) := a1
    have eV : decV xb (NN : Int) ((encP l (k + 1)).length : Int) = ((X : Int), (((encP l (k + 1)).length + (intBits v).length + (xorBits X).length : Nat) : Int), false) := by
      unfold decV
      rw [eN]
      exact a2
    rw [decS, ih]
    simp only
    rw [if_neg (by simp), eV, eN, er, htb.1, htb.2, hxb, hsp, et, e2]
    simp only [List.length_append]
    rw [if_neg (by simp)]
    simp only [Prod.mk.injEq, true_and, and_true]
    omega
theorem beV_two (n : Nat) (h : n ≤ 65535) : beV 0 (beL n 2) = n := by
  rw [beV_beL]
  omega
/-- what was encoded is decoded as it was -/
theorem dec_enc (l : List S54) (hok : ∀ x ∈ l, okS x) (hl : l.length ≤ 20000) (hc : canS l = true) : encF l = (encL l, 0) ∧ decF (encL l) = (l, 0) ∧ (encL l).length ≤ 2 + 20 * l.length + 1 := by
  have e0 : encF l = (encL l, 0) := by rw [encF, if_pos hc]
  have hP := encP_len l hok l.length (Nat.le_refl _)
  obtain ⟨hX, hBs⟩ := packB_ok (encP l l.length) (by omega)
  obtain ⟨Z, hZ⟩ := Bs_full hX
  rw [hBs] at hZ
  have hbl : (encL l).length = 2 + (packB (encP l l.length)).length := by rw [encL, List.length_append, beL_length]
  have hn := hX.near
  refine ⟨e0, ?_, by omega⟩
  have hd : (encL l).drop 2 = packB (encP l l.length) := by rw [encL, List.drop_left' (beL_length _ _)]
  have ht : (encL l).take 2 = beL l.length 2 := by rw [encL, List.take_left' (beL_length _ _)]
  have hs := decS_back hok hl (okX_full hX) hZ l.length (Nat.le_refl _)
  rw [List.take_length] at hs
  have h8 : 8 * ((encL l).length - 2) = 8 * (packB (encP l l.length)).length := by omega
  rw [decF, if_neg (by omega), hd, ht, h8, beV_two _ (by omega), hs, if_pos ⟨rfl, e0⟩]
end Go.Proofs.YtbgmnmjokdfmlaaDoor.PA
namespace Go.Proofs.YtbgmnmjokdfmlaaDoor.PA
open Go.RowKit Go.Proofs.YtbgmnmjokdfmlaaDoor.G Go.Proofs.YtbgmnmjokdfmlaaDoorW.PrintWords Go.Proofs.YtbgmnmjokdfmlaaDoorW.PrintLast Go.Proofs.YtbgmnmjokdfmlaaDoorW.PrintMore
set_option linter.unusedVariables false
set_option linter.unusedSimpArgs false

theorem codec_Decode.calls_at {n : Nat} (A : Option Addr) (c : Nat) (b : List Int) (w : World) (rl : List S54) (re : Int) (hn : b.length = n) (hr : Kd.C (Kd.int .u8) w A b.length b) (hc : n ≤ c) (hok : okB b = true) (hlen : n ≤ 2500) (hT : TabZ w) (he : decF b = (rl, re)) :
    Calls Tryd.prog 61 #[.slice A n c] w fun e w' => ∃ v : Value, e = .returned (.tuple #[v, .int .i64 re]) ∧ Kd.R k54 54 w' w.heap.size (fun _ => True) v rl ∧ Below w.heap.size w w' := by
  subst hn
  have := codec_Decode.calls A c b w hr hc hok hlen hT
  rw [he] at this
  exact this
theorem encL_ok (l : List S54) (hl : l.length ≤ 20000) (hok : ∀ x ∈ l, okS x) (hc : canS l = true) : okB (encL l) = true := by
  have h := encF_okB l hl hok
  rw [(dec_enc l hok hl hc).1] at h
  exact h
end Go.Proofs.YtbgmnmjokdfmlaaDoor.PA
namespace Go.Proofs.YtbgmnmjokdfmlaaDoor.PA
open Go.RowKit Go.Proofs.YtbgmnmjokdfmlaaDoor.G Go.Proofs.YtbgmnmjokdfmlaaDoorW.PrintWords Go.Proofs.YtbgmnmjokdfmlaaDoorW.PrintLast Go.Proofs.YtbgmnmjokdfmlaaDoorW.PrintMore
set_option linter.unusedVariables false
set_option linter.unusedSimpArgs false
attribute [local go_sem] Oper.semAt_some
/-- a part's number -/
abbrev Part (len : Nat) := { j : Nat // j * 20 < len }
/-- how long a part is -/
def plen (len j : Nat) : Nat := min 20 (len - j * 20)
def partsN {len : Nat} (ys : List (Part len)) : List Nat := ys.map fun y => y.1
theorem partsN_snoc {len : Nat} (ys : List (Part len)) (x : Part len) : partsN (ys ++ [x]) = partsN ys ++ [x.1] := by simp [partsN]
theorem partsN_length {len : Nat} (ys : List (Part len)) : (partsN ys).length = ys.length := by simp [partsN]
/-- the two boxes of the iterator lie as they lay -/
def KeepB (B1 B2 : Nat) (W W' : World) : Prop := W'.heap[B1]? = W.heap[B1]? ∧ W'.heap[B2]? = W.heap[B2]?
theorem KeepB.refl (B1 B2 : Nat) (W : World) : KeepB B1 B2 W W := ⟨rfl, rfl⟩
theorem KeepB.trans {B1 B2 : Nat} {a b c : World} (h : KeepB B1 B2 a b) (k : KeepB B1 B2 b c) : KeepB B1 B2 a c := ⟨k.1.trans h.1, k.2.trans h.2⟩
theorem KeepB.cell1 {B1 B2 : Nat} {a b : World} (h : KeepB B1 B2 a b) : b.cell? ⟨B1, 0, none⟩ = a.cell? ⟨B1, 0, none⟩ := World.cell?_of_block h.1
theorem KeepB.cell2 {B1 B2 : Nat} {a b : World} (h : KeepB B1 B2 a b) : b.cell? ⟨B2, 0, none⟩ = a.cell? ⟨B2, 0, none⟩ := World.cell?_of_block h.2
theorem keepB_b {B1 B2 : Nat} {w : World} (h1 : B1 < w.heap.size) (h2 : B2 < w.heap.size) (W : World) (l : Nat) (o o' : Obj) (hl : w.heap.size ≤ l) (h : W.heap[l]? = some o) (_ : o.isCells = false) (_ : o.isWalk = false) : KeepB B1 B2 W (W.putObj l o') :=
  ⟨World.putObj_heap_other (by omega), World.putObj_heap_other (by omega)⟩
/-- what the iterator leaves -/
def ItPost (len : Nat) (J Jx : List (Part len) → World → Prop) (e : Ending) (W' : World) : Prop := (∃ v, e = .returned v) ∧ ((∃ ys : List (Part len), partsN ys = List.range ((len + 19) / 20) ∧ J ys W') ∨ (∃ pre, True ∧ Jx pre W'))
theorem plen_le (len j : Nat) : plen len j ≤ 20 ∧ j * 20 + plen len j ≤ len ∨ len ≤ j * 20 := by unfold plen; omega
/-- the slice that is yielded -/
def encPt (ad : Addr) (len : Nat) (x : Part len) : Array Value := #[.slice (some (ad.add (x.1 * 20 * 2))) (plen len x.1) (plen len x.1)]
theorem infoN54 : ∃ i, Tryd.prog.info? 54 = some i ∧ i.size = 2 := by
  obtain ⟨i, hi, hz⟩ := Option.map_eq_some_iff.1 info54
  simp only [Prod.mk.injEq] at hz
  exact ⟨i, hi, hz.2.1⟩
theorem cut3S (ad : Addr) (len c lo hi : Nat) (h1 : lo < hi) (h2 : hi ≤ len) (hc : len ≤ c) (i j : Int) (hi' : i = (lo : Int)) (hj' : j = (hi : Int)) (W : World) :
    (Instr.slice 30 (.slice (some ad) len c) (some (.int .i64 i)) (some (.int .i64 j)) (some (.int .i64 j))).run Tryd.prog W = .ok (.slice (some (ad.add (lo * 2))) (hi - lo) (hi - lo)) W := by
  subst hi' hj'
  obtain ⟨i0, hi0, hsz⟩ := infoN54
  have hu := Tryd.underlying30
  have hel : Tryd.prog.elem 30 = 54 := by simp [Program.elem, hu]
  have hu' : Tryd.prog.underlying 30 = some (.slice (Tryd.prog.elem 30)) := by rw [hel]; exact hu
  rw [run_slice_lhm W 30 (some ad) len c hu' .i64 .i64 .i64 (lo : Int) (hi : Int) (hi : Int) (by omega) (by omega) (by omega) (by omega), hel]
  simp [sizeOf, typeInfo, hi0, hsz, sliced, Result.andThen]
  omega
theorem tailS (ad : Addr) (len c lo : Nat) (h1 : lo ≤ len) (i : Int) (hi' : i = (lo : Int)) :
    ∃ (A : Option Addr) (c' : Nat), ∀ W : World, (Instr.slice 30 (.slice (some ad) len c) (some (.int .i64 i)) none none).run Tryd.prog W = .ok (.slice A (len - lo) c') W := by
  subst hi'
  refine ⟨if c = lo then some ad else some (ad.add (lo * 2)), c - lo, fun W => ?_⟩
  obtain ⟨i0, hi0, hsz⟩ := infoN54
  have hu := Tryd.underlying30
  have hel : Tryd.prog.elem 30 = 54 := by simp [Program.elem, hu]
  have hu' : Tryd.prog.underlying 30 = some (.slice (Tryd.prog.elem 30)) := by rw [hel]; exact hu
  rw [run_slice_l W 30 (some ad) len c hu' .i64 (lo : Int) (by omega) (by omega), hel]
  simp [sizeOf, typeInfo, hi0, hsz, sliced, Result.andThen]
set_option maxRecDepth 100000 in
set_option maxHeartbeats 4000000 in
theorem chunkIt_in (n : Nat) (hn : 1 ≤ n) (l B1 B2 : Nat) (ad : Addr) (len c : Nat) (hlen : len ≤ 1000000) (hc : len ≤ c) (J Jx : List (Part len) → World → Prop) (hJ : ∀ pre W (q : Nat), J pre W → J pre (W.drewN q))
    (hY : ∀ pre x W, J pre W → pre.length < (len + 19) / 20 → YieldAt Fence.wide (n - 1) Tryd.prog l (encPt ad len x) W fun e W' =>
      (e = .returned (.bool true) ∧ J (pre ++ [x]) W' ∧ KeepB B1 B2 W W') ∨ (e = .returned (.bool false) ∧ Jx (pre ++ [x]) W'))
    (W : World) (hB1 : W.cell? ⟨B1, 0, none⟩ = some (.slice (some ad) len c)) (hB2 : W.cell? ⟨B2, 0, none⟩ = some (.int .i64 20)) (h0 : J [] W) :
    CallsIn Fence.wide n Tryd.prog 62 #[.func (.yield l) #[] #[], .pointer (some ⟨B1, 0, none⟩), .pointer (some ⟨B2, 0, none⟩)] W (ItPost len J Jx) := by
  refine callsIn_of_wp Tryd.func62 rfl trivial ?_ rfl
  simp only [Tryd.ntmps62, List.size_toArray, List.length_cons, List.length_nil, Nat.reduceAdd, Nat.reduceSub, Array.replicate_succ, Array.replicate_zero, List.push_toArray, List.append_toArray, List.nil_append, List.cons_append]
  gi_wp2
  gi_loopw [4] (fun i wr => ∃ (k : Nat) (pre : List (Part len)), k ≤ (len + 19) / 20 ∧ i = .int .i64 ((20 * k : Nat) : Int) ∧ partsN pre = List.range k ∧ J pre wr ∧ KeepB B1 B2 W wr)
    (fun i _ => len + 20 - (intOf i).toNat)
  case atStart => exact ⟨0, [], Nat.zero_le _, rfl, rfl, h0, KeepB.refl _ _ _⟩
  case round =>
    obtain ⟨k, pre, hk, rfl, hpre, hJs, hnx⟩ := hrel
    have b1 := hnx.cell1.trans hB1
    have b2 := hnx.cell2.trans hB2
    by_cases hlt : 20 * k < len
    · have hlen1 : pre.length < (len + 19) / 20 := by
        have := partsN_length pre
        rw [hpre, List.length_range] at this
        omega
      obtain ⟨q, hq⟩ : ∃ q, plen len k = q := ⟨_, rfl⟩
      have hq1 : 1 ≤ q ∧ q ≤ 20 ∧ 20 * k + q ≤ len := by unfold plen at hq; omega
      have hqm : min (20 : Int) ((len - k * 20 : Nat) : Int) = (q : Int) := by unfold plen at hq; omega
      obtain ⟨AT, cT, hT⟩ := tailS ad len c (20 * k) (by omega) ((20 * k : Nat) : Int) rfl
      have hmid := fun W => cut3S ad len c (20 * k) (20 * k + q) (by omega) (by omega) hc ((20 * k : Nat) : Int) (((20 * k : Nat) : Int) + (q : Int)) rfl (by omega) W
      rw [Nat.add_sub_cancel_left, Nat.mul_comm 20 k] at hmid
      rw [Nat.mul_comm 20 k] at hT
      have hq0 := hq1.1
      have hq2 := hq1.2.1
      have hq3 := hq1.2.2
      have hw1 : IntKind.i64.wrap (((k * 20 : Nat) : Int) + (q : Int)) = ((k * 20 : Nat) : Int) + (q : Int) := by rw [IntKind.wrap_i64]; omega
      have hw2 : IntKind.i64.wrap (((k * 20 : Nat) : Int) + 20) = ((k * 20 : Nat) : Int) + 20 := by rw [IntKind.wrap_i64]; omega
      rw [Nat.mul_comm 20 k] at *
      have hkl : ((k * 20 : Nat) : Int) < (len : Int) := by omega
      have HN := Aside0.mk hnx
      have HQ := Aside0.mk hq
      have HP := Aside0.mk hpre
      have HJ := Aside0.mk hJs
      have HQI := Aside0.mk hq1
      have HL1 := Aside0.mk hlen1
      clear hnx hq1 hJs hpre hq hlen1
      gi_wp2
      refine wpIn_wide.2 ?_
      by_cases hm : len - k * 20 < 20
      · obtain rfl : q = len - k * 20 := by have := HQ.out; unfold plen at this; omega
        go_quiet (fail)
        generalize hwq : wr.drewN nq = wq
        have HJq : Aside0 (J pre wq) := ⟨hwq ▸ hJ _ _ _ HJ.out⟩
        have HNq : Aside0 (KeepB B1 B2 W wq) := ⟨hwq ▸ HN.out⟩
        have b1q : wq.cell? ⟨B1, 0, none⟩ = some (.slice (some ad) len c) := hwq ▸ b1
        have b2q : wq.cell? ⟨B2, 0, none⟩ = some (.int .i64 20) := hwq ▸ b2
        clear hwq b1 b2 hm
        obtain ⟨fn, tmps, assign, body, hy, hR⟩ := hY pre ⟨k, by omega⟩ wq HJq.out HL1.out
        dsimp only [encPt] at hy
        rw [HQ.out] at hy
        gi_wp2
        refine hR.mono ?_
        rintro e W3 (⟨rfl, hJ3, hk3⟩ | ⟨rfl, hJx3⟩)
        · have b2r := hk3.cell2.trans b2q
          have HJ3 := Aside0.mk hJ3
          have HN3 := Aside0.mk (HNq.out.trans hk3)
          clear hJ3 hk3
          gi_wp2
          go_roundw
          case rel => exact ⟨k + 1, pre ++ [⟨k, by omega⟩], by omega, by first | (congr 1; omega) | (simp; omega), by rw [partsN_snoc, HP.out, List.range_succ], HJ3.out, HN3.out⟩
          case measure => simp [intOf]; omega
        · gi_wp2
          refine bodyPost_ret (results_none rfl _ _ _) rfl ?_
          exact ⟨⟨_, rfl⟩, .inr ⟨_, trivial, hJx3⟩⟩
      · obtain rfl : q = 20 := by have := HQ.out; unfold plen at this; omega
        go_quiet (fail)
        generalize hwq : wr.drewN nq = wq
        have HJq : Aside0 (J pre wq) := ⟨hwq ▸ hJ _ _ _ HJ.out⟩
        have HNq : Aside0 (KeepB B1 B2 W wq) := ⟨hwq ▸ HN.out⟩
        have b1q : wq.cell? ⟨B1, 0, none⟩ = some (.slice (some ad) len c) := hwq ▸ b1
        have b2q : wq.cell? ⟨B2, 0, none⟩ = some (.int .i64 20) := hwq ▸ b2
        clear hwq b1 b2 hm
        obtain ⟨fn, tmps, assign, body, hy, hR⟩ := hY pre ⟨k, by omega⟩ wq HJq.out HL1.out
        dsimp only [encPt] at hy
        rw [HQ.out] at hy
        gi_wp2
        refine hR.mono ?_
        rintro e W3 (⟨rfl, hJ3, hk3⟩ | ⟨rfl, hJx3⟩)
        · have b2r := hk3.cell2.trans b2q
          have HJ3 := Aside0.mk hJ3
          have HN3 := Aside0.mk (HNq.out.trans hk3)
          clear hJ3 hk3
          gi_wp2
          go_roundw
          case rel => exact ⟨k + 1, pre ++ [⟨k, by omega⟩], by omega, by first | (congr 1; omega) | (simp; omega), by rw [partsN_snoc, HP.out, List.range_succ], HJ3.out, HN3.out⟩
          case measure => simp [intOf]; omega
        · gi_wp2
          refine bodyPost_ret (results_none rfl _ _ _) rfl ?_
          exact ⟨⟨_, rfl⟩, .inr ⟨_, trivial, hJx3⟩⟩
    · have hlt' : ¬ ((20 * k : Nat) : Int) < (len : Int) := by omega
      have HN := Aside0.mk hnx
      have HJ := Aside0.mk hJs
      have HP : Aside0 (partsN pre = List.range ((len + 19) / 20)) := ⟨by rw [hpre]; congr 1; omega⟩
      clear hnx hJs hpre
      gi_wp2
      go_end0
      exact ⟨⟨_, rfl⟩, .inl ⟨pre, HP.out, HJ.out⟩⟩
/-- the parts come one by one -/
theorem chunkIt_stops (n : Nat) (hn : 1 ≤ n) (B1 B2 : Nat) (ad : Addr) (len c : Nat) (hlen : len ≤ 1000000) (hc : len ≤ c) (w : World) (h1 : B1 < w.heap.size) (h2 : B2 < w.heap.size) (hB1 : w.cell? ⟨B1, 0, none⟩ = some (.slice (some ad) len c)) (hB2 : w.cell? ⟨B2, 0, none⟩ = some (.int .i64 20)) :
    SeqStopsK Fence.wide n Tryd.prog 62 #[.pointer (some ⟨B1, 0, none⟩), .pointer (some ⟨B2, 0, none⟩)] (encPt ad len) (KeepB B1 B2) (fun ys => partsN ys = List.range ((len + 19) / 20)) (fun _ => True) ((len + 19) / 20) w := by
  intro l J Jx W hb hJ _ hY h0
  exact chunkIt_in n hn l B1 B2 ad len c hlen hc J Jx (fun pre W' q h => hJ pre W' _ none h ⟨rfl, rfl, rfl, Nat.le_refl _, fun _ _ _ => rfl⟩ (fun _ e => by cases e)) hY W ((hb.cell (p := ⟨B1, 0, none⟩) h1).trans hB1) ((hb.cell (p := ⟨B2, 0, none⟩) h2).trans hB2) h0
end Go.Proofs.YtbgmnmjokdfmlaaDoor.PA
namespace Go
section
variable {P : Program} {ops : Array Oper} {Q : Exit → Act → World → Prop} {md : Region.Mode} {S : World → Prop}
/-- whatever order is picked for the head, S holding behind each of its operations; L where the head has come up -/
def wpAnyG (P : Program) (md : Region.Mode) (ops : Array Oper) (Q : Exit → Act → World → Prop) (S : World → Prop) (n : Nat) (L : Array Bool → Act → World → Prop) : Nat → Array Bool → Act → World → Prop
  | 0, listed, a, w => L listed a w
  | f + 1, listed, a, w =>
    Region.ready md ops listed ≠ [] ∧ ∀ i ∈ Region.ready md ops listed, i < n ∧ wpOp P ops Q i (fun a' w' => S w' ∧ wpAnyG P md ops Q S n L f (listed.setIfInBounds i true) a' w') a w
theorem wpAny_of_G {n g : Nat} {L : Array Bool → Act → World → Prop} (hL : ∀ listed a w, L listed a w → wpAny P md ops Q g listed a w) :
    ∀ (f : Nat) (listed : Array Bool) (a : Act) (w : World), wpAnyG P md ops Q S n L f listed a w → wpAny P md ops Q (f + g) listed a w
  | 0, listed, a, w, h => by rw [Nat.zero_add]; exact hL _ _ _ h
  | f + 1, listed, a, w, h => by
    rw [show f + 1 + g = (f + g) + 1 by omega]
    exact ⟨fun h0 => absurd h0 h.1, fun i hi => wpOp_mono (fun a' w' h' => wpAny_of_G hL f _ a' w' h'.2) (h.2 i hi).2⟩
theorem wpAnyG_first {n i : Nat} {oi : Oper} {v : Value} {L : Array Bool → Act → World → Prop} (hi : ops[i]? = some oi) (hsel : ∀ (j : Nat) (o : Oper) cs b, ops[j]? = some o → o.op ≠ .select cs b)
    (hs : Region.sinkB md ops n = true) (hc : Region.chainB md ops n = true) (hn : n < ops.size) (hin : i < n) (hQ : ∀ c a w, Q (.panic c) (a.put oi.dst v) w → Q (.panic c) a w)
    (hdone : ∀ listed a w, L listed a w → ∀ j ∈ Region.ready md ops listed, n ≤ j) :
    ∀ (f : Nat) (listed : Array Bool) (a : Act) (w : World), HeadInv md ops n listed →
      (∀ j oj, ops[j]? = some oj → j ≠ i → listed.getD j true = false → (∀ e ∈ oj.after, Region.binds md e = true → e.on ≠ i) → oi.apart ops oj = true) →
      i ∈ Region.ready md ops listed → YieldsIf P ops S oi v a → S w →
      wpAnyG P md ops Q S n L f (listed.setIfInBounds i true) (a.put oi.dst v) w → wpAnyG P md ops Q S n L (f + 1) listed a w := by
  intro f
  induction f with
  | zero =>
    intro listed a w inv _ hr hy hS H
    have hun := (mem_ready.1 hr).1
    refine ⟨fun h => (by rw [h] at hr; cases hr), fun j hj => ?_⟩
    have hjn : j < n := by
      rcases Nat.lt_or_ge j n with h | h
      · exact h
      · exact absurd hj (tail_waits hs hc hn inv _ i rfl hin hun j h)
    refine ⟨hjn, ?_⟩
    by_cases hji : j = i
    · subst hji; exact hy.wpOp hi hS ⟨hS, H⟩
    · have := hdone _ _ _ H j (ready_mono hj hji)
      omega
  | succ f ih =>
    intro listed a w inv hfree hr hy hS H
    have hun := (mem_ready.1 hr).1
    refine ⟨fun h => (by rw [h] at hr; cases hr), fun j hj => ?_⟩
    have hjn : j < n := by
      rcases Nat.lt_or_ge j n with h | h
      · exact h
      · exact absurd hj (tail_waits hs hc hn inv _ i rfl hin hun j h)
    refine ⟨hjn, ?_⟩
    by_cases hji : j = i
    · subst hji; exact hy.wpOp hi hS ⟨hS, H⟩
    · have h1 := (H.2 j (ready_mono hj hji)).2
      obtain ⟨hjun, oj, hoj, hall⟩ := mem_ready.1 hj
      have hnot : ∀ e ∈ oj.after, Region.binds md e = true → e.on ≠ i := fun e he hb heq => by
        have h1 := hall e he hb
        rw [heq, getD_both hun] at h1
        cases h1
      have h2 := wpOp_putIf hoj (hfree j oj hoj hji hjun hnot) (fun cs b => hsel i oi cs b hi) (fun cs b => hsel j oj cs b hoj) hQ hy h1
      have hfree' : ∀ k ok, ops[k]? = some ok → k ≠ i → (listed.setIfInBounds j true).getD k true = false →
          (∀ e ∈ ok.after, Region.binds md e = true → e.on ≠ i) → oi.apart ops ok = true := fun k ok hk hki hun hno => by
        refine hfree k ok hk hki ?_ hno
        by_cases hjk : j = k
        · subst hjk; exact hjun
        · rw [getD_set_ne true hjk] at hun; exact hun
      refine wpOp_mono (fun a' w' h3 => ⟨h3.2.1, ih (listed.setIfInBounds j true) a' w' (inv.set hj hjn) hfree' (ready_mono hr (Ne.symm hji)) h3.1 h3.2.1 ?_⟩) h2
      rw [Array.setIfInBounds_comm _ _ hji]
      exact h3.2.2
/-- the tail's turn -/
def GEnd (P : Program) (ops : Array Oper) (Q : Exit → Act → World → Prop) (n : Nat) (listed : Array Bool) (a : Act) (w : World) : Prop :=
  Region.seqB .any ops (ops.size - n) n listed = true ∧ wpList P ops Q (ops.toList.drop n) a w
/-- the walk's goal: f operations of the head to come -/
def GHead (P : Program) (ops : Array Oper) (Q : Exit → Act → World → Prop) (S : World → Prop) (n f : Nat) (listed : Array Bool) (a : Act) (w : World) : Prop :=
  HeadInv .any ops n listed → wpAnyG P .any ops Q S n (GEnd P ops Q n) f listed a w
theorem GHead.take {n f i : Nat} {oi : Oper} {v : Value} {listed : Array Bool} {a : Act} {w : World} (hi : ops[i]? = some oi)
    (hB : (Region.noSelect ops && decide (n < ops.size) && Region.sinkB .any ops n && Region.chainB .any ops n && decide (i < n) && Region.free .any ops listed i && (Region.ready .any ops listed).contains i) = true)
    (hQ : ∀ c a w, Q (.panic c) (a.put oi.dst v) w → Q (.panic c) a w) (hy : YieldsIf P ops S oi v a) (hS : S w)
    (h : GHead P ops Q S n f (listed.setIfInBounds i true) (a.put oi.dst v) w) : GHead P ops Q S n (f + 1) listed a w := fun inv => by
  simp only [Bool.and_eq_true, decide_eq_true_eq] at hB
  obtain ⟨⟨⟨⟨⟨⟨hsel, hn⟩, hs⟩, hc⟩, hin⟩, hf⟩, hr⟩ := hB
  have hr' : i ∈ Region.ready .any ops listed := by simpa using hr
  exact wpAnyG_first hi (Region.noSelect_spec hsel) hs hc hn hin hQ (fun listed' a' w' hL => seqB_ready hL.1) f listed a w inv (Region.free_spec hi hf) hr' hy hS (h (inv.set hr' hin))
theorem GHead.take' {n f i d : Nat} {oi : Oper} {v : Value} {listed : Array Bool} {a : Act} {w : World} (hi : ops[i]? = some oi) (hd : oi.dst = some d)
    (hB : (Region.noSelect ops && decide (n < ops.size) && Region.sinkB .any ops n && Region.chainB .any ops n && decide (i < n) && Region.free .any ops listed i && (Region.ready .any ops listed).contains i) = true)
    (hQ : ∀ c a w, Q (.panic c) (a.put oi.dst v) w → Q (.panic c) a w) (hy : YieldsIf P ops S oi v a) (hS : S w)
    (h : GHead P ops Q S n f (listed.setIfInBounds i true) { a with tmps := a.tmps.setIfInBounds d v } w) : GHead P ops Q S n (f + 1) listed a w :=
  GHead.take hi hB hQ hy hS (by rw [hd]; exact h)
theorem GHead.one {n f i : Nat} {oi : Oper} {listed : Array Bool} {a : Act} {w : World} (hi : ops[i]? = some oi)
    (hB : (decide (Region.ready .any ops listed = [i]) && decide (i < n)) = true) (hw : Region.wanted oi (yielded ops a.tmps) = true)
    (h : ∀ K : Act → World → Prop, (∀ a' w', S w' → GHead P ops Q S n f (listed.setIfInBounds i true) a' w' → K a' w') → Oper.wp P oi a w K Q) : GHead P ops Q S n (f + 1) listed a w := fun inv => by
  simp only [Bool.and_eq_true, decide_eq_true_eq] at hB
  obtain ⟨hr, hin⟩ := hB
  refine ⟨fun h0 => (by rw [hr] at h0; cases h0), fun j hj => ?_⟩
  have hji : j = i := by rw [hr] at hj; simpa using hj
  subst hji
  refine ⟨hin, ?_⟩
  refine wpOp_step hi fun K hK => ?_
  rw [if_pos hw]
  exact h K fun a' w' hS' hG => hK a' w' ⟨hS', hG (inv.set hj hin)⟩
theorem GHead.nil {n : Nat} {listed : Array Bool} {a : Act} {w : World} (hB : Region.seqB .any ops (ops.size - n) n listed = true) (h : wpList P ops Q (ops.toList.drop n) a w) : GHead P ops Q S n 0 listed a w := fun _ => ⟨hB, h⟩
theorem GHead.last {n : Nat} {oi : Oper} {listed : Array Bool} {a : Act} {w : World} (hi : ops[n]? = some oi) (hB : (Region.seqB .any ops (ops.size - n) n listed && decide (ops.size = n + 1)) = true) (hw : Region.wanted oi (yielded ops a.tmps) = true)
    (h : ∀ K : Act → World → Prop, (∀ a' w', Q .normal a' w' → K a' w') → Oper.wp P oi a w K Q) : GHead P ops Q S n 0 listed a w := by
  simp only [Bool.and_eq_true, decide_eq_true_eq] at hB
  refine GHead.nil hB.1 ?_
  have hl : ops.toList.drop n = [oi] := by
    obtain ⟨hlt, he⟩ := Array.getElem?_eq_some_iff.1 hi
    rw [List.drop_eq_getElem_cons (by simpa using hlt), List.drop_eq_nil_of_le (by simp [hB.2])]
    simp [he]
  rw [hl]
  simp only [wpList, if_pos hw]
  exact .inl (h _ (fun _ _ h => h))
theorem GHead.start {n : Nat} {a : Act} {w : World} (hn : n ≤ ops.size) (h : GHead P ops Q S n n (Array.replicate ops.size false) a w) : wpAny P .any ops Q ops.size (Array.replicate ops.size false) a w := by
  have inv0 : HeadInv .any ops n (Array.replicate ops.size false) :=
    ⟨by simp, fun j oj _ hl => (by rw [getD_replicate_false] at hl; cases hl), fun t _ ht => getD_in (by simpa using ht) (getD_replicate_false _ _)⟩
  have H := wpAny_of_G (Q := Q) (g := ops.size - n) (fun listed a' w' (hL : GEnd P ops Q n listed a' w') => by
    have hlen : (ops.toList.drop n).length = ops.size - n := by simp
    have := wpAny_of_seq (md := .any) (Q' := Q) (ops.toList.drop n) n listed a' w' (fun j => by simp [List.getElem?_drop]) (by rw [hlen]; exact hL.1) hL.2
    rwa [hlen] at this) n _ a w (h inv0)
  rwa [Nat.add_sub_cancel' hn] at H
end
section
variable {P : Program} {ops : Array Oper} {Q : Exit → Act → World → Prop} {md : Region.Mode}
/-- what is shown plain, in a round -/
theorem wpOpIn_of_wide (l n : Nat) (hnl : ¬ LetsOut Q) (hnd : ∀ (j : Nat) (o : Oper) c, ops[j]? = some o → o.op ≠ .defer c) {i : Nat} {K K' : Act → World → Prop} {a : Act} {w : World} (hK : ∀ a w, K a w → K' a w) (h : wpOp P ops Q i K a w) : wpOpIn (Fence.wide.inRound l) n P ops Q i K' a w := by
  unfold wpOp at h
  unfold wpOpIn
  split
  · rename_i ho; simp only [ho] at h; exact hK _ _ h
  · rename_i o ho
    simp only [ho] at h
    split
    · rename_i hw
      simp only [hw, if_true] at h
      rcases h with h | ⟨_, h⟩
      · refine ⟨fun _ _ => trivial, ?_⟩
        rw [Oper.semAt_eq _ _ _ (fun c => hnd i o c ho)]
        unfold Oper.wp at h
        generalize (execOp a.eval o).run P w = r at *
        cases r with
        | ok x w' =>
          cases x <;> simp only [Oper.upon] at h <;> simp only [Oper.uponIn]
          case value v => exact hK _ _ h
          case skip => exact hK _ _ h
          case defer d => exact hK _ _ h
          case enter f args =>
            refine ⟨fun hd => by simp [Fence.wide] at hd, (CallsIn.inRound l (callsIn_wide.2 h)).mono fun e w'' he => ?_⟩
            cases e with
            | returned u => exact hK _ _ he
            | panicked c => exact he
            | outgrown => exact he
          case row row args =>
            refine ⟨fun hd => by simp [Fence.wide] at hd, ?_⟩
            intro c cs _
            obtain ⟨v, w'', hR, hs⟩ := h c cs
            exact ⟨v, w'', hK _ _ hR, stepsIn_wide.2 hs⟩
        | halt x w' => cases x <;> simp only [Oper.upon] at h <;> simp only [Oper.uponIn] <;> exact h
      · exact absurd h hnl
    · rename_i hw
      simp only [hw] at h
      exact ⟨fun _ _ => trivial, hK _ _ h⟩
theorem wpAnyIn_of_wide (l n : Nat) (hnl : ¬ LetsOut Q) (hnd : ∀ (j : Nat) (o : Oper) c, ops[j]? = some o → o.op ≠ .defer c) : ∀ (fuel : Nat) (listed : Array Bool) (a : Act) (w : World),
    wpAny P md ops Q fuel listed a w → wpAnyIn (Fence.wide.inRound l) n P md ops Q fuel listed a w
  | 0, _, _, _, h => h
  | fuel + 1, _, _, _, h => ⟨h.1, fun i hi => wpOpIn_of_wide l n hnl hnd (fun a' w' h' => wpAnyIn_of_wide l n hnl hnd fuel _ a' w' h') (h.2 i hi)⟩
/-- no defer statement among these -/
def noDefer (ops : Array Oper) : Bool := ops.all fun o => match o.op with | .defer _ => false | _ => true
theorem noDefer_spec (h : noDefer ops = true) (j : Nat) (o : Oper) (c : Call) (ho : ops[j]? = some o) : o.op ≠ .defer c := by
  intro hc
  have := Array.all_eq_true'.1 h o (Array.mem_of_getElem? ho)
  rw [hc] at this
  cases this
theorem wpIn_region_wide {id : Nat} (l n : Nat) {a : Act} {w : World} (hnl : ¬ LetsOut Q) (hm : P.follows .mixedOrders = true) (hd : noDefer ops = true)
    (h : wpAny P .any ops Q ops.size (Array.replicate ops.size false) a w.drew) : (Code.region id ops true).wpIn (Fence.wide.inRound l) n P Q a w :=
  wpIn_region_any hm (wpAnyIn_of_wide l n hnl (noDefer_spec hd) _ _ _ _ h)
theorem wpIn_region_wide0 {id : Nat} (l n : Nat) {a : Act} {w : World} (hm : P.follows .mixedOrders = true) (hd : noDefer ops = true)
    (h : wpAny P .any ops (fun e a w => e = .normal ∧ Q .normal a w) ops.size (Array.replicate ops.size false) a w.drew) : (Code.region id ops true).wpIn (Fence.wide.inRound l) n P Q a w :=
  wpIn_mono (Q := fun e a w => e = .normal ∧ Q .normal a w) (wpIn_region_wide l n (fun hl => by obtain ⟨_, _, h, _⟩ := hl; cases h) hm hd h) (fun e a w he => by obtain ⟨h1, h2⟩ := he; subst h1; exact h2)
theorem ownPostK_lets {α : Type} {Kp : World → World → Prop} {I : List α → World → Prop} {Ix : Code → List α → World → Prop} {xs : List α} {W : World} : ¬ LetsOut (ownPostK Kp I Ix xs W) := fun ⟨_, _, h⟩ => h
end
end Go
namespace Go.Proofs.YtbgmnmjokdfmlaaDoor.PA
open Go.RowKit Go.Proofs.YtbgmnmjokdfmlaaDoor.G Go.Proofs.YtbgmnmjokdfmlaaDoorW.PrintWords Go.Proofs.YtbgmnmjokdfmlaaDoorW.PrintLast Go.Proofs.YtbgmnmjokdfmlaaDoorW.PrintMore
set_option linter.unusedVariables false
set_option linter.unusedSimpArgs false

set_option maxHeartbeats 2000000 in
set_option maxRecDepth 100000 in
theorem growB.calls (n : Int) (w : World) (h0 : 0 ≤ n) (h1 : n ≤ 1000000) :
    Calls Tryd.prog 66 #[.slice none 0 0, .int .i64 n] w fun e w' => ∃ v : Value, e = .returned v ∧ Kd.R (Kd.int .u8) 5 w' w.heap.size (fun _ => True) v [] ∧ Below w.heap.size w w' := by
  have hneg : decide (n < 0) = false := decide_eq_false (by omega)
  have hw : IntKind.i64.wrap n = n := by rw [IntKind.wrap_i64]; omega
  have HB0 : Aside0 (Below w.heap.size w w) := ⟨Below.refl _ _⟩
  obtain ⟨i05, hi05, _, hsz5, _⟩ := info_parts infoU8
  have hcut0 := cut_to (P := Tryd.prog) 22 5 .i64 Tryd.underlying22 hi05 none 0 0 0 (by omega) (by omega) (by omega)
  have HN0 : Aside0 (0 ≤ n ∧ n ≤ 1000000) := ⟨h0, h1⟩
  clear h0 h1
  go_enter Tryd.func66, Tryd.ntmps66
  by_cases hp : 0 < n
  · have hd : decide (0 < n) = true := decide_eq_true hp
    have HP := Aside0.mk hp
    clear hp
    go_wp2_with (first | ((with_reducible refine gate_dst (N := 22) rfl ?_); go_must (refine Kd.R_append_zeros (Kd.int .u8) (w0 := w) w.heap.size rfl (.tmp 20) (.tmp 21) 22 3 5 (.int .u8 0) 1 rfl Tryd.underlying22 Tryd.underlying3 infoU8 rfl (by decide) (by omega) (.slice none 0 0) [] 0 n (fun _ => True) rfl rfl rfl (fun _ _ => trivial) (Kd.R_nil _ _ _ _ _) HN0.out.1 (Below.refl _ _) (Nat.le_refl _) ?h6 ?_); (case h6 => (have := HN0.out; simp only [List.length_nil]; omega)); intro v4 w4 hR4 hB4 hg4 ho4; obtain ⟨g4, c4, rfl, hb4, hl4, _⟩ := Kd.R_form hR4 (by have := HP.out; simp only [List.nil_append, List.length_replicate]; omega); have hcc := (Kd.R_reads' hR4).2.1; have hcut4 := cut_to (P := Tryd.prog) 22 5 .i64 Tryd.underlying22 hi05 (some ⟨g4, 0, none⟩) _ c4 0 (by omega) (by omega) hcc; have HR4 := Aside0.mk (Kd.R_take hR4 (Nat.zero_le _)); have HB4 := Aside0.mk hB4; clear hR4 hB4 hg4 ho4))
    go_ret
    exact ⟨_, rfl, HR4.out, HB4.out⟩
  · obtain rfl : n = 0 := by have := HN0.out; omega
    go_wp2
    go_ret
    exact ⟨_, rfl, Kd.R_nil _ _ _ _ _, Below.refl _ _⟩
theorem flatB_step (Ls : List (List Int)) (k : Nat) (hk : k < Ls.length) : (Ls.take (k + 1)).flatten = (Ls.take k).flatten ++ rd_L6 Ls (k : Int) := by
  have e : rd_L6 Ls (k : Int) = Ls[k] := by simp [rd_L6, List.getD_eq_getElem?_getD, List.getElem?_eq_getElem hk]
  rw [List.take_succ_eq_append_getElem hk, List.flatten_append, e]
  simp
theorem flatB_le (Ls : List (List Int)) (k : Nat) : (Ls.take k).flatten.length ≤ Ls.flatten.length := by
  have : Ls.flatten.length = (Ls.take k).flatten.length + (Ls.drop k).flatten.length := by rw [← List.length_append, ← List.flatten_append, List.take_append_drop]
  omega
set_option maxHeartbeats 2000000 in
set_option maxRecDepth 100000 in
theorem concatB.calls (A0 : Option Addr) (c0 n : Nat) (Ls : List (List Int)) (w : World) (hn : Ls.length = n) (hr0 : Kd.C (Kd.slice 5 (Kd.int .u8)) w A0 n Ls) (hlen : n ≤ 1000000) (hflat : Ls.flatten.length ≤ 1000000) :
    Calls Tryd.prog 33 #[.slice A0 n c0] w fun e w' => ∃ v : Value, e = .returned v ∧ Kd.R (Kd.int .u8) 5 w' w.heap.size (fun _ => True) v Ls.flatten ∧ Below w.heap.size w w' := by
  subst hn
  have HR := Aside0.mk hr0
  have HL := Aside0.mk hflat
  clear hr0 hflat
  go_enter Tryd.func33, Tryd.ntmps33
  go_wp2
  go_loopw [3, 11] (fun s i wr => ∃ k : Nat, k ≤ Ls.length ∧ i = .int .i64 k ∧ s = .int .i64 (((Ls.take k).flatten.length : Nat) : Int) ∧ Aside0 (Below w.heap.size w wr)) (fun _ i _ => Ls.length - (intOf i).toNat)
  case atStart => exact ⟨0, Nat.zero_le _, rfl, rfl, ⟨Below.refl _ _⟩⟩
  case round =>
    obtain ⟨k, hk, rfl, rfl, HB⟩ := hrel
    by_cases hlt : k < Ls.length
    · obtain ⟨ad, A1, c1, rfl, h0, _, _⟩ := at_L6 (Kd.C_below HR.out HB.out) (k : Int) (by omega) (by omega)
      rw [Int.toNat_natCast] at h0
      have hst := flatB_step Ls k hlt
      have hle1 := flatB_le Ls (k + 1)
      have hlL := HL.out
      have HST : Aside0 ((((Ls.take (k + 1)).flatten.length : Nat) : Int) = ((Ls.take k).flatten.length : Int) + ((rd_L6 Ls (k : Int)).length : Int)) := ⟨by rw [hst, List.length_append]; omega⟩
      have hneg : decide (((Ls.take k).flatten.length : Int) + ((rd_L6 Ls (k : Int)).length : Int) < 0) = false := decide_eq_false (by omega)
      have hw : IntKind.i64.wrap (((Ls.take k).flatten.length : Int) + ((rd_L6 Ls (k : Int)).length : Int)) = ((Ls.take k).flatten.length : Int) + ((rd_L6 Ls (k : Int)).length : Int) := by rw [IntKind.wrap_i64]; have := HST.out; omega
      clear hst hle1 hlL
      generalize rd_L6 Ls (k : Int) = y at h0 HST hneg hw
      generalize (Ls.take k).flatten.length = m at HST hneg hw
      go_wp2
      go_roundw
      case rel => exact ⟨k + 1, by omega, by go_num, by rw [HST.out], HB⟩
      case measure => simp [intOf]; omega
    · obtain rfl : k = Ls.length := by omega
      rw [List.take_length]
      have HL0 : Aside0 ((0 : Int) ≤ (Ls.flatten.length : Int) ∧ (Ls.flatten.length : Int) ≤ 1000000) := ⟨by have := HL.out; omega⟩
      generalize Ls.flatten.length = N at HL0 ⊢
      go_wp2_with (first | (go_at_call 66; (with_reducible refine (growB.calls (N : Int) _ HL0.out.1 HL0.out.2).mono ?_); rintro e w2 ⟨v2, rfl, hr2, hb2⟩; have HR2 := Aside0.mk (Kd.R_lower hr2 HB.out.size); have HB2 := Aside0.mk (below_step HB.out hb2); clear hr2 hb2))
      go_loopw [6, 27] (fun v i wq => ∃ k : Nat, k ≤ Ls.length ∧ i = .int .i64 k ∧ Aside0 (Kd.R (Kd.int .u8) 5 wq w.heap.size (fun _ => True) v (Ls.take k).flatten) ∧ Aside0 (Below w.heap.size w wq)) (fun _ i _ => Ls.length - (intOf i).toNat)
      case atStart => exact ⟨0, Nat.zero_le _, rfl, HR2, HB2⟩
      case round =>
        clear HR2 HB2 HB
        obtain ⟨k, hk, rfl, HO, HB⟩ := hrel
        by_cases hlt : k < Ls.length
        · obtain ⟨ad, A1, c1, rfl, h0, _, hC⟩ := at_L6 HR.out (k : Int) (by omega) (by omega)
          rw [Int.toNat_natCast] at h0
          have h0' := pw_cell_below HB.out h0
          have HF := Aside0.mk (Kd.C_below hC HB.out)
          have HST := Aside0.mk (flatB_step Ls k hlt)
          have HLE := Aside0.mk (flatB_le Ls (k + 1))
          clear h0 hC
          generalize rd_L6 Ls (k : Int) = y at h0' HST HF
          go_wp2_with (first | ((with_reducible refine gate_dst (N := 33) rfl ?_); go_must (refine Kd.R_append_row (Value.int .u8) 0 (h1 := fun _ => rfl) (w0 := w) w.heap.size rfl (.tmp 31) (.tmp 32) 22 5 (.int .u8 0) 1 rfl Tryd.underlying22 infoU8 rfl (by decide) _ (Ls.take k).flatten y A1 y.length c1 (fun _ => True) rfl rfl (fun _ _ => trivial) HO.out HF.out HB.out HB.out.size ?h6 ?_); (case h6 => (have h1 := HST.out; have h2 := HLE.out; have h3 := HL.out; rw [h1, List.length_append] at h2; omega)); intro v4 w4 hR4 hB4 hg4 ho4; have HR4 := Aside0.mk hR4; have HB4 := Aside0.mk hB4; clear hR4 hB4 hg4 ho4))
          go_roundw
          case rel => exact ⟨k + 1, by omega, by go_num, ⟨by rw [HST.out]; exact HR4.out⟩, HB4⟩
          case measure => simp [intOf]; omega
        · obtain rfl : k = Ls.length := by omega
          go_wp2
          go_ret
          exact ⟨_, rfl, by have := HO.out; rwa [List.take_length] at this, HB.out⟩
/-- a new block of four rows of bytes -/
theorem four_C (W : World) (g : Nat) (A1 A2 A3 A4 : Option Addr) (c1 c2 c3 c4 : Nat) (l1 l2 l3 l4 : List Int) (t : Nat) (fr : Nat × Nat) (hb : W.heap[g]? = some (.cells #[.slice A1 l1.length c1, .slice A2 l2.length c2, .slice A3 l3.length c3, .slice A4 l4.length c4] t fr))
    (h1 : Kd.C (Kd.int .u8) W A1 l1.length l1) (k1 : l1.length ≤ c1) (h2 : Kd.C (Kd.int .u8) W A2 l2.length l2) (k2 : l2.length ≤ c2) (h3 : Kd.C (Kd.int .u8) W A3 l3.length l3) (k3 : l3.length ≤ c3) (h4 : Kd.C (Kd.int .u8) W A4 l4.length l4) (k4 : l4.length ≤ c4) :
    Kd.C (Kd.slice 5 (Kd.int .u8)) W (some ⟨g, 0, none⟩) 4 [l1, l2, l3, l4] := by
  have key : ∀ (j : Nat) (u : Value), #[Value.slice A1 l1.length c1, .slice A2 l2.length c2, .slice A3 l3.length c3, .slice A4 l4.length c4][j]? = some u → W.cell? (Addr.add ⟨g, 0, none⟩ j) = some u := fun j u hu => by
    rw [add_plain]
    exact (cell_of_row W g j _ t fr hb).trans hu
  have one : ∀ (j : Nat) (u : Value), #[Value.slice A1 l1.length c1, .slice A2 l2.length c2, .slice A3 l3.length c3, .slice A4 l4.length c4][j]? = some u → ∀ i v, [u][i]? = some v → W.cell? (Addr.add ⟨g, 0, none⟩ (j * 1 + i)) = some v := fun j u hu i v hv => by
    match i, hv with
    | 0, hv =>
      injection hv with hv
      subst hv
      rw [Nat.mul_one, Nat.add_zero]
      exact key j u hu
    | n + 1, hv => simp at hv
  refine ⟨rfl, by decide, fun _ => ⟨_, rfl, fun j p hj => ?_⟩⟩
  match j, hj with
  | 0, hj => injection hj with hj; subst hj; exact ⟨_, rfl, ⟨A1, c1, rfl, k1, h1⟩, one 0 _ rfl⟩
  | 1, hj => injection hj with hj; subst hj; exact ⟨_, rfl, ⟨A2, c2, rfl, k2, h2⟩, one 1 _ rfl⟩
  | 2, hj => injection hj with hj; subst hj; exact ⟨_, rfl, ⟨A3, c3, rfl, k3, h3⟩, one 2 _ rfl⟩
  | 3, hj => injection hj with hj; subst hj; exact ⟨_, rfl, ⟨A4, c4, rfl, k4, h4⟩, one 3 _ rfl⟩
  | n + 4, hj => simp at hj
end Go.Proofs.YtbgmnmjokdfmlaaDoor.PA
namespace Go.Proofs.YtbgmnmjokdfmlaaDoor.PA
open Go.RowKit Go.Proofs.YtbgmnmjokdfmlaaDoor.G Go.Proofs.YtbgmnmjokdfmlaaDoorW.PrintWords Go.Proofs.YtbgmnmjokdfmlaaDoorW.PrintLast Go.Proofs.YtbgmnmjokdfmlaaDoorW.PrintMore
set_option linter.unusedVariables false
set_option linter.unusedSimpArgs false
/-- a label against another -/
def cmpOr (a b : Int) : Int := if a ≠ 0 then a else b
def cmpX (x y : S65) : Int := cmpOr (txt x.f0 y.f0) (txt x.f1 y.f1)
set_option maxHeartbeats 1000000 in
/-- cmp.Or of two numbers that lie in a new block -/
theorem cmpOr.calls (a b : Int) (w : World) (g : Nat) (h0 : w.cell? ⟨g, 0, none⟩ = some (.int .i64 a)) (h1 : w.cell? ⟨g, 1, none⟩ = some (.int .i64 b)) : Calls Tryd.prog 74 #[.slice (some ⟨g, 0, none⟩) 2 2] w fun e w' => e = .returned (.int .i64 (cmpOr a b)) ∧ w' = w := by
  cases ha : (a != 0) with
  | true =>
    have HV : Aside0 (cmpOr a b = a) := ⟨by rw [cmpOr, if_pos (bne_iff_ne.1 ha)]⟩
    go_enter Tryd.func74, Tryd.ntmps74
    go_wp2
    refine wp_loop_rounds 1 ?_
    rw [rounds_succ]
    go_wp2
    go_ret
    exact ⟨by rw [HV.out]; rfl, rfl⟩
  | false =>
    have HV : Aside0 (cmpOr a b = b) := ⟨by rw [cmpOr, if_neg (by simpa using ha)]⟩
    cases hb : (b != 0) with
    | true =>
      go_enter Tryd.func74, Tryd.ntmps74
      go_wp2
      refine wp_loop_rounds 2 ?_
      rw [rounds_succ]
      go_wp2
      rw [rounds_succ]
      go_wp2
      go_ret
      exact ⟨by rw [HV.out]; rfl, rfl⟩
    | false =>
      have hz : b = 0 := by simpa using hb
      have HV2 : Aside0 (cmpOr a b = 0) := ⟨by rw [HV.out, hz]⟩
      clear hz
      go_enter Tryd.func74, Tryd.ntmps74
      go_wp2
      refine wp_loop_rounds 3 ?_
      rw [rounds_succ]
      go_wp2
      rw [rounds_succ]
      go_wp2
      rw [rounds_succ]
      go_wp2
      go_ret
      exact ⟨by rw [HV2.out]; rfl, rfl⟩
set_option maxHeartbeats 4000000 in
set_option maxRecDepth 100000 in
theorem cmpX.calls (x y : S65) (w : World) : Calls Tryd.prog 73 #[.agg #[.string x.f0, .string x.f1], .agg #[.string y.f0, .string y.f1]] w fun e w' => e = .returned (.int .i64 (cmpX x y)) ∧ Below w.heap.size w w' := by
  have bx := blk_alloc (blk_new w (.cells #[.string x.f0, .string x.f1] 65 (0, 0))) (.cells #[.string y.f0, .string y.f1] 65 (0, 0))
  have by_ := blk_new (w.alloc (.cells #[.string x.f0, .string x.f1] 65 (0, 0))) (.cells #[.string y.f0, .string y.f1] 65 (0, 0))
  rw [show (w.alloc (.cells #[.string x.f0, .string x.f1] 65 (0, 0))).heap.size = w.heap.size + 1 by simp] at by_
  have HB := Aside0.mk (below_drew1 (below_alloc (below_alloc (Below.refl w.heap.size w) (.cells #[.string x.f0, .string x.f1] 65 (0, 0))) (.cells #[.string y.f0, .string y.f1] 65 (0, 0))))
  have a0 : ∀ W, W = ((w.alloc (.cells #[.string x.f0, .string x.f1] 65 (0, 0))).alloc (.cells #[.string y.f0, .string y.f1] 65 (0, 0))).drew → W.cell? ⟨w.heap.size, 0, none⟩ = some (.string x.f0) ∧ W.cell? ⟨w.heap.size, 1, none⟩ = some (.string x.f1) ∧ W.cell? ⟨w.heap.size + 1, 0, none⟩ = some (.string y.f0) ∧ W.cell? ⟨w.heap.size + 1, 1, none⟩ = some (.string y.f1) ∧ W.heap.size = w.heap.size + 1 + 1 := fun W hW => by
    subst hW
    exact ⟨blk_cell (blk_drew bx) 0, blk_cell (blk_drew bx) 1, blk_cell (blk_drew by_) 0, blk_cell (blk_drew by_) 1, by simp⟩
  have HA := Aside0.mk a0
  clear a0 bx by_
  go_enter Tryd.func73, Tryd.ntmps73
  go_wp2_with fail
  refine wp_region_st 10 (by kernel_rfl) (by kernel_rfl) ?_
  intro W hW
  obtain ⟨a0, a1, a2, a3, hz⟩ := HA.out W hW
  rw [← hW] at HB
  have HB1 := Aside0.mk (below_alloc HB.out (.cells #[.int .i64 (txt x.f0 y.f0), .int .i64 (txt x.f1 y.f1)] 3 (0, 0)))
  have HN := Aside0.mk (blk_new W (.cells #[.int .i64 (txt x.f0 y.f0), .int .i64 (txt x.f1 y.f1)] 3 (0, 0)))
  clear hW HA hz
  simp only [List.take_succ_cons, List.take_zero, List.drop_succ_cons, List.drop_zero]
  repeat (first | still_step | still_call (cmpStr.calls _ _ _))
  refine wpStill_nil ?_
  go_wp2_with (first | (go_at_call 74; refine (cmpOr.calls (txt x.f0 y.f0) (txt x.f1 y.f1) _ _ (blk_cell HN.out 0) (blk_cell HN.out 1)).mono ?_; rintro e w1 ⟨rfl, rfl⟩))
  go_ret
  exact ⟨rfl, HB1.out⟩
/-- labels against labels -/
def cmpL : List S65 → List S65 → Int
  | [], [] => 0
  | [], _ :: _ => -1
  | _ :: _, [] => 1
  | x :: a, y :: b => cmpOr (cmpX x y) (cmpL a b)
theorem drop_T65 (l : List S65) (k : Nat) (h : k < l.length) : l.drop k = rd_T65 l (k : Int) :: l.drop (k + 1) := by
  rw [List.drop_eq_getElem_cons h]
  simp [rd_T65, List.getD_eq_getElem?_getD, List.getElem?_eq_getElem h]
theorem cmpL_step (a b : List S65) (k : Nat) (h1 : k < a.length) (h2 : k < b.length) : cmpL (a.drop k) (b.drop k) = cmpOr (cmpX (rd_T65 a (k : Int)) (rd_T65 b (k : Int))) (cmpL (a.drop (k + 1)) (b.drop (k + 1))) := by
  rw [drop_T65 a k h1, drop_T65 b k h2]
  rfl
theorem cmpL_gt (a b : List S65) (k : Nat) (h1 : k < a.length) (h2 : b.length ≤ k) : cmpL (a.drop k) (b.drop k) = 1 := by
  rw [drop_T65 a k h1, List.drop_eq_nil_of_le h2]
  rfl
theorem cmpL_lt (a b : List S65) (k : Nat) (h1 : a.length ≤ k) (h2 : k < b.length) : cmpL (a.drop k) (b.drop k) = -1 := by
  rw [drop_T65 b k h2, List.drop_eq_nil_of_le h1]
  rfl
theorem cmpL_eq (a b : List S65) (k : Nat) (h1 : a.length ≤ k) (h2 : b.length ≤ k) : cmpL (a.drop k) (b.drop k) = 0 := by
  rw [List.drop_eq_nil_of_le h2, List.drop_eq_nil_of_le h1]
  rfl
set_option maxHeartbeats 2000000 in
set_option maxRecDepth 100000 in
theorem cmpF.calls (A B : Option Addr) (c e0 n m : Nat) (a b : List S65) (w : World) (hn : a.length = n) (hm : b.length = m) (hr : Kd.C k65 w A n a) (hs : Kd.C k65 w B m b) (hl : n ≤ 1000000) :
    Calls Tryd.prog 72 #[.slice A n c, .slice B m e0, .func (.func 73) #[] #[]] w fun e w' => e = .returned (.int .i64 (cmpL a b)) ∧ Below w.heap.size w w' := by
  subst hn hm
  have HR := Aside0.mk hr
  have HS := Aside0.mk hs
  clear hr hs
  go_enter Tryd.func72, Tryd.ntmps72
  go_wp2
  go_loopw [13] (fun j wr => ∃ k : Nat, k ≤ a.length ∧ k ≤ b.length ∧ j = .int .i64 k ∧ Aside0 (cmpL a b = cmpL (a.drop k) (b.drop k)) ∧ Aside0 (Below w.heap.size w wr)) (fun j _ => a.length - (intOf j).toNat)
  case atStart => exact ⟨0, Nat.zero_le _, Nat.zero_le _, rfl, ⟨rfl⟩, ⟨Below.refl _ _⟩⟩
  case round =>
    obtain ⟨k, hk, hk2, rfl, HE, HB⟩ := hrel
    by_cases hlt : k < a.length
    · obtain ⟨ad, rfl, h0, h1⟩ := at_T65 (Kd.C_below HR.out HB.out) (k : Int) (by omega) (by omega)
      rw [Int.toNat_natCast] at h0 h1
      by_cases hlt2 : k < b.length
      · obtain ⟨bd, rfl, i0, i1⟩ := at_T65 (Kd.C_below HS.out HB.out) (k : Int) (by omega) (by omega)
        rw [Int.toNat_natCast] at i0 i1
        have HST := Aside0.mk (cmpL_step a b k hlt hlt2)
        generalize rd_T65 a (k : Int) = x at *
        generalize rd_T65 b (k : Int) = y at *
        have j0 := pw_cell_below (below_alloc (Below.refl _ _) (.cells #[.string x.f0, .string x.f1] 65 (0, 0))) i0
        have j1 := pw_cell_below (below_alloc (Below.refl _ _) (.cells #[.string x.f0, .string x.f1] 65 (0, 0))) i1
        have HB0 := Aside0.mk (below_alloc (below_alloc HB.out (.cells #[.string x.f0, .string x.f1] 65 (0, 0))) (.cells #[.string y.f0, .string y.f1] 65 (0, 0)))
        cases hc : (cmpX x y != 0) with
        | true =>
          have HV : Aside0 (cmpL a b = cmpX x y) := ⟨by rw [HE.out, HST.out, cmpOr, if_pos (bne_iff_ne.1 hc)]⟩
          go_wp2_with (first | (go_at_call 73; (with_reducible refine (cmpX.calls x y _).mono ?_); rintro e w1 ⟨rfl, hb⟩; have HB1 := Aside0.mk (below_step HB0.out hb); clear hb))
          go_ret
          exact ⟨by rw [HV.out]; rfl, HB1.out⟩
        | false =>
          have HV : Aside0 (cmpL a b = cmpL (a.drop (k + 1)) (b.drop (k + 1))) := ⟨by rw [HE.out, HST.out, cmpOr, if_neg (by simpa using hc)]⟩
          go_wp2_with (first | (go_at_call 73; (with_reducible refine (cmpX.calls x y _).mono ?_); rintro e w1 ⟨rfl, hb⟩; have HB1 := Aside0.mk (below_step HB0.out hb); clear hb))
          go_roundw
          case rel => exact ⟨k + 1, by omega, by omega, by go_num, HV, HB1⟩
          case measure => simp [intOf]; omega
      · have HV : Aside0 (cmpL a b = 1) := ⟨by rw [HE.out, cmpL_gt a b k hlt (by omega)]⟩
        have HB0 := Aside0.mk (below_alloc HB.out (.cells #[.string (rd_T65 a (k : Int)).f0, .string (rd_T65 a (k : Int)).f1] 65 (0, 0)))
        have hge : ((b.length : Nat) : Int) ≤ (k : Int) := by omega
        go_wp2
        go_ret
        exact ⟨by rw [HV.out]; rfl, HB0.out⟩
    · obtain rfl : k = a.length := by omega
      by_cases hlt2 : a.length < b.length
      · have HV : Aside0 (cmpL a b = -1) := ⟨by rw [HE.out, cmpL_lt a b _ (Nat.le_refl _) hlt2]⟩
        have hge : ((a.length : Nat) : Int) < (b.length : Int) := by omega
        go_wp2
        go_ret
        exact ⟨by rw [HV.out]; rfl, HB.out⟩
      · have HV : Aside0 (cmpL a b = 0) := ⟨by rw [HE.out, cmpL_eq a b _ (Nat.le_refl _) (by omega)]⟩
        have hge : decide (((a.length : Nat) : Int) < (b.length : Int)) = false := decide_eq_false (by omega)
        go_wp2
        go_ret
        exact ⟨by rw [HV.out]; rfl, HB.out⟩
theorem cmpL.calls (A B : Option Addr) (c e0 n m : Nat) (a b : List S65) (w : World) (hn : a.length = n) (hm : b.length = m) (hr : Kd.C k65 w A n a) (hs : Kd.C k65 w B m b) (hl : n ≤ 1000000) :
    Calls Tryd.prog 40 #[.slice A n c, .slice B m e0] w fun e w' => e = .returned (.int .i64 (cmpL a b)) ∧ Below w.heap.size w w' := by
  have HC := Aside0.mk (cmpF.calls A B c e0 n m a b w hn hm hr hs hl)
  clear hn hm hr hs hl
  go_enter Tryd.func40, Tryd.ntmps40
  go_wp2_with (first | (go_at_call 72; (with_reducible refine HC.out.mono ?_); rintro e w1 ⟨rfl, hb⟩; have HB := Aside0.mk hb; clear hb))
  go_ret
  exact ⟨rfl, HB.out⟩
end Go.Proofs.YtbgmnmjokdfmlaaDoor.PA
namespace Go.Proofs.YtbgmnmjokdfmlaaDoor.PA
open Go.RowKit Go.Proofs.YtbgmnmjokdfmlaaDoor.G Go.Proofs.YtbgmnmjokdfmlaaDoorW.PrintWords Go.Proofs.YtbgmnmjokdfmlaaDoorW.PrintLast Go.Proofs.YtbgmnmjokdfmlaaDoorW.PrintMore
set_option linter.unusedVariables false
set_option linter.unusedSimpArgs false
set_option maxHeartbeats 4000000 in
set_option maxRecDepth 100000 in
theorem rcmpL.calls (A B : Option Addr) (c e0 n m : Nat) (a b : List S65) (w : World) (hn : a.length = n) (hm : b.length = m) (hr : Kd.C k65 w A n a) (hs : Kd.C k65 w B m b) (hl : n ≤ 1000000) :
    Calls Tryd.prog 42 #[.slice A n c, .slice B m e0] w fun e w' => e = .returned (.int .i64 (cmpL a b)) ∧ Below w.heap.size w w' := by
  subst hn hm
  have HR := Aside0.mk hr
  have HS := Aside0.mk hs
  clear hr hs
  by_cases hba : b.length < a.length
  · have HQ : Aside0 (b.length = min a.length b.length) := ⟨by omega⟩
    have hqa : b.length ≤ a.length := by omega
    have hqb : b.length ≤ b.length := by omega
    go_enter Tryd.func42, Tryd.ntmps42
    go_wp2
    go_loopw [13] (fun j wr => ∃ k : Nat, k ≤ b.length ∧ j = .int .i64 k ∧ Aside0 (cmpL a b = cmpL (a.drop k) (b.drop k)) ∧ Aside0 (Below w.heap.size w wr)) (fun j _ => b.length - (intOf j).toNat)
    case atStart => exact ⟨0, Nat.zero_le _, rfl, ⟨rfl⟩, ⟨Below.refl _ _⟩⟩
    case round =>
      obtain ⟨k, hk, rfl, HE, HB⟩ := hrel
      by_cases hlt : k < b.length
      · obtain ⟨ad, rfl, h0, h1⟩ := at_T65 (Kd.C_below HR.out HB.out) (k : Int) (by omega) (by omega)
        rw [Int.toNat_natCast] at h0 h1
        obtain ⟨bd, rfl, i0, i1⟩ := at_T65 (Kd.C_below HS.out HB.out) (k : Int) (by omega) (by omega)
        rw [Int.toNat_natCast] at i0 i1
        have HST := Aside0.mk (cmpL_step a b k (by omega) (by omega))
        have k0 : (0 : Int) ≤ (k : Int) := by omega
        have k1 : (k : Int) < (a.length : Int) := by omega
        have k2 : (k : Int) < (b.length : Int) := by omega
        have k3 : (k : Int) < (b.length : Int) := by omega
        generalize rd_T65 a (k : Int) = x at *
        generalize rd_T65 b (k : Int) = y at *
        cases hc : (txt x.f0 y.f0 != 0) with
        | true =>
          have HV : Aside0 (cmpL a b = txt x.f0 y.f0) := ⟨by
            have h_ : txt x.f0 y.f0 ≠ 0 := bne_iff_ne.1 hc
            rw [HE.out, HST.out, cmpX, cmpOr, cmpOr, if_pos h_, if_pos h_]⟩
          go_wp2_with fail
          go_quiet ((go_at_call 76; exact Calls.quiet_of_same (texts.calls _ _ _)))
          go_wp2
          go_ret
          exact ⟨by rw [HV.out]; rfl, pw_below_drewN HB.out _⟩
        | false =>
          have hz : txt x.f0 y.f0 = 0 := by simpa using hc
          cases hd : (txt x.f1 y.f1 != 0) with
          | true =>
            have HV : Aside0 (cmpL a b = txt x.f1 y.f1) := ⟨by
              have h_ : txt x.f1 y.f1 ≠ 0 := bne_iff_ne.1 hd
              rw [HE.out, HST.out, cmpX, cmpOr, cmpOr, hz, if_neg (show ¬ (0 : Int) ≠ 0 by simp), if_pos h_]⟩
            clear hz
            go_wp2_with fail
            go_quiet ((go_at_call 76; exact Calls.quiet_of_same (texts.calls _ _ _)))
            go_wp2_with fail
            generalize hw1 : wr.drewN nq = w1
            have HW1 : Aside0 (Below w.heap.size w w1) := ⟨hw1 ▸ pw_below_drewN HB.out _⟩
            have h1' : w1.cell? ⟨(ad.add (k * 2)).block, (ad.add (k * 2)).off + 1, none⟩ = some (.string x.f1) := hw1 ▸ h1
            have i1' : w1.cell? ⟨(bd.add (k * 2)).block, (bd.add (k * 2)).off + 1, none⟩ = some (.string y.f1) := hw1 ▸ i1
            clear hw1
            go_quiet ((go_at_call 76; exact Calls.quiet_of_same (texts.calls _ _ _)))
            go_wp2
            go_ret
            exact ⟨by rw [HV.out]; rfl, pw_below_drewN HW1.out _⟩
          | false =>
            have hy : txt x.f1 y.f1 = 0 := by simpa using hd
            have HV : Aside0 (cmpL a b = cmpL (a.drop (k + 1)) (b.drop (k + 1))) := ⟨by
              rw [HE.out, HST.out, cmpX, cmpOr, cmpOr, hz, hy, if_neg (show ¬ (0 : Int) ≠ 0 by simp), if_neg (show ¬ (0 : Int) ≠ 0 by simp)]⟩
            clear hz hy
            go_wp2_with fail
            go_quiet ((go_at_call 76; exact Calls.quiet_of_same (texts.calls _ _ _)))
            go_wp2_with fail
            generalize hw1 : wr.drewN nq = w1
            have HW1 : Aside0 (Below w.heap.size w w1) := ⟨hw1 ▸ pw_below_drewN HB.out _⟩
            have h1' : w1.cell? ⟨(ad.add (k * 2)).block, (ad.add (k * 2)).off + 1, none⟩ = some (.string x.f1) := hw1 ▸ h1
            have i1' : w1.cell? ⟨(bd.add (k * 2)).block, (bd.add (k * 2)).off + 1, none⟩ = some (.string y.f1) := hw1 ▸ i1
            clear hw1
            go_quiet ((go_at_call 76; exact Calls.quiet_of_same (texts.calls _ _ _)))
            go_wp2
            go_roundw
            case rel => exact ⟨k + 1, by omega, by go_num, HV, ⟨pw_below_drewN HW1.out _⟩⟩
            case measure => simp [intOf]; omega
      · obtain rfl : k = b.length := by omega
        have hqm := HQ.out
        by_cases hlt2 : a.length < b.length
        · have HV : Aside0 (cmpL a b = -1) := ⟨by rw [HE.out, cmpL_lt a b _ (by omega) (by omega)]⟩
          have hge : decide (a.length < b.length) = true := decide_eq_true (by omega)
          clear hqm hlt2
          go_wp2
          go_ret
          exact ⟨by rw [HV.out]; rfl, HB.out⟩
        · by_cases hlt3 : b.length < a.length
          · have HV : Aside0 (cmpL a b = 1) := ⟨by rw [HE.out, cmpL_gt a b _ (by omega) (by omega)]⟩
            have hge : decide (a.length < b.length) = false := decide_eq_false (by omega)
            have hge2 : decide (b.length < a.length) = true := decide_eq_true (by omega)
            clear hqm hlt2 hlt3
            go_wp2
            go_ret
            first | exact ⟨by rw [HV.out]; rfl, HB.out⟩ | exact absurd hba (of_decide_eq_false hge2) | exact absurd (of_decide_eq_true hge2) hba
          · have HV : Aside0 (cmpL a b = 0) := ⟨by rw [HE.out, cmpL_eq a b _ (by omega) (by omega)]⟩
            have hge : decide (a.length < b.length) = false := decide_eq_false (by omega)
            have hge2 : decide (b.length < a.length) = false := decide_eq_false (by omega)
            clear hqm hlt2 hlt3
            go_wp2
            go_ret
            first | exact ⟨by rw [HV.out]; rfl, HB.out⟩ | exact absurd hba (of_decide_eq_false hge2) | exact absurd (of_decide_eq_true hge2) hba
  · have HQ : Aside0 (a.length = min a.length b.length) := ⟨by omega⟩
    have hqa : a.length ≤ a.length := by omega
    have hqb : a.length ≤ b.length := by omega
    go_enter Tryd.func42, Tryd.ntmps42
    go_wp2
    go_loopw [13] (fun j wr => ∃ k : Nat, k ≤ a.length ∧ j = .int .i64 k ∧ Aside0 (cmpL a b = cmpL (a.drop k) (b.drop k)) ∧ Aside0 (Below w.heap.size w wr)) (fun j _ => a.length - (intOf j).toNat)
    case atStart => exact ⟨0, Nat.zero_le _, rfl, ⟨rfl⟩, ⟨Below.refl _ _⟩⟩
    case round =>
      obtain ⟨k, hk, rfl, HE, HB⟩ := hrel
      by_cases hlt : k < a.length
      · obtain ⟨ad, rfl, h0, h1⟩ := at_T65 (Kd.C_below HR.out HB.out) (k : Int) (by omega) (by omega)
        rw [Int.toNat_natCast] at h0 h1
        obtain ⟨bd, rfl, i0, i1⟩ := at_T65 (Kd.C_below HS.out HB.out) (k : Int) (by omega) (by omega)
        rw [Int.toNat_natCast] at i0 i1
        have HST := Aside0.mk (cmpL_step a b k (by omega) (by omega))
        have k0 : (0 : Int) ≤ (k : Int) := by omega
        have k1 : (k : Int) < (a.length : Int) := by omega
        have k2 : (k : Int) < (b.length : Int) := by omega
        have k3 : (k : Int) < (a.length : Int) := by omega
        generalize rd_T65 a (k : Int) = x at *
        generalize rd_T65 b (k : Int) = y at *
        cases hc : (txt x.f0 y.f0 != 0) with
        | true =>
          have HV : Aside0 (cmpL a b = txt x.f0 y.f0) := ⟨by
            have h_ : txt x.f0 y.f0 ≠ 0 := bne_iff_ne.1 hc
            rw [HE.out, HST.out, cmpX, cmpOr, cmpOr, if_pos h_, if_pos h_]⟩
          go_wp2_with fail
          go_quiet ((go_at_call 76; exact Calls.quiet_of_same (texts.calls _ _ _)))
          go_wp2
          go_ret
          exact ⟨by rw [HV.out]; rfl, pw_below_drewN HB.out _⟩
        | false =>
          have hz : txt x.f0 y.f0 = 0 := by simpa using hc
          cases hd : (txt x.f1 y.f1 != 0) with
          | true =>
            have HV : Aside0 (cmpL a b = txt x.f1 y.f1) := ⟨by
              have h_ : txt x.f1 y.f1 ≠ 0 := bne_iff_ne.1 hd
              rw [HE.out, HST.out, cmpX, cmpOr, cmpOr, hz, if_neg (show ¬ (0 : Int) ≠ 0 by simp), if_pos h_]⟩
            clear hz
            go_wp2_with fail
            go_quiet ((go_at_call 76; exact Calls.quiet_of_same (texts.calls _ _ _)))
            go_wp2_with fail
            generalize hw1 : wr.drewN nq = w1
            have HW1 : Aside0 (Below w.heap.size w w1) := ⟨hw1 ▸ pw_below_drewN HB.out _⟩
            have h1' : w1.cell? ⟨(ad.add (k * 2)).block, (ad.add (k * 2)).off + 1, none⟩ = some (.string x.f1) := hw1 ▸ h1
            have i1' : w1.cell? ⟨(bd.add (k * 2)).block, (bd.add (k * 2)).off + 1, none⟩ = some (.string y.f1) := hw1 ▸ i1
            clear hw1
            go_quiet ((go_at_call 76; exact Calls.quiet_of_same (texts.calls _ _ _)))
            go_wp2
            go_ret
            exact ⟨by rw [HV.out]; rfl, pw_below_drewN HW1.out _⟩
          | false =>
            have hy : txt x.f1 y.f1 = 0 := by simpa using hd
            have HV : Aside0 (cmpL a b = cmpL (a.drop (k + 1)) (b.drop (k + 1))) := ⟨by
              rw [HE.out, HST.out, cmpX, cmpOr, cmpOr, hz, hy, if_neg (show ¬ (0 : Int) ≠ 0 by simp), if_neg (show ¬ (0 : Int) ≠ 0 by simp)]⟩
            clear hz hy
            go_wp2_with fail
            go_quiet ((go_at_call 76; exact Calls.quiet_of_same (texts.calls _ _ _)))
            go_wp2_with fail
            generalize hw1 : wr.drewN nq = w1
            have HW1 : Aside0 (Below w.heap.size w w1) := ⟨hw1 ▸ pw_below_drewN HB.out _⟩
            have h1' : w1.cell? ⟨(ad.add (k * 2)).block, (ad.add (k * 2)).off + 1, none⟩ = some (.string x.f1) := hw1 ▸ h1
            have i1' : w1.cell? ⟨(bd.add (k * 2)).block, (bd.add (k * 2)).off + 1, none⟩ = some (.string y.f1) := hw1 ▸ i1
            clear hw1
            go_quiet ((go_at_call 76; exact Calls.quiet_of_same (texts.calls _ _ _)))
            go_wp2
            go_roundw
            case rel => exact ⟨k + 1, by omega, by go_num, HV, ⟨pw_below_drewN HW1.out _⟩⟩
            case measure => simp [intOf]; omega
      · obtain rfl : k = a.length := by omega
        have hqm := HQ.out
        by_cases hlt2 : a.length < b.length
        · have HV : Aside0 (cmpL a b = -1) := ⟨by rw [HE.out, cmpL_lt a b _ (by omega) (by omega)]⟩
          have hge : decide (a.length < b.length) = true := decide_eq_true (by omega)
          clear hqm hlt2
          go_wp2
          go_ret
          exact ⟨by rw [HV.out]; rfl, HB.out⟩
        · by_cases hlt3 : b.length < a.length
          · have HV : Aside0 (cmpL a b = 1) := ⟨by rw [HE.out, cmpL_gt a b _ (by omega) (by omega)]⟩
            have hge : decide (a.length < b.length) = false := decide_eq_false (by omega)
            have hge2 : decide (b.length < a.length) = true := decide_eq_true (by omega)
            clear hqm hlt2 hlt3
            go_wp2
            go_ret
            first | exact ⟨by rw [HV.out]; rfl, HB.out⟩ | exact absurd hba (of_decide_eq_false hge2) | exact absurd (of_decide_eq_true hge2) hba
          · have HV : Aside0 (cmpL a b = 0) := ⟨by rw [HE.out, cmpL_eq a b _ (by omega) (by omega)]⟩
            have hge : decide (a.length < b.length) = false := decide_eq_false (by omega)
            have hge2 : decide (b.length < a.length) = false := decide_eq_false (by omega)
            clear hqm hlt2 hlt3
            go_wp2
            go_ret
            first | exact ⟨by rw [HV.out]; rfl, HB.out⟩ | exact absurd hba (of_decide_eq_false hge2) | exact absurd (of_decide_eq_true hge2) hba
end Go.Proofs.YtbgmnmjokdfmlaaDoor.PA
namespace Go.Proofs.YtbgmnmjokdfmlaaDoor.PA
open Go.RowKit Go.Proofs.YtbgmnmjokdfmlaaDoor.G Go.Proofs.YtbgmnmjokdfmlaaDoorW.PrintWords Go.Proofs.YtbgmnmjokdfmlaaDoorW.PrintLast Go.Proofs.YtbgmnmjokdfmlaaDoorW.PrintMore
set_option linter.unusedVariables false
set_option linter.unusedSimpArgs false

/-- block g is an out that holds these bits -/
def OU (B : Nat) (W : World) (g : Nat) (L : List Bool) : Prop := ∃ u : Value, W.heap[g]? = some (.cells #[u] 109 (0, 0)) ∧ Kd.R Kd.bool 4 W B (fun _ => True) u L
/-- all blocks stay but g and those of bits -/
def KeepO (g : Nat) (w w' : World) : Prop := ∀ (q : Nat) (cs : Array Value) (t : Nat), q ≠ g → 4 ≠ t → w.heap[q]? = some (.cells cs t (0, 0)) → w'.heap[q]? = some (.cells cs t (0, 0))
theorem KeepO.refl (g : Nat) (w : World) : KeepO g w w := fun _ _ _ _ _ h => h
theorem KeepO.trans {g : Nat} {a b c : World} (h : KeepO g a b) (k : KeepO g b c) : KeepO g a c := fun q cs t h1 h2 h3 => k q cs t h1 h2 (h q cs t h1 h2 h3)
theorem infoBool : (Tryd.prog.info? 4).map (fun i => (i.zero, i.size, i.bytes)) = some (some (.bool false), 1, 1) := by kernel_rfl
theorem and_one (v i : Nat) (hv : v < 18446744073709551616) (hi : i ≤ 64) : (Go.bits .and .u64 ((v : Int) / 2 ^ i) 1 == 1) = v.testBit i := by
  have := one_bit v i hv hi
  rw [shr_nat .u64 v i (by simpa [IntKind.bits] using hi)] at this
  rw [← this]
  simp
set_option maxHeartbeats 4000000 in
set_option maxRecDepth 100000 in
theorem out_put.calls (B g : Nat) (L : List Bool) (v c : Nat) (w0 w : World) (hO : OU B w g L) (hB : Below B w0 w) (hgB : B ≤ g) (hv : v < 18446744073709551616) (hc : c ≤ 64) (hL : L.length ≤ 7000000) :
    Calls Tryd.prog 67 #[.pointer (some ⟨g, 0, none⟩), .int .u64 (v : Int), .int .i64 (c : Int)] w fun e w' => e = .returned (.tuple #[]) ∧ OU B w' g (L ++ low v c) ∧ Below B w0 w' ∧ KeepO g w w' := by
  obtain ⟨u, hblk, hR⟩ := hO
  have HB0 := Aside0.mk hB
  have HBK0 := Aside0.mk hblk
  have HR0 := Aside0.mk hR
  have HGB := Aside0.mk hgB
  have HV := Aside0.mk hv
  have HL := Aside0.mk hL
  have hcn : (0 : Int) ≤ (c : Int) := Int.natCast_nonneg _
  clear hB hblk hR hgB hv hL
  go_enter Tryd.func67, Tryd.ntmps67
  go_wp2_with fail
  go_loopw [6] (fun v6 wr => ∃ (I : Int) (j : Nat) (u : Value), v6 = .int .i64 I ∧ Aside0 (I = (c : Int) - 1 - (j : Int) ∧ j ≤ c) ∧ Aside0 (Kd.R Kd.bool 4 wr B (fun _ => True) u (L ++ (low v c).take j)) ∧ Aside0 (wr.heap[g]? = some (.cells #[u] 109 (0, 0))) ∧ Aside0 (Below B w0 wr) ∧ Aside0 (KeepO g w wr)) (fun i _ => (intOf i + 1).toNat)
  case atStart => exact ⟨_, 0, u, rfl, ⟨by omega, by omega⟩, ⟨by simpa using HR0.out⟩, HBK0, HB0, ⟨KeepO.refl _ _⟩⟩
  case round =>
    clear HBK0 HB0 HR0
    obtain ⟨I, j, u, rfl, HI, HO, BK, HB, HK⟩ := hrel
    by_cases hlt : 0 ≤ I
    · obtain ⟨i, rfl⟩ := Int.eq_ofNat_of_zero_le hlt
      have hi := HI.out
      have hi64 : i < 64 := by omega
      have hz0 : wr.cell? ⟨g, 0, none⟩ = some u := blk_cell BK.out 0
      have hf0 := blk_frozen BK.out 0
      have HB1 := Aside0.mk (and_one v i HV.out (by omega))
      have HST : Aside0 (L ++ (low v c).take (j + 1) = L ++ (low v c).take j ++ [v.testBit i] ∧ (L ++ (low v c).take j).length ≤ 8000000) := ⟨by
        have hj : j < (low v c).length := by rw [low_length]; omega
        rw [List.take_succ_eq_append_getElem hj, low_get v c j (by omega), show c - 1 - j = i by omega, List.append_assoc]
        refine ⟨rfl, ?_⟩
        rw [List.length_append, List.length_take, low_length]
        have := HL.out
        omega⟩
      generalize L ++ (low v c).take j = X at HO HST
      obtain ⟨A, cc, rfl⟩ := Kd.R_slice HO.out
      have hbit := HB1.out
      clear hlt hi
      go_wp2_with fail
      have HO2 := Aside0.mk (Kd.R_drew HO.out)
      have BK2 := Aside0.mk (blk_drew BK.out)
      have HB2 := Aside0.mk (below_drew1 HB.out)
      have hz3 : (wr.alloc (.cells #[.bool (v.testBit i)] 4)).cell? ⟨g, 0, none⟩ = some (.slice A X.length cc) := pw_cell_below (below_alloc (Below.refl _ _) _) hz0
      go_region_law
        ((refine Kd.R_append_step Kd.bool (w0 := w0) (W := wr.drew) B ?_ (.tmp 17) (.tmp 23) 107 4 (.bool false) 1 ?_ Tryd.underlying107 infoBool rfl (by decide) (by omega) (.slice A X.length cc) X (v.testBit i) [.bool (v.testBit i)] (fun _ => True) (fun _ => False) ?_ ?_ ?_ (fun _ hk => hk.elim) (fun _ _ => trivial) HO2.out HB2.out ?_ ?_ ?_
          · rfl
          · rfl
          · rfl
          · rfl
          · exact rfl
          · have h_ := HGB.out; have h2_ := blk_lt BK2.out; omega
          · have := HST.out.2; omega
          intro v4 w4 ho hb hg hat
          obtain ⟨A4, c4, rfl⟩ := Kd.R_slice ho
          have BK4 := Aside0.mk (blk_grown (g := g) BK2.out hg (Kd.R_ne HO2.out BK2.out (by decide)))
          have HO4 := Aside0.mk ho
          have HB4 := Aside0.mk hb
          have HG4 := Aside0.mk hg
          have hz4 := (blk_cell BK4.out 0).trans rfl
          have hf4 := blk_frozen BK4.out 0
          clear ho hb hg hat))
      all_goals
        go_wp2_with fail
        go_roundw
        case rel =>
          have hl : (X ++ [v.testBit i]).length = X.length + 1 := by simp
          have HO5 := HO4.out
          rw [hl] at HO5
          refine ⟨_, j + 1, .slice A4 (X.length + 1) c4, rfl, ⟨by have := HI.out; omega⟩, ⟨?_⟩, ⟨blk_put BK4.out 0 _ rfl⟩, ⟨HB4.out.setCell (p := ⟨g, 0, none⟩) HGB.out _⟩, ⟨fun q cs t hq ht hh => ?_⟩⟩
          · rw [HST.out.1]
            exact Kd.R_mono (Kd.R_far (p := ⟨g, 0, none⟩) (Kd.R_types HO5 BK4.out (by decide)) (fun _ hk => hk.2) _) (fun _ _ => trivial)
          · have h1 := HK.out q cs t hq ht hh
            exact blk_far (p := ⟨g, 0, none⟩) (blk_grown (blk_drew h1) HG4.out (Kd.R_ne HO2.out (blk_drew h1) ht)) hq _
        case measure => simp [intOf] <;> omega
    · have hd : decide (0 ≤ I) = false := decide_eq_false hlt
      have HJ : Aside0 (j = c) := ⟨by have := HI.out; omega⟩
      clear hlt
      go_wp2_with fail
      refine bodyPost_end (results_none rfl _ _ _) rfl ?_
      refine ⟨rfl, ⟨u, BK.out, ?_⟩, HB.out, HK.out⟩
      have := HO.out
      rwa [HJ.out, List.take_of_length_le (by rw [low_length]; omega)] at this
end Go.Proofs.YtbgmnmjokdfmlaaDoor.PA
namespace Go.Proofs.YtbgmnmjokdfmlaaDoor.PA
open Go.RowKit Go.Proofs.YtbgmnmjokdfmlaaDoor.G Go.Proofs.YtbgmnmjokdfmlaaDoorW.PrintWords Go.Proofs.YtbgmnmjokdfmlaaDoorW.PrintLast Go.Proofs.YtbgmnmjokdfmlaaDoorW.PrintMore
set_option linter.unusedVariables false
set_option linter.unusedSimpArgs false

theorem out_put.at_ (B g : Nat) (L : List Bool) (V C : Int) (v c : Nat) (w0 w : World) (hO : OU B w g L) (hB : Below B w0 w) (hgB : B ≤ g) (hV : V = (v : Int)) (hC : C = (c : Int)) (hv : v < 18446744073709551616) (hc : c ≤ 64) (hL : L.length ≤ 7000000) :
    Calls Tryd.prog 67 #[.pointer (some ⟨g, 0, none⟩), .int .u64 V, .int .i64 C] w fun e w' => e = .returned (.tuple #[]) ∧ OU B w' g (L ++ low v c) ∧ Below B w0 w' ∧ KeepO g w w' := by
  subst hV hC
  exact out_put.calls B g L v c w0 w hO hB hgB hv hc hL
theorem intBits_0 : intBits 0 = low 0 1 := by decide
theorem intBits_1 {v : Int} {u : Nat} (h0 : v ≠ 0) (h1 : -64 ≤ v) (h2 : v ≤ 63) (hu : IntKind.u64.wrap v = (u : Int)) : intBits v = low 2 2 ++ low u 7 := by
  have e : classN v = 1 := by unfold classN; rw [if_neg h0, if_pos ⟨h1, by omega⟩]
  unfold intBits
  rw [e, hu]
  rfl
theorem intBits_2 {v : Int} {u : Nat} (h1 : ¬ (-64 ≤ v ∧ v ≤ 63)) (h2 : -2048 ≤ v) (h3 : v ≤ 2047) (hu : IntKind.u64.wrap v = (u : Int)) : intBits v = low 6 3 ++ low u 12 := by
  have e : classN v = 2 := by unfold classN; rw [if_neg (by omega), if_neg (by omega), if_pos ⟨h2, by omega⟩]
  unfold intBits
  rw [e, hu]
  rfl
theorem intBits_3 {v : Int} {u : Nat} (h1 : ¬ (-2048 ≤ v ∧ v ≤ 2047)) (h2 : -2147483648 ≤ v) (h3 : v ≤ 2147483647) (hu : IntKind.u64.wrap v = (u : Int)) : intBits v = low 14 4 ++ low u 32 := by
  have e : classN v = 3 := by unfold classN; rw [if_neg (by omega), if_neg (by omega), if_neg (by omega), if_pos ⟨h2, by omega⟩]
  unfold intBits
  rw [e, hu]
  rfl
theorem intBits_4 {v : Int} {u : Nat} (h1 : ¬ (-2147483648 ≤ v ∧ v ≤ 2147483647)) (hu : IntKind.u64.wrap v = (u : Int)) : intBits v = low 15 4 ++ low u 64 := by
  have e : classN v = 4 := by unfold classN; rw [if_neg (by omega), if_neg (by omega), if_neg (by omega), if_neg (by omega)]
  unfold intBits
  rw [e, hu]
  rfl
set_option maxHeartbeats 4000000 in
set_option maxRecDepth 100000 in
theorem out_putInt.calls (B g : Nat) (L : List Bool) (v : Int) (w0 w : World) (hO : OU B w g L) (hB : Below B w0 w) (hgB : B ≤ g) (hL : L.length ≤ 6000000) :
    Calls Tryd.prog 68 #[.pointer (some ⟨g, 0, none⟩), .int .i64 v] w fun e w' => e = .returned (.tuple #[]) ∧ OU B w' g (L ++ intBits v) ∧ Below B w0 w' ∧ KeepO g w w' := by
  have HO := Aside0.mk hO
  have HB := Aside0.mk hB
  have HGB := Aside0.mk hgB
  have HL := Aside0.mk hL
  obtain ⟨u, hu, hu64⟩ := u64_of_int v
  have HU := Aside0.mk hu
  clear hO hB hgB hL
  by_cases h0 : v = 0
  · have d0 : (v == 0) = true := beq_iff_eq.2 h0
    have HE : Aside0 (intBits v = low 0 1) := ⟨by rw [h0]; exact intBits_0⟩
    clear h0 hu
    go_enter Tryd.func68, Tryd.ntmps68
    go_wp2_with (go_at_call 67; (with_reducible refine (out_put.at_ B g L 0 1 0 1 w0 _ HO.out HB.out HGB.out rfl rfl (by decide) (by decide) (by have := HL.out; omega)).mono ?_); rintro e w1 ⟨rfl, ho, hb, hk⟩; have HO1 := Aside0.mk ho; have HB1 := Aside0.mk hb; have HK1 := Aside0.mk hk; clear ho hb hk)
    refine bodyPost_end (results_none rfl _ _ _) rfl ?_
    exact ⟨rfl, by rw [HE.out]; exact HO1.out, HB1.out, HK1.out⟩
  have d0 : (v == 0) = false := beq_eq_false_iff_ne.2 h0
  by_cases h1 : -64 ≤ v ∧ v ≤ 63
  · have d1 : decide (-64 ≤ v) = true := decide_eq_true h1.1
    have d2 : decide (v ≤ 63) = true := decide_eq_true h1.2
    have HE := Aside0.mk (intBits_1 h0 h1.1 h1.2 hu)
    clear h0 hu h1
    go_enter Tryd.func68, Tryd.ntmps68
    go_wp2_with (first
      | (go_at_call 67; (with_reducible refine (out_put.at_ B g L 2 2 2 2 w0 _ HO.out HB.out HGB.out rfl rfl (by decide) (by decide) (by have := HL.out; omega)).mono ?_); rintro e w1 ⟨rfl, ho, hb, hk⟩; have HO1 := Aside0.mk ho; have HB1 := Aside0.mk hb; have HK1 := Aside0.mk hk; clear ho hb hk)
      | (go_at_call 67; (with_reducible refine (out_put.at_ B g (L ++ low 2 2) _ 7 u 7 w0 _ HO1.out HB1.out HGB.out HU.out rfl hu64 (by decide) (by have := HL.out; simp; omega)).mono ?_); rintro e w2 ⟨rfl, ho, hb, hk⟩; have HO2 := Aside0.mk ho; have HB2 := Aside0.mk hb; have HK2 := Aside0.mk (HK1.out.trans hk); clear ho hb hk))
    refine bodyPost_end (results_none rfl _ _ _) rfl ?_
    exact ⟨rfl, by rw [HE.out, ← List.append_assoc]; exact HO2.out, HB2.out, HK2.out⟩
  clear d0
  have d0 : (v == 0) = false := beq_eq_false_iff_ne.2 h0
  by_cases h2 : -2048 ≤ v ∧ v ≤ 2047
  · have e2 : decide (-2048 ≤ v) = true := decide_eq_true h2.1
    have e3 : decide (v ≤ 2047) = true := decide_eq_true h2.2
    have HE := Aside0.mk (intBits_2 h1 h2.1 h2.2 hu)
    clear h0 hu h2
    by_cases hneg : v < 0
    · have f64a : decide (-64 ≤ v) = false := decide_eq_false (by omega)
      clear h1
      clear hneg
      go_enter Tryd.func68, Tryd.ntmps68
      go_wp2_with (first
        | (go_at_call 67; (with_reducible refine (out_put.at_ B g L 6 3 6 3 w0 _ HO.out HB.out HGB.out rfl rfl (by decide) (by decide) (by have := HL.out; omega)).mono ?_); rintro e w1 ⟨rfl, ho, hb, hk⟩; have HO1 := Aside0.mk ho; have HB1 := Aside0.mk hb; have HK1 := Aside0.mk hk; clear ho hb hk)
        | (go_at_call 67; (with_reducible refine (out_put.at_ B g (L ++ low 6 3) _ 12 u 12 w0 _ HO1.out HB1.out HGB.out HU.out rfl hu64 (by decide) (by have := HL.out; simp; omega)).mono ?_); rintro e w2 ⟨rfl, ho, hb, hk⟩; have HO2 := Aside0.mk ho; have HB2 := Aside0.mk hb; have HK2 := Aside0.mk (HK1.out.trans hk); clear ho hb hk))
      refine bodyPost_end (results_none rfl _ _ _) rfl ?_
      exact ⟨rfl, by rw [HE.out, ← List.append_assoc]; exact HO2.out, HB2.out, HK2.out⟩
    · have f64a : decide (-64 ≤ v) = true := decide_eq_true (by omega)
      have f64b : decide (v ≤ 63) = false := decide_eq_false (by omega)
      clear h1
      clear hneg
      go_enter Tryd.func68, Tryd.ntmps68
      go_wp2_with (first
        | (go_at_call 67; (with_reducible refine (out_put.at_ B g L 6 3 6 3 w0 _ HO.out HB.out HGB.out rfl rfl (by decide) (by decide) (by have := HL.out; omega)).mono ?_); rintro e w1 ⟨rfl, ho, hb, hk⟩; have HO1 := Aside0.mk ho; have HB1 := Aside0.mk hb; have HK1 := Aside0.mk hk; clear ho hb hk)
        | (go_at_call 67; (with_reducible refine (out_put.at_ B g (L ++ low 6 3) _ 12 u 12 w0 _ HO1.out HB1.out HGB.out HU.out rfl hu64 (by decide) (by have := HL.out; simp; omega)).mono ?_); rintro e w2 ⟨rfl, ho, hb, hk⟩; have HO2 := Aside0.mk ho; have HB2 := Aside0.mk hb; have HK2 := Aside0.mk (HK1.out.trans hk); clear ho hb hk))
      refine bodyPost_end (results_none rfl _ _ _) rfl ?_
      exact ⟨rfl, by rw [HE.out, ← List.append_assoc]; exact HO2.out, HB2.out, HK2.out⟩
  clear h1
  have h1 := h2
  clear h2
  by_cases h2 : -2147483648 ≤ v ∧ v ≤ 2147483647
  · have e2 : decide (-2147483648 ≤ v) = true := decide_eq_true h2.1
    have e3 : decide (v ≤ 2147483647) = true := decide_eq_true h2.2
    have HE := Aside0.mk (intBits_3 h1 h2.1 h2.2 hu)
    clear h0 hu h2
    by_cases hneg : v < 0
    · have f64a : decide (-64 ≤ v) = false := decide_eq_false (by omega)
      have f2048a : decide (-2048 ≤ v) = false := decide_eq_false (by omega)
      clear h1
      clear hneg
      go_enter Tryd.func68, Tryd.ntmps68
      go_wp2_with (first
        | (go_at_call 67; (with_reducible refine (out_put.at_ B g L 14 4 14 4 w0 _ HO.out HB.out HGB.out rfl rfl (by decide) (by decide) (by have := HL.out; omega)).mono ?_); rintro e w1 ⟨rfl, ho, hb, hk⟩; have HO1 := Aside0.mk ho; have HB1 := Aside0.mk hb; have HK1 := Aside0.mk hk; clear ho hb hk)
        | (go_at_call 67; (with_reducible refine (out_put.at_ B g (L ++ low 14 4) _ 32 u 32 w0 _ HO1.out HB1.out HGB.out HU.out rfl hu64 (by decide) (by have := HL.out; simp; omega)).mono ?_); rintro e w2 ⟨rfl, ho, hb, hk⟩; have HO2 := Aside0.mk ho; have HB2 := Aside0.mk hb; have HK2 := Aside0.mk (HK1.out.trans hk); clear ho hb hk))
      refine bodyPost_end (results_none rfl _ _ _) rfl ?_
      exact ⟨rfl, by rw [HE.out, ← List.append_assoc]; exact HO2.out, HB2.out, HK2.out⟩
    · have f64a : decide (-64 ≤ v) = true := decide_eq_true (by omega)
      have f64b : decide (v ≤ 63) = false := decide_eq_false (by omega)
      have f2048a : decide (-2048 ≤ v) = true := decide_eq_true (by omega)
      have f2048b : decide (v ≤ 2047) = false := decide_eq_false (by omega)
      clear h1
      clear hneg
      go_enter Tryd.func68, Tryd.ntmps68
      go_wp2_with (first
        | (go_at_call 67; (with_reducible refine (out_put.at_ B g L 14 4 14 4 w0 _ HO.out HB.out HGB.out rfl rfl (by decide) (by decide) (by have := HL.out; omega)).mono ?_); rintro e w1 ⟨rfl, ho, hb, hk⟩; have HO1 := Aside0.mk ho; have HB1 := Aside0.mk hb; have HK1 := Aside0.mk hk; clear ho hb hk)
        | (go_at_call 67; (with_reducible refine (out_put.at_ B g (L ++ low 14 4) _ 32 u 32 w0 _ HO1.out HB1.out HGB.out HU.out rfl hu64 (by decide) (by have := HL.out; simp; omega)).mono ?_); rintro e w2 ⟨rfl, ho, hb, hk⟩; have HO2 := Aside0.mk ho; have HB2 := Aside0.mk hb; have HK2 := Aside0.mk (HK1.out.trans hk); clear ho hb hk))
      refine bodyPost_end (results_none rfl _ _ _) rfl ?_
      exact ⟨rfl, by rw [HE.out, ← List.append_assoc]; exact HO2.out, HB2.out, HK2.out⟩
  · clear h1
    have h1 := h2
    have HE := Aside0.mk (intBits_4 h1 hu)
    clear h0 hu h2
    by_cases hneg : v < 0
    · have f64a : decide (-64 ≤ v) = false := decide_eq_false (by omega)
      have f2048a : decide (-2048 ≤ v) = false := decide_eq_false (by omega)
      have f2147483648a : decide (-2147483648 ≤ v) = false := decide_eq_false (by omega)
      clear h1
      clear hneg
      go_enter Tryd.func68, Tryd.ntmps68
      go_wp2_with (first
        | (go_at_call 67; (with_reducible refine (out_put.at_ B g L 15 4 15 4 w0 _ HO.out HB.out HGB.out rfl rfl (by decide) (by decide) (by have := HL.out; omega)).mono ?_); rintro e w1 ⟨rfl, ho, hb, hk⟩; have HO1 := Aside0.mk ho; have HB1 := Aside0.mk hb; have HK1 := Aside0.mk hk; clear ho hb hk)
        | (go_at_call 67; (with_reducible refine (out_put.at_ B g (L ++ low 15 4) _ 64 u 64 w0 _ HO1.out HB1.out HGB.out HU.out rfl hu64 (by decide) (by have := HL.out; simp; omega)).mono ?_); rintro e w2 ⟨rfl, ho, hb, hk⟩; have HO2 := Aside0.mk ho; have HB2 := Aside0.mk hb; have HK2 := Aside0.mk (HK1.out.trans hk); clear ho hb hk))
      refine bodyPost_end (results_none rfl _ _ _) rfl ?_
      exact ⟨rfl, by rw [HE.out, ← List.append_assoc]; exact HO2.out, HB2.out, HK2.out⟩
    · have f64a : decide (-64 ≤ v) = true := decide_eq_true (by omega)
      have f64b : decide (v ≤ 63) = false := decide_eq_false (by omega)
      have f2048a : decide (-2048 ≤ v) = true := decide_eq_true (by omega)
      have f2048b : decide (v ≤ 2047) = false := decide_eq_false (by omega)
      have f2147483648a : decide (-2147483648 ≤ v) = true := decide_eq_true (by omega)
      have f2147483648b : decide (v ≤ 2147483647) = false := decide_eq_false (by omega)
      clear h1
      clear hneg
      go_enter Tryd.func68, Tryd.ntmps68
      go_wp2_with (first
        | (go_at_call 67; (with_reducible refine (out_put.at_ B g L 15 4 15 4 w0 _ HO.out HB.out HGB.out rfl rfl (by decide) (by decide) (by have := HL.out; omega)).mono ?_); rintro e w1 ⟨rfl, ho, hb, hk⟩; have HO1 := Aside0.mk ho; have HB1 := Aside0.mk hb; have HK1 := Aside0.mk hk; clear ho hb hk)
        | (go_at_call 67; (with_reducible refine (out_put.at_ B g (L ++ low 15 4) _ 64 u 64 w0 _ HO1.out HB1.out HGB.out HU.out rfl hu64 (by decide) (by have := HL.out; simp; omega)).mono ?_); rintro e w2 ⟨rfl, ho, hb, hk⟩; have HO2 := Aside0.mk ho; have HB2 := Aside0.mk hb; have HK2 := Aside0.mk (HK1.out.trans hk); clear ho hb hk))
      refine bodyPost_end (results_none rfl _ _ _) rfl ?_
      exact ⟨rfl, by rw [HE.out, ← List.append_assoc]; exact HO2.out, HB2.out, HK2.out⟩

theorem not_one (v i : Nat) (hv : v < 18446744073709551616) (hi : i ≤ 64) : (Go.bits .and .u64 ((v : Int) / 2 ^ i) 1 == 0) = !v.testBit i := by
  have := and_one v i hv hi
  have h2 : v / 2 ^ i < 18446744073709551616 := Nat.lt_of_le_of_lt (Nat.div_le_self _ _) hv
  have e : (v : Int) / 2 ^ i = ((v / 2 ^ i : Nat) : Int) := by simp
  rw [e] at this ⊢
  rw [show (1 : Int) = ((1 : Nat) : Int) from rfl, u64_and_nat _ 1 h2 (by omega), Nat.and_one_is_mod] at this ⊢
  rw [← this]
  rcases Nat.mod_two_eq_zero_or_one (v / 2 ^ i) with h | h <;> rw [h] <;> rfl
theorem hi_bits {x : Nat} (hx : x < 18446744073709551616) (h0 : x ≠ 0) : 1 ≤ Lib.bitLen x ∧ Lib.bitLen x ≤ 64 ∧ x.testBit (Lib.bitLen x - 1) = true ∧ ∀ j, Lib.bitLen x ≤ j → x.testBit j = false := by
  have h1 := Lib.bitLen_le x 64 (by decide) hx
  have h2 := bitLen_up x hx
  have h3 : 1 ≤ Lib.bitLen x := by
    rcases Nat.eq_zero_or_pos (Lib.bitLen x) with h | h
    · rw [h] at h2
      omega
    · exact h
  refine ⟨h3, h1, ?_, fun j hj => Nat.testBit_lt_two_pow (Nat.lt_of_lt_of_le h2 (Nat.pow_le_pow_right (by decide) hj))⟩
  refine Nat.testBit_of_two_pow_le_and_two_pow_add_one_gt ?_ (by rwa [show Lib.bitLen x - 1 + 1 = Lib.bitLen x by omega])
  rcases Nat.lt_or_ge x (2 ^ (Lib.bitLen x - 1)) with h | h
  · have := Lib.bitLen_le x (Lib.bitLen x - 1) (by omega) h
    omega
  · exact h
theorem lo_bits {x : Nat} (hx : x < 18446744073709551616) (h0 : x ≠ 0) : x.testBit (loZ x) = true ∧ ∀ j, j < loZ x → x.testBit j = false := by
  have hc : loZ x = Lib.ctzFrom 64 x := by unfold loZ Lib.ctz; rw [if_neg h0]
  obtain ⟨m, hm, _⟩ := Lib.ctzFrom_spec 64 x (by omega) hx
  rw [← hc] at hm
  constructor
  · rw [show x.testBit (loZ x) = (2 ^ loZ x * (2 * m + 1)).testBit (loZ x) from congrArg (fun z => z.testBit (loZ x)) hm, Nat.testBit_two_pow_mul]
    simp
  · intro j hj
    rw [show x.testBit j = (2 ^ loZ x * (2 * m + 1)).testBit j from congrArg (fun z => z.testBit j) hm, Nat.testBit_two_pow_mul]
    simp
    omega
theorem low12 {H D : Nat} (hH : H < 64) (hD : D < 64) : low (H * 64 + D) 12 = low H 6 ++ low D 6 := by
  rw [low_split _ 12 6 (by decide), show (H * 64 + D) / 2 ^ (12 - 6) % 2 ^ 6 = H by rw [show 2 ^ (12 - 6) = 64 from rfl, Nat.mul_comm H 64, Nat.mul_add_div (by decide), Nat.div_eq_of_lt hD, Nat.add_zero, Nat.mod_eq_of_lt hH], ← low_mod (H * 64 + D) 6, ← low_mod D 6]
  congr 2
  omega
theorem u64n {n : Nat} (h : n < 18446744073709551616) : IntKind.u64.wrap (n : Int) = (n : Int) := u64wrap h
set_option maxHeartbeats 4000000 in
set_option maxRecDepth 100000 in
theorem out_putXor.calls (B g : Nat) (L : List Bool) (x : Nat) (w0 w : World) (hO : OU B w g L) (hB : Below B w0 w) (hgB : B ≤ g) (hx : x < 18446744073709551616) (hL : L.length ≤ 6000000) :
    Calls Tryd.prog 69 #[.pointer (some ⟨g, 0, none⟩), .int .u64 (x : Int)] w fun e w' => e = .returned (.tuple #[]) ∧ OU B w' g (L ++ xorBits x) ∧ Below B w0 w' ∧ KeepO g w w' := by
  have HO := Aside0.mk hO
  have HB := Aside0.mk hB
  have HGB := Aside0.mk hgB
  have HL := Aside0.mk hL
  clear hO hB hgB hL
  by_cases h0 : x = 0
  · have hb : ((x : Int) == 0) = true := beq_iff_eq.2 (by omega)
    have HX : Aside0 (xorBits x = low 0 1) := ⟨by rw [xorBits, if_pos h0]⟩
    clear h0
    go_enter Tryd.func69, Tryd.ntmps69
    go_wp2_with (go_at_call 67; (with_reducible refine (out_put.at_ B g L 0 1 0 1 w0 _ HO.out HB.out HGB.out rfl rfl (by decide) (by decide) (by have := HL.out; omega)).mono ?_); rintro e w1 ⟨rfl, ho, hb, hk⟩; have HO1 := Aside0.mk ho; have HB1 := Aside0.mk hb; have HK1 := Aside0.mk hk; clear ho hb hk)
    refine bodyPost_ret (results_none rfl _ _ _) rfl ?_
    exact ⟨rfl, by rw [HX.out]; exact HO1.out, HB1.out, HK1.out⟩
  · have hb : ((x : Int) == 0) = false := beq_eq_false_iff_ne.2 (by omega)
    obtain ⟨b1, b2, b3, b4⟩ := hi_bits hx h0
    obtain ⟨c3, c4⟩ := lo_bits hx h0
    obtain ⟨z1, z2⟩ := zs hx h0
    obtain ⟨H, hH⟩ : ∃ H, hiZ x = H := ⟨_, rfl⟩
    obtain ⟨S, hS⟩ : ∃ S, loZ x = S := ⟨_, rfl⟩
    obtain ⟨D, hD⟩ : ∃ D, wdZ x = D := ⟨_, rfl⟩
    have hs : H + S + D = 64 := by rw [← hH, ← hS, ← hD]; unfold hiZ loZ wdZ; unfold loZ at z1; omega
    have hd : 1 ≤ D := by rw [← hD]; unfold wdZ; unfold loZ at z1; omega
    have HX : Aside0 (xorBits x = low 1 1 ++ (low H 6 ++ low (D - 1) 6) ++ low (x / 2 ^ S) D) := ⟨by rw [xorBits, if_neg h0, hH, hS, hD, low12 (by omega) (by omega)]⟩
    have HHI : Aside0 (∀ h : Nat, h ≤ H → (x.testBit (63 - h) = decide (h = H))) := ⟨fun h hh => by
      unfold hiZ at hH
      by_cases e : h = H
      · rw [decide_eq_true e, show 63 - h = Lib.bitLen x - 1 by omega, b3]
      · rw [decide_eq_false e, b4 _ (by omega)]⟩
    have HLO : Aside0 (∀ h : Nat, h ≤ S → (x.testBit h = decide (h = S))) := ⟨fun h hh => by
      by_cases e : h = S
      · rw [decide_eq_true e, e, ← hS, c3]
      · rw [decide_eq_false e, c4 _ (by omega)]⟩
    have HXL := Aside0.mk hx
    clear b1 b2 b3 b4 c3 c4 z1 z2 hH hS hD h0
    go_enter Tryd.func69, Tryd.ntmps69
    go_wp2
    go_loop [4] (fun v4 => ∃ h : Nat, h ≤ H ∧ v4 = .int .i64 h) (fun v4 => 64 - (intOf v4).toNat)
    case atStart => exact ⟨0, Nat.zero_le _, rfl⟩
    case round =>
      obtain ⟨h, hh, rfl⟩ := hrel
      have hd63 : 63 - (h : Int) = ((63 - h : Nat) : Int) := by omega
      have ht := not_one x (63 - h) HXL.out (by omega)
      rw [HHI.out h hh] at ht
      by_cases hlt : h = H
      · rw [decide_eq_true hlt] at ht
        subst hlt
        go_wp2
        clear ht hd63
        go_loop [5] (fun v5 => ∃ q : Nat, q ≤ S ∧ v5 = .int .i64 q) (fun v5 => 64 - (intOf v5).toNat)
        case atStart => exact ⟨0, Nat.zero_le _, rfl⟩
        case round =>
          obtain ⟨q, hq, rfl⟩ := hrel
          have ht2 := not_one x q HXL.out (by omega)
          rw [HLO.out q hq] at ht2
          by_cases hl2 : q = S
          · rw [decide_eq_true hl2] at ht2
            subst hl2
            have hxs : (x : Int) / 2 ^ q = ((x / 2 ^ q : Nat) : Int) := by simp
            have hxq : x / 2 ^ q < 18446744073709551616 := Nat.lt_of_le_of_lt (Nat.div_le_self _ _) HXL.out
            have CA := Aside0.mk (fun W h1 h2 => out_put.at_ B g L 1 1 1 1 w0 W h1 h2 HGB.out rfl rfl (by decide) (by decide) (by have := HL.out; omega))
            have CB := Aside0.mk (fun W h1 h2 => out_put.at_ B g (L ++ low 1 1) (h : Int) 6 h 6 w0 W h1 h2 HGB.out rfl rfl (by omega) (by decide) (by have := HL.out; simp; omega))
            have CC := Aside0.mk (fun W h1 h2 => out_put.at_ B g (L ++ low 1 1 ++ low h 6) (64 - (h : Int) - (q : Int) - 1) 6 (D - 1) 6 w0 W h1 h2 HGB.out (by omega) rfl (by omega) (by decide) (by have := HL.out; simp; omega))
            have CD := Aside0.mk (fun W h1 h2 => out_put.at_ B g (L ++ low 1 1 ++ low h 6 ++ low (D - 1) 6) ((x : Int) / 2 ^ q) (64 - (h : Int) - (q : Int)) (x / 2 ^ q) D w0 W h1 h2 HGB.out hxs (by omega) hxq (by omega) (by have := HL.out; simp; omega))
            clear hxs hxq
            go_wp2_with (first
              | (go_at_call 67; (with_reducible refine (CA.out _ HO.out HB.out).mono ?_); rintro e w1 ⟨rfl, ho, hb, hk⟩; have HO1 := Aside0.mk ho; have HB1 := Aside0.mk hb; have HK1 := Aside0.mk hk; clear ho hb hk)
              | (go_at_call 67; (with_reducible refine (CB.out _ HO1.out HB1.out).mono ?_); rintro e w2 ⟨rfl, ho, hb, hk⟩; have HO2 := Aside0.mk ho; have HB2 := Aside0.mk hb; have HK2 := Aside0.mk (HK1.out.trans hk); clear ho hb hk)
              | (go_at_call 67; (with_reducible refine (CC.out _ HO2.out HB2.out).mono ?_); rintro e w3 ⟨rfl, ho, hb, hk⟩; have HO3 := Aside0.mk ho; have HB3 := Aside0.mk hb; have HK3 := Aside0.mk (HK2.out.trans hk); clear ho hb hk)
              | (go_at_call 67; (with_reducible refine (CD.out _ HO3.out HB3.out).mono ?_); rintro e w4 ⟨rfl, ho, hb, hk⟩; have HO4 := Aside0.mk ho; have HB4 := Aside0.mk hb; have HK4 := Aside0.mk (HK3.out.trans hk); clear ho hb hk))
            refine bodyPost_end (results_none rfl _ _ _) rfl ?_
            refine ⟨rfl, ?_, HB4.out, HK4.out⟩
            have := HO4.out
            rw [HX.out]
            simp only [List.append_assoc] at this ⊢
            exact this
          · rw [decide_eq_false hl2] at ht2
            go_wp2
            go_round
            case rel => exact ⟨q + 1, by omega, by go_num⟩
            case measure => simp [intOf] <;> omega
      · rw [decide_eq_false hlt] at ht
        go_wp2
        go_round
        case rel => exact ⟨h + 1, by omega, by go_num⟩
        case measure => simp [intOf] <;> omega
end Go.Proofs.YtbgmnmjokdfmlaaDoor.PA
namespace Go.Proofs.YtbgmnmjokdfmlaaDoor.PA
open Go.RowKit Go.Proofs.YtbgmnmjokdfmlaaDoor.G Go.Proofs.YtbgmnmjokdfmlaaDoorW.PrintWords Go.Proofs.YtbgmnmjokdfmlaaDoorW.PrintLast Go.Proofs.YtbgmnmjokdfmlaaDoorW.PrintMore
set_option linter.unusedVariables false
set_option linter.unusedSimpArgs false

/-! ### the bits, byte by byte -/
/-- the bytes behind so many bits -/
def pkS (L : List Bool) : Nat → List Int
  | 0 => []
  | j + 1 => orAt (addZ (pkS L j) j) (j / 8) ((if L.getD j false = true then 1 else 0) * 2 ^ (8 - j % 8 - 1))
theorem pkS_ok (L : List Bool) : ∀ j, j ≤ L.length → OkX (pkS L j) j ∧ Bs (pkS L j) j = L.take j
  | 0, _ => ⟨okX_nil, rfl⟩
  | j + 1, h => by
    obtain ⟨h1, h2⟩ := pkS_ok L j (by omega)
    obtain ⟨h3, h4⟩ := put_step (T := 1) (X := if L.getD j false = true then 1 else 0) h1 (by decide) (by omega) (by split <;> decide)
    refine ⟨h3, ?_⟩
    rw [show pkS L (j + 1) = orAt (addZ (pkS L j) j) (j / 8) ((if L.getD j false = true then 1 else 0) * 2 ^ (8 - j % 8 - 1)) from rfl, h4, h2, List.take_succ_eq_append_getElem (by omega)]
    congr 1
    rw [List.getD_eq_getElem?_getD, List.getElem?_eq_getElem (by omega), Option.getD_some]
    cases L[j]'(by omega) <;> rfl
theorem pkS_all (L : List Bool) : pkS L L.length = packB L := by
  obtain ⟨h1, h2⟩ := pkS_ok L L.length (Nat.le_refl _)
  rw [List.take_length] at h2
  exact (packB_of h1 h2).symm
theorem pk_false {L : List Bool} {j : Nat} (hj : j < L.length) (hb : L.getD j false = false) : pkS L (j + 1) = addZ (pkS L j) j := by
  have h1 := (pkS_ok L j (by omega)).1
  have hz := addZ_len h1
  have hby : OkL (addZ (pkS L j) j) := by
    unfold addZ
    split
    · intro x hx
      rcases List.mem_append.1 hx with hx | hx
      · exact h1.bytes x hx
      · rw [List.mem_singleton.1 hx]
        exact ⟨by decide, by decide⟩
    · exact h1.bytes
  have ha := (hby.at (j / 8)).1
  show orAt (addZ (pkS L j) j) (j / 8) _ = _
  rw [if_neg (by rw [hb]; simp), Nat.zero_mul]
  unfold orAt
  rw [Nat.or_zero, Int.toNat_of_nonneg ha]
  rw [List.getD_eq_getElem?_getD, List.getElem?_eq_getElem (by omega), Option.getD_some]
  exact List.set_getElem_self _
theorem pk_true {L : List Bool} {j m : Nat} (hj : j < L.length) (hb : L.getD j false = true) (B : List Int) (hm : B.length = m) :
    (B ++ addZ (pkS L j) j).set (m + j / 8) (Go.bits .or .u8 ((addZ (pkS L j) j).getD (j / 8) 0) (128 / 2 ^ (j % 8))) = B ++ pkS L (j + 1) ∧ (B ++ addZ (pkS L j) j).length = m + j / 8 + 1 ∧ (B ++ addZ (pkS L j) j).getD (m + j / 8) 0 = (addZ (pkS L j) j).getD (j / 8) 0 := by
  have h1 := (pkS_ok L j (by omega)).1
  have hz := addZ_len h1
  have hby : OkL (addZ (pkS L j) j) := by
    unfold addZ
    split
    · intro x hx
      rcases List.mem_append.1 hx with hx | hx
      · exact h1.bytes x hx
      · rw [List.mem_singleton.1 hx]
        exact ⟨by decide, by decide⟩
    · exact h1.bytes
  have ha := hby.at (j / 8)
  refine ⟨?_, by rw [List.length_append, hz]; omega, ?_⟩
  · rw [List.set_append_right _ _ (by omega), show m + j / 8 - B.length = j / 8 by omega]
    congr 1
    show _ = orAt (addZ (pkS L j) j) (j / 8) _
    unfold orAt
    congr 1
    rw [if_pos hb, Nat.one_mul]
    obtain ⟨a, hA⟩ := Int.eq_ofNat_of_zero_le ha.1
    rw [hA] at ha ⊢
    rw [Int.toNat_natCast, show 8 - j % 8 - 1 = 7 - j % 8 by omega]
    have e : (128 : Int) / 2 ^ (j % 8) = ((2 ^ (7 - j % 8) : Nat) : Int) := by
      have hlt : j % 8 < 8 := Nat.mod_lt _ (by decide)
      generalize j % 8 = q at hlt
      match q, hlt with
      | 0, _ | 1, _ | 2, _ | 3, _ | 4, _ | 5, _ | 6, _ | 7, _ => rfl
    rw [e]
    exact u8_or_nat a _ (by omega) (Nat.lt_of_lt_of_le (Nat.pow_lt_pow_right (by decide) (show 7 - j % 8 < 8 by omega)) (by decide))
  · rw [List.getD_eq_getElem?_getD, List.getD_eq_getElem?_getD, List.getElem?_append_right (by omega), show m + j / 8 - B.length = j / 8 by omega]
end Go.Proofs.YtbgmnmjokdfmlaaDoor.PA
namespace Go.Proofs.YtbgmnmjokdfmlaaDoor.G
open Go.RowKit Go.Proofs.YtbgmnmjokdfmlaaDoorW.PrintWords Go.Proofs.YtbgmnmjokdfmlaaDoorW.PrintLast Go.Proofs.YtbgmnmjokdfmlaaDoorW.PrintMore
set_option linter.unusedVariables false
set_option linter.unusedSimpArgs false
attribute [local go_sem] max2_int min2_int max_two min_two

def dryrotref01_Put.f (a0 a1 : Int) : Option (List Int) := crc_Put.f a0 a1
def dryrotref01_Get.f (l : List Int) : Option (Int × Bool) := crc_Get.f l

set_option maxHeartbeats 800000 in
set_option maxRecDepth 100000 in
theorem dryrotref01_Put.calls (a0 a1 : Int) (r : List Int) (w : World) (h : dryrotref01_Put.f a0 a1 = some r) :
    Calls Tryd.prog 37 #[.int .u64 a0, .int .i64 a1] w fun e w' => ∃ v0_ : Value, e = .returned (v0_) ∧ Kd.R (Kd.int .u8) 5 w' w.heap.size (fun _ => True) v0_ r ∧ Below w.heap.size w w' := by
  unfold dryrotref01_Put.f crc_Put.f at h
  split at h
  case isFalse => cases h
  case isTrue hN =>
    obtain rfl := Option.some.inj h
    clear h
    obtain ⟨N, rfl⟩ := Int.eq_ofNat_of_zero_le hN.1
    rw [Int.toNat_natCast]
    obtain ⟨j, hj⟩ : ∃ j : Int, (if a1 < 0 then 0 else a1) = j := ⟨_, rfl⟩
    obtain ⟨m, hm8, hm, hw⟩ : ∃ m : Nat, m ≤ 8 ∧ (if 8 < j then 8 else j) = (m : Int) ∧ wid a1 = m := ⟨wid a1, wid_le _, by unfold wid; split at hj <;> split <;> omega, rfl⟩
    rw [hw]
    clear hw
    have hm0 : (m : Int) ≤ 8 := by omega
    go_enter Tryd.func37, Tryd.ntmps37
    go_wp2_with ((with_reducible refine gate_dst (N := 12) rfl ?_); refine Kd.R_make (Kd.int .u8) _ 5 rfl (N := 12) rfl 22 _ _ rfl (m : Int) rfl rfl Tryd.underlying22 (.int .u8 0) 1 infoU8 rfl (by decide) (by omega) 0 (ok := fun _ => True) (okp := fun _ => True) rfl (fun _ hk => hk) trivial (by omega) (by omega) (Below.refl _ _) (Nat.le_refl _) ?_; intro v103 w7 ho8 hb hg_ hnew_; rw [Int.toNat_natCast] at ho8; obtain ⟨g, c9, e9, hgb⟩ := made_form ho8 hnew_; rw [List.length_replicate] at e9; subst e9; have HO := Aside0.mk ho8; have HB := Aside0.mk hb; clear ho8 hb hg_ hnew_)
    clear hm hj
    go_loopw [0, 7] (fun n i wr => ∃ k : Nat, k ≤ m ∧ i = .int .i64 ((m : Int) - 1 - (k : Int)) ∧ n = .int .u64 ((N / 256 ^ k : Nat) : Int) ∧ Aside0 (Kd.R (Kd.int .u8) 5 wr w.heap.size (fun _ => True) (.slice (some ⟨g, 0, none⟩) m c9) (List.replicate (m - k) 0 ++ beL N k)) ∧ Aside0 (Below w.heap.size w wr)) (fun _ i _ => (intOf i + 1).toNat)
    case atStart => exact ⟨0, Nat.zero_le _, by simp, by simp, ⟨by simpa [beL] using HO.out⟩, HB⟩
    case round =>
      clear HO HB
      obtain ⟨k, hk, rfl, rfl, HO, HB⟩ := hrel
      have HS := fun hlt => Aside0.mk (crc_Put.step (N := N) (k := k) (m := m) hlt)
      have HD := Aside0.mk (Nat.div_div_eq_div_mul N (256 ^ k) 256)
      have HL := Aside0.mk (show N / 256 ^ k ≤ N from Nat.div_le_self _ _)
      generalize N / 256 ^ k = M at HS HD HL ⊢
      by_cases hlt : k < m
      · obtain ⟨hc, hf⟩ := Kd.R_celln 0 HO.out ((m - 1 - k : Nat) : Int) (by omega) (by omega)
        have HP := Aside0.mk (Kd.R_putg HO.out ((m - 1 - k : Nat) : Int) ((M % 256 : Nat) : Int))
        rw [Int.toNat_natCast] at hc hf HP
        have HS := HS hlt
        have hM : (0 : Int) ≤ (M : Int) := by omega
        have h0 : (0 : Int) ≤ (m : Int) - 1 - (k : Int) := by omega
        go_wp2
        go_roundw
        case rel =>
          refine ⟨k + 1, by omega, congrArg _ (by omega), congrArg _ ?_, ⟨?_⟩, ⟨?_⟩⟩
          · rw [Nat.pow_succ, ← HD.out]
            have := HL.out
            simp [IntKind.wrap, IntKind.bits, IntKind.signed]
            omega
          · rw [← HS.out]
            exact HP.out.1
          · exact below_set HB.out (by omega)
        case measure => simp [intOf]; omega
      · obtain rfl : k = m := by omega
        have h0 : ¬ ((0 : Int) ≤ (k : Int) - 1 - (k : Int)) := by omega
        go_wp2
        go_ret
        exact ⟨_, rfl, by simpa using HO.out, HB.out⟩

set_option maxHeartbeats 800000 in
set_option maxRecDepth 100000 in
theorem dryrotref01_Get.calls (A0 : Option Addr) (c0 : Nat) (l0 : List Int) (r1 : Int) (r2 : Bool) (w : World) (hr0 : Kd.C (Kd.int .u8) w A0 l0.length l0) (hc0 : l0.length ≤ c0) (h : dryrotref01_Get.f l0 = some (r1, r2)) :
    Calls Tryd.prog 103 #[.slice A0 l0.length c0] w fun e w' => e = .returned (.tuple #[.int .u64 r1, .bool r2]) ∧ Drawn0 w w' := by
  have HR := Aside0.mk hr0
  clear hr0 hc0
  unfold dryrotref01_Get.f crc_Get.f at h
  split at h
  case isFalse => cases h
  case isTrue hok =>
  by_cases hl : 1 ≤ l0.length ∧ l0.length ≤ 8
  case neg =>
    rw [if_neg hl] at h
    simp only [Option.some.injEq, Prod.mk.injEq] at h
    obtain ⟨rfl, rfl⟩ := h
    by_cases h0 : l0.length = 0
    · have e0 : decide ((l0.length : Int) < 1) = true := decide_eq_true (by omega)
      clear hl h0
      go_enter Tryd.func103, Tryd.ntmps103
      go_wp2
      go_ret2
      exact ⟨rfl, Drawn0.refl _⟩
    · have e0 : decide ((l0.length : Int) < 1) = false := decide_eq_false (by omega)
      have e1 : decide ((8 : Int) < (l0.length : Int)) = true := decide_eq_true (by omega)
      clear hl h0
      go_enter Tryd.func103, Tryd.ntmps103
      go_wp2
      go_ret2
      exact ⟨rfl, Drawn0.refl _⟩
  case pos =>
    rw [if_pos hl] at h
    simp only [Option.some.injEq, Prod.mk.injEq] at h
    obtain ⟨rfl, rfl⟩ := h
    have e0 : decide ((l0.length : Int) < 1) = false := decide_eq_false (by omega)
    have e1 : decide ((8 : Int) < (l0.length : Int)) = false := decide_eq_false (by omega)
    go_enter Tryd.func103, Tryd.ntmps103
    go_wp2
    go_loop [4, 17] (fun n i => ∃ k : Nat, k ≤ l0.length ∧ i = .int .i64 k ∧ n = .int .u64 (beV 0 (l0.take k) : Nat)) (fun _ i => l0.length - (intOf i).toNat)
    case atStart => exact ⟨0, Nat.zero_le _, rfl, rfl⟩
    case round =>
      obtain ⟨k, hk, rfl, rfl⟩ := hrel
      by_cases hlt : k < l0.length
      · obtain ⟨ad, rfl, hc⟩ := Kd.at_int HR.out (k : Int) (by omega) (by omega)
        rw [Int.toNat_natCast] at hc
        have hx := okB_iff.1 hok _ (rd_mem l0 k hlt)
        have HT := Aside0.mk (beV_take l0 k hlt)
        have hV := beV_take_lt hok k
        have HV := Aside0.mk (Nat.lt_of_lt_of_le hV (Nat.pow_le_pow_right (n := 256) (by decide) (show k ≤ 7 by omega)))
        have HX := Aside0.mk hx
        clear hV hx
        go_wp2
        go_round
        case rel =>
          refine ⟨k + 1, by omega, by go_num, congrArg _ ?_⟩
          have := HV.out
          have := HX.out
          rw [HT.out]
          simp [IntKind.wrap, IntKind.bits, IntKind.signed]
          omega
        case measure => simp [intOf]; omega
      · obtain rfl : k = l0.length := by omega
        go_wp2
        go_ret2
        exact ⟨rfl, Drawn0.refl _⟩
end Go.Proofs.YtbgmnmjokdfmlaaDoor.G
-- written by wip/gprint.py of this session (it runs the print of the guide's kit over contracts of the session)
namespace Go.Proofs.YtbgmnmjokdfmlaaDoor.PA
open Go.RowKit Go.Proofs.YtbgmnmjokdfmlaaDoorW.PrintWords Go.Proofs.YtbgmnmjokdfmlaaDoorW.PrintLast Go.Proofs.YtbgmnmjokdfmlaaDoorW.PrintMore
attribute [local go_sem] max2_int min2_int max_two min_two max_three min_three max_four min_four   -- for this text's walks alone
set_option linter.unusedVariables false
set_option linter.unusedSimpArgs false

/-! ### dryrotref11_Can: function 41 -/
def dryrotref11_Can.l0 : Nat → List (S54) → Int → Int → Option (Bool)
  | 0, _, _, _ => none
  | k + 1, x0, x5, x6 => if x6 < x5 then (if x6 > 0 then (if 0 ≤ (wrap64 (x6 - 1)) then (if (wrap64 (x6 - 1)) < (x0.length : Int) then (if 0 ≤ x6 then (if x6 < (x0.length : Int) then (if ((rd_T54 x0 (wrap64 (x6 - 1))).f0) ≥ ((rd_T54 x0 x6).f0) then (some false) else (dryrotref11_Can.l0 k x0 x5 (wrap64 (x6 + 1)))) else (none)) else (none)) else (none)) else (none)) else (dryrotref11_Can.l0 k x0 x5 (wrap64 (x6 + 1)))) else (some (decide ((x0.length : Int) ≤ 65535)))
def dryrotref11_Can.f (k : Nat) (l0 : List (S54)) : Option (Bool) := dryrotref11_Can.l0 k l0 (l0.length : Int) 0
theorem dryrotref11_Can.mono_l : ∀ k, (∀ y0 y1 y2, LeO (dryrotref11_Can.l0 k y0 y1 y2) (dryrotref11_Can.l0 (k + 1) y0 y1 y2))
  | 0 => fun _ _ _ r h => by simp [dryrotref11_Can.l0] at h
  | k + 1 => by
    have ih0 := dryrotref11_Can.mono_l k
    · intro y0 y1 y2
      unfold dryrotref11_Can.l0
      repeat' first
      | (with_reducible exact ih0 _ _ _)
      | (with_reducible exact LeO.refl _)
      | (with_reducible exact LeO.none _)
      | (with_reducible refine LeO.ite ?_ ?_)
      | (with_reducible refine LeO.bind ?_ (fun _ => ?_))
      | exact ih0 _ _ _
      | exact LeO.none _
      | refine LeO.ite ?_ ?_
      | refine LeO.bind ?_ (fun _ => ?_)
theorem dryrotref11_Can.mono : ∀ a0 k, LeO (dryrotref11_Can.f k a0) (dryrotref11_Can.f (k + 1) a0) := by
  intro a0 k
  have ih0 := dryrotref11_Can.mono_l k
  unfold dryrotref11_Can.f
  repeat' first
      | (with_reducible exact ih0 _ _ _)
      | (with_reducible exact LeO.refl _)
      | (with_reducible exact LeO.none _)
      | (with_reducible refine LeO.ite ?_ ?_)
      | (with_reducible refine LeO.bind ?_ (fun _ => ?_))
      | exact ih0 _ _ _
      | exact LeO.none _
      | refine LeO.ite ?_ ?_
      | refine LeO.bind ?_ (fun _ => ?_)
set_option maxHeartbeats 8000000 in
set_option maxRecDepth 100000 in
theorem dryrotref11_Can.calls (k : Nat) (A0 : Option Addr) (c0 : Nat) (l0 : List (S54)) (r : Bool) (w : World) (hr0 : Kd.C k54 w A0 l0.length l0) (hc0 : l0.length ≤ c0) (h : dryrotref11_Can.f k l0 = some r) :
    Calls Tryd.prog 41 #[.slice A0 l0.length c0] w fun e w' => e = .returned (.bool r) ∧ Drawn0 w w' := by
  have HR0 := Aside0.mk hr0
  have HC0 := Aside0.mk hc0
  clear hr0 hc0
  have H : (dryrotref11_Can.l0 k l0 (l0.length : Int) 0) = some r := h
  clear h
  have H' := Aside0.mk H
  clear H
  go_enter Tryd.func41, Tryd.ntmps41
  go_wp2
  repeat (go_quiet (fail); try go_wp2)
  go_loopg [6] k (fun kq v6 w' => ∃ (x6_1 : Int), v6 = .int .i64 x6_1 ∧ Aside0 (dryrotref11_Can.l0 kq l0 (l0.length : Int) x6_1 = some r) ∧ Aside0 (kq ≤ k) ∧ Drawn0 w w')
  case atStart => exact ⟨(0), (by first | rfl | (simp; done) | (simp [*]; done)), H', ⟨Nat.le_refl _⟩, by repeat (first | exact Drawn0.refl _ | apply Drawn0.step)⟩
  case round =>
    clear H'
    obtain ⟨x6_1, rfl, HA, HK1, ⟨m1, rfl⟩⟩ := hrel
    cases gk with
    | zero => exact absurd HA.out (by simp [dryrotref11_Can.l0])
    | succ k1 =>
      have H := HA.out
      clear HA
      simp only [dryrotref11_Can.l0] at H
      by_cases c2 : x6_1 < (l0.length : Int)
      · rw [if_pos c2] at H
        have c2b0 : decide (x6_1 < (l0.length : Int)) = true := decide_eq_true c2
        clear c2
        by_cases c3 : x6_1 > 0
        · rw [if_pos c3] at H
          have c3b0 : decide (0 < x6_1) = true := decide_eq_true c3
          clear c3
          obtain ⟨ji4, hji4⟩ : ∃ j_ : Int, (wrap64 (x6_1 - 1)) = j_ := ⟨_, rfl⟩
          replace H : (if 0 ≤ (ji4) then (if (ji4) < (l0.length : Int) then (if 0 ≤ x6_1 then (if x6_1 < (l0.length : Int) then (if ((rd_T54 l0 (ji4)).f0) ≥ ((rd_T54 l0 x6_1).f0) then (some false) else (dryrotref11_Can.l0 k1 l0 (l0.length : Int) (wrap64 (x6_1 + 1)))) else (none)) else (none)) else (none)) else (none)) = some r := by first | (rw [hji4] at H; exact H) | (simp only [hji4] at H ⊢; exact H)
          have hji4w : (IntKind.i64.wrap (x6_1 - 1)) = ji4 := (i64_w _).trans hji4
          by_cases c5 : 0 ≤ (ji4)
          · rw [if_pos c5] at H
            have c5b0 : decide (0 ≤ (ji4)) = true := decide_eq_true c5
            clear c5
            by_cases c6 : (ji4) < (l0.length : Int)
            · rw [if_pos c6] at H
              have c6b0 : decide ((ji4) < (l0.length : Int)) = true := decide_eq_true c6
              clear c6
              by_cases c7 : 0 ≤ x6_1
              · rw [if_pos c7] at H
                have c7b0 : decide (0 ≤ x6_1) = true := decide_eq_true c7
                clear c7
                by_cases c8 : x6_1 < (l0.length : Int)
                · rw [if_pos c8] at H
                  have c8b0 : decide (x6_1 < (l0.length : Int)) = true := decide_eq_true c8
                  clear c8
                  by_cases c9 : ((rd_T54 l0 (ji4)).f0) ≥ ((rd_T54 l0 x6_1).f0)
                  · rw [if_pos c9] at H
                    have c9b0 : decide (((rd_T54 l0 x6_1).f0) ≤ ((rd_T54 l0 (ji4)).f0)) = true := decide_eq_true c9
                    clear c9
                    obtain rfl := Option.some.inj H
                    have p198 : 0 ≤ ((ji4) : Int) := of_decide_eq_true (by first | (with_reducible assumption) | assumption)
                    have q198 : (ji4) < (l0.length : Int) := of_decide_eq_true (by first | (with_reducible assumption) | assumption)
                    obtain ⟨ad198, e198, hx198_0, hx198_1⟩ := at_T54 HR0.out (ji4) p198 q198
                    cases e198
                    replace p198 := eq_true p198
                    replace q198 := eq_true q198
                    have p199 : 0 ≤ (x6_1 : Int) := of_decide_eq_true (by first | (with_reducible assumption) | assumption)
                    have q199 : x6_1 < (l0.length : Int) := of_decide_eq_true (by first | (with_reducible assumption) | assumption)
                    obtain ⟨ad199, e199, hx199_0, hx199_1⟩ := at_T54 HR0.out x6_1 p199 q199
                    obtain rfl : ad198 = ad199 := (by injection e199)
                    replace p199 := eq_true p199
                    replace q199 := eq_true q199
                    go_wp2
                    repeat (go_quiet (fail); try go_wp2)
                    go_ret
                    exact ⟨by first | rfl | (simp; done) | (simp only [← hji4] <;> (first | rfl | simp)) | (simp [*]; done), by repeat (first | exact Drawn0.refl _ | apply Drawn0.step)⟩
                  · rw [if_neg c9] at H
                    have c9b0 : decide (((rd_T54 l0 x6_1).f0) ≤ ((rd_T54 l0 (ji4)).f0)) = false := decide_eq_false c9
                    clear c9
                    have H' := Aside0.mk H
                    clear H
                    have p198 : 0 ≤ ((ji4) : Int) := of_decide_eq_true (by first | (with_reducible assumption) | assumption)
                    have q198 : (ji4) < (l0.length : Int) := of_decide_eq_true (by first | (with_reducible assumption) | assumption)
                    obtain ⟨ad198, e198, hx198_0, hx198_1⟩ := at_T54 HR0.out (ji4) p198 q198
                    cases e198
                    replace p198 := eq_true p198
                    replace q198 := eq_true q198
                    have p199 : 0 ≤ (x6_1 : Int) := of_decide_eq_true (by first | (with_reducible assumption) | assumption)
                    have q199 : x6_1 < (l0.length : Int) := of_decide_eq_true (by first | (with_reducible assumption) | assumption)
                    obtain ⟨ad199, e199, hx199_0, hx199_1⟩ := at_T54 HR0.out x6_1 p199 q199
                    obtain rfl : ad198 = ad199 := (by injection e199)
                    replace p199 := eq_true p199
                    replace q199 := eq_true q199
                    go_wp2
                    repeat (go_quiet (fail); try go_wp2)
                    go_roundg k1
                    case measure => have := HK1.out; omega
                    case rel => exact ⟨(wrap64 (x6_1 + 1)), (by first | rfl | (simp; done) | (simp [*]; done)), H', ⟨by have := HK1.out; omega⟩, by repeat (first | exact Drawn0.refl _ | apply Drawn0.step)⟩
                · rw [if_neg c8] at H
                  exact absurd H (by simp)
              · rw [if_neg c7] at H
                exact absurd H (by simp)
            · rw [if_neg c6] at H
              exact absurd H (by simp)
          · rw [if_neg c5] at H
            exact absurd H (by simp)
        · rw [if_neg c3] at H
          have c3b0 : decide (0 < x6_1) = false := decide_eq_false c3
          clear c3
          have H' := Aside0.mk H
          clear H
          go_wp2
          repeat (go_quiet (fail); try go_wp2)
          go_roundg k1
          case measure => have := HK1.out; omega
          case rel => exact ⟨(wrap64 (x6_1 + 1)), (by first | rfl | (simp; done) | (simp [*]; done)), H', ⟨by have := HK1.out; omega⟩, by repeat (first | exact Drawn0.refl _ | apply Drawn0.step)⟩
      · rw [if_neg c2] at H
        have c2b0 : decide (x6_1 < (l0.length : Int)) = false := decide_eq_false c2
        clear c2
        obtain rfl := Option.some.inj H
        go_wp2
        repeat (go_quiet (fail); try go_wp2)
        go_ret
        exact ⟨by first | rfl | (simp; done) | (simp [*]; done) | (simp; decide +kernel), by repeat (first | exact Drawn0.refl _ | apply Drawn0.step)⟩

end Go.Proofs.YtbgmnmjokdfmlaaDoor.PA
namespace Go.Proofs.YtbgmnmjokdfmlaaDoor.PA
open Go.RowKit Go.Proofs.YtbgmnmjokdfmlaaDoor.G Go.Proofs.YtbgmnmjokdfmlaaDoorW.PrintWords Go.Proofs.YtbgmnmjokdfmlaaDoorW.PrintLast Go.Proofs.YtbgmnmjokdfmlaaDoorW.PrintMore
set_option linter.unusedVariables false
set_option linter.unusedSimpArgs false

/-! ### the reference's Can -/
theorem rcan_from (l : List S54) (hl : l.length ≤ 1000000) : ∀ d i, i + 1 + d = l.length → ∀ k, d < k → dryrotref11_Can.l0 k l (l.length : Int) ((i + 1 : Nat) : Int) = some (((List.range d).all fun q => decide ((rd_T54 l ((i + q : Nat) : Int)).f0 < (rd_T54 l ((i + q + 1 : Nat) : Int)).f0)) && decide (l.length ≤ 65535))
  | 0, i, h, k + 1, hk => by
    unfold dryrotref11_Can.l0
    rw [if_neg (by omega)]
    simp
    omega
  | d + 1, i, h, k + 1, hk => by
    unfold dryrotref11_Can.l0
    have e1 : wrap64 (((i + 1 : Nat) : Int) - 1) = ((i : Nat) : Int) := by rw [w64 (by omega) (by omega)]; omega
    have e2 : wrap64 (((i + 1 : Nat) : Int) + 1) = ((i + 1 + 1 : Nat) : Int) := by rw [w64 (by omega) (by omega)]; omega
    rw [if_pos (by omega), if_pos (by omega), e1, if_pos (by omega), if_pos (by omega), if_pos (by omega), if_pos (by omega), e2, List.range_succ_eq_map, List.all_cons, List.all_map]
    by_cases hh : (rd_T54 l ((i : Nat) : Int)).f0 ≥ (rd_T54 l ((i + 1 : Nat) : Int)).f0
    · rw [if_pos hh]
      have h2 : ¬ (rd_T54 l ((i : Nat) : Int)).f0 < (rd_T54 l ((i + 1 : Nat) : Int)).f0 := by omega
      have e3 : decide ((rd_T54 l ((i + 0 : Nat) : Int)).f0 < (rd_T54 l ((i + 0 + 1 : Nat) : Int)).f0) = false := decide_eq_false h2
      rw [e3, Bool.false_and, Bool.false_and]
    · rw [if_neg hh, rcan_from l hl d (i + 1) (by omega) k (by omega)]
      have h2 : (rd_T54 l ((i : Nat) : Int)).f0 < (rd_T54 l ((i + 1 : Nat) : Int)).f0 := by omega
      have e3 : decide ((rd_T54 l ((i + 0 : Nat) : Int)).f0 < (rd_T54 l ((i + 0 + 1 : Nat) : Int)).f0) = true := decide_eq_true h2
      rw [e3, Bool.true_and]
      congr 3
      funext q
      simp only [Function.comp, show i + 1 + q = i + (q + 1) by omega, Nat.succ_eq_add_one]
theorem rcan_S (l : List S54) (hl : l.length ≤ 1000000) (k : Nat) (hk : l.length + 1 < k) : dryrotref11_Can.f k l = some (canS l) := by
  unfold dryrotref11_Can.f canS
  obtain ⟨k, rfl⟩ : ∃ k', k = k' + 1 := ⟨k - 1, by omega⟩
  by_cases h : 0 < l.length
  · have := rcan_from l hl (l.length - 1) 0 (by omega) k (by omega)
    simp only [Nat.zero_add] at this
    unfold dryrotref11_Can.l0
    rw [if_pos (by omega), if_neg (by omega)]
    exact (show wrap64 (0 + 1) = ((1 : Nat) : Int) from w64 (by decide) (by decide)) ▸ this
  · unfold dryrotref11_Can.l0
    rw [if_neg (by omega), show l.length - 1 = 0 by omega]
    simp
    omega

theorem OU.alloc {B g : Nat} {W : World} {L : List Bool} (h : OU B W g L) (o : Obj) : OU B (W.alloc o) g L := by
  obtain ⟨u, h1, h2⟩ := h
  exact ⟨u, blk_alloc h1 _, Kd.R_alloc h2 _⟩
theorem OU.drew {B g : Nat} {W : World} {L : List Bool} (h : OU B W g L) : OU B W.drew g L := h
theorem OU.lt {B g : Nat} {W : World} {L : List Bool} (h : OU B W g L) : g < W.heap.size := by
  obtain ⟨u, h1, _⟩ := h
  exact blk_lt h1
theorem cells54 {w W : World} {ad : Addr} {n : Nat} {l : List S54} (hr : Kd.C k54 w (some ad) n l) (hb : Below w.heap.size w W) (j : Nat) (hj : j < n) : W.cell? (ad.add (j * 2)) = some (.int .i64 (rd_T54 l (j : Int)).f0) ∧ W.cell? ⟨(ad.add (j * 2)).block, (ad.add (j * 2)).off + 1, none⟩ = some (.int .u64 (rd_T54 l (j : Int)).f1) := by
  obtain ⟨ad', e, h0, h1⟩ := at_T54 (Kd.C_below hr hb) (j : Int) (by omega) (by omega)
  obtain rfl := Option.some.inj e
  rw [Int.toNat_natCast] at h0 h1
  exact ⟨h0, h1⟩
theorem out_putXor.at_ (B g : Nat) (L : List Bool) (V : Int) (x : Nat) (w0 w : World) (hO : OU B w g L) (hB : Below B w0 w) (hgB : B ≤ g) (hV : V = (x : Int)) (hx : x < 18446744073709551616) (hL : L.length ≤ 6000000) :
    Calls Tryd.prog 69 #[.pointer (some ⟨g, 0, none⟩), .int .u64 V] w fun e w' => e = .returned (.tuple #[]) ∧ OU B w' g (L ++ xorBits x) ∧ Below B w0 w' ∧ KeepO g w w' := by
  subst hV
  exact out_putXor.calls B g L x w0 w hO hB hgB hx hL
theorem wrap64_0 (a : Int) : wrap64 (wrap64 a - 0) = wrap64 a := by
  have := wrap64_in a
  rw [Int.sub_zero]
  exact w64 this.1 this.2
set_option maxHeartbeats 2000000 in
set_option maxRecDepth 100000 in
theorem rEncode.bad (A : Option Addr) (c : Nat) (l : List S54) (w : World) (hr : Kd.C k54 w A l.length l) (hc : l.length ≤ c) (hlen : l.length ≤ 20000) (h : canS l = false) :
    Calls Tryd.prog 36 #[.slice A l.length c] w fun e w' => e = .returned (.tuple #[.slice none 0 0, .int .i64 1]) ∧ Below w.heap.size w w' := by
  have HR := Aside0.mk hr
  have HC := Aside0.mk hc
  have HF : Aside0 (dryrotref11_Can.f 100000 l = some false) := ⟨by rw [rcan_S l (by omega) _ (by omega), h]⟩
  clear hr hc hlen h
  go_enter Tryd.func36, Tryd.ntmps36
  go_wp2_with (go_at_call 41; (with_reducible refine (dryrotref11_Can.calls 100000 _ _ l false _ HR.out HC.out HF.out).mono ?_); rintro e w1 ⟨rfl, hd⟩; have HB := Aside0.mk hd.below; clear hd)
  refine bodyPost_ret (results_tmp2 rfl _ _ _) rfl ?_
  exact ⟨rfl, HB.out⟩
set_option maxHeartbeats 8000000 in
set_option maxRecDepth 100000 in
theorem rEncode.ok (A : Option Addr) (c : Nat) (l : List S54) (w : World) (hr : Kd.C k54 w A l.length l) (hc : l.length ≤ c) (hw : ∀ x ∈ l, okS x) (hlen : l.length ≤ 20000) (h : canS l = true) :
    Calls Tryd.prog 36 #[.slice A l.length c] w fun e w' => ∃ v : Value, e = .returned (.tuple #[v, .int .i64 0]) ∧ Kd.R (Kd.int .u8) 5 w' w.heap.size (fun _ => True) v (encL l) ∧ Below w.heap.size w w' := by
  have HR := Aside0.mk hr
  have HC := Aside0.mk hc
  have HW := Aside0.mk hw
  have HLN := Aside0.mk hlen
  have HF : Aside0 (dryrotref11_Can.f 100000 l = some true) := ⟨by rw [rcan_S l (by omega) _ (by omega), h]⟩
  clear hr hc hw h hlen
  go_enter Tryd.func36, Tryd.ntmps36
  go_wp2_with (first
    | (go_at_call 41; (with_reducible refine (dryrotref11_Can.calls 100000 _ _ l true _ HR.out HC.out HF.out).mono ?_); rintro e w1 ⟨rfl, hd⟩; have HB1 := Aside0.mk hd.below; clear hd)
    | ((with_reducible refine gate_dst (N := 14) rfl ?_); refine box_event ?hg (N := 14) ?hd (cs := #[.slice none 0 0]) (t := 109) ?hr ?_; (case hd => rfl); (case hg => rfl); (case hr => first | (go_simp; done) | (go_simp; rfl)); intro g hg w2 hbox hb; have HB2 := Aside0.mk (below_step HB1.out hb); have HBK := Aside0.mk hbox; have HG : Aside0 (w.heap.size ≤ g) := ⟨by have := HB1.out.size; omega⟩; clear hb hbox hg))
  have HPK : Aside0 (OU w.heap.size w2 g (encP l 0)) := ⟨_, HBK.out, Kd.R_nil _ _ _ _ _⟩
  go_loopw [17] (fun i wr => ∃ k : Nat, k ≤ l.length ∧ i = .int .i64 k ∧ Aside0 (OU w.heap.size wr g (encP l k)) ∧ Aside0 (Below w.heap.size w wr)) (fun i _ => l.length - (intOf i).toNat)
  case atStart => exact ⟨0, Nat.zero_le _, rfl, HPK, HB2⟩
  case round =>
    clear HPK HBK HB2
    obtain ⟨k, hk, rfl, HP, HB⟩ := hrel
    have hl2 : l.length ≤ 20000 := HLN.out
    by_cases hlt : k < l.length
    · have hC := Kd.C_below HR.out HB.out
      obtain ⟨ad, rfl, h0, h1⟩ := at_T54 hC (k : Int) (by omega) (by omega)
      rw [Int.toNat_natCast] at h0 h1
      have hx := HW.out _ (rd_mem54 l k hlt)
      have hgw := (HP.out).lt
      have HGN : Aside0 (wr.heap.size ≠ g) := ⟨by omega⟩
      have HLE := Aside0.mk (encP_len l HW.out k hk)
      clear hC hgw
      cases k with
      | zero =>
        obtain ⟨v0, hv0⟩ := Int.eq_ofNat_of_zero_le (u64_wrap_range (rd_T54 l 0).f0).1
        obtain ⟨v1, hv1⟩ := Int.eq_ofNat_of_zero_le hx.2.1
        have CA := Aside0.mk (fun W h1 h2 => out_put.at_ w.heap.size g [] (IntKind.u64.wrap (rd_T54 l 0).f0) 64 v0 64 w W h1 h2 HG.out hv0 rfl (by have := (u64_wrap_range (rd_T54 l 0).f0).2; omega) (by decide) (by simp))
        have CB := Aside0.mk (fun W h1 h2 => out_put.at_ w.heap.size g ([] ++ low v0 64) (rd_T54 l 0).f1 64 v1 64 w W h1 h2 HG.out hv1 rfl (by have := hx.2.2; omega) (by decide) (by simp))
        have EV : Aside0 ((IntKind.u64.wrap (rd_T54 l 0).f0).toNat = v0 ∧ (rd_T54 l 0).f1.toNat = v1) := ⟨by rw [hv0]; rfl, by have h_ : (rd_T54 l 0).f1 = (v1 : Int) := hv1; rw [h_]; rfl⟩
        clear hv0 hv1 hx
        have h0' : wr.cell? ad = some (.int .i64 (rd_T54 l 0).f0) := by simpa [Addr.add] using h0
        have h1' : wr.cell? ⟨ad.block, ad.off + 1, none⟩ = some (.int .u64 (rd_T54 l 0).f1) := by simpa [Addr.add] using h1
        clear h0 h1
        go_wp2_with (first
          | (go_at_call 67; (with_reducible refine (CA.out _ (HP.out.alloc _) (below_alloc HB.out _)).mono ?_); rintro e w3 ⟨rfl, hp, hb, hk⟩; have HP3 := Aside0.mk hp; have BX := hk wr.heap.size _ _ HGN.out (by decide) (blk_new wr _); have f1 := (blk_cell BX 1).trans rfl; have HB3 := Aside0.mk hb; clear hp hb hk BX)
          | (go_at_call 67; (with_reducible refine (CB.out _ HP3.out HB3.out).mono ?_); rintro e w4 ⟨rfl, hp, hb, hk⟩; have HP4 := Aside0.mk hp; have HB4 := Aside0.mk hb; clear hp hb hk))
        go_roundw
        case rel =>
          refine ⟨1, by omega, by go_num, ⟨?_⟩, HB4⟩
          have := HP4.out
          rw [List.nil_append, ← EV.out.1, ← EV.out.2] at this
          exact this
        case measure => simp [intOf]; omega
      | succ k =>
        have hx1 := HW.out _ (rd_mem54 l k (by omega))
        obtain ⟨x, ex⟩ : ∃ x, rd_T54 l ((k + 1 : Nat) : Int) = x := ⟨_, rfl⟩
        obtain ⟨y, ey⟩ : ∃ y, rd_T54 l ((k : Nat) : Int) = y := ⟨_, rfl⟩
        rw [ex] at h0 h1 hx
        rw [ey] at hx1
        have hxi := xor_in hx.2 hx1.2
        obtain ⟨q, eq⟩ : ∃ q, x.f1.toNat ^^^ y.f1.toNat = q := ⟨_, rfl⟩
        rw [eq] at hxi
        have CI := Aside0.mk (fun V W h1 h2 => out_putInt.calls w.heap.size g (encP l (k + 1)) V w W h1 h2 HG.out (by have := HLE.out; omega))
        have CX := Aside0.mk (fun V U W h1 h2 hU => out_putXor.at_ w.heap.size g (encP l (k + 1) ++ intBits V) U q w W h1 h2 HG.out hU hxi.2 (by have := HLE.out; have := intBits_len V; rw [List.length_append]; omega))
        have HXI := Aside0.mk hxi.1
        have HST : Aside0 (encP l (k + 2) = encP l (k + 1) ++ (intBits (wrap64 (wrap64 (x.f0 - y.f0) - stepP l (k + 1))) ++ xorBits q)) := ⟨by rw [← eq, ← ex, ← ey]; rfl⟩
        have HCY := Aside0.mk (fun W hb => ey ▸ cells54 HR.out (W := W) hb k (by omega))
        have BX := Aside0.mk (blk_new wr (.cells #[.int .i64 x.f0, .int .u64 x.f1] 54))
        have HPA := Aside0.mk (HP.out.alloc (.cells #[.int .i64 x.f0, .int .u64 x.f1] 54))
        have HBA := Aside0.mk (below_alloc HB.out (.cells #[.int .i64 x.f0, .int .u64 x.f1] 54))
        clear hx hx1 hxi eq
        cases k with
        | zero =>
          rw [show ((0 + 1 : Nat) : Int) = 1 from rfl] at *
          have y0 : (wr.alloc (.cells #[.int .i64 x.f0, .int .u64 x.f1] 54)).cell? ad = some (.int .i64 y.f0) := by simpa [Addr.add] using (HCY.out _ HBA.out).1
          have x0 : (wr.alloc (.cells #[.int .i64 x.f0, .int .u64 x.f1] 54)).cell? ⟨wr.heap.size, 0, none⟩ = some (.int .i64 x.f0) := (blk_cell BX.out 0).trans rfl
          have h0' : wr.cell? ⟨ad.block, ad.off + 2, none⟩ = some (.int .i64 x.f0) := by simpa [Addr.add] using h0
          have h1' : wr.cell? ⟨ad.block, ad.off + 2 + 1, none⟩ = some (.int .u64 x.f1) := by simpa [Addr.add] using h1
          have hxi := HXI.out
          have b3 : (0 : Int) < (l.length : Int) := by omega
          have b4 : 0 < l.length := by omega
          have hw0 : IntKind.i64.wrap 0 = 0 := by decide
          have hw1 : IntKind.i64.wrap (1 - 1) = 0 := by decide
          clear h0 h1 ex ey
          go_wp2_with fail
          go_region_held3 (fun W => W.cell? ⟨wr.heap.size, 0, none⟩ = some (.int .i64 x.f0) ∧ W.cell? ad = some (.int .i64 y.f0)) (first | exact ⟨x0, y0⟩ | exact ⟨x3, y3⟩)
            (first | (go_at_call 68; (refine (CI.out _ _ ?s1 ?s2).mono ?_); (case s1 => exact HPA.out.drew); (case s2 => exact below_drew1 HBA.out); rintro e w3 ⟨rfl, hp, hb, hk⟩; have bx3 := hk wr.heap.size _ _ HGN.out (by decide) (blk_drew BX.out); have x3 := (blk_cell bx3 0).trans rfl; have y3 : w3.cell? ad = some (.int .i64 y.f0) := (by simpa [Addr.add] using (HCY.out _ hb).1); have HP3 := Aside0.mk hp; have HB3 := Aside0.mk hb; have BX3 := Aside0.mk bx3; clear hp hb hk bx3))
          clear x0 y0
          have x1 : w3.cell? ⟨wr.heap.size, 1, none⟩ = some (.int .u64 x.f1) := (blk_cell BX3.out 1).trans rfl
          have y1 : w3.cell? ⟨ad.block, ad.off + 1, none⟩ = some (.int .u64 y.f1) := by simpa [Addr.add] using (HCY.out _ HB3.out).2
          go_wp2_with fail
          go_region_held3 (fun W => W.cell? ⟨wr.heap.size, 1, none⟩ = some (.int .u64 x.f1) ∧ W.cell? ⟨ad.block, ad.off + 1, none⟩ = some (.int .u64 y.f1)) (first | exact ⟨x1, y1⟩ | exact ⟨x4, y4⟩)
            (first | (go_at_call 69; (refine (CX.out _ _ _ HP3.out.drew ?s4 ?s5).mono ?_); (case s4 => exact below_drew1 HB3.out); (case s5 => first | exact hxi | rfl); rintro e w4 ⟨rfl, hp, hb, hk⟩; have bx4 := hk wr.heap.size _ _ HGN.out (by decide) (blk_drew BX3.out); have x4 : w4.cell? ⟨wr.heap.size, 1, none⟩ = some (.int .u64 x.f1) := (blk_cell bx4 1).trans rfl; have y4 : w4.cell? ⟨ad.block, ad.off + 1, none⟩ = some (.int .u64 y.f1) := (by simpa [Addr.add] using (HCY.out _ hb).2); have HP4 := Aside0.mk hp; have HB4 := Aside0.mk hb; clear hp hb hk bx4))
          clear x1 y1 x3 y3
          go_wp2_with fail
          go_roundw
          case rel =>
            refine ⟨0 + 2, by omega, by go_num, ⟨?_⟩, HB4⟩
            have h_ := HP4.out
            simp only [i64_w] at h_
            rw [show stepP l (0 + 1) = 0 from rfl, wrap64_0] at HST
            rw [HST.out, ← List.append_assoc]
            exact h_
          case measure => simp [intOf] <;> omega
        | succ k =>
          rw [show ((k + 1 + 1 : Nat) : Int) = (k : Int) + 2 from by omega] at *
          obtain ⟨z, ez⟩ : ∃ z, rd_T54 l ((k : Nat) : Int) = z := ⟨_, rfl⟩
          have HSP : Aside0 (stepP l (k + 1 + 1) = wrap64 (y.f0 - z.f0)) := ⟨by rw [← ey, ← ez]; rfl⟩
          have HCZ := Aside0.mk (fun W hb => ez ▸ cells54 HR.out (W := W) hb k (by omega))
          have y0 := (HCY.out _ HBA.out).1
          have z0 := (HCZ.out _ HBA.out).1
          have x0 : (wr.alloc (.cells #[.int .i64 x.f0, .int .u64 x.f1] 54)).cell? ⟨wr.heap.size, 0, none⟩ = some (.int .i64 x.f0) := (blk_cell BX.out 0).trans rfl
          have hxi := HXI.out
          have b0 : (0 : Int) ≤ (k : Int) := by omega
          have b1 : (k : Int) < (l.length : Int) := by omega
          have b2 : (0 : Int) ≤ (k : Int) + 1 := by omega
          have b3 : (k : Int) + 1 < (l.length : Int) := by omega
          have hwk : IntKind.i64.wrap (k : Int) = (k : Int) := (i64_w _).trans (w64 (by omega) (by omega))
          have hwk1 : IntKind.i64.wrap ((k : Int) + 1) = (k : Int) + 1 := (i64_w _).trans (w64 (by omega) (by omega))
          have hwk2 : IntKind.i64.wrap ((k : Int) + 2 - 1) = (k : Int) + 1 := (i64_w _).trans ((w64 (by omega) (by omega)).trans (by omega))
          have hwk3 : IntKind.i64.wrap ((k : Int) + 2 - 2) = (k : Int) := (i64_w _).trans ((w64 (by omega) (by omega)).trans (by omega))
          have hn1 : ((k : Int) + 1).toNat = k + 1 := by omega
          have d0 : ((k : Int) + 2 == 0) = false := beq_eq_false_iff_ne.2 (by omega)
          have d1 : ((k : Int) + 2 == 1) = false := beq_eq_false_iff_ne.2 (by omega)
          clear ex ey ez
          go_wp2_with fail
          go_region_held3 (fun W => W.cell? ⟨wr.heap.size, 0, none⟩ = some (.int .i64 x.f0) ∧ W.cell? (ad.add ((k + 1) * 2)) = some (.int .i64 y.f0) ∧ W.cell? (ad.add (k * 2)) = some (.int .i64 z.f0)) (first | exact ⟨x0, y0, z0⟩ | exact ⟨x3, y3, z3⟩)
            (first | (go_at_call 68; (refine (CI.out _ _ ?s6 ?s7).mono ?_); (case s6 => exact HPA.out.drew); (case s7 => exact below_drew1 HBA.out); rintro e w3 ⟨rfl, hp, hb, hk⟩; have bx3 := hk wr.heap.size _ _ HGN.out (by decide) (blk_drew BX.out); have x3 : w3.cell? ⟨wr.heap.size, 0, none⟩ = some (.int .i64 x.f0) := (blk_cell bx3 0).trans rfl; have y3 := (HCY.out _ hb).1; have z3 := (HCZ.out _ hb).1; have HP3 := Aside0.mk hp; have HB3 := Aside0.mk hb; have BX3 := Aside0.mk bx3; clear hp hb hk bx3))
          clear x0 y0 z0
          have x1 : w3.cell? ⟨wr.heap.size, 1, none⟩ = some (.int .u64 x.f1) := (blk_cell BX3.out 1).trans rfl
          have y1 := (HCY.out _ HB3.out).2
          go_wp2_with fail
          go_region_held3 (fun W => W.cell? ⟨wr.heap.size, 1, none⟩ = some (.int .u64 x.f1) ∧ W.cell? ⟨(ad.add ((k + 1) * 2)).block, (ad.add ((k + 1) * 2)).off + 1, none⟩ = some (.int .u64 y.f1)) (first | exact ⟨x1, y1⟩ | exact ⟨x4, y4⟩)
            (first | (go_at_call 69; (refine (CX.out _ _ _ HP3.out.drew ?s9 ?s10).mono ?_); (case s9 => exact below_drew1 HB3.out); (case s10 => first | exact hxi | rfl); rintro e w4 ⟨rfl, hp, hb, hk⟩; have bx4 := hk wr.heap.size _ _ HGN.out (by decide) (blk_drew BX3.out); have x4 : w4.cell? ⟨wr.heap.size, 1, none⟩ = some (.int .u64 x.f1) := (blk_cell bx4 1).trans rfl; have y4 := (HCY.out _ hb).2; have HP4 := Aside0.mk hp; have HB4 := Aside0.mk hb; clear hp hb hk bx4))
          clear x1 y1 x3 y3 z3
          go_wp2_with fail
          go_roundw
          case rel =>
            refine ⟨k + 1 + 2, by omega, by go_num, ⟨?_⟩, HB4⟩
            have h_ := HP4.out
            simp only [i64_w] at h_
            rw [← HSP.out] at h_
            rw [HST.out, ← List.append_assoc]
            exact h_
          case measure => simp [intOf] <;> omega
    · obtain rfl : k = l.length := by omega
      have hL7 := encP_len l HW.out l.length (Nat.le_refl _)
      obtain ⟨L, hL⟩ : ∃ L, encP l l.length = L := ⟨_, rfl⟩
      rw [hL] at HP hL7
      have HEN : Aside0 (encL l = beL l.length 2 ++ pkS L L.length) := ⟨by rw [encL, hL, pkS_all]⟩
      have HL7 : Aside0 (L.length ≤ 4000000) := ⟨by omega⟩
      obtain ⟨u, hu1, hu2⟩ := HP.out
      obtain ⟨A8, c8, rfl⟩ := Kd.R_slice hu2
      have HU1 := Aside0.mk hu1
      have HU2 := Aside0.mk hu2
      have HPF : Aside0 (G.dryrotref01_Put.f (l.length : Int) 2 = some (beL l.length 2)) := ⟨by have h_ := put_f (q := (l.length : Int)) (by omega) (by omega) 2; rw [u64n (by omega)] at h_; exact h_⟩
      clear hu1 hu2 hL hL7
      go_wp2_with (go_at_call 37; (with_reducible refine (G.dryrotref01_Put.calls _ _ _ _ HPF.out).mono ?_); rintro e w5 ⟨v5, rfl, hr, hb⟩; have HR5 := Aside0.mk hr; have HB5 := Aside0.mk (below_step HB.out hb); have HU5 := Aside0.mk (Kd.R_below HU2.out hb); have BK5 := Aside0.mk (blk_below HU1.out hb); have z5 : w5.cell? ⟨g, 0, none⟩ = some (.slice A8 L.length c8) := (blk_cell BK5.out 0).trans rfl; clear hr hb)
      have HS5 : Aside0 (w.heap.size ≤ wr.heap.size) := ⟨HB.out.size⟩
      clear HP HB HU1 HU2
      obtain ⟨A7, c7, rfl⟩ := Kd.R_slice HR5.out
      have HR6 : Aside0 (Kd.R (Kd.int .u8) 5 w5 w.heap.size (fun _ => True) (.slice A7 (beL l.length 2).length c7) (beL l.length 2 ++ pkS L 0)) := ⟨by
        rw [show beL l.length 2 ++ pkS L 0 = beL l.length 2 from List.append_nil _]
        exact Kd.R_lower HR5.out HS5.out⟩
      go_loopw [7, 91] (fun v7 i wx => ∃ j : Nat, j ≤ L.length ∧ i = .int .i64 j ∧ Aside0 (Kd.R (Kd.int .u8) 5 wx w.heap.size (fun _ => True) v7 (beL l.length 2 ++ pkS L j)) ∧ Aside0 (Kd.R Kd.bool 4 wx w.heap.size (fun _ => True) (.slice A8 L.length c8) L) ∧ Aside0 (Below w.heap.size w wx)) (fun _ i _ => L.length - (intOf i).toNat)
      case atStart => exact ⟨0, Nat.zero_le _, rfl, HR6, HU5, HB5⟩
      case round =>
        clear HR5 HR6 HU5 HB5 BK5 z5
        obtain ⟨j, hj, rfl, HX, HO, HB⟩ := hrel
        have hL7 : L.length ≤ 4000000 := HL7.out
        by_cases hlt : j < L.length
        · obtain ⟨ad8, rfl, z8⟩ := Kd.at_bool (Kd.R_reads' HO.out).2.2 (j : Int) (by omega) (by omega)
          rw [Int.toNat_natCast] at z8
          have hbit : rdOf false L (j : Int) = L.getD j false := by simp [rdOf]
          rw [hbit] at z8
          have hpl : (pkS L j).length = (j + 7) / 8 := by have h_ := (pkS_ok L j (by omega)).1; have := h_.le; have := h_.near; omega
          have HXL : Aside0 ((beL l.length 2 ++ pkS L j).length = 2 + (j + 7) / 8) := ⟨by rw [List.length_append, beL_length, hpl]⟩
          obtain ⟨A7, c7, e7⟩ := Kd.R_slice HX.out
          rw [HXL.out] at e7
          subst e7
          have HAZ : Aside0 (beL l.length 2 ++ addZ (pkS L j) j = if j % 8 = 0 then beL l.length 2 ++ pkS L j ++ [0] else beL l.length 2 ++ pkS L j) := ⟨by unfold addZ; split <;> simp⟩
          have HPF := Aside0.mk (fun hb => pk_false (L := L) hlt hb)
          have HPT := Aside0.mk (fun hb => pk_true (L := L) (m := 2) hlt hb (beL l.length 2) (beL_length _ _))
          have HAL : Aside0 ((beL l.length 2 ++ addZ (pkS L j) j).length = 2 + j / 8 + 1) := ⟨by rw [List.length_append, beL_length, addZ_len (pkS_ok L j (by omega)).1]; omega⟩
          have HOB : Aside0 (OkL (beL l.length 2 ++ addZ (pkS L j) j)) := ⟨fun x hx => by
            rcases List.mem_append.1 hx with hx | hx
            · exact okB_iff.1 (okB_beL _ _) x hx
            · unfold addZ at hx
              split at hx
              · rcases List.mem_append.1 hx with hx | hx
                · exact (pkS_ok L j (by omega)).1.bytes x hx
                · rw [List.mem_singleton.1 hx]
                  exact ⟨by decide, by decide⟩
              · exact (pkS_ok L j (by omega)).1.bytes x hx⟩
          clear hbit hpl
          generalize addZ (pkS L j) j = Z at *
          generalize L.getD j false = bt at *
          go_upto_if 98 with (fail)
          go_cut [7] (fun v7 wc => Aside0 (Kd.R (Kd.int .u8) 5 wc w.heap.size (fun _ => True) v7 (beL l.length 2 ++ Z)) ∧ Aside0 (Kd.R Kd.bool 4 wc w.heap.size (fun _ => True) (.slice (some ad8) L.length c8) L) ∧ Aside0 (Below w.heap.size w wc))
          case first =>
            by_cases hm : j % 8 = 0
            · have hmb : ((j : Int) % 8 == 0) = true := beq_iff_eq.2 (by omega)
              have HE := HAZ.out
              rw [if_pos hm] at HE
              have HE := Aside0.mk HE
              clear hm
              go_wp2_with ((with_reducible refine gate_builtin (b := .append) (xs := #[.tmp 99, .tmp 100]) rfl ?_); at_builtin; refine Kd.R_append (Kd.int .u8) (w0 := w) w.heap.size rfl (.tmp 99) (.tmp 100) 22 5 (.int .u8 0) 1 rfl Tryd.underlying22 infoU8 rfl (by decide) (by omega) (.slice A7 (2 + (j + 7) / 8) c7) (beL l.length 2 ++ pkS L j) 0 [.int .u8 0] (fun _ => True) (fun _ => False) rfl ?hx ?aP (fun _ hk => hk.elim) (fun _ _ => trivial) HX.out HB.out HB.out.size ?aL ?_; (case hx => first | rfl | (go_simp; done) | (show Value.slice _ 1 1 = Value.slice _ 1 1; simp; done)); (case aP => exact rfl); (case aL => have := HXL.out; omega); intro v9 w9 ho hb hg9 hat; have HX9 := Aside0.mk ho; have HB9 := Aside0.mk hb; have HO9 := Aside0.mk (Kd.R_over HO.out HX.out (by decide) hg9); clear ho hb hg9 hat)
              go_meet
              exact ⟨⟨by rw [HE.out]; exact HX9.out⟩, HO9, HB9⟩
            · have hmb : ((j : Int) % 8 == 0) = false := beq_eq_false_iff_ne.2 (by omega)
              have HE := HAZ.out
              rw [if_neg hm] at HE
              have HE := Aside0.mk HE
              clear hm
              go_wp2_with (fail)
              go_meet
              exact ⟨⟨by rw [HE.out]; exact HX.out⟩, HO, HB⟩
          case rest =>
            obtain ⟨HX2, HO2, HB2⟩ := hcut
            clear HX HO HB
            cases bt with
            | false =>
              go_wp2_with fail
              go_roundw
              case rel => exact ⟨j + 1, by omega, by go_num, ⟨by rw [HPF.out rfl]; exact HX2.out⟩, HO2, HB2⟩
              case measure => simp [intOf] <;> omega
            | true =>
              obtain ⟨s1, s2, s3⟩ := HPT.out rfl
              obtain ⟨gb, c9, e9, hgb, hgl, cl, hcl⟩ := Kd.R_form HX2.out (by rw [s2]; omega)
              subst e9
              rw [s2] at HX2
              rw [s2]
              obtain ⟨hc, hf⟩ := Kd.R_celln 0 HX2.out ((2 + j / 8 : Nat) : Int) (by omega) (by omega)
              have HP := Aside0.mk (Kd.R_putg HX2.out ((2 + j / 8 : Nat) : Int) (Go.bits .or .u8 (Z.getD (j / 8) 0) (128 / 2 ^ (j % 8))))
              rw [show rdOf (0 : Int) (beL l.length 2 ++ Z) ((2 + j / 8 : Nat) : Int) = Z.getD (j / 8) 0 from s3] at hc
              rw [Int.toNat_natCast] at hc hf HP
              rw [s1] at HP
              obtain ⟨N, hN⟩ : ∃ N, 2 + j / 8 = N := ⟨_, rfl⟩
              rw [hN] at hc hf HP HX2
              rw [hN]
              obtain ⟨q, hq⟩ : ∃ q, j % 8 = q := ⟨_, rfl⟩
              have hq8 : q < 8 := hq ▸ Nat.mod_lt _ (by decide)
              have hqi : (j : Int) % 8 = (q : Int) := by omega
              rw [hq] at HP
              have hN0 : (0 : Int) ≤ (N : Int) := by omega
              have hN1 : (N : Int) < (N : Int) + 1 := by omega
              have hNw : IntKind.i64.wrap (N : Int) = (N : Int) := (i64_w _).trans (w64 (by omega) (by omega))
              clear s1 s2 s3 hN hq
              clear HPT
              generalize Z.getD (j / 8) 0 = ov at *
              go_wp2_with fail
              go_region
              all_goals
                go_wp2_with fail
                go_roundw
                case rel => exact ⟨j + 1, by omega, by go_num, ⟨Kd.R_drew HP.out.1⟩, ⟨Kd.R_drew (Kd.R_over HO2.out HX2.out (by decide) HP.out.2)⟩, ⟨below_drew1 (HB2.out.setCell (p := ⟨gb, N, none⟩) hgb _)⟩⟩
                case measure => simp [intOf] <;> omega
        · obtain rfl : j = L.length := by omega
          obtain ⟨A7, c7, e7⟩ := Kd.R_slice HX.out
          subst e7
          go_wp2_with fail
          refine bodyPost_ret (results_tmp2 rfl _ _ _) rfl ?_
          refine ⟨_, rfl, ?_, HB.out⟩
          rw [HEN.out]
          exact HX.out
end Go.Proofs.YtbgmnmjokdfmlaaDoor.PA
