/- The contract of codec.Encode: samples' bytes, or the error. -/
import Derived.Test.YtpeekkpdglfbbaaDoorKVal
import Derived.Test.YtpeekkpdglfbbaaDoorGPut
import Derived.Test.YtpeekkpdglfbbaaDoorPAf15
namespace Go.Proofs.YtpeekkpdglfbbaaDoor.PA
open Go.RowKit Go.Proofs.YtpeekkpdglfbbaaDoor.G Go.Proofs.YtpeekkpdglfbbaaDoorW.PrintWords Go.Proofs.YtpeekkpdglfbbaaDoorW.PrintLast Go.Proofs.YtpeekkpdglfbbaaDoorW.PrintMore
set_option linter.unusedVariables false
set_option linter.unusedSimpArgs false

/-- a sample's numbers are ones -/
def okS (x : S26) : Prop := (-9223372036854775808 ≤ x.f0 ∧ x.f0 ≤ 9223372036854775807) ∧ 0 ≤ x.f1 ∧ x.f1 < 18446744073709551616
/-- what a sample differs by from the one ahead -/
def difB (y x : S26) (step : Int) : List Bool := intBits (wrap64 (wrap64 (x.f0 - y.f0) - step)) ++ xorBits (x.f1.toNat ^^^ y.f1.toNat)
/-- the step that stands behind so many samples -/
def stepP (l : List S26) : Nat → Int
  | 0 => 0
  | 1 => 0
  | k + 2 => wrap64 ((rd_T26 l ((k + 1 : Nat) : Int)).f0 - (rd_T26 l ((k : Nat) : Int)).f0)
/-- the bits of so many samples -/
def encP (l : List S26) : Nat → List Bool
  | 0 => []
  | 1 => low (IntKind.u64.wrap (rd_T26 l 0).f0).toNat 64 ++ low (rd_T26 l 0).f1.toNat 64
  | k + 2 => encP l (k + 1) ++ difB (rd_T26 l ((k : Nat) : Int)) (rd_T26 l ((k + 1 : Nat) : Int)) (stepP l (k + 1))
theorem intBits_len (v : Int) : (intBits v).length ≤ 80 := by
  have h1 := width_le (classN v)
  have h2 := classN_range v
  unfold intBits
  split <;> simp <;> omega
theorem xorBits_len (x : Nat) (hx : x < 18446744073709551616) : (xorBits x).length ≤ 80 := by
  unfold xorBits
  split
  · simp
  · have : wdZ x ≤ 64 := by
      have := Lib.bitLen_le x 64 (by decide) hx
      unfold wdZ
      omega
    simp
    omega
theorem xor_lt {a b : Int} (ha : 0 ≤ a ∧ a < 18446744073709551616) (hb : 0 ≤ b ∧ b < 18446744073709551616) : a.toNat ^^^ b.toNat < 18446744073709551616 :=
  Nat.xor_lt_two_pow (n := 64) (by omega) (by omega)
theorem encP_len (l : List S26) (hl : ∀ x ∈ l, okS x) : ∀ k, k ≤ l.length → (encP l k).length ≤ 160 * k
  | 0, _ => by simp [encP]
  | 1, _ => by simp [encP]
  | k + 2, h => by
    have ih := encP_len l hl (k + 1) (by omega)
    have h1 := intBits_len (wrap64 (wrap64 ((rd_T26 l ((k + 1 : Nat) : Int)).f0 - (rd_T26 l ((k : Nat) : Int)).f0) - stepP l (k + 1)))
    have hm : ∀ j, j < l.length → okS (rd_T26 l ((j : Nat) : Int)) := fun j hj => by
      have e : rd_T26 l ((j : Nat) : Int) = l[j] := by simp [rd_T26, List.getD_eq_getElem?_getD, List.getElem?_eq_getElem hj]
      rw [e]
      exact hl _ (List.getElem_mem hj)
    have h2 := xorBits_len _ (xor_lt (hm (k + 1) (by omega)).2 (hm k (by omega)).2)
    simp only [encP, difB, List.length_append]
    omega
/-- samples rise, and are few -/
def canS (l : List S26) : Bool := ((List.range (l.length - 1)).all fun i => decide ((rd_T26 l ((i : Nat) : Int)).f0 < (rd_T26 l ((i + 1 : Nat) : Int)).f0)) && decide (l.length ≤ 65535)
theorem can_from (l : List S26) (hl : l.length ≤ 1000000) : ∀ d i, i + 1 + d = l.length → ∀ k, d < k → codec_Can.l0 k l ((i + 1 : Nat) : Int) = some (((List.range d).all fun q => decide ((rd_T26 l ((i + q : Nat) : Int)).f0 < (rd_T26 l ((i + q + 1 : Nat) : Int)).f0)) && decide (l.length ≤ 65535))
  | 0, i, h, k + 1, hk => by
    unfold codec_Can.l0
    rw [if_neg (by omega)]
    simp
    omega
  | d + 1, i, h, k + 1, hk => by
    unfold codec_Can.l0
    have e1 : wrap64 (((i + 1 : Nat) : Int) - 1) = ((i : Nat) : Int) := by rw [w64 (by omega) (by omega)]; omega
    have e2 : wrap64 (((i + 1 : Nat) : Int) + 1) = ((i + 1 + 1 : Nat) : Int) := by rw [w64 (by omega) (by omega)]; omega
    rw [if_pos (by omega), if_pos (by omega), e1, if_pos (by omega), if_pos (by omega), e2, List.range_succ_eq_map, List.all_cons, List.all_map]
    by_cases hh : (rd_T26 l ((i + 1 : Nat) : Int)).f0 ≤ (rd_T26 l ((i : Nat) : Int)).f0
    · rw [if_pos hh]
      have h2 : ¬ (rd_T26 l ((i : Nat) : Int)).f0 < (rd_T26 l ((i + 1 : Nat) : Int)).f0 := by omega
      have e3 : decide ((rd_T26 l ((i + 0 : Nat) : Int)).f0 < (rd_T26 l ((i + 0 + 1 : Nat) : Int)).f0) = false := decide_eq_false h2
      rw [e3, Bool.false_and, Bool.false_and]
    · rw [if_neg hh, can_from l hl d (i + 1) (by omega) k (by omega)]
      have h2 : (rd_T26 l ((i : Nat) : Int)).f0 < (rd_T26 l ((i + 1 : Nat) : Int)).f0 := by omega
      have e3 : decide ((rd_T26 l ((i + 0 : Nat) : Int)).f0 < (rd_T26 l ((i + 0 + 1 : Nat) : Int)).f0) = true := decide_eq_true h2
      rw [e3, Bool.true_and]
      congr 3
      funext q
      simp only [Function.comp, show i + 1 + q = i + (q + 1) by omega, Nat.succ_eq_add_one]
theorem can_S (l : List S26) (hl : l.length ≤ 1000000) (k : Nat) (hk : l.length < k) : codec_Can.f k l = some (canS l) := by
  unfold codec_Can.f canS
  by_cases h : 0 < l.length
  · have := can_from l hl (l.length - 1) 0 (by omega) k (by omega)
    simp only [Nat.zero_add] at this
    exact this
  · obtain ⟨k, rfl⟩ : ∃ k', k = k' + 1 := ⟨k - 1, by omega⟩
    unfold codec_Can.l0
    rw [if_neg (by omega), show l.length - 1 = 0 by omega]
    simp
    omega
/-- a word that stays where other words are drawn, made, and one block is written -/
theorem below_keep {w W W' : World} {g : Nat} (h : Below w.heap.size w W) (hk : KeepBut W W' g none) (hg : w.heap.size ≤ g) (ho : W'.os = W.os) (ht : W'.tape = W.tape) (hu : W'.output = W.output) : Below w.heap.size w W' :=
  ⟨ho.trans h.os, ht.trans h.tape, hu.trans h.output, Nat.le_trans h.size hk.1, fun q hq => (hk.2 q (Nat.lt_of_lt_of_le hq h.size) (by omega) (by simp)).trans (h.block q hq)⟩

set_option maxHeartbeats 2000000 in
set_option maxRecDepth 100000 in
theorem codec_Encode.calls_bad (A : Option Addr) (c : Nat) (l : List S26) (w : World) (hr : Kd.C k26 w A l.length l) (hc : l.length ≤ c) (hlen : l.length ≤ 20000) (h : canS l = false) :
    Calls Tryd.prog 8 #[.slice A l.length c] w fun e w' => e = .returned (.tuple #[.slice none 0 0, .int .i64 1]) ∧ Below w.heap.size w w' := by
  have HR := Aside0.mk hr
  have HC := Aside0.mk hc
  have HF : Aside0 (codec_Can.f 100000 l = some false) := ⟨by rw [can_S l (by omega) _ (by omega), h]⟩
  clear hr hc hlen h
  go_enter Tryd.func8, Tryd.ntmps8
  go_wp2_with (go_at_call 15; (with_reducible refine (codec_Can.calls 100000 _ _ l false _ HR.out HC.out HF.out).mono ?_); rintro e w1 ⟨rfl, hd⟩; have HB := Aside0.mk hd.below; clear hd)
  refine bodyPost_ret (results_tmp2 rfl _ _ _) rfl ?_
  exact ⟨rfl, HB.out⟩

theorem okX_nil : OkX [] 0 where
  bytes := fun x hx => absurd hx (by simp)
  le := by simp
  near := by simp
  tail := fun i _ h => by simp at h
theorem pk_new {W : World} {g : Nat} (h : W.heap[g]? = some (.cells #[.slice none 0 0, .int .i64 0] 46 (0, 0))) : PK W g [] :=
  ⟨none, 0, [], h, Kd.R_nil _ _ _ _ _, okX_nil, rfl⟩
theorem cell_alloc_old {w : World} {a : Addr} {v : Value} (o : Obj) (h : w.cell? a = some v) : (w.alloc o).cell? a = some v := pw_cell_below (below_alloc (Below.refl _ _) o) h
theorem PK.lt {W : World} {g : Nat} {L : List Bool} (h : PK W g L) : g < W.heap.size := by
  obtain ⟨A, c, l, h1, _⟩ := h
  exact blk_lt h1
theorem rd_mem26 (l : List S26) (k : Nat) (h : k < l.length) : rd_T26 l (k : Int) ∈ l := by
  have e : rd_T26 l (k : Int) = l[k] := by simp [rd_T26, List.getD_eq_getElem?_getD, List.getElem?_eq_getElem h]
  rw [e]
  exact List.getElem_mem h
theorem put_f {q : Int} (h0 : 0 ≤ q) (h1 : q < 18446744073709551616) (n : Nat) (hn : n ≤ 8 := by decide) : crc_Put.f (IntKind.u64.wrap q) n = some (beL q.toNat n) := by
  have e : IntKind.u64.wrap q = q := by rw [wrap_u64]; omega
  rw [e, crc_Put.f, if_pos ⟨h0, h1⟩]
  congr 2
  unfold wid
  omega
theorem u64_wrap_range (x : Int) : 0 ≤ IntKind.u64.wrap x ∧ IntKind.u64.wrap x < 18446744073709551616 := by
  rw [wrap_u64]
  omega
set_option maxHeartbeats 4000000 in
set_option maxRecDepth 100000 in
theorem codec_Encode.calls_ok (A : Option Addr) (c : Nat) (l : List S26) (w : World) (hr : Kd.C k26 w A l.length l) (hc : l.length ≤ c) (hw : ∀ x ∈ l, okS x) (hlen : l.length ≤ 20000) (hT : TabZ w) (h : canS l = true) :
    Calls Tryd.prog 8 #[.slice A l.length c] w fun e w' => ∃ (v : Value) (b : List Int), e = .returned (.tuple #[v, .int .i64 0]) ∧ OkX b (encP l l.length).length ∧ Bs b (encP l l.length).length = encP l l.length ∧ Kd.R (Kd.int .u8) 5 w' w.heap.size (fun _ => True) v (beL l.length 2 ++ b) ∧ Below w.heap.size w w' := by
  have HR := Aside0.mk hr
  have HC := Aside0.mk hc
  have HT := Aside0.mk hT
  have HW := Aside0.mk hw
  have HLN := Aside0.mk hlen
  have HF : Aside0 (codec_Can.f 100000 l = some true) := ⟨by rw [can_S l (by omega) _ (by omega), h]⟩
  clear hr hc hT hw h hlen
  go_enter Tryd.func8, Tryd.ntmps8
  go_wp2_with (first
    | (go_at_call 15; (with_reducible refine (codec_Can.calls 100000 _ _ l true _ HR.out HC.out HF.out).mono ?_); rintro e w1 ⟨rfl, hd⟩; have HB1 := Aside0.mk hd.below; clear hd)
    | ((with_reducible refine gate_dst (N := 4) rfl ?_); refine box_event ?hg (N := 4) ?hd (cs := #[.slice none 0 0, .int .i64 0]) (t := 46) ?hr ?_; (case hd => rfl); (case hg => rfl); (case hr => first | (go_simp; done) | (go_simp; rfl)); intro g hg w2 hbox hb; have HB2 := Aside0.mk (below_step HB1.out hb); have HBK := Aside0.mk hbox; have HG : Aside0 (w.heap.size ≤ g) := ⟨by have := HB1.out.size; omega⟩; clear hb hbox hg))
  have HPK : Aside0 (PK w2 g (encP l 0)) := ⟨pk_new HBK.out⟩
  go_loopw [5, 14] (fun v i wr => ∃ k : Nat, k ≤ l.length ∧ i = .int .i64 k ∧ v = .int .i64 (stepP l k) ∧ Aside0 (PK wr g (encP l k)) ∧ Aside0 (Below w.heap.size w wr)) (fun _ i _ => l.length - (intOf i).toNat)
  case atStart => exact ⟨0, Nat.zero_le _, rfl, rfl, HPK, HB2⟩
  case round =>
    clear HPK HBK HB2
    obtain ⟨k, hk, rfl, rfl, HP, HB⟩ := hrel
    have hl2 : l.length ≤ 20000 := HLN.out
    by_cases hlt : k < l.length
    · have hC := Kd.C_below HR.out HB.out
      obtain ⟨ad, rfl, h0, h1⟩ := at_T26 hC (k : Int) (by omega) (by omega)
      rw [Int.toNat_natCast] at h0 h1
      have hx := HW.out _ (rd_mem26 l k hlt)
      have HRD := Aside0.mk hC
      have hgw := (HP.out).lt
      clear hC
      cases k with
      | zero =>
        obtain ⟨v0, hv0⟩ := Int.eq_ofNat_of_zero_le (u64_wrap_range (rd_T26 l 0).f0).1
        obtain ⟨v1, hv1⟩ := Int.eq_ofNat_of_zero_le hx.2.1
        have CA := Aside0.mk (fun W (h : PK W g (encP l 0)) => pack_put.calls_at g [] (IntKind.u64.wrap (rd_T26 l 0).f0) 64 v0 64 W h hv0 rfl (by have := (u64_wrap_range (rd_T26 l 0).f0).2; omega) (by decide) (by simp))
        have CB := Aside0.mk (fun W (h : PK W g ([] ++ low v0 64)) => pack_put.calls_at g ([] ++ low v0 64) (rd_T26 l 0).f1 64 v1 64 W h hv1 rfl (by have := hx.2.2; omega) (by decide) (by simp))
        have EV : Aside0 ((IntKind.u64.wrap (rd_T26 l 0).f0).toNat = v0 ∧ (rd_T26 l 0).f1.toNat = v1) := ⟨by rw [hv0]; rfl, by have h_ : (rd_T26 l 0).f1 = (v1 : Int) := hv1; rw [h_]; rfl⟩
        clear hv0 hv1 hx
        have h0' : wr.cell? ad = some (.int .i64 (rd_T26 l 0).f0) := by simpa [Addr.add] using h0
        have h1' : wr.cell? ⟨ad.block, ad.off + 1, none⟩ = some (.int .u64 (rd_T26 l 0).f1) := by simpa [Addr.add] using h1
        clear h0 h1
        go_wp2_with (first
          | (go_at_call 21; (with_reducible refine (CA.out _ ?s1).mono ?_); (case s1 => exact HP.out.keep (by repeat (first | exact Below.refl _ _ | apply below_alloc | apply below_drew1))); rintro e w3 ⟨rfl, hp, hk, ho, ht, hu⟩; have HP3 := Aside0.mk hp; have BX := (hk.2 wr.heap.size (by simp) (by omega) (by simp)).trans (blk_new wr _); have f1 := (blk_cell BX 1).trans rfl; have HB3 := Aside0.mk (below_keep (below_alloc HB.out _) hk (by have := HG.out; exact this) ho ht hu); clear hp hk ho ht hu BX)
          | (go_at_call 21; (with_reducible refine (CB.out _ HP3.out).mono ?_); rintro e w4 ⟨rfl, hp, hk, ho, ht, hu⟩; have HP4 := Aside0.mk hp; have HB4 := Aside0.mk (below_keep HB3.out hk (by have := HG.out; exact this) ho ht hu); clear hp hk ho ht hu)
          )
        go_roundw
        case rel =>
          refine ⟨1, by omega, by go_num, rfl, ⟨?_⟩, HB4⟩
          have := HP4.out
          rw [List.nil_append, ← EV.out.1, ← EV.out.2] at this
          exact this
        case measure => simp [intOf]; omega
      | succ k =>
        obtain ⟨ad', hh, y0, y1⟩ := at_T26 HRD.out (k : Int) (by omega) (by omega)
        obtain rfl := Option.some.inj hh
        rw [Int.toNat_natCast] at y0 y1
        have hy := HW.out _ (rd_mem26 l k (by omega))
        have HST : Aside0 (encP l (k + 2) = encP l (k + 1) ++ difB (rd_T26 l (k : Int)) (rd_T26 l ((k + 1 : Nat) : Int)) (stepP l (k + 1)) ∧ stepP l (k + 2) = wrap64 ((rd_T26 l ((k + 1 : Nat) : Int)).f0 - (rd_T26 l (k : Int)).f0) ∧ (encP l (k + 1)).length ≤ 160 * (k + 1)) := ⟨⟨rfl, rfl, encP_len l HW.out _ (by omega)⟩⟩
        clear hh
        generalize hye : rd_T26 l (k : Int) = y at *
        have HYE := Aside0.mk hye
        clear hye
        generalize rd_T26 l ((k + 1 : Nat) : Int) = x at *
        generalize stepP l (k + 1) = st at *
        have hwk : wrap64 (k : Int) = (k : Int) := w64 (by omega) (by omega)
        rw [show ((k + 1 : Nat) : Int) = (k : Int) + 1 from by omega] at *
        go_wp2
        have y0' := cell_alloc_old (.cells #[.int .i64 x.f0, .int .u64 x.f1] 26) y0
        have y1' := cell_alloc_old (.cells #[.int .i64 x.f0, .int .u64 x.f1] 26) y1
        have HPA := Aside0.mk (HP.out.keep (below_alloc (Below.refl _ _) (.cells #[.int .i64 x.f0, .int .u64 x.f1] 26)))
        have HBA := Aside0.mk (below_alloc HB.out (.cells #[.int .i64 x.f0, .int .u64 x.f1] 26))
        have HXB := Aside0.mk (blk_new wr (.cells #[.int .i64 x.f0, .int .u64 x.f1] 26))
        go_cut [5] (fun v wx => v = .int .i64 (wrap64 (x.f0 - y.f0)) ∧ Aside0 (Below (wr.heap.size + 1) (wr.alloc (.cells #[.int .i64 x.f0, .int .u64 x.f1] 26)) wx))
        case first =>
          go_region
          all_goals (go_wp2_with fail; go_meet; exact ⟨rfl, ⟨by repeat (first | exact Below.refl _ _ | apply below_alloc | apply below_drew1)⟩⟩)
        case rest =>
          obtain ⟨rfl, HBc⟩ := hcut
          have hbc : Below (wr.alloc (.cells #[.int .i64 x.f0, .int .u64 x.f1] 26)).heap.size (wr.alloc (.cells #[.int .i64 x.f0, .int .u64 x.f1] 26)) wc := by simpa using HBc.out
          have HPc := Aside0.mk (HPA.out.keep hbc)
          have BXc := Aside0.mk (blk_below HXB.out hbc)
          have HBw := Aside0.mk (below_step HBA.out hbc)
          clear hbc
          have HGX : Aside0 (wr.heap.size < wc.heap.size ∧ wr.heap.size ≠ g) := ⟨by have := blk_lt BXc.out; exact this, by omega⟩
          have hln := HST.out.2.2
          have hln2 := HLN.out
          have CN := Aside0.mk (fun W (h : PK W g (encP l (k + 1))) => pack_number.calls g (encP l (k + 1)) (wrap64 (wrap64 (x.f0 - y.f0) - st)) W h (by omega))
          obtain ⟨xv, hxv⟩ : ∃ n : Nat, x.f1.toNat ^^^ y.f1.toNat = n := ⟨_, rfl⟩
          have hxl : xv < 18446744073709551616 := hxv ▸ xor_lt hx.2 hy.2
          have hxe : Go.bits .xor .u64 x.f1 y.f1 = (xv : Int) := by
            rw [← hxv]
            obtain ⟨a, ha⟩ := Int.eq_ofNat_of_zero_le hx.2.1
            obtain ⟨b, hb⟩ := Int.eq_ofNat_of_zero_le hy.2.1
            rw [ha, hb, u64_xor_nat a b (by have := hx.2.2; omega) (by have := hy.2.2; omega)]
            simp
          have hib := intBits_len (wrap64 (wrap64 (x.f0 - y.f0) - st))
          have CV := Aside0.mk (fun W (h : PK W g (encP l (k + 1) ++ intBits (wrap64 (wrap64 (x.f0 - y.f0) - st)))) (ht : TabZ W) => pack_value.calls g _ xv W h hxl (by rw [List.length_append]; omega) ht)
          have HXV := Aside0.mk hxv
          clear y0 y1 y0' y1' h0 h1 HPA HBA HXB hib hxv HP hln hln2
          go_wp2_with (go_at_call 22; (with_reducible refine (CN.out _ HPc.out).mono ?_); rintro e w5 ⟨rfl, hp, hk, ho, ht, hu⟩; have HP5 := Aside0.mk hp; have BX5 := Aside0.mk ((hk.2 wr.heap.size HGX.out.1 HGX.out.2 (by simp)).trans BXc.out); have HB5 := Aside0.mk (below_keep HBw.out hk (by have := HG.out; exact this) ho ht hu); clear hp hk ho ht hu)
          have xb1 : w5.cell? ⟨wr.heap.size, 1, none⟩ = some (.int .u64 x.f1) := (blk_cell BX5.out 1).trans rfl
          have hkl : (k : Int) < (l.length : Int) := by omega
          have hwk' : IntKind.i64.wrap (k : Int) = (k : Int) := (i64_w _).trans hwk
          obtain ⟨ad', hh, y0, y1⟩ := at_T26 (Kd.C_below HR.out HB5.out) (k : Int) (by omega) (by omega)
          obtain rfl := Option.some.inj hh
          rw [Int.toNat_natCast] at y0 y1
          rw [HYE.out] at y1
          clear hh y0 hx hy
          have y1' : w5.drew.cell? ⟨(ad.add (k * 2)).block, (ad.add (k * 2)).off + 1, none⟩ = some (Value.int IntKind.u64 y.f1) := y1
          go_region_with (go_at_call 23; (refine (CV.out _ ?s1 ?s2).mono ?_); (case s1 => exact HP5.out.keep (by repeat (first | exact Below.refl _ _ | apply below_alloc | apply below_drew1))); (case s2 => exact HT.out.below (by repeat (first | exact HB5.out | apply below_alloc | apply below_drew1))); rintro e w6 ⟨rfl, hp, hk, ho, ht, hu⟩; have HP6 := Aside0.mk hp; have HB6 := Aside0.mk (below_keep (below_drew1 HB5.out) hk (by have := HG.out; exact this) ho ht hu); clear hp hk ho ht hu)
          all_goals
            go_wp2_with fail
            go_wp2_with fail
            go_wp2_with fail
            go_wp2_with fail
            go_wp2_with fail
            go_roundw
            case rel =>
              refine ⟨k + 2, by omega, by go_num, by rw [HST.out.2.1], ⟨?_⟩, HB6⟩
              have := HP6.out
              rw [HST.out.1, difB, HXV.out, ← List.append_assoc]
              exact this
            case measure => simp [intOf]; omega
    · obtain rfl : k = l.length := by omega
      go_wp2
      obtain ⟨Ax, cx, lx, hblk, hRx, hokx, hbsx⟩ := HP.out
      have h0 : wr.cell? ⟨g, 0, none⟩ = some (.slice Ax lx.length cx) := (blk_cell hblk 0).trans rfl
      have BG := Aside0.mk hblk
      have HNX : Aside0 (lx.length ≤ 400001) := ⟨by have := encP_len l HW.out l.length (Nat.le_refl _); have := hokx.near; omega⟩
      have HOX := Aside0.mk hokx
      have HBX := Aside0.mk hbsx
      have HRX := Aside0.mk (Kd.R_reads' hRx).2.2
      have HPT : Aside0 (crc_Put.f (IntKind.u64.wrap (l.length : Int)) 2 = some (beL l.length 2)) := ⟨put_f (by omega) (by omega) 2⟩
      have hbs2 : (beL l.length 2).length = 2 := beL_length _ _
      have HL2 := Aside0.mk hbs2
      have HBD := Aside0.mk (below_drew1 HB.out)
      clear hblk hRx hokx hbsx hbs2 hlt hk
      refine start_ (n := 10) (ds := []) (S := fun W => W.cell? ⟨g, 0, none⟩ = some (.slice Ax lx.length cx)) #[false, false, false, false, false, false, false, false, false, false] rfl rfl rfl h0 (fun hS => ?_)
      refine pure_ (i := 0) (N := some 53) (v := ?_) (a' := ?_) #[true, false, false, false, false, false, false, false, false, false] rfl rfl (by kernel_rfl) (fun _ _ _ h => h) (Or.inl ⟨by rfl, ?_⟩) ?_ ?_
      rotate_left
      · intro w'
        go_simp
        with_reducible rfl
      rotate_left
      · simp only [Act.put, List.setIfInBounds_toArray, List.set_cons_zero, List.set_cons_succ, i64_w, i32_w]
        rfl
      refine pure_ (i := 1) (N := some 54) (v := ?_) (a' := ?_) #[true, true, false, false, false, false, false, false, false, false] rfl rfl (by kernel_rfl) (fun _ _ _ h => h) (Or.inl ⟨by rfl, ?_⟩) ?_ ?_
      rotate_left
      · intro w'
        go_simp
        with_reducible rfl
      rotate_left
      · simp only [Act.put, List.setIfInBounds_toArray, List.set_cons_zero, List.set_cons_succ, i64_w, i32_w]
        rfl
      refine pure_ (i := 2) (N := some 55) (v := ?_) (a' := ?_) #[true, true, true, false, false, false, false, false, false, false] rfl rfl (by kernel_rfl) (fun _ _ _ h => h) (Or.inl ⟨by rfl, ?_⟩) ?_ ?_
      rotate_left
      · intro w'
        go_simp
        with_reducible rfl
      rotate_left
      · simp only [Act.put, List.setIfInBounds_toArray, List.set_cons_zero, List.set_cons_succ, i64_w, i32_w]
        rfl
      refine pure_ (i := 4) (N := some 57) (v := ?_) (a' := ?_) #[true, true, true, false, true, false, false, false, false, false] rfl rfl (by kernel_rfl) (fun _ _ _ h => h) (Or.inl ⟨by rfl, ?_⟩) ?_ ?_
      rotate_left
      · intro w'
        go_simp
        with_reducible rfl
      rotate_left
      · simp only [Act.put, List.setIfInBounds_toArray, List.set_cons_zero, List.set_cons_succ, i64_w, i32_w]
        rfl
      refine pure_ (i := 5) (N := some 58) (v := ?_) (a' := ?_) #[true, true, true, false, true, true, false, false, false, false] rfl rfl (by kernel_rfl) (fun _ _ _ h => h) (Or.inl ⟨by rfl, ?_⟩) ?_ ?_
      rotate_left
      · intro w'
        go_simp
        with_reducible rfl
      rotate_left
      · simp only [Act.put, List.setIfInBounds_toArray, List.set_cons_zero, List.set_cons_succ, i64_w, i32_w]
        rfl
      refine take_ (i := 6) (N := some 59) (v := ?_) (a' := ?_) #[true, true, true, false, true, true, true, false, false, false] rfl rfl (by kernel_rfl) (fun _ _ _ h => h) (Or.inl ⟨by rfl, ?_⟩) hS ?_ ?_
      rotate_left
      · rintro w' s0
        go_simp
        with_reducible rfl
      rotate_left
      · simp only [Act.put, List.setIfInBounds_toArray, List.set_cons_zero, List.set_cons_succ, i64_w, i32_w]
        rfl
      refine one_ (i := 3) (N := some 56) #[true, true, true, true, true, true, true, false, false, false] rfl rfl (by kernel_rfl) (by decide) (fun K hK => ?_)
      refine goes_ Tryd.func24 (by kernel_rfl) rfl #[.int .u64 (IntKind.u64.wrap (l.length : Int)), .int .i64 2] (by rfl) rfl rfl ?h1 ?_
      case h1 => first | rfl | (simp only [List.map_toArray, List.map_cons, List.map_nil]; rfl)
      refine (crc_Put.calls _ 2 (beL l.length 2) _ HPT.out).mono ?_
      rintro e w3 ⟨v3, rfl, hr3, hb3⟩
      have HB3 := Aside0.mk (below_step HBD.out hb3)
      have HR3 := Aside0.mk (Kd.R_lower hr3 (below_size HBD.out))
      have hS3 : w3.cell? ⟨g, 0, none⟩ = some (.slice Ax lx.length cx) := pw_cell_below hb3 hS
      have BG3 := Aside0.mk (blk_below (blk_drew BG.out) hb3)
      have HX3 := Aside0.mk (Kd.C_below (Kd.C_drew HRX.out) hb3)
      obtain ⟨A3, c3, rfl⟩ := Kd.R_slice hr3
      clear hb3 hr3 HRX
      refine ⟨_, rfl, ?_⟩
      refine hK.out _ _ hS3 (fun hS => ?_)
      clear hK K
      refine norm_ (a' := ?_) ?_ ?_
      rotate_left
      · show Act.put _ (some 56) _ = _
        simp only [Act.put, List.setIfInBounds_toArray, List.set_cons_zero, List.set_cons_succ, i64_w, i32_w]
        rfl
      refine one_ (i := 7) (N := some 60) #[true, true, true, true, true, true, true, true, false, false] rfl rfl (by kernel_rfl) (by decide) (fun K hK => ?_)
      refine Kd.R_append_rows_step (Kd.int .u8) (Rr := (Kd.int .u8).K w3) (w0 := w) w.heap.size (by rfl) (.tmp 56) (.tmp 59) 27 5 (.int .u8 0) 1 rfl Tryd.underlying27 infoU8 rfl (by decide) (by omega) (.slice A3 (beL l.length 2).length c3) (beL l.length 2) lx Ax lx.length cx (fun _ => True) (fun _ => False) rfl rfl HR3.out HX3.out (fun _ _ h => h) (fun _ hk => hk.elim) (fun _ _ => trivial) HB3.out (below_size HB3.out) (by have := HNX.out; have := HL2.out; omega) ?_
      intro v4 w4 ho hb hg hat
      have HO4 := Aside0.mk ho
      have HB4 := Aside0.mk hb
      clear ho hb hat
      have hS4 : w4.cell? ⟨g, 0, none⟩ = some (.slice Ax lx.length cx) := (blk_cell (blk_grown BG3.out hg (Kd.R_ne HR3.out BG3.out (by decide))) 0).trans rfl
      clear hg
      refine hK.out _ _ hS4 (fun hS => ?_)
      clear hK K
      refine norm_ (a' := ?_) ?_ ?_
      rotate_left
      · show Act.put _ (some 60) _ = _
        simp only [Act.put, List.setIfInBounds_toArray, List.set_cons_zero, List.set_cons_succ, i64_w, i32_w]
        rfl
      refine pure_ (i := 8) (N := some 2) (v := ?_) (a' := ?_) #[true, true, true, true, true, true, true, true, true, false] rfl rfl (by kernel_rfl) (fun _ _ _ h => h) (Or.inl ⟨by rfl, ?_⟩) ?_ ?_
      rotate_left
      · intro w'
        go_simp
        with_reducible rfl
      rotate_left
      · simp only [Act.put, List.setIfInBounds_toArray, List.set_cons_zero, List.set_cons_succ, i64_w, i32_w]
        rfl
      refine pure_ (i := 9) (N := some 3) (v := ?_) (a' := ?_) #[true, true, true, true, true, true, true, true, true, true] rfl rfl (by kernel_rfl) (fun _ _ _ h => h) (Or.inl ⟨by rfl, ?_⟩) ?_ ?_
      rotate_left
      · intro w'
        go_simp
        with_reducible rfl
      rotate_left
      · simp only [Act.put, List.setIfInBounds_toArray, List.set_cons_zero, List.set_cons_succ, i64_w, i32_w]
        rfl
      refine done_ (by kernel_rfl) ?_
      go_wp2
      refine bodyPost_ret (results_tmp2 rfl _ _ _) rfl ?_
      exact ⟨v4, lx, rfl, HOX.out, HBX.out, HO4.out, HB4.out⟩
end Go.Proofs.YtpeekkpdglfbbaaDoor.PA
