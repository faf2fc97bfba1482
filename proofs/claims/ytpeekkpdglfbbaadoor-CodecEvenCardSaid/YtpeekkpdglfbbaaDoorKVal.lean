/- The contract of the codec's pack.value: what a value differs by. -/
import Derived.Test.YtpeekkpdglfbbaaDoorKPack
import Derived.Test.YtpeekkpdglfbbaaDoorKTz
import Derived.Test.YtpeekkpdglfbbaaDoorKLen
namespace Go.Proofs.YtpeekkpdglfbbaaDoor.PA
open Go.RowKit Go.Proofs.YtpeekkpdglfbbaaDoor.G Go.Proofs.YtpeekkpdglfbbaaDoorW.PrintWords Go.Proofs.YtpeekkpdglfbbaaDoorW.PrintLast Go.Proofs.YtpeekkpdglfbbaaDoorW.PrintMore
set_option linter.unusedVariables false
set_option linter.unusedSimpArgs false

theorem pack_put.calls_at (g : Nat) (L : List Bool) (V C : Int) (v c : Nat) (w : World) (hP : PK w g L) (hV : V = (v : Int)) (hC : C = (c : Int)) (hv : v < 18446744073709551616) (hc : c ≤ 64) (hL : L.length ≤ 7000000) :
    Calls Tryd.prog 21 #[.pointer (some ⟨g, 0, none⟩), .int .u64 V, .int .i64 C] w fun e w' => e = .returned (.tuple #[]) ∧ PK w' g (L ++ low v c) ∧ KeepBut w w' g none ∧ w'.os = w.os ∧ w'.tape = w.tape ∧ w'.output = w.output := by
  subst hV hC
  exact pack_put.calls g L v c w hP hv hc hL

/-- the zeros ahead of a number's first bit, behind its last one, and how many bits lie between -/
def hiZ (x : Nat) : Nat := 64 - Lib.bitLen x
def loZ (x : Nat) : Nat := Lib.ctz 64 x
def wdZ (x : Nat) : Nat := Lib.bitLen x - Lib.ctz 64 x
def xorBits (x : Nat) : List Bool := if x = 0 then low 0 1 else low 1 1 ++ low (hiZ x * 64 + (wdZ x - 1)) 12 ++ low (x / 2 ^ loZ x) (wdZ x)
theorem lz.calls' (x : Nat) (w : World) (h1 : x < 18446744073709551616) :
    Calls Tryd.prog 40 #[.int .u64 x] w fun e w' => e = .returned (.int .i64 (hiZ x : Nat)) ∧ w' = w := lz.calls x w h1
theorem tz.calls' (x : Nat) (hx : x < 18446744073709551616) (w : World) (hT : TabZ w) :
    Calls Tryd.prog 41 #[.int .u64 x] w fun e w' => e = .returned (.int .i64 (loZ x : Nat)) ∧ w' = w := tz.calls x hx w hT
theorem zs {x : Nat} (hx : x < 18446744073709551616) (h0 : x ≠ 0) : loZ x < Lib.bitLen x ∧ Lib.bitLen x ≤ 64 := by
  obtain ⟨_, hk⟩ := Lib.lowest_bit 64 x h0 hx
  refine ⟨?_, Lib.bitLen_le x 64 (by decide) hx⟩
  unfold loZ
  have hc : Lib.ctz 64 x = Lib.ctzFrom 64 x := by unfold Lib.ctz; rw [if_neg h0]
  obtain ⟨m, hm, _⟩ := Lib.ctzFrom_spec 64 x (by omega) hx
  rw [← hc] at hm
  have hp : 2 ^ Lib.ctz 64 x ≤ x := by
    conv => rhs; rw [hm]
    exact Nat.le_mul_of_pos_right _ (by omega)
  have h1 := Lib.bitLen_shift (Lib.ctz 64 x) x hp hx
  have h2 : x / 2 ^ Lib.ctz 64 x ≠ 0 := by
    have := Nat.div_pos hp (Nat.two_pow_pos _)
    omega
  have h3 := Lib.bitLen_half (x / 2 ^ Lib.ctz 64 x) h2 (Nat.lt_of_le_of_lt (Nat.div_le_self _ _) hx)
  omega

theorem or_add {H S D : Nat} (hs : H + S + D = 64) (hd : 1 ≤ D) (hh : H < 64) : Go.bits .or .u64 ((H : Int) * 64) (64 - (H : Int) - (S : Int) - 1) = ((H * 64 + (D - 1) : Nat) : Int) := by
  have e1 : (64 - (H : Int) - (S : Int) - 1) = ((D - 1 : Nat) : Int) := by omega
  have e2 : (H : Int) * 64 = ((H * 64 : Nat) : Int) := by omega
  rw [e1, e2, u64_or_nat (H * 64) (D - 1) (by omega) (by omega)]
  have := Nat.shiftLeft_add_eq_or_of_lt (a := H) (b := D - 1) (i := 6) (by omega)
  rw [Nat.shiftLeft_eq] at this
  rw [← this]
set_option maxHeartbeats 2000000 in
set_option maxRecDepth 100000 in
theorem pack_value.calls (g : Nat) (L : List Bool) (x : Nat) (w : World) (hP : PK w g L) (hx : x < 18446744073709551616) (hL : L.length ≤ 6000000) (hT : TabZ w) :
    Calls Tryd.prog 23 #[.pointer (some ⟨g, 0, none⟩), .int .u64 (x : Int)] w fun e w' => e = .returned (.tuple #[]) ∧ PK w' g (L ++ xorBits x) ∧ KeepBut w w' g none ∧ w'.os = w.os ∧ w'.tape = w.tape ∧ w'.output = w.output := by
  have HP := Aside0.mk hP
  have HT := Aside0.mk hT
  have HL := Aside0.mk hL
  clear hP hT hL
  by_cases h0 : x = 0
  · have hb : ((x : Int) == 0) = true := beq_iff_eq.2 (by omega)
    have HX : Aside0 (xorBits x = low 0 1) := ⟨by rw [xorBits, if_pos h0]⟩
    clear h0
    go_enter Tryd.func23, Tryd.ntmps23
    go_wp2_with (go_at_call 21; refine (pack_put.calls_at g L 0 1 0 1 _ HP.out rfl rfl (by decide) (by decide) (by have := HL.out; omega)).mono ?_; rintro e w1 ⟨rfl, hp, hk, ho, ht, hu⟩; have HP1 := Aside0.mk hp; have HK1 := Aside0.mk hk; have HO1 := Aside0.mk (And.intro ho (And.intro ht hu)); clear hp hk ho ht hu)
    refine bodyPost_ret (results_none rfl _ _ _) rfl ?_
    exact ⟨rfl, by rw [HX.out]; exact HP1.out, HK1.out, HO1.out⟩
  · have hb : ((x : Int) == 0) = false := beq_eq_false_iff_ne.2 (by omega)
    obtain ⟨z1, z2⟩ := zs hx h0
    obtain ⟨H, hH⟩ : ∃ H, hiZ x = H := ⟨_, rfl⟩
    obtain ⟨S, hS⟩ : ∃ S, loZ x = S := ⟨_, rfl⟩
    obtain ⟨D, hD⟩ : ∃ D, wdZ x = D := ⟨_, rfl⟩
    have hs : H + S + D = 64 := by rw [← hH, ← hS, ← hD]; unfold hiZ loZ wdZ; unfold loZ at z1; omega
    have hd : 1 ≤ D := by rw [← hD]; unfold wdZ; unfold loZ at z1; omega
    have HX : Aside0 (xorBits x = low 1 1 ++ low (H * 64 + (D - 1)) 12 ++ low (x / 2 ^ S) D) := ⟨by rw [xorBits, if_neg h0, hH, hS, hD]⟩
    have HLZ := Aside0.mk (fun W => hH ▸ lz.calls' x W hx)
    have HTZ := Aside0.mk (fun W (h : TabZ W) => hS ▸ tz.calls' x hx W h)
    clear h0 z1 z2 hH hS hD
    have CA := Aside0.mk (fun W (h : PK W g L) => pack_put.calls_at g L 1 1 1 1 W h rfl rfl (by decide) (by decide) (by have := HL.out; omega))
    have hor : Go.bits .or .u64 ((H : Int) * 64) (64 - (H : Int) - (S : Int) - 1) = ((H * 64 + (D - 1) : Nat) : Int) := or_add (by omega) (by omega) (by omega)
    have CB := Aside0.mk (fun W (h : PK W g (L ++ low 1 1)) => pack_put.calls_at g (L ++ low 1 1) (Go.bits .or .u64 ((H : Int) * 64) (64 - (H : Int) - (S : Int) - 1)) 12 (H * 64 + (D - 1)) 12 W h hor rfl (by omega) (by decide) (by have := HL.out; simp; omega))
    clear hor
    have hsh : (x : Int) / 2 ^ S = ((x / 2 ^ S : Nat) : Int) := by simp
    have CD := Aside0.mk (fun W (h : PK W g (L ++ low 1 1 ++ low (H * 64 + (D - 1)) 12)) => pack_put.calls_at g (L ++ low 1 1 ++ low (H * 64 + (D - 1)) 12) ((x : Int) / 2 ^ S) (64 - (H : Int) - (S : Int)) (x / 2 ^ S) D W h hsh (by omega) (Nat.lt_of_le_of_lt (Nat.div_le_self _ _) hx) (by omega) (by have := HL.out; simp; omega))
    clear hsh
    go_enter Tryd.func23, Tryd.ntmps23
    go_wp2_with (first
      | (go_at_call 40; refine (HLZ.out _).mono ?_; rintro e wa ⟨rfl, hw⟩; rw [hw]; clear hw wa)
      | (go_at_call 41; refine (HTZ.out _ HT.out).mono ?_; rintro e wa ⟨rfl, hw⟩; rw [hw]; clear hw wa)
      | (go_at_call 21; (with_reducible refine (CA.out _ HP.out).mono ?_); rintro e w1 ⟨rfl, hp, hk, ho, ht, hu⟩; have HP1 := Aside0.mk hp; have HK1 := Aside0.mk hk; have HO1 := Aside0.mk (And.intro ho (And.intro ht hu)); clear hp hk ho ht hu)
      | (go_at_call 21; (with_reducible refine (CB.out _ HP1.out).mono ?_); rintro e w2 ⟨rfl, hp, hk, ho, ht, hu⟩; have HP2 := Aside0.mk hp; have HK2 := Aside0.mk (HK1.out.trans hk (.inl rfl)); have HO2 := Aside0.mk (And.intro (ho.trans HO1.out.1) (And.intro (ht.trans HO1.out.2.1) (hu.trans HO1.out.2.2))); clear hp hk ho ht hu)
      | (go_at_call 21; (with_reducible refine (CD.out _ HP2.out).mono ?_); rintro e w3 ⟨rfl, hp, hk, ho, ht, hu⟩; have HP3 := Aside0.mk hp; have HK3 := Aside0.mk (HK2.out.trans hk (.inl rfl)); have HO3 := Aside0.mk (And.intro (ho.trans HO2.out.1) (And.intro (ht.trans HO2.out.2.1) (hu.trans HO2.out.2.2))); clear hp hk ho ht hu))
    refine bodyPost_end (results_none rfl _ _ _) rfl ?_
    exact ⟨rfl, by rw [HX.out, ← List.append_assoc, ← List.append_assoc]; exact HP3.out, HK3.out, HO3.out⟩
end Go.Proofs.YtpeekkpdglfbbaaDoor.PA
