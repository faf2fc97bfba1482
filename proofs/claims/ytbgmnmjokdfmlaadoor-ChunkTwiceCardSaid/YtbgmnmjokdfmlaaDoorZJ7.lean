/- Lemmas and contracts that the law ChunkJoins leans on (packed by a program of this session out of its texts and the print's words). -/
import Derived.Test.YtbgmnmjokdfmlaaDoorZJ6
import Derived.Shelf.SlSortCmp.InsertionK
import Derived.Shelf.Lay
import Derived.Ground.SlsfProg
import Derived.Deep.DeepMust
import Derived.Shelf.SlicesQ.Reverse
import Derived.Shelf.SlGeneric
import Derived.Ground.SlgnProg
import Derived.Deep.DeepCutAuto
import Derived.Test.YtbgmnmjokdfmlaaDoorZJ4
import Derived.Test.YtbgmnmjokdfmlaaDoorZJ2
import Derived.Test.YtbgmnmjokdfmlaaDoorZJ5
import Derived.BigRegion
namespace Go.Proofs
open Go.Shelf Go.RowKit Go.Lib Go.Sort
def Tryd.insSort_ren : Go.Shelf.Ren := ⟨fun | 20 => 121 | n => n, fun | 24 => 54 | 22 => 30 | 3 => 3 | 25 => 120 | 4 => 4 | 0 => 0 | n => n, fun | n => n⟩
theorem Tryd.insSort : Go.Proofs.SlLaysF0.n20 Tryd.prog Tryd.insSort_ren := {
  mixed := by kernel_rfl
  f20 := ⟨Tryd.f121.name, by decide, Tryd.func121.trans (congrArg some (by kernel_rfl))⟩
  t0 := Tryd.underlying0
  a0 := Tryd.isAgg0
  z0 := Tryd.sizeOf0
  v0 := Tryd.zeroValue0
  t3 := Tryd.underlying3
  a3 := Tryd.isAgg3
  z3 := Tryd.sizeOf3
  v3 := Tryd.zeroValue3
  t4 := Tryd.underlying4
  a4 := Tryd.isAgg4
  z4 := Tryd.sizeOf4
  v4 := Tryd.zeroValue4
  t22 := Tryd.underlying30
  a22 := Tryd.isAgg30
  z22 := Tryd.sizeOf30
  v22 := Tryd.zeroValue30
  t25 := Tryd.underlying120
  a25 := Tryd.isAgg120
  z25 := Tryd.sizeOf120
  v25 := Tryd.zeroValue120 }
end Go.Proofs
namespace Go.Proofs.YtbgmnmjokdfmlaaDoor.PA
open Go.Shelf Go.RowKit Go.Lib Go.Sort
set_option linter.unusedVariables false
set_option linter.unusedSimpArgs false
theorem isAggP : ∀ w, (isAgg 54).run Tryd.prog w = .ok true w := fun w => by kernel_rfl
theorem sizeOfP : ∀ w, (Go.sizeOf 54).run Tryd.prog w = .ok 2 w := fun w => by kernel_rfl
theorem dvd_gap {c s a : Nat} (h1 : c ∣ s) (h2 : c ∣ a) (h : s < a) : s + c ≤ a := by
  have := Nat.le_of_dvd (by omega) (Nat.dvd_sub h2 h1)
  omega
section
variable {α : Type} [Inhabited α] {key : α → Int}
def BlkF (key : α → Int) (d : Array α) (c n lo : Nat) : Prop := ∀ s, c ∣ s → lo ≤ s → Srt key d s (min (s + c) n)
def BlkD (key : α → Int) (d : Array α) (c hi : Nat) : Prop := ∀ s, c ∣ s → s < hi → Srt key d s (s + c)
theorem Srt.keep {d d' : Array α} {a b x y : Nat} (h : Srt key d x y) (hm : MG key d a b d') (ho : y ≤ a ∨ b ≤ x) : Srt key d' x y := fun i j h1 h2 h3 => by
  rw [hm.2.1 i (by omega), hm.2.1 j (by omega)]
  exact h i j h1 h2 h3
theorem Srt.sub {d : Array α} {x y x' y' : Nat} (h : Srt key d x y) (h1 : x ≤ x') (h2 : y' ≤ y) : Srt key d x' y' := fun i j a b c => h i j (by omega) b (by omega)
theorem BlkD.step {d d' : Array α} {c a : Nat} (h : BlkD key d c a) (ha : c ∣ a) (hm : MG key d a (a + c) d') (hs : Srt key d' a (a + c)) : BlkD key d' c (a + c) := fun s h1 h2 => by
  rcases Nat.lt_trichotomy s a with h3 | rfl | h3
  · exact (h s h1 h3).keep hm (.inl (dvd_gap h1 ha h3))
  · exact hs
  · have := dvd_gap ha h1 h3
    omega
theorem BlkF.step {d d' : Array α} {c n a e : Nat} (h : BlkF key d c n a) (hm : MG key d a e d') (he : a ≤ e) : BlkF key d' c n e := fun s h1 h2 => (h s h1 (by omega)).keep hm (.inr (by omega))
theorem Blk.first {d d' : Array α} {c n a : Nat} (hc : 0 < c) (h : BlkD key d c a) (ha : c ∣ a) (h1 : a ≤ n) (h2 : n < a + c) (hm : MG key d a n d') (hs : Srt key d' a n) : BlkF key d' c n 0 := fun s h3 _ => by
  rcases Nat.lt_trichotomy s a with h4 | rfl | h4
  · have := dvd_gap h3 ha h4
    exact ((h s h3 h4).keep hm (.inl this)).sub (Nat.le_refl _) (by omega)
  · exact hs.sub (Nat.le_refl _) (by omega)
  · have := dvd_gap ha h3 h4
    exact fun i j _ _ _ => by omega
end
set_option maxHeartbeats 16000000 in
set_option maxRecDepth 1000000 in
theorem stable.calls (g : Nat) (cf : S54 → S54 → Int) (key : S54 → Int) (hcf : ∀ x y, cf x y < 0 ↔ key x < key y) (eg : ∀ args w, (callFunc g args).run Tryd.prog w = .ok (.enter g args) w) (hC : ∀ blk off size w, CmpLays Tryd.prog g #[] encJ 2 cf blk off size w)
    (blk off cap : Nat) (d : Array S54) (w : World) (R : RowK encJ 2 w blk off d) (hsz : d.size < 1152921504606846976) :
    Calls Tryd.prog 110 #[.slice (some ⟨blk, off, none⟩) d.size cap, .int .i64 d.size, .func (.func g) #[] #[]] w fun e w' => e = .returned (.tuple #[]) ∧ ∃ d', SWK encJ 2 w blk off d' w' ∧ MG key d 0 d.size d' ∧ Srt key d' 0 d.size := by
  have hlt : ∀ x y, ltOf cf x y = true ↔ key x < key y := fun x y => by unfold ltOf; rw [decide_eq_true_iff]; exact hcf x y
  have INS : ∀ (a b : Nat) (dk : Array S54) (W : World), SWK encJ 2 w blk off dk W → dk.size = d.size → a ≤ b → b ≤ d.size →
      Calls Tryd.prog 121 #[.slice (some ⟨blk, off, none⟩) d.size cap, .int .i64 a, .int .i64 b, .func (.func g) #[] #[]] W fun e w' => e = .returned (.tuple #[]) ∧ ∃ d', SWK encJ 2 w blk off d' w' ∧ MG key dk a b d' ∧ Srt key d' a b := fun a b dk W S hs hab hb => by
    have h := AnyQ.insertionSortCmpFunc Tryd.insSort 2 isAggP sizeOfP encJ (fun _ => rfl) encJ_one cf g #[] blk off cap a b dk W eg (hC _ _ _ _) (S.holds R.hblk R.hH hs) (S.lt R.hblk) hab (by omega) (by omega)
    rw [hs] at h
    refine Calls.mono h ?_
    rintro e w' ⟨he, n, os, rfl⟩
    have hz : (Sort.insertionSort (ltOf cf) dk a b).size = dk.size := (ins_MG (fun x y => (hlt x y).1) dk a b hab (by omega)).1
    exact ⟨he, _, S.on R.hblk n _ os hz, ins_MG (fun x y => (hlt x y).1) dk a b hab (by omega), ins_Srt hlt dk a b hab (by omega)⟩
  have IN := YtbgmnmjokdfmlaaDoorW.PrintWords.Aside0.mk INS
  have SY := YtbgmnmjokdfmlaaDoorW.PrintWords.Aside0.mk (fun k => symMerge.calls g cf key hcf eg blk off cap d w R (hC _ _ _ _) (by omega) k)
  have S0 : Aside (SWK encJ 2 w blk off d w) := SWK.start R.hH
  have RR := YtbgmnmjokdfmlaaDoorW.PrintWords.Aside0.mk R
  obtain ⟨n, hn⟩ : ∃ n, n = d.size := ⟨_, rfl⟩
  have HN := YtbgmnmjokdfmlaaDoorW.PrintWords.Aside0.mk hn
  rw [← hn] at IN hsz ⊢
  clear INS hlt hcf eg hC R hn
  go_enter Tryd.func110, Tryd.ntmps110
  go_wp2
  go_loopg [7, 8] n (fun kx s7 s8 wr => ∃ (a : Nat) (dk : Array S54), s7 = .int .i64 a ∧ s8 = .int .i64 (a + 20 : Nat) ∧ a ≤ n ∧ n - a ≤ kx ∧ dk.size = n ∧ Aside (SWK encJ 2 w blk off dk wr) ∧ YtbgmnmjokdfmlaaDoorW.PrintWords.Aside0 (20 ∣ a) ∧ Aside (BlkD key dk 20 a) ∧ Aside (MG key d 0 n dk))
  case atStart => exact ⟨0, d, rfl, rfl, Nat.zero_le _, by omega, HN.out.symm, S0, ⟨Nat.dvd_zero _⟩, (fun s h1 h2 => by omega), MG.refl _ _ _⟩
  case round =>
    clear S0
    obtain ⟨a, dk, rfl, rfl, han, hkx, hds, S1, HD, HB, HM⟩ := hrel
    by_cases hlt : a + 20 ≤ n
    · have hltz : ((a + 20 : Nat) : Int) ≤ (n : Int) := by omega
      have hc := YtbgmnmjokdfmlaaDoorW.PrintWords.Aside0.mk (IN.out a (a + 20) dk wr S1.out (by omega) (by omega) (by omega))
      go_wp2_with (first | (go_at_call 121; refine hc.out.mono ?_; rintro _ w1 ⟨rfl, d1, hS, hm1, hs1⟩; have T1 : Aside (SWK encJ 2 w blk off d1 w1) := hS; have M1 := YtbgmnmjokdfmlaaDoorW.PrintWords.Aside0.mk hm1; have R1 := YtbgmnmjokdfmlaaDoorW.PrintWords.Aside0.mk hs1; clear hS hm1 hs1))
      go_roundg (n - (a + 20))
      case measure => omega
      case rel => exact ⟨a + 20, d1, by go_num, by go_num, hlt, Nat.le_refl _, M1.out.1.trans hds, T1, ⟨Nat.dvd_add HD.out (Nat.dvd_refl _)⟩, HB.out.step HD.out M1.out R1.out, HM.out.trans (M1.out.wide (Nat.zero_le _) (by omega) (by omega))⟩
    · have hltz : ¬ ((a + 20 : Nat) : Int) ≤ (n : Int) := by omega
      have hltz2 : ¬ (a : Int) + 20 ≤ (n : Int) := by omega
      have hc := YtbgmnmjokdfmlaaDoorW.PrintWords.Aside0.mk (IN.out a n dk wr S1.out (by omega) (by omega) (by omega))
      go_wp2_with (first | (go_at_call 121; refine hc.out.mono ?_; rintro _ w1 ⟨rfl, d1, hS, hm1, hs1⟩; have T1 : Aside (SWK encJ 2 w blk off d1 w1) := hS; have M1 := YtbgmnmjokdfmlaaDoorW.PrintWords.Aside0.mk hm1; have R1 := YtbgmnmjokdfmlaaDoorW.PrintWords.Aside0.mk hs1; clear hS hm1 hs1))
      go_loopg [6, 7, 8, 9] n (fun kx s6 s7 s8 s9 wr => ∃ (c : Nat) (dk : Array S54), s6 = .int .i64 c ∧ 20 ≤ c ∧ (c = 20 ∨ c < 2 * n) ∧ n - c ≤ kx ∧ dk.size = n ∧ Aside (SWK encJ 2 w blk off dk wr) ∧ Aside (BlkF key dk c n 0) ∧ Aside (MG key d 0 n dk))
      case atStart => exact ⟨20, d1, rfl, by omega, .inl rfl, by omega, M1.out.1.trans hds, T1, Blk.first (by omega) HB.out HD.out (by omega) (by omega) M1.out R1.out, HM.out.trans (M1.out.wide (Nat.zero_le _) (by omega) (by omega))⟩
      case round =>
        clear S1 T1 M1 R1 HB HM hc HD hkx hds
        obtain ⟨c, dk, rfl, hc1, hc2, hkx, hds, S1, HB, HM⟩ := hrel
        by_cases hcn : c < n
        · have hcnz : (c : Int) < (n : Int) := by omega
          go_wp2
          go_loopg [7, 8] n (fun kx s7 s8 wr => ∃ (a : Nat) (dk : Array S54), s7 = .int .i64 a ∧ s8 = .int .i64 ((a : Int) + 2 * (c : Int)) ∧ a ≤ n ∧ n - a ≤ kx ∧ dk.size = n ∧ Aside (SWK encJ 2 w blk off dk wr) ∧ YtbgmnmjokdfmlaaDoorW.PrintWords.Aside0 (2 * c ∣ a) ∧ Aside (BlkD key dk (2 * c) a) ∧ Aside (BlkF key dk c n a) ∧ Aside (MG key d 0 n dk))
          case atStart => exact ⟨0, dk, rfl, by go_num, Nat.zero_le _, by omega, hds, S1, ⟨Nat.dvd_zero _⟩, (fun s h1 h2 => by omega), HB, HM⟩
          case round =>
            clear S1 HB HM hds
            obtain ⟨a, dk, rfl, rfl, han, hkx2, hds, S1, HD, HB, HF, HM⟩ := hrel
            have dca : c ∣ a := Nat.dvd_trans (Nat.dvd_mul_left _ _) HD.out
            have HDC := YtbgmnmjokdfmlaaDoorW.PrintWords.Aside0.mk dca
            clear dca
            by_cases hlt2 : a + 2 * c ≤ n
            · have hltz3 : ((a + 2 * c : Nat) : Int) ≤ (n : Int) := by omega
              have hltz4 : (a : Int) + 2 * (c : Int) ≤ (n : Int) := by omega
              have hA : Srt key dk a (a + c) := (HF.out a HDC.out (Nat.le_refl _)).sub (Nat.le_refl _) (by omega)
              have hB : Srt key dk (a + c) (a + 2 * c) := (HF.out (a + c) (Nat.dvd_add HDC.out (Nat.dvd_refl _)) (by omega)).sub (Nat.le_refl _) (by omega)
              have hc := YtbgmnmjokdfmlaaDoorW.PrintWords.Aside0.mk (SY.out n a (a + c) (a + 2 * c) dk wr (by omega) (by rw [hds]; exact HN.out) S1.out (by omega) (by omega) (by rw [← HN.out]; exact hlt2) hA hB)
              rw [← HN.out, show ((a + c : Nat) : Int) = (a : Int) + (c : Int) from by omega, show ((a + 2 * c : Nat) : Int) = (a : Int) + 2 * (c : Int) from by omega] at hc
              clear hA hB
              go_wp2_with (first | (go_at_call 122; refine hc.out.mono ?_; rintro _ w1 ⟨rfl, d1, hS, hm1, hs1⟩; have T1 : Aside (SWK encJ 2 w blk off d1 w1) := hS; have M1 := YtbgmnmjokdfmlaaDoorW.PrintWords.Aside0.mk hm1; have R1 := YtbgmnmjokdfmlaaDoorW.PrintWords.Aside0.mk hs1; clear hS hm1 hs1))
              go_roundg (n - (a + 2 * c))
              case measure => omega
              case rel => exact ⟨a + 2 * c, d1, by go_num, by go_num, hlt2, Nat.le_refl _, M1.out.1.trans hds, T1, ⟨Nat.dvd_add HD.out (Nat.dvd_refl _)⟩, HB.out.step HD.out M1.out R1.out, HF.out.step M1.out (by omega), HM.out.trans (M1.out.wide (Nat.zero_le _) (by omega) (by omega))⟩
            · have hltz3 : ¬ ((a + 2 * c : Nat) : Int) ≤ (n : Int) := by omega
              have hltz4 : ¬ (a : Int) + 2 * (c : Int) ≤ (n : Int) := by omega
              by_cases hm : a + c < n
              · have hmz : (a : Int) + (c : Int) < (n : Int) := by omega
                have hA : Srt key dk a (a + c) := (HF.out a HDC.out (Nat.le_refl _)).sub (Nat.le_refl _) (by omega)
                have hB : Srt key dk (a + c) n := (HF.out (a + c) (Nat.dvd_add HDC.out (Nat.dvd_refl _)) (by omega)).sub (Nat.le_refl _) (by omega)
                have hc := YtbgmnmjokdfmlaaDoorW.PrintWords.Aside0.mk (SY.out n a (a + c) n dk wr (by omega) (by rw [hds]; exact HN.out) S1.out (by omega) (by omega) (by rw [← HN.out]; exact Nat.le_refl _) hA hB)
                rw [← HN.out, show ((a + c : Nat) : Int) = (a : Int) + (c : Int) from by omega] at hc
                clear hA hB
                go_wp2_with (first | (go_at_call 122; refine hc.out.mono ?_; rintro _ w1 ⟨rfl, d1, hS, hm1, hs1⟩; have T1 : Aside (SWK encJ 2 w blk off d1 w1) := hS; have M1 := YtbgmnmjokdfmlaaDoorW.PrintWords.Aside0.mk hm1; have R1 := YtbgmnmjokdfmlaaDoorW.PrintWords.Aside0.mk hs1; clear hS hm1 hs1))
                go_roundg (n - c * 2)
                case measure => omega
                case rel => exact ⟨c * 2, d1, by go_num, by omega, .inr (by omega), by omega, M1.out.1.trans hds, T1, (by rw [Nat.mul_comm c 2]; exact Blk.first (by omega) HB.out HD.out han (by omega) M1.out R1.out), HM.out.trans (M1.out.wide (Nat.zero_le _) (Nat.le_refl _) han)⟩
              · have hmz : ¬ (a : Int) + (c : Int) < (n : Int) := by omega
                have HS := YtbgmnmjokdfmlaaDoorW.PrintWords.Aside0.mk (show Srt key dk a n from (HF.out a HDC.out (Nat.le_refl _)).sub (Nat.le_refl _) (by omega))
                go_wp2
                go_roundg (n - c * 2)
                case measure => omega
                case rel => exact ⟨c * 2, dk, by go_num, by omega, .inr (by omega), by omega, hds, S1, (by rw [Nat.mul_comm c 2]; exact Blk.first (by omega) HB.out HD.out han (by omega) (MG.refl _ _ _) HS.out), HM⟩
        · have hcnz : ¬ (c : Int) < (n : Int) := by omega
          go_wp2
          go_end0
          exact ⟨rfl, dk, S1.out, HM.out, (HB.out 0 (Nat.dvd_zero _) (Nat.le_refl _)).sub (Nat.le_refl _) (by omega)⟩
set_option maxHeartbeats 4000000 in
theorem sortStable.calls (g : Nat) (cf : S54 → S54 → Int) (key : S54 → Int) (hcf : ∀ x y, cf x y < 0 ↔ key x < key y) (eg : ∀ args w, (callFunc g args).run Tryd.prog w = .ok (.enter g args) w) (hC : ∀ blk off size w, CmpLays Tryd.prog g #[] encJ 2 cf blk off size w)
    (blk off cap : Nat) (d : Array S54) (w : World) (R : RowK encJ 2 w blk off d) (hsz : d.size < 1152921504606846976) :
    Calls Tryd.prog 85 #[.slice (some ⟨blk, off, none⟩) d.size cap, .func (.func g) #[] #[]] w fun e w' => e = .returned (.tuple #[]) ∧ ∃ d', SWK encJ 2 w blk off d' w' ∧ MG key d 0 d.size d' ∧ Srt key d' 0 d.size := by
  have HI := YtbgmnmjokdfmlaaDoorW.PrintWords.Aside0.mk (stable.calls g cf key hcf eg hC blk off cap d w R hsz)
  clear R hsz hcf eg hC
  generalize d.size = n at *
  go_enter Tryd.func85, Tryd.ntmps85
  go_wp2_with (first | (go_at_call 110; refine HI.out.mono ?_; rintro e w' ⟨rfl, hw'⟩; have HW := YtbgmnmjokdfmlaaDoorW.PrintWords.Aside0.mk hw'; clear hw'))
  go_end0
  exact ⟨rfl, HW.out⟩
end Go.Proofs.YtbgmnmjokdfmlaaDoor.PA
namespace Go.Proofs
open Go.Shelf Go.RowKit Go.Lib Go.Sort
def Tryd.revP_ren : Go.Shelf.Ren := ⟨fun | 35 => 82 | n => n, fun | 22 => 30 | 23 => 54 | 3 => 3 | 4 => 4 | 0 => 0 | n => n, fun | n => n⟩
theorem Tryd.revP : Go.Proofs.SlLaysE0.n35 Tryd.prog Tryd.revP_ren := {
  mixed := by kernel_rfl
  f35 := ⟨Tryd.f82.name, by decide, Tryd.func82.trans (congrArg some (by kernel_rfl))⟩
  t0 := Tryd.underlying0
  a0 := Tryd.isAgg0
  z0 := Tryd.sizeOf0
  v0 := Tryd.zeroValue0
  t3 := Tryd.underlying3
  a3 := Tryd.isAgg3
  z3 := Tryd.sizeOf3
  v3 := Tryd.zeroValue3
  t4 := Tryd.underlying4
  a4 := Tryd.isAgg4
  z4 := Tryd.sizeOf4
  v4 := Tryd.zeroValue4
  t22 := Tryd.underlying30
  a22 := Tryd.isAgg30
  z22 := Tryd.sizeOf30
  v22 := Tryd.zeroValue30 }
end Go.Proofs
namespace Go.Proofs.YtbgmnmjokdfmlaaDoor.PA
open Go.Shelf Go.RowKit Go.Lib Go.Sort
set_option linter.unusedVariables false
set_option linter.unusedSimpArgs false
def cmpI (x y : Int) : Int := if x < y then -1 else if y < x then 1 else 0
def cfP (a b : S54) : Int := cmpI a.f0 b.f0
def keyP (a : S54) : Int := a.f0
theorem cfP_key (x y : S54) : cfP x y < 0 ↔ keyP x < keyP y := by
  unfold cfP cmpI keyP
  by_cases h : x.f0 < y.f0
  · simp [h]
  · by_cases h2 : y.f0 < x.f0 <;> simp [h, h2]
set_option maxHeartbeats 2000000 in
theorem cmpP.calls (a b : S54) (W : World) : Calls Tryd.prog 83 #[.agg (encJ a).toArray, .agg (encJ b).toArray] W fun e w' => e = .returned (.int .i64 (cfP a b)) ∧ ∃ q os', w' = grow (W.drewN q) os' := by
  unfold encJ
  simp only [List.toArray]
  go_enter Tryd.func83, Tryd.ntmps83
  have h0 : (a.f0 != a.f0) = false := by simp
  have h1 : (b.f0 != b.f0) = false := by simp
  by_cases h2 : a.f0 < b.f0
  · have d2 : decide (a.f0 < b.f0) = true := decide_eq_true h2
    have HC : Aside (cfP a b = -1) := by show cfP a b = -1; unfold cfP cmpI; rw [if_pos h2]
    clear h2
    go_wp2_with (first | go_in)
    go_ret
    exact ⟨by rw [show cfP a b = -1 from HC]; rfl, 0, _, by rw [alloc_eq_grow, alloc_eq_grow, grow_grow]; rfl⟩
  · have d2 : decide (a.f0 < b.f0) = false := decide_eq_false h2
    by_cases h3 : b.f0 < a.f0
    · have d3 : decide (b.f0 < a.f0) = true := decide_eq_true h3
      have HC : Aside (cfP a b = 1) := by show cfP a b = 1; unfold cfP cmpI; rw [if_neg h2, if_pos h3]
      clear h2 h3
      go_wp2_with (first | go_in)
      go_ret
      exact ⟨by rw [show cfP a b = 1 from HC]; rfl, 0, _, by rw [alloc_eq_grow, alloc_eq_grow, grow_grow]; rfl⟩
    · have d3 : decide (b.f0 < a.f0) = false := decide_eq_false h3
      have HC : Aside (cfP a b = 0) := by show cfP a b = 0; unfold cfP cmpI; rw [if_neg h2, if_neg h3]
      clear h2 h3
      go_wp2_with (first | go_in)
      go_ret
      exact ⟨by rw [show cfP a b = 0 from HC]; rfl, 0, _, by rw [alloc_eq_grow, alloc_eq_grow, grow_grow]; rfl⟩
theorem cmpP.lays (blk off size : Nat) (w : World) : CmpLays Tryd.prog 83 #[] encJ 2 cfP blk off size w := fun _ _ _ _ x y => cmpP.calls x y _
theorem cmpP.enters : ∀ args w, (callFunc 83 args).run Tryd.prog w = .ok (.enter 83 args) w := enters_of Tryd.func83 (by kernel_rfl) rfl
theorem eqP.enters : ∀ args w, (callFunc 87 args).run Tryd.prog w = .ok (.enter 87 args) w := enters_of Tryd.func87 (by kernel_rfl) rfl
set_option maxHeartbeats 2000000 in
theorem eqP.calls (a b : S54) (W : World) : Calls Tryd.prog 87 #[.agg #[.int .i64 a.f0, .int .u64 a.f1], .agg #[.int .i64 b.f0, .int .u64 b.f1]] W fun e w' => e = .returned (.bool (a.f0 == b.f0)) ∧ ∃ q os', w' = grow (W.drewN q) os' := by
  go_enter Tryd.func87, Tryd.ntmps87
  go_wp2
  go_ret
  exact ⟨rfl, 0, _, by rw [alloc_eq_grow, alloc_eq_grow, grow_grow]; rfl⟩
theorem SWK.trans {w0 W W' : World} {blk off : Nat} {d d' : Array S54} (h : SWK encJ 2 w0 blk off d W) (hb : blk < w0.heap.size) (k : SWK encJ 2 W blk off d' W') (hs : d'.size = d.size) : SWK encJ 2 w0 blk off d' W' := by
  obtain ⟨m, os, rfl⟩ := k
  exact h.on hb m d' os hs
theorem SWK.row {w0 W : World} {blk off : Nat} {d0 d : Array S54} (h : SWK encJ 2 w0 blk off d W) (R : RowK encJ 2 w0 blk off d0) (hs : d.size = d0.size) : RowK encJ 2 W blk off d := ⟨R.hk, R.h1, h.holds R.hblk R.hH hs, h.lt R.hblk⟩
theorem revP.calls (blk off cap : Nat) (d : Array S54) (w : World) (R : RowK encJ 2 w blk off d) (hsz : d.size ≤ 9223372036854775807) :
    Calls Tryd.prog 82 #[.slice (some ⟨blk, off, none⟩) d.size cap] w fun e w' => e = .returned (.tuple #[]) ∧ SWK encJ 2 w blk off d.reverse w' := by
  refine Calls.mono (AnyQ.slices_Reverse Tryd.revP 2 isAggP sizeOfP encJ (fun _ => rfl) encJ_one blk off cap d w R.hH hsz) ?_
  rintro e w' ⟨he, n, rfl⟩
  exact ⟨he, n, #[], by unfold sortWorldK; rw [grow_empty]⟩
end Go.Proofs.YtbgmnmjokdfmlaaDoor.PA
namespace Go.Proofs.YtbgmnmjokdfmlaaDoor.PA
open Go.Shelf Go.RowKit Go.Lib Go.Sort
set_option linter.unusedVariables false
set_option linter.unusedSimpArgs false
section
variable {w0 W : World} {blk off : Nat} {d0 dk dk' : Array S54}
theorem swk_many (h : SWK encJ 2 w0 blk off dk W) (hb : blk < w0.heap.size) (s : Nat) (vs : List Value) (hs : s + vs.length ≤ dk.size * 2) (he : setMany (flatK encJ 2 dk) s vs = flatK encJ 2 dk') : SWK encJ 2 w0 blk off dk' (W.setCells blk (off + s) vs) := by
  obtain ⟨n, os, rfl⟩ := h
  refine ⟨n, os, ?_⟩
  unfold sortWorldK
  rw [← putRowK_grow encJ 2 (Sort.ahead w0 n) os blk off dk hb, ← putRowK_grow encJ 2 (Sort.ahead w0 n) os blk off dk' hb]
  unfold putRowK
  rw [setCells_putRow _ _ _ _ _ _ (by rw [size_flatK]; exact hs), he]
theorem swk_set (h : SWK encJ 2 w0 blk off dk W) (hb : blk < w0.heap.size) (i : Nat) (hi : i < dk.size) (x : S54) :
    SWK encJ 2 w0 blk off (dk.setIfInBounds i x) ((W.setCell ⟨blk, off + i * 2, none⟩ (.int .i64 x.f0)).setCell ⟨blk, off + i * 2 + 1, none⟩ (.int .u64 x.f1)) := by
  refine swk_many h hb (i * 2) (encJ x) (by show i * 2 + 2 ≤ _; omega) (ext_get! (by simp) fun t ht => ?_)
  have ht' : t < dk.size * 2 := by simpa using ht
  rw [get_setMany _ _ _ t (by simpa using ht'), get_flatK _ _ _ t ht', get_flatK _ _ _ t (by simpa using ht')]
  have h2 : (encJ x).length = 2 := rfl
  by_cases c : t / 2 = i
  · rw [if_pos (by rw [h2]; omega), show t - i * 2 = t % 2 from by omega]
    congr 2
    subst c
    simp [getElem!_def, hi]
  · rw [if_neg (by rw [h2]; omega)]
    congr 2
    simp [getElem!_def, Array.getElem?_setIfInBounds, Ne.symm c]
end
def zs2 (m : Nat) : List Value := (Builtin.zeroCells #[.int .i64 0, .int .u64 0] m).toList
theorem zs2_len (m : Nat) : (zs2 m).length = m * 2 := by simp [zs2, Builtin.zeroCells]
theorem zs2_get (m t : Nat) (h : t < m * 2) : (zs2 m)[t]! = (encJ z54)[t % 2]! := by
  have h2 : t % 2 = 0 ∨ t % 2 = 1 := by omega
  have : (zs2 m)[t]? = some ((#[Value.int .i64 0, .int .u64 0] : Array Value)[t % 2]!) := by
    simp [zs2, Builtin.zeroCells, h]
  rw [List.getElem!_eq_getElem?_getD, this]
  rcases h2 with h2 | h2 <;> rw [h2] <;> rfl
theorem zs2_one (m : Nat) : ∀ v ∈ zs2 m, v.oneCell' = true := by
  intro v hv
  obtain ⟨t, ht, rfl⟩ := List.mem_iff_getElem.1 hv
  have h2 : t % 2 = 0 ∨ t % 2 = 1 := by omega
  have h := zs2_get m t (by rw [zs2_len] at ht; exact ht)
  rw [List.getElem!_eq_getElem?_getD, List.getElem?_eq_getElem ht] at h
  have h' : (zs2 m)[t] = (encJ z54)[t % 2]! := h
  rw [h']
  rcases h2 with h2 | h2 <;> rw [h2] <;> rfl
def cutZ (d : Array S54) (k : Nat) : Array S54 := ((List.range d.size).map fun t => if t < k then d[t]! else z54).toArray
theorem cutZ_size (d : Array S54) (k : Nat) : (cutZ d k).size = d.size := by simp [cutZ]
theorem cutZ_get (d : Array S54) (k t : Nat) (h : t < d.size) : (cutZ d k)[t]! = if t < k then d[t]! else z54 := by
  simp [cutZ, h]
theorem swk_clear {w0 W : World} {blk off : Nat} {d : Array S54} (h : SWK encJ 2 w0 blk off d W) (hb : blk < w0.heap.size) (k : Nat) (hk : k ≤ d.size) : SWK encJ 2 w0 blk off (cutZ d k) (W.setCells blk (off + k * 2) (zs2 (d.size - k))) := by
  refine swk_many h hb (k * 2) _ (by rw [zs2_len]; omega) (ext_get! (by simp [cutZ_size]) fun t ht => ?_)
  have ht' : t < d.size * 2 := by simpa using ht
  rw [get_setMany _ _ _ t (by simpa using ht'), get_flatK _ _ _ t ht', get_flatK _ _ _ t (by rw [cutZ_size]; exact ht'), cutZ_get _ _ _ (by omega), zs2_len]
  by_cases c : t / 2 < k
  · rw [if_neg (by omega), if_pos c]
  · rw [if_pos (by omega), if_neg c, zs2_get _ _ (by omega), show (t - k * 2) % 2 = t % 2 from by omega]
theorem clear_run (W : World) (blk o m c : Nat) (hc : ∀ j, j < m * 2 → (W.cell? ⟨blk, o + j, none⟩).isSome = true) (hf : ∀ j, j < m * 2 → W.frozen? ⟨blk, o + j, none⟩ = false) (hm : 0 < m) (ty : TypeId) :
    Sem.run Tryd.prog (Builtin.clear_ #[30] ty #[.slice (some ⟨blk, o, none⟩) m c]) W = .ok (.tuple #[]) (W.setCells blk o (zs2 m)) := by
  have hst := run_storeCells_cells (P := Tryd.prog) blk o (zs2 m) 0 W (by rw [zs2_len]; simpa using hc) (by rw [zs2_len]; simpa using hf) (zs2_one m)
  simp only [Nat.add_zero] at hst
  have hz : ∀ w, (zeroValue 54).run Tryd.prog w = .ok (.agg #[.int .i64 0, .int .u64 0]) w := fun w => by kernel_rfl
  obtain ⟨q, rfl⟩ : ∃ q, m = q + 1 := ⟨m - 1, by omega⟩
  have hzs : (Builtin.zeroCells (Value.agg #[.int .i64 0, .int .u64 0]).cells (q + 1)).toList = zs2 (q + 1) := rfl
  simp [Builtin.clear_, run_underlying Tryd.underlying30, hz, hzs, hst]
def cK (d : Array S54) : Nat → List S54
  | 0 => []
  | i + 1 => if i = 0 ∨ d[i]!.f0 ≠ d[i - 1]!.f0 then cK d i ++ [d[i]!] else cK d i
theorem cK_le (d : Array S54) : ∀ i, (cK d i).length ≤ i
  | 0 => Nat.le_refl _
  | i + 1 => by
    have := cK_le d i
    rw [cK]
    split
    · rw [List.length_append]; simp; omega
    · omega
theorem cK_go (d : Array S54) (i : Nat) (h : (d[i]!.f0 == d[i - 1]!.f0) = false) : cK d (i + 1) = cK d i ++ [d[i]!] := by
  rw [cK, if_pos (.inr (by simpa using h))]
theorem cK_stay (d : Array S54) (i : Nat) (hi : 0 < i) (h : (d[i]!.f0 == d[i - 1]!.f0) = true) : cK d (i + 1) = cK d i := by
  rw [cK, if_neg (by rintro (h1 | h1); omega; exact h1 (by simpa using h))]
theorem seg_one {α : Type} [Inhabited α] (d : Array α) (k : Nat) : segA d k (k + 1) = [d[k]!] := by simp [segA]
theorem at_off (off a b : Nat) : off + (a + b) * 2 = off + a * 2 + b * 2 := by omega
set_option maxHeartbeats 8000000 in
set_option maxRecDepth 1000000 in
theorem compactP.calls (blk off cap : Nat) (d : Array S54) (w : World) (R : RowK encJ 2 w blk off d) (hcap : d.size ≤ cap) (hsz : d.size < 1152921504606846976) :
    Calls Tryd.prog 86 #[.slice (some ⟨blk, off, none⟩) d.size cap, .func (.func 87) #[] #[]] w fun e w' => e = .returned (.slice (some ⟨blk, off, none⟩) (cK d d.size).length cap) ∧ ∃ d', SWK encJ 2 w blk off d' w' ∧ d'.size = d.size ∧ segA d' 0 (cK d d.size).length = cK d d.size := by
  have mixed : Tryd.prog.follows .mixedOrders = true := by kernel_rfl
  have eg := eqP.enters
  have S0 : Aside (SWK encJ 2 w blk off d w) := SWK.start R.hH
  have RR := YtbgmnmjokdfmlaaDoorW.PrintWords.Aside0.mk R
  obtain ⟨n, hn⟩ : ∃ n, n = d.size := ⟨_, rfl⟩
  have HN := YtbgmnmjokdfmlaaDoorW.PrintWords.Aside0.mk hn
  rw [← hn] at hsz hcap ⊢
  clear R hn
  by_cases h2 : n < 2
  · have h2z : (n : Int) < 2 := by omega
    have HE : YtbgmnmjokdfmlaaDoorW.PrintWords.Aside0 (cK d n = segA d 0 n) := ⟨by
      rcases (show n = 0 ∨ n = 1 from by omega) with h | h
      · rw [h]; rfl
      · rw [h]; rfl⟩
    go_enter Tryd.func86, Tryd.ntmps86
    go_wp2
    go_ret
    exact ⟨by rw [HE.out, seg_len, Nat.sub_zero]; rfl, d, S0, HN.out.symm, by rw [HE.out, seg_len, Nat.sub_zero]⟩
  · have h2z : ¬ (n : Int) < 2 := by omega
    go_enter Tryd.func86, Tryd.ntmps86
    go_wp2
    go_loopg [5] n (fun kx s5 wr => ∃ (k : Nat), s5 = .int .i64 (k + 1 : Nat) ∧ k + 1 ≤ n ∧ n - k ≤ kx ∧ Aside (SWK encJ 2 w blk off d wr) ∧ YtbgmnmjokdfmlaaDoorW.PrintWords.Aside0 (cK d (k + 1) = segA d 0 (k + 1)))
    case atStart => exact ⟨0, rfl, by omega, by omega, S0, ⟨rfl⟩⟩
    case round =>
      clear S0
      obtain ⟨k, rfl, hk, hkx, S1, HE⟩ := hrel
      by_cases hlt : k + 1 < n
      · have hltz : (k : Int) + 1 < (n : Int) := by omega
        have e1 : ((k : Int) + 1).toNat = k + 1 := by omega
        have pa : (0 : Int) ≤ (k : Int) + 1 := by omega
        have e2 : (k : Int) + 1 - 1 = (k : Int) := by omega
        have r2 : IntKind.i64.wrap ((k : Int) + 1 - 1) = (k : Int) := by rw [IntKind.wrap_i64]; omega
        have r3 : IntKind.i64.wrap (k : Int) = (k : Int) := by rw [IntKind.wrap_i64]; omega
        have bk : (k : Int) < (n : Int) := by omega
        have c0 := fun n' os' => (swk_gcell S1.out RR.out rfl (k + 1) (by rw [← HN.out]; exact hlt) n' os').1
        have c1 := fun n' os' => (swk_gcell S1.out RR.out rfl (k + 1) (by rw [← HN.out]; exact hlt) n' os').2
        have g0 := fun n' os' => (swk_gcell S1.out RR.out rfl k (by rw [← HN.out]; omega) n' os').1
        have g1 := fun n' os' => (swk_gcell S1.out RR.out rfl k (by rw [← HN.out]; omega) n' os').2
        have hc := fun n' os' => eqP.calls d[k + 1]! d[k]! (grow (wr.drewN n') os')
        cases hv : (d[k + 1]!.f0 == d[k]!.f0) with
        | false =>
          have HX := YtbgmnmjokdfmlaaDoorW.PrintWords.Aside0.mk (cK_go d (k + 1) hv)
          generalize d[k + 1]! = x at c0 c1 hc hv
          generalize d[k]! = y at g0 g1 hc hv
          go_wp2_with fail
          go_quiet_grown (first | (go_at_fn 87; refine Calls.grown_of (hc _ _)))
          have S2 : Aside (SWK encJ 2 w blk off d (grow (wr.drewN nq) osq)) := S1.out.grown nq osq
          clear c0 c1 g0 g1 hc S1
          generalize grow (wr.drewN nq) osq = w2 at S2 ⊢
          clear nq osq
          go_wp2
          go_roundg (n - (k + 1))
          case measure => omega
          case rel => exact ⟨k + 1, by go_num, by omega, Nat.le_refl _, S2, ⟨by rw [HX.out, HE.out, seg_cat d (Nat.zero_le (k + 1)) (Nat.le_succ (k + 1)), seg_one]⟩⟩
        | true =>
          have HX := YtbgmnmjokdfmlaaDoorW.PrintWords.Aside0.mk (cK_stay d (k + 1) (by omega) hv)
          generalize d[k + 1]! = x at c0 c1 hc hv
          generalize d[k]! = y at g0 g1 hc hv
          go_wp2_with fail
          go_quiet_grown (first | (go_at_fn 87; refine Calls.grown_of (hc _ _)))
          have S2 : Aside (SWK encJ 2 w blk off d (grow (wr.drewN nq) osq)) := S1.out.grown nq osq
          clear c0 c1 g0 g1 hc S1
          generalize grow (wr.drewN nq) osq = w2 at S2 ⊢
          clear nq osq
          have hcz : ¬ (cap : Int) = (k : Int) + 1 := by omega
          have hcz2 : ¬ cap = k + 1 := by omega
          have HCZ := hcap
          go_wp2
          rw [hv]
          clear hv
          obtain ⟨M, hM⟩ : ∃ M, M = n - (k + 1) := ⟨_, rfl⟩
          rw [← hM]
          have hM1 : M + (k + 1) = n := by omega
          have HM := YtbgmnmjokdfmlaaDoorW.PrintWords.Aside0.mk hM1
          have hM2 : M + k < n := by omega
          have hM3 : n ≤ M + k + 1 := by omega
          clear hM hM1 hcz hcz2 HCZ
          go_loopg [5, 7] M (fun kx s5 s7 wr => ∃ (q j : Nat) (dk : Array S54), s5 = .int .i64 q ∧ s7 = .int .i64 (j + 1 : Nat) ∧ j + 1 ≤ M ∧ k + 1 ≤ q ∧ q ≤ k + 1 + j ∧ M - j ≤ kx ∧ Aside (SWK encJ 2 w blk off dk wr) ∧ YtbgmnmjokdfmlaaDoorW.PrintWords.Aside0 (dk.size = d.size) ∧ YtbgmnmjokdfmlaaDoorW.PrintWords.Aside0 (segA dk 0 q = cK d (k + 1 + (j + 1)) ∧ ∀ t, q ≤ t → dk[t]! = d[t]!))
          case atStart => exact ⟨k + 1, 0, d, by go_num, rfl, by omega, Nat.le_refl _, Nat.le_refl _, by omega, S2, ⟨rfl⟩, ⟨by rw [show k + 1 + (0 + 1) = k + 1 + 1 from rfl, HX.out, HE.out], fun _ _ => rfl⟩⟩
          case round =>
            clear S2 HX HE
            obtain ⟨q, j, dk, rfl, rfl, hj, hkq, hqj, hkx2, S3, HS, HQ⟩ := hrel
            by_cases hlt3 : j + 1 < M
            · have hltz3 : (j : Int) + 1 < (M : Int) := by omega
              have e1 : ((j : Int) + 1).toNat = j + 1 := by omega
              have pa2 : (0 : Int) ≤ (j : Int) + 1 := by omega
              have e2 : (j : Int) + 1 - 1 = (j : Int) := by omega
              have r2 : IntKind.i64.wrap ((j : Int) + 1 - 1) = (j : Int) := by rw [IntKind.wrap_i64]; omega
              have r3 : IntKind.i64.wrap (j : Int) = (j : Int) := by rw [IntKind.wrap_i64]; omega
              have bj : (j : Int) < (M : Int) := by omega
              have hi1 : k + 1 + (j + 1) < dk.size := by rw [HS.out, ← HN.out]; omega
              have hi2 : k + 1 + j < dk.size := by rw [HS.out, ← HN.out]; omega
              have k0 := swk_gcell S3.out RR.out HS.out (k + 1 + (j + 1)) hi1
              have k1 := swk_gcell S3.out RR.out HS.out (k + 1 + j) hi2
              rw [at_off] at k0 k1
              have c0 := fun n' os' => (k0 n' os').1
              have c1 := fun n' os' => (k0 n' os').2
              have g0 := fun n' os' => (k1 n' os').1
              have g1 := fun n' os' => (k1 n' os').2
              have hc := fun n' os' => eqP.calls dk[k + 1 + (j + 1)]! dk[k + 1 + j]! (grow (wr.drewN n') os')
              have HI := YtbgmnmjokdfmlaaDoorW.PrintWords.Aside0.mk (And.intro hi1 hi2)
              clear k0 k1 hi1 hi2
              have HX1 := YtbgmnmjokdfmlaaDoorW.PrintWords.Aside0.mk (HQ.out.2 (k + 1 + (j + 1)) (by omega))
              have HX2 := YtbgmnmjokdfmlaaDoorW.PrintWords.Aside0.mk (HQ.out.2 (k + 1 + j) (by omega))
              have K0 := fun (W : World) (S : SWK encJ 2 w blk off dk W) => swk_cell S RR.out HS.out (k + 1 + (j + 1)) HI.out.1
              rw [at_off] at K0
              have KK := YtbgmnmjokdfmlaaDoorW.PrintWords.Aside0.mk K0
              clear K0
              cases hv : (dk[k + 1 + (j + 1)]!.f0 == dk[k + 1 + j]!.f0) with
              | true =>
                have HX := YtbgmnmjokdfmlaaDoorW.PrintWords.Aside0.mk (cK_stay d (k + 1 + (j + 1)) (by omega) (by rw [← HX1.out, show k + 1 + (j + 1) - 1 = k + 1 + j from rfl, ← HX2.out]; exact hv))
                generalize dk[k + 1 + (j + 1)]! = x2 at c0 c1 hc hv
                generalize dk[k + 1 + j]! = y2 at g0 g1 hc hv
                go_wp2_with fail
                go_quiet_grown (first | (go_at_fn 87; refine Calls.grown_of (hc _ _)))
                have S4 : Aside (SWK encJ 2 w blk off dk (grow (wr.drewN nq) osq)) := S3.out.grown nq osq
                clear c0 c1 g0 g1 hc S3
                generalize grow (wr.drewN nq) osq = w3 at S4 ⊢
                clear nq osq
                go_wp2
                go_roundg (M - (j + 1))
                case measure => omega
                case rel => exact ⟨q, j + 1, dk, rfl, by go_num, by omega, hkq, by omega, Nat.le_refl _, S4, HS, ⟨by rw [show k + 1 + (j + 1 + 1) = k + 1 + (j + 1) + 1 from rfl, HX.out]; exact HQ.out.1, HQ.out.2⟩⟩
              | false =>
                have HX := YtbgmnmjokdfmlaaDoorW.PrintWords.Aside0.mk (cK_go d (k + 1 + (j + 1)) (by rw [← HX1.out, show k + 1 + (j + 1) - 1 = k + 1 + j from rfl, ← HX2.out]; exact hv))
                have HX3 := YtbgmnmjokdfmlaaDoorW.PrintWords.Aside0.mk (show ∃ x, x = dk[k + 1 + (j + 1)]! from ⟨_, rfl⟩)
                have KQ := YtbgmnmjokdfmlaaDoorW.PrintWords.Aside0.mk (fun (W : World) (S : SWK encJ 2 w blk off dk W) => swk_cell S RR.out HS.out q (by rw [HS.out, ← HN.out]; omega))
                generalize hx2 : dk[k + 1 + (j + 1)]! = x2 at c0 c1 hc hv KK
                generalize dk[k + 1 + j]! = y2 at g0 g1 hc hv
                have HX4 := YtbgmnmjokdfmlaaDoorW.PrintWords.Aside0.mk hx2
                clear hx2
                go_wp2_with fail
                go_quiet_grown (first | (go_at_fn 87; refine Calls.grown_of (hc _ _)))
                have S4 : Aside (SWK encJ 2 w blk off dk (grow (wr.drewN nq) osq)) := S3.out.grown nq osq
                clear c0 c1 g0 g1 hc S3
                generalize grow (wr.drewN nq) osq = w3 at S4 ⊢
                clear nq osq
                obtain ⟨p0, p1, _, _⟩ := KK.out w3 S4.out
                obtain ⟨q0, q1, f0, f1⟩ := KQ.out w3 S4.out
                have hqn : (q : Int) < (n : Int) := by omega
                have S5 : Aside (SWK encJ 2 w blk off (dk.setIfInBounds q x2) ((w3.setCell ⟨blk, off + q * 2, none⟩ (.int .i64 x2.f0)).setCell ⟨blk, off + q * 2 + 1, none⟩ (.int .u64 x2.f1))) := swk_set S4.out RR.out.hblk q (by rw [HS.out, ← HN.out]; omega) x2
                generalize dk[q]! = y3 at q0 q1
                go_wp2
                go_roundg (M - (j + 1))
                case measure => omega
                case rel =>
                  have hqs : q < dk.size := by rw [HS.out, ← HN.out]; omega
                  refine ⟨q + 1, j + 1, dk.setIfInBounds q x2, by go_num, by go_num, by omega, by omega, by omega, Nat.le_refl _, S5, ⟨by rw [Array.size_setIfInBounds]; exact HS.out⟩, ⟨?_, fun t ht => ?_⟩⟩
                  · rw [show k + 1 + (j + 1 + 1) = k + 1 + (j + 1) + 1 from rfl, HX.out, ← HQ.out.1, ← HX1.out, HX4.out, seg_cat _ (Nat.zero_le q) (Nat.le_succ q), seg_one, seg_congr (d := dk) (d' := dk.setIfInBounds q x2) (fun t h1 h2 => by simp [getElem!_def, Array.getElem?_setIfInBounds, show ¬ q = t from by omega])]
                    congr 2
                    simp [getElem!_def, hqs]
                  · rw [← HQ.out.2 t (by omega)]
                    simp [getElem!_def, Array.getElem?_setIfInBounds, show ¬ q = t from by omega]
            · have hjM : j + 1 = M := by omega
              have HJ := YtbgmnmjokdfmlaaDoorW.PrintWords.Aside0.mk hjM
              have hltz3 : ¬ (j : Int) + 1 < (M : Int) := by omega
              have hcl := clear_run wr blk (off + q * 2) (n - q) (cap - q) (fun i hi => by
                have hq2 : q + i / 2 < dk.size := by rw [HS.out, ← HN.out]; omega
                have h3 := (swk_cell S3.out RR.out HS.out (q + i / 2) hq2)
                rcases (show i % 2 = 0 ∨ i % 2 = 1 from by omega) with h4 | h4
                · rw [show off + q * 2 + i = off + (q + i / 2) * 2 from by omega, h3.1]; rfl
                · rw [show off + q * 2 + i = off + (q + i / 2) * 2 + 1 from by omega, h3.2.1]; rfl) (fun i hi => by
                have hq2 : q + i / 2 < dk.size := by rw [HS.out, ← HN.out]; omega
                have h3 := (swk_cell S3.out RR.out HS.out (q + i / 2) hq2)
                rcases (show i % 2 = 0 ∨ i % 2 = 1 from by omega) with h4 | h4
                · rw [show off + q * 2 + i = off + (q + i / 2) * 2 from by omega, h3.2.2.1]
                · rw [show off + q * 2 + i = off + (q + i / 2) * 2 + 1 from by omega, h3.2.2.2]) (by omega)
              have S6 := swk_clear S3.out RR.out.hblk q (by rw [HS.out, ← HN.out]; omega)
              rw [HS.out, ← HN.out] at S6
              have S7 : Aside (SWK encJ 2 w blk off (cutZ dk q) (wr.setCells blk (off + q * 2) (zs2 (n - q)))) := S6
              have HQL : YtbgmnmjokdfmlaaDoorW.PrintWords.Aside0 ((cK d n).length = q ∧ segA (cutZ dk q) 0 q = cK d n) := ⟨by
                have e := HQ.out.1
                rw [HJ.out, Nat.add_comm (k + 1) M, HM.out] at e
                rw [← e]
                exact ⟨by rw [seg_len, Nat.sub_zero], seg_congr (fun t h1 h2 => by rw [cutZ_get _ _ _ (by rw [HS.out, ← HN.out]; omega), if_pos h2])⟩⟩
              have hcz2 : ¬ cap = q := by omega
              have hqn : q ≤ n := by omega
              clear S6 hjM
              go_wp2
              go_ret
              exact ⟨by rw [HQL.out.1]; rfl, cutZ dk q, S7.out, by rw [cutZ_size]; exact HS.out.trans HN.out.symm, by rw [HQL.out.1]; exact HQL.out.2⟩
      · obtain rfl : k + 1 = n := by omega
        have hltz : ¬ ((k : Int) + 1 < (k : Int) + 1) := by omega
        go_wp2
        go_ret
        exact ⟨by rw [HE.out, seg_len, Nat.sub_zero]; rfl, d, S1.out, HN.out.symm, by rw [HE.out, seg_len, Nat.sub_zero]⟩
end Go.Proofs.YtbgmnmjokdfmlaaDoor.PA
namespace Go.Proofs.YtbgmnmjokdfmlaaDoor.PA
open Go.Sort
set_option linter.unusedVariables false
set_option linter.unusedSimpArgs false
def Rs (l : List S54) : Prop := l.Pairwise (fun x y => x.f0 < y.f0)
def at_ (v : Int) (l : List S54) : List S54 := l.filter (fun x => decide (x.f0 = v))
theorem at_append (v : Int) (a b : List S54) : at_ v (a ++ b) = at_ v a ++ at_ v b := List.filter_append ..
theorem at_none {v : Int} {l : List S54} (h : ∀ x ∈ l, x.f0 ≠ v) : at_ v l = [] := by
  unfold at_
  rw [List.filter_eq_nil_iff]
  intro x hx
  simpa using h x hx
theorem at_cons (v : Int) (x : S54) (l : List S54) : at_ v (x :: l) = if x.f0 = v then x :: at_ v l else at_ v l := by
  unfold at_
  rw [List.filter_cons]
  simp
theorem Rs_ext : ∀ (a b : List S54), Rs a → Rs b → (∀ v, at_ v a = at_ v b) → a = b
  | [], [], _, _, _ => rfl
  | [], y :: b, _, _, h => by
    have := h y.f0
    rw [at_cons, if_pos rfl] at this
    simp [at_] at this
  | x :: a, [], _, _, h => by
    have := h x.f0
    rw [at_cons, if_pos rfl] at this
    simp [at_] at this
  | x :: a, y :: b, ha, hb, h => by
    have ha' := List.pairwise_cons.1 ha
    have hb' := List.pairwise_cons.1 hb
    have na : ∀ v, v ≤ x.f0 → at_ v a = [] := fun v hv => at_none (fun z hz => by have := ha'.1 z hz; omega)
    have nb : ∀ v, v ≤ y.f0 → at_ v b = [] := fun v hv => at_none (fun z hz => by have := hb'.1 z hz; omega)
    have hxy : x.f0 = y.f0 := by
      rcases Int.lt_trichotomy x.f0 y.f0 with h1 | h1 | h1
      · have := h x.f0
        rw [at_cons, if_pos rfl, at_cons, if_neg (by omega), nb _ (by omega)] at this
        simp at this
      · exact h1
      · have := h y.f0
        rw [at_cons, if_neg (by omega), at_cons, if_pos rfl, na _ (by omega)] at this
        simp at this
    have he : x = y := by
      have := h x.f0
      rw [at_cons, if_pos rfl, at_cons, if_pos hxy.symm, na _ (Int.le_refl _), nb _ (by omega)] at this
      simpa using this
    subst he
    rw [Rs_ext a b ha'.2 hb'.2 (fun v => by
      have := h v
      rw [at_cons, at_cons] at this
      split at this
      · exact (List.cons.inj this).2
      · exact this)]
def posS (l : List S54) (t : Int) : Nat → Nat
  | 0 => 0
  | j + 1 => if t ≤ (l.getD j z54).f0 then posS l t j else j + 1
def setL (l : List S54) (s : S54) : List S54 :=
  if posS l s.f0 l.length < l.length ∧ (l.getD (posS l s.f0 l.length) z54).f0 = s.f0 then l.set (posS l s.f0 l.length) s else l.take (posS l s.f0 l.length) ++ s :: l.drop (posS l s.f0 l.length)
theorem posS_le (l : List S54) (t : Int) : ∀ j, posS l t j ≤ j
  | 0 => Nat.le_refl _
  | j + 1 => by
    rw [posS]
    split
    · exact Nat.le_succ_of_le (posS_le l t j)
    · exact Nat.le_refl _
theorem posS_spec (l : List S54) (t : Int) : ∀ j, (0 < posS l t j → (l.getD (posS l t j - 1) z54).f0 < t) ∧ ∀ i, posS l t j ≤ i → i < j → t ≤ (l.getD i z54).f0
  | 0 => ⟨fun h => by rw [posS] at h; omega, fun i _ h => by omega⟩
  | j + 1 => by
    rw [posS]
    by_cases h : t ≤ (l.getD j z54).f0
    · rw [if_pos h]
      obtain ⟨h1, h2⟩ := posS_spec l t j
      refine ⟨h1, fun i h3 h4 => ?_⟩
      rcases Nat.lt_or_ge i j with h5 | h5
      · exact h2 i h3 h5
      · rw [show i = j from by omega]; exact h
    · rw [if_neg h]
      exact ⟨fun _ => by rw [Nat.add_sub_cancel]; omega, fun i h3 h4 => by omega⟩
theorem Rs_get {l : List S54} (h : Rs l) {i j : Nat} (hij : i < j) (hj : j < l.length) : (l.getD i z54).f0 < (l.getD j z54).f0 := by
  have := List.pairwise_iff_getElem.1 h i j (by omega) hj hij
  simpa [List.getD_eq_getElem?_getD, List.getElem?_eq_getElem (show i < l.length by omega), List.getElem?_eq_getElem hj] using this
theorem setL_parts {l : List S54} (h : Rs l) (s : S54) : ∃ a b, (∀ x ∈ a, x.f0 < s.f0) ∧ (∀ x ∈ b, s.f0 < x.f0) ∧ setL l s = a ++ s :: b ∧ Rs a ∧ Rs b ∧ (l = a ++ b ∨ ∃ y, y.f0 = s.f0 ∧ l = a ++ y :: b) := by
  obtain ⟨p, hp⟩ : ∃ p, p = posS l s.f0 l.length := ⟨_, rfl⟩
  have hle : p ≤ l.length := by rw [hp]; exact posS_le _ _ _
  obtain ⟨h1, h2⟩ := posS_spec l s.f0 l.length
  rw [← hp] at h1 h2
  have ht : ∀ x ∈ l.take p, x.f0 < s.f0 := fun x hx => by
    obtain ⟨i, hi, rfl⟩ := List.mem_iff_getElem.1 hx
    rw [List.length_take] at hi
    rw [List.getElem_take]
    have h3 := h1 (by omega)
    have e : l[i]'(by omega) = l.getD i z54 := by simp [List.getD_eq_getElem?_getD, List.getElem?_eq_getElem (show i < l.length by omega)]
    rw [e]
    rcases Nat.lt_or_ge i (p - 1) with h4 | h4
    · have := Rs_get h h4 (by omega)
      omega
    · rw [show i = p - 1 from by omega]; exact h3
  have hRt : Rs (l.take p) := List.Pairwise.sublist (List.take_sublist _ _) h
  by_cases hc : p < l.length ∧ (l.getD p z54).f0 = s.f0
  · have eL : l.getD p z54 = l[p]'hc.1 := by simp [List.getD_eq_getElem?_getD, List.getElem?_eq_getElem hc.1]
    refine ⟨l.take p, l.drop (p + 1), ht, fun x hx => ?_, ?_, hRt, List.Pairwise.sublist (List.drop_sublist _ _) h, .inr ⟨l[p]'hc.1, by rw [← eL]; exact hc.2, by rw [← List.drop_eq_getElem_cons hc.1, List.take_append_drop]⟩⟩
    · obtain ⟨i, hi, rfl⟩ := List.mem_iff_getElem.1 hx
      rw [List.length_drop] at hi
      rw [List.getElem_drop]
      have := Rs_get h (show p < p + 1 + i by omega) (by omega)
      rw [hc.2] at this
      simpa [List.getD_eq_getElem?_getD, List.getElem?_eq_getElem (show p + 1 + i < l.length by omega)] using this
    · unfold setL
      rw [← hp, if_pos hc, List.set_eq_take_append_cons_drop, if_pos hc.1]
  · refine ⟨l.take p, l.drop p, ht, fun x hx => ?_, ?_, hRt, List.Pairwise.sublist (List.drop_sublist _ _) h, .inl (by rw [List.take_append_drop])⟩
    · obtain ⟨i, hi, rfl⟩ := List.mem_iff_getElem.1 hx
      rw [List.length_drop] at hi
      rw [List.getElem_drop]
      have e : l[p + i]'(by omega) = l.getD (p + i) z54 := by simp [List.getD_eq_getElem?_getD, List.getElem?_eq_getElem (show p + i < l.length by omega)]
      rw [e]
      have h0 := h2 p (Nat.le_refl _) (by omega)
      have h0' : s.f0 < (l.getD p z54).f0 := by
        rcases Int.lt_or_eq_of_le h0 with h5 | h5
        · exact h5
        · exact absurd ⟨by omega, h5.symm⟩ hc
      rcases Nat.eq_zero_or_pos i with h6 | h6
      · rw [h6]; exact h0'
      · have := Rs_get h (show p < p + i by omega) (by omega)
        omega
    · unfold setL
      rw [← hp, if_neg hc]
theorem Rs_mid {a b : List S54} {s : S54} (ha : ∀ x ∈ a, x.f0 < s.f0) (hb : ∀ x ∈ b, s.f0 < x.f0) (h1 : Rs a) (h2 : Rs b) : Rs (a ++ s :: b) := by
  refine List.pairwise_append.2 ⟨h1, List.pairwise_cons.2 ⟨hb, h2⟩, fun x hx y hy => ?_⟩
  rcases List.mem_cons.1 hy with rfl | hy
  · exact ha x hx
  · have := ha x hx
    have := hb y hy
    omega
theorem setL_Rs {l : List S54} (h : Rs l) (s : S54) : Rs (setL l s) := by
  obtain ⟨a, b, ha, hb, he, h1, h2, _⟩ := setL_parts h s
  rw [he]
  exact Rs_mid ha hb h1 h2
theorem setL_at {l : List S54} (h : Rs l) (s : S54) (v : Int) : at_ v (setL l s) = if s.f0 = v then [s] else at_ v l := by
  obtain ⟨a, b, ha, hb, he, h1, h2, hl⟩ := setL_parts h s
  rw [he, at_append, at_cons]
  by_cases hv : s.f0 = v
  · rw [if_pos hv, if_pos hv, at_none (fun x hx => by have := ha x hx; omega), at_none (fun x hx => by have := hb x hx; omega)]
    rfl
  · rw [if_neg hv, if_neg hv]
    rcases hl with hl | ⟨y, hy, hl⟩
    · rw [hl, at_append]
    · rw [hl, at_append, at_cons, if_neg (by omega)]
def setAll (l : List S54) (xs : List S54) : List S54 := xs.foldl setL l
def risenL (xs : List S54) : List S54 := setAll [] xs
theorem setAll_Rs : ∀ (xs l : List S54), Rs l → Rs (setAll l xs)
  | [], _, h => h
  | x :: xs, l, h => setAll_Rs xs (setL l x) (setL_Rs h x)
theorem setAll_at (v : Int) : ∀ (xs l : List S54), Rs l → at_ v (setAll l xs) = ((at_ v l ++ at_ v xs).getLast?).toList ∨ (at_ v xs = [] ∧ at_ v (setAll l xs) = at_ v l)
  | [], l, h => .inr ⟨rfl, rfl⟩
  | x :: xs, l, h => by
    have ih := setAll_at v xs (setL l x) (setL_Rs h x)
    rw [setL_at h] at ih
    rw [at_cons]
    show at_ v (setAll (setL l x) xs) = _ ∨ _ ∧ at_ v (setAll (setL l x) xs) = _
    by_cases hv : x.f0 = v
    · rw [if_pos hv] at ih ⊢
      refine .inl ?_
      rcases ih with ih | ⟨h1, ih⟩
      · rw [ih]
        simp [List.getLast?_append, List.getLast?_cons]
      · rw [ih, h1]
        simp
    · rw [if_neg hv] at ih ⊢
      exact ih
theorem Rs_nil : Rs [] := List.Pairwise.nil
theorem risenL_Rs (xs : List S54) : Rs (risenL xs) := setAll_Rs xs [] Rs_nil
theorem risenL_at (v : Int) (xs : List S54) : at_ v (risenL xs) = ((at_ v xs).getLast?).toList := by
  rcases setAll_at v xs [] Rs_nil with h | ⟨h1, h⟩
  · exact h
  · rw [risenL, h, h1]
    rfl
theorem setL_len (l : List S54) (s : S54) : 0 < (setL l s).length ∧ (setL l s).length ≤ l.length + 1 := by
  have := posS_le l s.f0 l.length
  unfold setL
  split
  · rename_i h
    rw [List.length_set]
    omega
  · simp
    omega
theorem setAll_len : ∀ (xs l : List S54), (setAll l xs).length ≤ l.length + xs.length
  | [], l => Nat.le_refl _
  | x :: xs, l => by
    have h1 := setAll_len xs (setL l x)
    have h2 := (setL_len l x).2
    show (setAll (setL l x) xs).length ≤ _
    rw [List.length_cons]
    omega
theorem cK_spec (d : Array S54) (hs : Srt keyP d 0 d.size) : ∀ i, i ≤ d.size → Rs (cK d i) ∧ (∀ x ∈ cK d i, ∃ j, j < i ∧ d[j]! = x) ∧ ∀ v, at_ v (cK d i) = ((at_ v (segA d 0 i)).head?).toList
  | 0, _ => ⟨Rs_nil, (fun x h => by cases h), fun v => rfl⟩
  | i + 1, hi => by
    obtain ⟨h1, h2, h3⟩ := cK_spec d hs i (by omega)
    have hseg : segA d 0 (i + 1) = segA d 0 i ++ [d[i]!] := by rw [seg_cat d (Nat.zero_le i) (Nat.le_succ i), seg_one]
    rw [cK]
    by_cases hc : i = 0 ∨ d[i]!.f0 ≠ d[i - 1]!.f0
    · rw [if_pos hc]
      have hlt : ∀ j, j < i → d[j]!.f0 < d[i]!.f0 := fun j hj => by
        have k1 : keyP d[i - 1]! ≤ keyP d[i]! := hs (i - 1) i (Nat.zero_le _) (by omega) (by omega)
        have k2 : keyP d[j]! ≤ keyP d[i - 1]! := by
          rcases Nat.lt_or_ge j (i - 1) with k | k
          · exact hs j (i - 1) (Nat.zero_le _) k (by omega)
          · rw [show j = i - 1 from by omega]; exact Int.le_refl _
        have k3 : d[i]!.f0 ≠ d[i - 1]!.f0 := by
          rcases hc with hc | hc
          · omega
          · exact hc
        unfold keyP at k1 k2
        omega
      refine ⟨Rs_mid (b := []) (fun x hx => ?_) (fun x hx => by cases hx) h1 Rs_nil, fun x hx => ?_, fun v => ?_⟩
      · obtain ⟨j, hj, rfl⟩ := h2 x hx
        exact hlt j hj
      · rcases List.mem_append.1 hx with hx | hx
        · obtain ⟨j, hj, he⟩ := h2 x hx
          exact ⟨j, by omega, he⟩
        · rw [List.mem_singleton] at hx
          exact ⟨i, by omega, hx.symm⟩
      · rw [hseg, at_append, at_append, h3, at_cons]
        by_cases hv : d[i]!.f0 = v
        · rw [if_pos hv]
          have hn : at_ v (segA d 0 i) = [] := at_none (fun x hx => by
            obtain ⟨t, _, ht, rfl⟩ := mem_seg.1 hx
            have := hlt t ht
            omega)
          rw [hn]
          rfl
        · rw [if_neg hv]
          simp [at_]
    · rw [if_neg hc]
      have hc1 : 0 < i := by rcases Nat.eq_zero_or_pos i with h | h; exact absurd (.inl h) hc; exact h
      have hc2 : d[i]!.f0 = d[i - 1]!.f0 := Classical.not_not.1 (fun h => hc (.inr h))
      refine ⟨h1, fun x hx => ?_, fun v => ?_⟩
      · obtain ⟨j, hj, he⟩ := h2 x hx
        exact ⟨j, by omega, he⟩
      · rw [h3, hseg, at_append, at_cons]
        by_cases hv : d[i]!.f0 = v
        · have hm : d[i - 1]! ∈ at_ v (segA d 0 i) := List.mem_filter.2 ⟨mem_seg.2 ⟨i - 1, Nat.zero_le _, by omega, rfl⟩, by simp; omega⟩
          match hs2 : at_ v (segA d 0 i) with
          | [] => rw [hs2] at hm; cases hm
          | y :: r => rfl
        · rw [if_neg hv]
          simp [at_]
theorem risen_done (d d' : Array S54) (hm : MG keyP d.reverse 0 d.reverse.size d') (hs : Srt keyP d' 0 d'.size) : cK d' d'.size = risenL d.toList := by
  obtain ⟨h1, _, h3⟩ := cK_spec d' hs d'.size (Nat.le_refl _)
  refine Rs_ext _ _ h1 (risenL_Rs _) (fun v => ?_)
  rw [h3, risenL_at]
  have e := hm.2.2 v
  rw [← hm.1] at e
  rw [hm.1] at e
  have e2 : at_ v (segA d' 0 d'.size) = at_ v d.toList.reverse := by
    have h4 := hm.2.2 v
    rw [seg_all, ← hm.1, seg_all] at h4
    rw [seg_all]
    have h5 : at_ v d'.toList = at_ v d.reverse.toList := h4
    rw [h5, Array.toList_reverse]
  rw [e2]
  unfold at_
  rw [List.filter_reverse, List.head?_reverse]
end Go.Proofs.YtbgmnmjokdfmlaaDoor.PA
namespace Go.Proofs.YtbgmnmjokdfmlaaDoor.PA
open Go.RowKit Go.Proofs.YtbgmnmjokdfmlaaDoor.G Go.Proofs.YtbgmnmjokdfmlaaDoorW.PrintWords Go.Proofs.YtbgmnmjokdfmlaaDoorW.PrintLast Go.Proofs.YtbgmnmjokdfmlaaDoorW.PrintMore
set_option linter.unusedVariables false
set_option linter.unusedSimpArgs false
def flatP (l : List S54) : List Value := l.flatMap encJ
theorem flatP_cons (x : S54) (l : List S54) : flatP (x :: l) = .int .i64 x.f0 :: .int .u64 x.f1 :: flatP l := rfl
theorem flatP_len : ∀ (l : List S54), (flatP l).length = l.length * 2
  | [] => rfl
  | x :: l => by rw [flatP_cons, List.length_cons, List.length_cons, flatP_len l, List.length_cons]; omega
theorem flatP_get : ∀ (l : List S54) (j : Nat), j < l.length * 2 → (flatP l)[j]? = (encJ (l.getD (j / 2) z54))[j % 2]?
  | [], j, h => by simp at h
  | x :: l, 0, _ => rfl
  | x :: l, 1, _ => rfl
  | x :: l, j + 2, h => by
    rw [flatP_cons, List.getElem?_cons_succ, List.getElem?_cons_succ, flatP_get l j (by rw [List.length_cons] at h; omega), show (j + 2) / 2 = j / 2 + 1 from by omega, show (j + 2) % 2 = j % 2 from by omega]
    rfl
theorem getD_arr (d : Array S54) (i : Nat) : d.toList.getD i z54 = d[i]! := by
  rw [List.getD_eq_getElem?_getD, getElem!_def]
  simp only [Array.getElem?_toList]
  cases d[i]? <;> rfl
theorem encJ_get (x : S54) (j : Nat) (h : j < 2) : (encJ x)[j]? = some (encJ x)[j]! := by
  rcases (show j = 0 ∨ j = 1 from by omega) with rfl | rfl <;> rfl
theorem own_row {w : World} {base g cap : Nat} {l : List S54} (h : w.ownsRow base 54 2 (.slice (some ⟨g, 0, none⟩) l.length cap) l.length (flatP l)) (h0 : 0 < l.length) : Go.Proofs.RowK encJ 2 w g 0 l.toArray ∧ l.length ≤ cap ∧ cap ≤ maxLen ∧ base ≤ g ∧ ∃ cur, w.heap[g]? = some (.cells cur 54 (0, 0)) ∧ cur.size = cap * 2 := by
  rcases h.2 with ⟨_, h1⟩ | ⟨g', cap', cur, he, hb, hh, h1, h2, h3, h4⟩
  · omega
  · have he' : g = g' ∧ cap = cap' := by simpa using he
    obtain ⟨rfl, rfl⟩ := he'
    refine ⟨⟨encJ_len, encJ_one, fun j hj => ?_, blk_lt hh⟩, h1, h2, hb, cur, hh, h3⟩
    rw [Sort.size_flatK] at hj
    have hj' : j < l.length * 2 := by simpa using hj
    refine ⟨?_, blk_frozen hh _⟩
    rw [Nat.zero_add, blk_cell hh, Sort.get_flatK _ _ _ _ hj]
    have e1 : cur[j]? = (flatP l)[j]? := by
      rw [← h4, List.getElem?_take, if_pos hj']
      simp
    rw [e1, flatP_get l j hj', encJ_get _ _ (Nat.mod_lt _ (by omega))]
    have e2 : l.getD (j / 2) z54 = l.toArray[j / 2]! := by rw [← getD_arr]
    rw [e2]
    rfl
theorem swk_block {w W : World} {g : Nat} {d : Array S54} (h : SWK encJ 2 w g 0 d W) (hg : g < w.heap.size) {cur : Array Value} (hh : w.heap[g]? = some (.cells cur 54 (0, 0))) :
    w.grownBy W (some g) ∧ ∃ cur', W.heap[g]? = some (.cells cur' 54 (0, 0)) ∧ cur'.size = cur.size := by
  obtain ⟨n, os, rfl⟩ := h
  refine ⟨⟨rfl, rfl, rfl, by unfold Go.Proofs.sortWorldK Sort.putRowK Sort.grow; simp [Sort.ahead], fun k hk hne => ?_⟩, ?_⟩
  · unfold Go.Proofs.sortWorldK Sort.putRowK
    rw [Sort.heap_grow_old _ _ (by simp; exact hk)]
    show (Sort.mapBlock _ g _).heap[k]? = _
    unfold Sort.mapBlock
    simp [Array.getElem?_modify, Sort.ahead]
    intro e
    exact absurd (by rw [e]) hne
  · unfold Go.Proofs.sortWorldK Sort.putRowK
    rw [Sort.heap_grow_old _ _ (by simp; exact hg)]
    show ∃ cur', (Sort.mapBlock _ g _).heap[g]? = _ ∧ _
    unfold Sort.mapBlock
    have hh' : (Sort.ahead w n).heap[g]? = some (.cells cur 54 (0, 0)) := hh
    refine ⟨_, by rw [Array.getElem?_modify, if_pos rfl, hh']; rfl, ?_⟩
    simp [Sort.putCells]
theorem swk_owns {w W : World} {base g cap m : Nat} {d : Array S54} (h : SWK encJ 2 w g 0 d W) (hg : g < w.heap.size) {cur : Array Value} (hh : w.heap[g]? = some (.cells cur 54 (0, 0))) (hc : cur.size = cap * 2) {d0 : Array S54} (R : Go.Proofs.RowK encJ 2 w g 0 d0) (hs : d.size = d0.size) (hb : base ≤ g) (hm : m ≤ d.size) (hd : d.size ≤ cap) (hx : cap ≤ maxLen) :
    W.ownsRow base 54 2 (.slice (some ⟨g, 0, none⟩) m cap) m (flatP (segA d 0 m)) := by
  obtain ⟨_, cur', h1, h2⟩ := swk_block h hg hh
  have hl : (segA d 0 m).length = m := by rw [seg_len, Nat.sub_zero]
  refine ⟨by rw [flatP_len, hl], .inr ⟨g, cap, cur', rfl, hb, h1, by omega, hx, by omega, ?_⟩⟩
  apply List.ext_getElem?
  intro j
  by_cases hj : j < m * 2
  · have hH := h.holds R.hblk R.hH hs
    have hc2 := (hH j (by rw [Sort.size_flatK]; omega)).1
    rw [Nat.zero_add, blk_cell h1, Sort.get_flatK _ _ _ _ (by omega)] at hc2
    rw [List.getElem?_take, if_pos hj, flatP_get _ _ (by rw [hl]; exact hj), encJ_get _ _ (Nat.mod_lt _ (by omega))]
    have e2 : (segA d 0 m).getD (j / 2) z54 = d[j / 2]! := by
      rw [List.getD_eq_getElem?_getD]
      unfold segA
      simp [show j / 2 < m from by omega]
    rw [e2]
    simpa using hc2
  · rw [List.getElem?_eq_none (by rw [List.length_take]; omega), List.getElem?_eq_none (by rw [flatP_len, hl]; omega)]
set_option maxHeartbeats 4000000 in
theorem chunkRisen.calls (base g cap : Nat) (l : List S54) (w : World) (h : w.ownsRow base 54 2 (.slice (some ⟨g, 0, none⟩) l.length cap) l.length (flatP l)) (h0 : 0 < l.length) (hl : l.length ≤ 1000000) :
    Calls Tryd.prog 53 #[.slice (some ⟨g, 0, none⟩) l.length cap] w fun e w' => e = .returned (.slice (some ⟨g, 0, none⟩) (risenL l).length cap) ∧ w'.ownsRow base 54 2 (.slice (some ⟨g, 0, none⟩) (risenL l).length cap) (risenL l).length (flatP (risenL l)) ∧ w.grownBy w' (some g) := by
  obtain ⟨R, h1, h2, hb, cur, hh, hc⟩ := own_row h h0
  have HR := Aside0.mk R
  have HH := Aside0.mk (And.intro hh hc)
  have hsz : l.toArray.size = l.length := by simp
  have C1 := revP.calls g 0 cap l.toArray w R (by rw [hsz]; omega)
  rw [hsz] at C1
  have HC1 := Aside0.mk C1
  have HSZ := Aside0.mk hsz
  have HSR : Aside0 (l.toArray.reverse.size = l.length) := ⟨by simp⟩
  have HX := Aside0.mk (show g < w.heap.size from R.hblk)
  have HCP := Aside0.mk (And.intro h1 (And.intro h2 hb))
  have hl2 : l.length < 1152921504606846976 := by omega
  clear h hh hc R C1 hsz h1 h2 hb h0
  generalize hn : l.length = n at *
  have HN := Aside0.mk hn
  clear hn
  go_enter Tryd.func53, Tryd.ntmps53
  go_upto_region 2 with (first | (go_at_call 82; refine HC1.out.mono ?_; rintro _ w1 ⟨rfl, hS⟩; have S1 : Aside0 (SWK encJ 2 w g 0 l.toArray.reverse w1) := ⟨hS⟩; clear hS))
  have hc2 := sortStable.calls 83 cfP keyP cfP_key cmpP.enters cmpP.lays g 0 cap l.toArray.reverse w1 (SWK.row S1.out HR.out (by rw [HSR.out, HSZ.out])) (by rw [HSR.out]; exact hl2)
  rw [HSR.out] at hc2
  have HC2 := Aside0.mk hc2
  clear hc2
  go_upto_region 4 with (first | (go_at_call 85; refine HC2.out.mono ?_; rintro _ w2 ⟨rfl, d2, hS, hm, hs⟩; have S2 : Aside0 (SWK encJ 2 w1 g 0 d2 w2) := ⟨hS⟩; have M2 := Aside0.mk (And.intro hm hs); clear hS hm hs))
  have HS2 : Aside0 (d2.size = n) := ⟨M2.out.1.1.trans HSR.out⟩
  have S3 : Aside0 (SWK encJ 2 w g 0 d2 w2) := Aside0.mk (SWK.trans S1.out HX.out S2.out M2.out.1.1)
  have hc3 := compactP.calls g 0 cap d2 w2 (SWK.row S3.out HR.out (by rw [HS2.out, HSZ.out])) (by rw [HS2.out]; exact HCP.out.1) (by rw [HS2.out]; exact hl2)
  have he : cK d2 d2.size = risenL l := by
    have := risen_done l.toArray d2 (by rw [HSR.out]; exact M2.out.1) (by rw [HS2.out]; exact M2.out.2)
    rw [this]
  rw [he, HS2.out] at hc3
  have HC3 := Aside0.mk hc3
  have HE := Aside0.mk (show (risenL l).length ≤ n from by rw [← he]; exact Nat.le_trans (cK_le d2 _) (by rw [HS2.out]; exact Nat.le_refl _))
  clear hc3 he
  go_wp2_with (first | (go_at_call 86; refine HC3.out.mono ?_; rintro _ w3 ⟨rfl, d3, hS, hs3, hseg⟩; have S4 : Aside0 (SWK encJ 2 w2 g 0 d3 w3) := ⟨hS⟩; have M4 := Aside0.mk (And.intro hs3 hseg); clear hS hs3 hseg))
  go_ret
  have S5 := SWK.trans S3.out HX.out S4.out (M4.out.1.trans HS2.out.symm)
  refine ⟨rfl, ?_, (swk_block S5 HX.out HH.out.1).1⟩
  have := swk_owns S5 (base := base) (m := (risenL l).length) (cap := cap) HX.out HH.out.1 HH.out.2 HR.out (by rw [M4.out.1, HSZ.out]) HCP.out.2.2 (by rw [M4.out.1]; exact HE.out) (by rw [M4.out.1]; exact HCP.out.1) HCP.out.2.1
  rw [M4.out.2] at this
  exact this
end Go.Proofs.YtbgmnmjokdfmlaaDoor.PA
namespace Go.Proofs.YtbgmnmjokdfmlaaDoor.PA
open Go.RowKit Go.Proofs.YtbgmnmjokdfmlaaDoor.G Go.Proofs.YtbgmnmjokdfmlaaDoorW.PrintWords Go.Proofs.YtbgmnmjokdfmlaaDoorW.PrintLast Go.Proofs.YtbgmnmjokdfmlaaDoorW.PrintMore
set_option linter.unusedVariables false
set_option linter.unusedSimpArgs false
def insG (G : List S60) (i : Nat) (t : List S65) : List S60 := G.take i ++ [⟨t, []⟩] ++ G.drop i
def addG (G : List S60) (i : Nat) (ss : List S54) : List S60 := G.set i ⟨(rd_T60 G (i : Int)).f0, (rd_T60 G (i : Int)).f1 ++ ss⟩
def hasG (G : List S60) (t : List S65) : Bool := decide (posB G t < G.length) && decide (cmpL (rd_T60 G (posB G t : Int)).f0 t = 0)
def putG (G : List S60) (t : List S65) : List S60 := if hasG G t = true then G else insG G (posB G t) t
def stepG (G : List S60) (s : S60) : List S60 := if s.f1.length = 0 then G else addG (putG G s.f0) (posB G s.f0) s.f1
def groupsL (l : List S60) : List S60 := l.foldl stepG []
def joinL (l : List S60) : List S60 := (groupsL l).map (fun x => ⟨x.f0, risenL x.f1⟩)
theorem groupsL_snoc (l : List S60) (x : S60) : groupsL (l ++ [x]) = stepG (groupsL l) x := by simp [groupsL, List.foldl_append]
theorem rd_getElem {l : List S60} {i : Nat} (h : i < l.length) : rd_T60 l (i : Int) = l[i] := by simp [rd_T60, List.getD_eq_getElem?_getD, List.getElem?_eq_getElem h]
theorem hasG_lt {G : List S60} {t : List S65} (h : hasG G t = true) : posB G t < G.length ∧ (rd_T60 G (posB G t : Int)).f0 = t := by
  unfold hasG at h
  rw [Bool.and_eq_true, decide_eq_true_iff, decide_eq_true_iff] at h
  exact ⟨h.1, (cmpL_eq0 _ _).1 h.2⟩
theorem putG_lt (G : List S60) (t : List S65) : posB G t < (putG G t).length ∧ (rd_T60 (putG G t) (posB G t : Int)).f0 = t := by
  unfold putG
  by_cases h : hasG G t = true
  · rw [if_pos h]; exact hasG_lt h
  · rw [if_neg h]
    have hp := posB_le G t
    have hl : posB G t < (insG G (posB G t) t).length := by unfold insG; simp; omega
    refine ⟨hl, ?_⟩
    rw [rd_getElem hl]
    unfold insG at hl ⊢
    rw [List.getElem_append_left (by simp; omega), List.getElem_append_right (by simp; omega)]
    simp
theorem SrtL_insG {G : List S60} (h : SrtL G) {t : List S65} (hn : hasG G t = false) : SrtL (insG G (posB G t) t) := by
  have hp := posB_le G t
  have hgt : ∀ i, posB G t ≤ i → (hi : i < G.length) → cmpL t G[i].f0 < 0 := fun i h1 hi => by
    have h0 := posB_at G t (by omega)
    have h2 : cmpL (rd_T60 G (posB G t : Int)).f0 t ≠ 0 := fun e => by
      unfold hasG at hn
      rw [e] at hn
      simp at hn
      omega
    have h3 : cmpL t (rd_T60 G (posB G t : Int)).f0 < 0 := by rw [cmpL_swap]; omega
    rcases Nat.lt_or_eq_of_le h1 with h4 | h4
    · have h5 := SrtL_get h h4 hi
      rw [rd_getElem hi] at h5
      exact cmpL_trans _ _ _ h3 h5
    · rw [← rd_getElem hi, ← h4]
      exact h3
  unfold insG
  unfold SrtL at h ⊢
  have hh := h
  rw [← List.take_append_drop (posB G t) G] at hh
  obtain ⟨p1, p2, p3⟩ := List.pairwise_append.1 hh
  refine List.pairwise_append.2 ⟨List.pairwise_append.2 ⟨p1, List.pairwise_singleton _ _, fun a ha b hb => ?_⟩, p2, fun a ha b hb => ?_⟩
  · rw [List.mem_singleton] at hb
    subst hb
    obtain ⟨i, hi, rfl⟩ := List.mem_iff_getElem.1 ha
    rw [List.length_take] at hi
    rw [List.getElem_take]
    have := posB_lt G t i (by omega)
    rw [rd_getElem (by omega)] at this
    exact this
  · rcases List.mem_append.1 ha with ha | ha
    · exact p3 a ha b hb
    · rw [List.mem_singleton] at ha
      subst ha
      obtain ⟨i, hi, rfl⟩ := List.mem_iff_getElem.1 hb
      rw [List.length_drop] at hi
      rw [List.getElem_drop]
      exact hgt _ (by omega) (by omega)
theorem SrtL_putG {G : List S60} (h : SrtL G) (t : List S65) : SrtL (putG G t) := by
  unfold putG
  by_cases hh : hasG G t = true
  · rw [if_pos hh]; exact h
  · rw [if_neg hh]; exact SrtL_insG h (by simpa using hh)
theorem SrtL_map {G H : List S60} (h : SrtL G) (he : H.map (·.f0) = G.map (·.f0)) : SrtL H := by
  have h1 : (G.map (·.f0)).Pairwise (fun a b => cmpL a b < 0) := List.pairwise_map.2 h
  rw [← he] at h1
  exact List.pairwise_map.1 h1
theorem addG_f0 (G : List S60) (i : Nat) (ss : List S54) : (addG G i ss).map (·.f0) = G.map (·.f0) := by
  unfold addG
  rw [List.map_set]
  apply List.ext_getElem
  · simp
  · intro j h1 h2
    rw [List.getElem_set]
    split
    · rename_i hij
      subst hij
      simp at h2 ⊢
      rw [rd_getElem h2]
    · rfl
theorem SrtL_stepG {G : List S60} (h : SrtL G) (s : S60) : SrtL (stepG G s) := by
  unfold stepG
  split
  · exact h
  · exact SrtL_map (SrtL_putG h s.f0) (addG_f0 _ _ _)
theorem SrtL_nil : SrtL [] := List.Pairwise.nil
theorem SrtL_fold : ∀ (l G : List S60), SrtL G → SrtL (l.foldl stepG G)
  | [], _, h => h
  | x :: l, G, h => SrtL_fold l _ (SrtL_stepG h x)
theorem SrtL_groups (l : List S60) : SrtL (groupsL l) := SrtL_fold l [] SrtL_nil
theorem putG_len (G : List S60) (t : List S65) : (putG G t).length ≤ G.length + 1 := by
  unfold putG insG
  split
  · omega
  · simp; omega
theorem stepG_len (G : List S60) (s : S60) : (stepG G s).length ≤ G.length + 1 := by
  unfold stepG
  split
  · omega
  · unfold addG; rw [List.length_set]; exact putG_len G s.f0
theorem putG_mem {G : List S60} {t : List S65} {x : S60} (h : x ∈ putG G t) : x ∈ G ∨ x = ⟨t, []⟩ := by
  unfold putG at h
  split at h
  · exact .inl h
  · unfold insG at h
    rcases List.mem_append.1 h with h | h
    · rcases List.mem_append.1 h with h | h
      · exact .inl (List.mem_of_mem_take h)
      · exact .inr (by simpa using h)
    · exact .inl (List.mem_of_mem_drop h)
theorem putG_other (G : List S60) (t : List S65) (j : Nat) (hj : j < (putG G t).length) (hne : posB G t ≠ j) : (putG G t)[j] ∈ G := by
  have hp := posB_le G t
  unfold putG at hj ⊢
  by_cases hh : hasG G t = true
  · simp only [if_pos hh] at hj ⊢
    exact List.getElem_mem hj
  · simp only [if_neg hh] at hj ⊢
    unfold insG at hj ⊢
    rcases Nat.lt_or_ge j (posB G t) with h | h
    · rw [List.getElem_append_left (by simp; omega), List.getElem_append_left (by simp; omega), List.getElem_take]
      exact List.getElem_mem _
    · rw [List.getElem_append_right (by simp; omega), List.getElem_drop]
      exact List.getElem_mem _
theorem stepG_all {P : S60 → Prop} {G : List S60} {s : S60} (h : ∀ x ∈ G, P x) (h0 : s.f1.length ≠ 0 → P ⟨s.f0, s.f1⟩) (h1 : s.f1.length ≠ 0 → ∀ x ∈ G, x.f0 = s.f0 → P ⟨s.f0, x.f1 ++ s.f1⟩) : ∀ x ∈ stepG G s, P x := by
  intro x hx
  unfold stepG at hx
  split at hx
  · exact h x hx
  · rename_i hs
    obtain ⟨hp, hf⟩ := putG_lt G s.f0
    obtain ⟨j, hj, rfl⟩ := List.mem_iff_getElem.1 hx
    have hj' : j < (putG G s.f0).length := by unfold addG at hj; rw [List.length_set] at hj; exact hj
    clear hx
    unfold addG at hj ⊢
    rw [List.getElem_set]
    split
    · rename_i hij
      have hm : rd_T60 (putG G s.f0) (posB G s.f0 : Int) ∈ putG G s.f0 := by rw [rd_getElem hp]; exact List.getElem_mem hp
      rcases putG_mem hm with hm | hm
      · rw [hf]; exact h1 hs _ hm hf
      · rw [hf, hm]; exact h0 hs
    · rename_i hij
      exact h _ (putG_other G s.f0 j hj' hij)
theorem fold_all {P : S60 → Prop} : ∀ (l G : List S60), (∀ x ∈ G, P x) → (∀ s ∈ l, s.f1.length ≠ 0 → P ⟨s.f0, s.f1⟩) → (∀ s ∈ l, s.f1.length ≠ 0 → ∀ a, P ⟨s.f0, a⟩ → P ⟨s.f0, a ++ s.f1⟩) → ∀ x ∈ l.foldl stepG G, P x
  | [], _, h, _, _ => h
  | s :: l, G, h, h0, h1 => fold_all l _ (stepG_all h (fun hs => h0 s (List.mem_cons_self ..) hs) (fun hs x hx hf => by
      have := h1 s (List.mem_cons_self ..) hs x.f1
      rw [← hf] at this ⊢
      exact this (h x hx))) (fun x hx => h0 x (List.mem_cons_of_mem _ hx)) (fun x hx => h1 x (List.mem_cons_of_mem _ hx))
theorem groups_pos (l : List S60) : ∀ x ∈ groupsL l, x.f1.length ≠ 0 := fold_all (P := fun x => x.f1.length ≠ 0) l [] (fun x hx => by cases hx) (fun s _ hs => hs) (fun s _ hs a ha => by show (a ++ s.f1).length ≠ 0; rw [List.length_append]; omega)
theorem groups_lab (l : List S60) : ∀ x ∈ groupsL l, ∃ s ∈ l, x.f0 = s.f0 := fold_all (P := fun x => ∃ s ∈ l, x.f0 = s.f0) l [] (fun x hx => by cases hx) (fun s hs _ => ⟨s, hs, rfl⟩) (fun s hs _ a ha => ha)
def tot : List S60 → Nat
  | [] => 0
  | x :: l => x.f1.length + tot l
theorem tot_snoc : ∀ (l : List S60) (x : S60), tot (l ++ [x]) = tot l + x.f1.length
  | [], x => by simp [tot]
  | y :: l, x => by rw [List.cons_append, tot, tot, tot_snoc l x]; omega
theorem tot_le_take (l : List S60) : ∀ k, tot (l.take k) ≤ tot l := by
  induction l with
  | nil => intro k; simp
  | cons x l ih =>
    intro k
    cases k with
    | zero => simp [tot]
    | succ k => rw [List.take_succ_cons, tot, tot]; have := ih k; omega
theorem groups_len (l : List S60) : ∀ k, k ≤ l.length → (groupsL (l.take k)).length ≤ k ∧ ∀ x ∈ groupsL (l.take k), x.f1.length ≤ tot (l.take k)
  | 0, _ => by simp [groupsL]
  | k + 1, hk => by
    obtain ⟨h1, h2⟩ := groups_len l k (by omega)
    rw [List.take_succ_eq_append_getElem hk, groupsL_snoc, tot_snoc]
    refine ⟨Nat.le_trans (stepG_len _ _) (by omega), stepG_all (fun x hx => by have := h2 x hx; omega) (fun _ => by show l[k].f1.length ≤ _; omega) (fun _ x hx _ => by show (x.f1 ++ l[k].f1).length ≤ _; rw [List.length_append]; have := h2 x hx; omega)⟩
theorem groups_len' (l : List S60) : (groupsL l).length ≤ l.length ∧ ∀ x ∈ groupsL l, x.f1.length ≤ tot l := by
  have := groups_len l l.length (Nat.le_refl _)
  rwa [List.take_length] at this
end Go.Proofs.YtbgmnmjokdfmlaaDoor.PA
namespace Go.Proofs.YtbgmnmjokdfmlaaDoor.PA
open Go.RowKit Go.Proofs.YtbgmnmjokdfmlaaDoor.G Go.Proofs.YtbgmnmjokdfmlaaDoorW.PrintWords Go.Proofs.YtbgmnmjokdfmlaaDoorW.PrintLast Go.Proofs.YtbgmnmjokdfmlaaDoorW.PrintMore
set_option linter.unusedVariables false
set_option linter.unusedSimpArgs false
theorem k54_JKM {w w' : World} {base : Nat} {ok : Nat → Prop} {x : S54} {cs : List Value} (h : k54.K w x cs) : k54.M w' base ok x cs := by
  rw [k54_open h]
  exact k54_mkM _ _ _ x
theorem groups_take (l : List S60) (k : Nat) (hk : k < l.length) : groupsL (l.take (k + 1)) = stepG (groupsL (l.take k)) (rd_T60 l (k : Int)) := by
  rw [List.take_succ_eq_append_getElem hk, groupsL_snoc, rd_getElem hk]
theorem reps_smp : ∀ {w : World} {base : Nat} {ok : Nat → Prop} (l : List S54) (inner : List Value), Reps (k54.M w base ok) 2 l inner → inner = flatP l
  | _, _, _, [], inner, h => List.eq_nil_of_length_eq_zero (by simpa using h.1)
  | w, base, ok, x :: l, inner, h => by
    have h0 := h.2 0 x rfl
    rw [Nat.zero_mul, List.drop_zero] at h0
    have ih := reps_smp (w := w) (base := base) (ok := ok) l (inner.drop 2) ⟨by rw [List.length_drop, h.1, List.length_cons]; omega, fun j p hj => by
      have := h.2 (j + 1) p (by simpa using hj)
      rw [List.drop_drop]
      rwa [show (j + 1) * 2 = 2 + j * 2 from by omega] at this⟩
    rw [flatP_cons, ← ih, ← List.take_append_drop 2 inner, k54_openM h0]
    rfl
theorem smp_reps {w : World} {base : Nat} {ok : Nat → Prop} : ∀ (l : List S54), Reps (k54.M w base ok) 2 l (flatP l)
  | [] => Reps.none _ _
  | x :: l => Reps.front (R := k54.M w base ok) (c := [.int .i64 x.f0, .int .u64 x.f1]) (k54_mkM w base ok x) rfl (smp_reps l) rfl
theorem rs_own {w : World} {base : Nat} {v : Value} {l : List S54} (h : RS w base v l) : w.ownsRow base 54 2 v l.length (flatP l) := by
  obtain ⟨_, inner, ho, hr⟩ := h
  rw [← reps_smp l inner hr]
  exact ho
theorem own_rs {w : World} {base : Nat} {v : Value} {l : List S54} (h : w.ownsRow base 54 2 v l.length (flatP l)) : RS w base v l := ⟨fun _ _ => trivial, flatP l, h, smp_reps l⟩
def ris (x : S60) : S60 := ⟨x.f0, risenL x.f1⟩
def mixJ (G : List S60) (j : Nat) : List S60 := (G.take j).map ris ++ G.drop j
theorem mixJ_at (G : List S60) (j : Nat) (h : j < G.length) : (mixJ G j)[j]? = some G[j] := by
  unfold mixJ
  rw [List.getElem?_append_right (by simp; omega)]
  simp
  rw [Nat.min_eq_left (by omega), Nat.sub_self, Nat.add_zero, List.getElem?_eq_getElem h]
theorem mixJ_set (G : List S60) (j : Nat) (h : j < G.length) : (mixJ G j).set j (ris G[j]) = mixJ G (j + 1) := by
  unfold mixJ
  rw [List.set_append_right _ _ (by simp; omega), List.take_succ_eq_append_getElem h, List.map_append]
  simp [Nat.min_eq_left (Nat.le_of_lt h)]
  rw [List.drop_eq_getElem_cons h]
  rfl
set_option maxHeartbeats 16000000 in
set_option maxRecDepth 1000000 in
theorem join.calls (A : Option Addr) (c n : Nat) (l : List S60) (w : World) (hn : l.length = n) (hr : Kd.C k60 w A n l) (hlen : n ≤ 100000) (htot : tot l ≤ 1000000) (hlab : ∀ x ∈ l, x.f0.length ≤ 1000000) :
    Calls Tryd.prog 25 #[.slice A n c] w fun e w' => ∃ (A' : Option Addr) (c' : Nat), e = .returned (.slice A' (joinL l).length c') ∧ (joinL l).length ≤ c' ∧ Kd.C k60 w' A' (joinL l).length (joinL l) ∧ Below w.heap.size w w' := by
  subst hn
  have mixed : Tryd.prog.follows .mixedOrders = true := by kernel_rfl
  have HR := Aside0.mk hr
  have HT := Aside0.mk htot
  have HLAB := Aside0.mk hlab
  clear hr htot hlab
  go_enter Tryd.func25, Tryd.ntmps25
  go_wp2
  go_loopg [3, 11] l.length (fun kx s3 s11 wr => ∃ (k : Nat) (v : Value) (rs : List Rec), s11 = .int .i64 k ∧ s3 = v ∧ k ≤ l.length ∧ l.length - k ≤ kx ∧ Aside0 (Lay wr w.heap.size v rs) ∧ Aside0 (rs.map (·.x) = groupsL (l.take k)) ∧ Aside0 (Below w.heap.size w wr))
  case atStart => exact ⟨0, _, [], rfl, rfl, Nat.zero_le _, by omega, ⟨Lay.nil _ _⟩, ⟨rfl⟩, ⟨Below.refl _ _⟩⟩
  case round =>
    obtain ⟨k, v, rs, rfl, rfl, hk, hkx, HL, HM, HB⟩ := hrel
    by_cases hlt : k < l.length
    · obtain ⟨ad, A0, c0, A1, c1, rfl, x0, x1, l0, g0, l1, g1⟩ := at_T60 HR.out (k : Int) (by omega) (by omega)
      rw [Int.toNat_natCast] at x0 x1
      replace x0 := pw_cell_below HB.out x0
      replace x1 := pw_cell_below HB.out x1
      have hkz : (k : Int) < (l.length : Int) := by omega
      have HGT := Aside0.mk (groups_take l k hlt)
      have HSL : Aside0 ((rd_T60 l (k : Int)).f0.length ≤ 1000000 ∧ tot (l.take k) + (rd_T60 l (k : Int)).f1.length ≤ 1000000) := ⟨by
        rw [rd_getElem hlt]
        refine ⟨HLAB.out _ (List.getElem_mem hlt), ?_⟩
        have h1 := tot_le_take l (k + 1)
        rw [List.take_succ_eq_append_getElem hlt, tot_snoc] at h1
        exact Nat.le_trans h1 HT.out⟩
      have HGL := Aside0.mk (groups_len l k hk)
      have G0 := Aside0.mk g0
      have G1 := Aside0.mk g1
      have L0C := Aside0.mk l0
      clear l0 g0 l1 g1
      generalize hs : rd_T60 l (k : Int) = s at *
      have HS := Aside0.mk hs
      clear hs
      by_cases hz : s.f1.length = 0
      · have HZ := Aside0.mk hz
        have hzb : ((s.f1.length : Int) == 0) = true := by rw [hz]; rfl
        have hzz : (s.f1.length : Int) = 0 := by omega
        clear hz
        have HL1 := Aside0.mk (HL.out.below (below_alloc (Below.refl _ _) (.cells #[.slice A0 s.f0.length c0, .slice A1 s.f1.length c1] 60 (0, 0))))
        have HB1 := Aside0.mk (below_alloc HB.out (.cells #[.slice A0 s.f0.length c0, .slice A1 s.f1.length c1] 60 (0, 0)))
        generalize s.f0.length = L0 at x0 HL1 HB1
        generalize s.f1.length = L1 at x1 HL1 HB1 hzb hzz
        go_wp2
        go_roundg (l.length - (k + 1))
        case measure => omega
        case rel => exact ⟨k + 1, _, rs, by go_num, rfl, by omega, Nat.le_refl _, HL1, ⟨by rw [HM.out, HGT.out, stepG, if_pos HZ.out]⟩, HB1⟩
      · have HZ := Aside0.mk hz
        have hzb : ((s.f1.length : Int) == 0) = false := beq_eq_false_iff_ne.2 (by omega)
        have hzz : ¬ (s.f1.length : Int) = 0 := by omega
        clear hz
        have HL1 := Aside0.mk (HL.out.below (below_alloc (Below.refl _ _) (.cells #[.slice A0 s.f0.length c0, .slice A1 s.f1.length c1] 60 (0, 0))))
        have HB1 := Aside0.mk (below_alloc HB.out (.cells #[.slice A0 s.f0.length c0, .slice A1 s.f1.length c1] 60 (0, 0)))
        have HX1 := Aside0.mk (blk_new wr (.cells #[.slice A0 s.f0.length c0, .slice A1 s.f1.length c1] 60 (0, 0)))
        have HNB : Aside0 (some wr.heap.size ≠ u3.ownBlock) := ⟨fun e => by have := Kd.R_lt HL.out.1 _ e.symm; omega⟩
        have HBX := Aside0.mk (show w.heap.size ≤ wr.heap.size from HB.out.size)
        have HF0 : Aside0 (s.f0.length = s.f0.length) := ⟨rfl⟩
        generalize hL0 : s.f0.length = L0 at x0 HL1 HB1 HX1 G0
        generalize hL1 : s.f1.length = L1 at x1 HL1 HB1 HX1 G1 hzb hzz
        have HL0 := Aside0.mk hL0
        have HLL1 := Aside0.mk hL1
        clear hL0 hL1
        go_upto_region 6 with (fail)
        clear HL HB x0 x1
        generalize wr.alloc (.cells #[.slice A0 L0 c0, .slice A1 L1 c1] 60 (0, 0)) = W1 at HL1 HB1 HX1 ⊢
        generalize wr.heap.size = bx at *
        have y0 := blk_cell HX1.out 0
        have y1 := blk_cell HX1.out 1
        obtain ⟨Av, cv, rfl, hcv, hC⟩ := HL1.out.reads
        have HBS := Aside0.mk (binSearch.calls Av A0 cv c0 rs.length L0 (rs.map (·.x)) s.f0 W1 (by rw [List.length_map]) HL0.out hC (Kd.C_below G0.out HB1.out) (by rw [HM.out]; exact SrtL_groups _) (fun x hx => by
          rw [HM.out] at hx
          obtain ⟨q, hq, he⟩ := groups_lab _ x hx
          rw [he]
          exact HLAB.out q (List.mem_of_mem_take hq)) (by have := HGL.out.1; rw [← HM.out, List.length_map] at this; omega))
        have HFB : Aside0 ((decide (posB (rs.map (·.x)) s.f0 < rs.length) && decide (cmpL (rd_T60 (rs.map (·.x)) (posB (rs.map (·.x)) s.f0 : Int)).f0 s.f0 = 0)) = hasG (rs.map (·.x)) s.f0) := ⟨by unfold hasG; rw [List.length_map]⟩
        have HIL : Aside0 (posB (rs.map (·.x)) s.f0 ≤ rs.length) := ⟨by have := posB_le (rs.map (·.x)) s.f0; rwa [List.length_map] at this⟩
        rw [HFB.out] at HBS
        generalize hi : posB (rs.map (·.x)) s.f0 = i at HBS HIL
        generalize hfb : hasG (rs.map (·.x)) s.f0 = fb at HBS
        have HI := Aside0.mk hi
        have HFBV := Aside0.mk hfb
        clear hi hfb hC hcv HFB
        go_upto_if 27 with (first | (go_at_call 49; (with_reducible refine HBS.out.mono ?_); rintro e w2 ⟨rfl, hb⟩; have HB2 := Aside0.mk hb; clear hb))
        have HL2 := Aside0.mk (HL1.out.below HB2.out)
        have HX2 := Aside0.mk (blk_below HX1.out HB2.out)
        have HB2' := Aside0.mk (below_step HB1.out HB2.out)
        clear HL1 HX1 HBS y0 y1
        have y0 := blk_cell HX2.out 0
        have y1 := blk_cell HX2.out 1
        go_cut [3] (fun v3 wx => ∃ rs3 : List Rec, Aside0 (Lay wx w.heap.size v3 rs3) ∧ Aside0 (rs3.map (·.x) = putG (rs.map (·.x)) s.f0) ∧ Aside0 (Below w.heap.size w wx) ∧ Aside0 (wx.heap[bx]? = some (.cells #[.slice A0 L0 c0, .slice A1 L1 c1] 60 (0, 0))))
        case first =>
          cases fb with
          | true =>
            go_wp2_with fail
            go_meet
            exact ⟨rs, HL2, ⟨by rw [putG, if_pos HFBV.out]⟩, HB2', HX2⟩
          | false =>
            have CL := Aside0.mk (CloneL.calls A0 c0 s.f0 L0 w2 HL0.out (by rw [HL0.out]; exact Kd.C_below G0.out HB2'.out) L0C.out HSL.out.1)
            have HRB : Aside0 (rs.length ≤ 1000000) := ⟨by have := HGL.out.1; rw [← HM.out, List.length_map] at this; omega⟩
            go_wp2_with (first | (go_at_call 52; (with_reducible refine CL.out.mono ?_); rintro e w3 ⟨lv, rfl, hR, hb⟩; obtain ⟨Al, cl, rfl⟩ := Kd.R_slice hR; have HRL := Aside0.mk hR; have HB3 := Aside0.mk hb; clear hR hb; have HL3 := Aside0.mk (HL2.out.below HB3.out); have HL4 := Aside0.mk (HL3.out.below (below_alloc (Below.refl _ _) (.cells #[.slice Al s.f0.length cl, .slice none 0 0] 60 (0, 0)))); have HB3' := Aside0.mk (below_alloc (below_step HB2'.out HB3.out) (.cells #[.slice Al s.f0.length cl, .slice none 0 0] 60 (0, 0))); have HN4 : Aside0 (some w3.heap.size ≠ (Value.slice Av rs.length cv).ownBlock) := ⟨fun e => by have := Kd.R_lt HL3.out.1 _ e.symm; omega⟩; have HIN := Aside0.mk (insert.calls w.heap.size rs.length i w3.heap.size (.slice Av rs.length cv) (rs.map cellsR) (.slice Al s.f0.length cl) (.slice none 0 0) (w3.alloc (.cells #[.slice Al s.f0.length cl, .slice none 0 0] 60 (0, 0))) (by rw [List.length_map]) HL4.out.1 HIL.out HRB.out (blk_new w3 _) HN4.out rfl rfl HB3'.out.size)) | (go_at_call 51; (with_reducible refine HIN.out.mono ?_); rintro e w5 ⟨v5, rfl, hR, hg, hat⟩; have HR5 := Aside0.mk hR; have HG5 := Aside0.mk hg; clear hR hg hat))
            go_meet
            have HRL4 : RL (w3.alloc (.cells #[.slice Al s.f0.length cl, .slice none 0 0] 60 (0, 0))) w.heap.size (.slice Al s.f0.length cl) s.f0 := Kd.R_alloc (Kd.R_lower HRL.out HB2'.out.size) _
            have hX3 := blk_alloc (blk_below HX2.out HB3.out) (.cells #[.slice Al s.f0.length cl, .slice none 0 0] 60 (0, 0))
            refine ⟨rs.take i ++ [⟨⟨s.f0, []⟩, .slice Al s.f0.length cl, .slice none 0 0⟩] ++ rs.drop i, ⟨Lay.insert HL4.out HG5.out i ⟨⟨s.f0, []⟩, .slice Al s.f0.length cl, .slice none 0 0⟩ HR5.out (keep_of rfl HRL4 HG5.out (ne_type (by decide) HRL4 HL4.out.1)) (Kd.R_nil _ _ _ _ _) rfl⟩, ⟨?_⟩, ⟨pw_below_grown HB3'.out _ HB3'.out.size HG5.out (fun k hk => HL4.out.base_row k hk)⟩, ⟨blk_grown hX3 HG5.out HNB.out⟩⟩
            rw [putG, if_neg (by rw [HFBV.out]; simp), HI.out, insG, List.map_append, List.map_append, List.map_take, List.map_drop]
            rfl
        case rest =>
          obtain ⟨rs3, HL3, HM3, HB3, HX3⟩ := hcut
          clear HL2 HX2 HB2' HB2 y0 y1
          have hil : i < rs3.length := by
            have := (putG_lt (rs.map (·.x)) s.f0).1
            rw [HI.out, ← HM3.out, List.length_map] at this
            exact this
          obtain ⟨gv, capv, hv3, hgv⟩ := lay_form HL3.out (by omega)
          subst hv3
          obtain ⟨r, hri⟩ : ∃ r, rs3[i]? = some r := ⟨_, List.getElem?_eq_getElem hil⟩
          have HRI := Aside0.mk hri
          have HGV := Aside0.mk hgv
          have hRS := (HL3.out.2.1 r (List.mem_of_getElem? hri)).2
          obtain ⟨As, cs, hsv⟩ := Kd.R_slice hRS
          obtain ⟨_, x2, _, _⟩ := lay_cell HL3.out i r hri
          have x3 := blk_cell HX3.out 1
          have HSV := Aside0.mk hsv
          rw [hsv] at x2 hRS
          have HRS := Aside0.mk hRS
          have HBB : Aside0 (w.heap.size ≤ wc.heap.size) := ⟨HB3.out.size⟩
          have HLT : Aside0 ((r.x.f1.length + L1) * 16 ≤ 140737488355328) := ⟨by
            have h1 : r.x ∈ putG (rs.map (·.x)) s.f0 := by rw [← HM3.out]; exact List.mem_map.2 ⟨r, List.mem_of_getElem? hri, rfl⟩
            have h2 := HSL.out.2
            rw [HLL1.out] at h2
            rcases putG_mem h1 with h1 | h1
            · rw [HM.out] at h1
              have := HGL.out.2 _ h1
              omega
            · rw [h1]
              show ((0 : Nat) + L1) * 16 ≤ _
              omega⟩
          have HSM : Aside0 (Kd.C k54 wc.drew A1 L1 s.f1) := ⟨Kd.C_below G1.out (below_drew1 HB3.out)⟩
          have HST : Aside0 (groupsL (l.take (k + 1)) = addG (putG (rs.map (·.x)) s.f0) i s.f1) := ⟨by
            rw [HGT.out, stepG, if_neg HZ.out, ← HM.out, HI.out]⟩
          have hiz : (i : Int) < (rs3.length : Int) := by omega
          generalize hns : r.x.f1.length = ns at x2 HRS
          have HNS := Aside0.mk hns
          clear hri hgv hsv hRS hns
          replace x2 : wc.drew.cell? ⟨gv, i * 2 + 1, none⟩ = some (.slice As ns cs) := x2
          replace x3 : wc.drew.cell? ⟨bx, 1, none⟩ = some (.slice A1 L1 c1) := x3
          go_upto_region 9 with (fail)
          refine start_ (n := 13) (ds := [9, 12]) (S := fun w' => w'.cell? ⟨gv, i * 2 + 1, none⟩ = some (.slice As ns cs) ∧ w'.cell? ⟨bx, 1, none⟩ = some (.slice A1 L1 c1)) #[false, false, false, false, false, false, false, false, false, false, false, false, false] mixed rfl rfl ⟨x2, x3⟩ (fun hS => ?_)
          refine pure_ (i := 0) (N := some 36) (v := ?_) (a' := ?_) #[true, false, false, false, false, false, false, false, false, false, false, false, false] rfl rfl (by kernel_rfl) (fun _ _ _ h => h) (Or.inl ⟨by rfl, ?_⟩) ?_ ?_
          rotate_left
          · intro w'
            go_simp
            try (with_reducible rfl)
          rotate_left
          · simp only [Act.put, List.setIfInBounds_toArray, List.set_cons_zero, List.set_cons_succ]
            rfl
          refine pure_ (i := 1) (N := some 37) (v := ?_) (a' := ?_) #[true, true, false, false, false, false, false, false, false, false, false, false, false] rfl rfl (by kernel_rfl) (fun _ _ _ h => h) (Or.inl ⟨by rfl, ?_⟩) ?_ ?_
          rotate_left
          · intro w'
            go_simp
            try (with_reducible rfl)
          rotate_left
          · simp only [Act.put, List.setIfInBounds_toArray, List.set_cons_zero, List.set_cons_succ]
            rfl
          refine pure_ (i := 2) (N := some 38) (v := ?_) (a' := ?_) #[true, true, true, false, false, false, false, false, false, false, false, false, false] rfl rfl (by kernel_rfl) (fun _ _ _ h => h) (Or.inl ⟨by rfl, ?_⟩) ?_ ?_
          rotate_left
          · intro w'
            go_simp
            try (with_reducible rfl)
          rotate_left
          · simp only [Act.put, List.setIfInBounds_toArray, List.set_cons_zero, List.set_cons_succ]
            rfl
          refine pure_ (i := 3) (N := some 39) (v := ?_) (a' := ?_) #[true, true, true, true, false, false, false, false, false, false, false, false, false] rfl rfl (by kernel_rfl) (fun _ _ _ h => h) (Or.inl ⟨by rfl, ?_⟩) ?_ ?_
          rotate_left
          · intro w'
            go_simp
            try (with_reducible rfl)
          rotate_left
          · simp only [Act.put, List.setIfInBounds_toArray, List.set_cons_zero, List.set_cons_succ]
            rfl
          refine pure_ (i := 4) (N := some 40) (v := ?_) (a' := ?_) #[true, true, true, true, true, false, false, false, false, false, false, false, false] rfl rfl (by kernel_rfl) (fun _ _ _ h => h) (Or.inl ⟨by rfl, ?_⟩) ?_ ?_
          rotate_left
          · intro w'
            go_simp
            try (with_reducible rfl)
          rotate_left
          · simp only [Act.put, List.setIfInBounds_toArray, List.set_cons_zero, List.set_cons_succ]
            rfl
          refine pure_ (i := 5) (N := some 41) (v := ?_) (a' := ?_) #[true, true, true, true, true, true, false, false, false, false, false, false, false] rfl rfl (by kernel_rfl) (fun _ _ _ h => h) (Or.inl ⟨by rfl, ?_⟩) ?_ ?_
          rotate_left
          · intro w'
            go_simp
            try (with_reducible rfl)
          rotate_left
          · simp only [Act.put, List.setIfInBounds_toArray, List.set_cons_zero, List.set_cons_succ]
            rfl
          refine take_ (i := 6) (N := some 42) (v := ?_) (a' := ?_) #[true, true, true, true, true, true, true, false, false, false, false, false, false] rfl rfl (by kernel_rfl) (fun _ _ _ h => h) (Or.inl ⟨by rfl, ?_⟩) hS ?_ ?_
          rotate_left
          · rintro w' ⟨hc1, hc2⟩
            go_simp
            try (with_reducible rfl)
          rotate_left
          · simp only [Act.put, List.setIfInBounds_toArray, List.set_cons_zero, List.set_cons_succ]
            rfl
          refine pure_ (i := 7) (N := some 43) (v := ?_) (a' := ?_) #[true, true, true, true, true, true, true, true, false, false, false, false, false] rfl rfl (by kernel_rfl) (fun _ _ _ h => h) (Or.inl ⟨by rfl, ?_⟩) ?_ ?_
          rotate_left
          · intro w'
            go_simp
            try (with_reducible rfl)
          rotate_left
          · simp only [Act.put, List.setIfInBounds_toArray, List.set_cons_zero, List.set_cons_succ]
            rfl
          refine take_ (i := 8) (N := some 44) (v := ?_) (a' := ?_) #[true, true, true, true, true, true, true, true, true, false, false, false, false] rfl rfl (by kernel_rfl) (fun _ _ _ h => h) (Or.inl ⟨by rfl, ?_⟩) hS ?_ ?_
          rotate_left
          · rintro w' ⟨hc1, hc2⟩
            go_simp
            try (with_reducible rfl)
          rotate_left
          · simp only [Act.put, List.setIfInBounds_toArray, List.set_cons_zero, List.set_cons_succ]
            rfl
          refine last_ (i := 9) (N := some 45) #[true, true, true, true, true, true, true, true, true, true, false, false, false] rfl rfl (by kernel_rfl) (by decide) (fun K hK => ?_)
          refine Kd.R_append_rows_step k54 (w0 := w) w.heap.size (by rfl) (.tmp 42) (.tmp 44) 30 54 (.agg #[.int .i64 0, .int .u64 0]) 16 rfl Tryd.underlying30 info54 rfl (by decide) (by omega) (.slice As ns cs) r.x.f1 s.f1 A1 L1 c1 (fun _ => True) (fun _ => False) rfl rfl (Kd.R_drew HRS.out) HSM.out (fun x cs hx => k54_JKM hx) (fun _ hk => hk.elim) (fun _ _ => trivial) (below_drew1 HB3.out) ?hb ?hl ?_
          case hb => exact HBB.out
          case hl => exact HLT.out
          intro v1 w1 hR1 hB1 hg1 hat1
          have HR1 : Aside0 (RS w1 w.heap.size v1 (r.x.f1 ++ s.f1)) := ⟨hR1⟩
          have HB4 := Aside0.mk hB1
          have HG1 : Aside0 (wc.grownBy w1 r.sv.ownBlock) := ⟨by rw [HSV.out, HNS.out]; exact ⟨hg1.os, hg1.tape, hg1.output, hg1.size, hg1.block⟩⟩
          have HAT : Aside0 (v1.ownBlock = r.sv.ownBlock ∨ ∃ b, v1.ownBlock = some b ∧ wc.heap.size ≤ b) := ⟨by rw [HSV.out, HNS.out]; exact hat1⟩
          clear hR1 hB1 hg1 hat1
          refine hK.out _ _ ?_
          clear hK K
          obtain ⟨A9, c9, hv9⟩ := Kd.R_slice HR1.out
          generalize (r.x.f1 ++ s.f1).length = n9 at hv9
          subst hv9
          refine norm_ (a' := ?_) ?_ ?_
          rotate_left
          · show Act.put _ (some 45) _ = _
            simp only [Act.put, List.setIfInBounds_toArray, List.set_cons_zero, List.set_cons_succ]
            rfl
          have HRR : Aside0 (RR w1 w.heap.size (.slice (some ⟨gv, 0, none⟩) rs3.length capv) (rs3.map cellsR)) := ⟨keep_of rfl HL3.out.1 HG1.out (ne_type (by decide) HL3.out.1 (HL3.out.2.1 r (List.mem_of_getElem? HRI.out)).2)⟩
          obtain ⟨_, z1, _, z3⟩ := rr_cell HRR.out i r.lv r.sv (by rw [List.getElem?_map, HRI.out]; rfl)
          have HL5 := Aside0.mk (Lay.samples HL3.out i r HRI.out HG1.out HR1.out HAT.out)
          have HB5 := Aside0.mk (below_set (j := i * 2 + 1) (v := .slice A9 n9 c9) HB4.out HGV.out)
          refine pure_ (i := 10) (N := some 46) (v := ?_) (a' := ?_) #[true, true, true, true, true, true, true, true, true, true, true, false, false] rfl rfl (by kernel_rfl) (fun _ _ _ h => h) (Or.inl ⟨by rfl, ?_⟩) ?_ ?_
          rotate_left
          · intro w'
            go_simp
            try (with_reducible rfl)
          rotate_left
          · simp only [Act.put, List.setIfInBounds_toArray, List.set_cons_zero, List.set_cons_succ]
            rfl
          refine pure_ (i := 11) (N := some 47) (v := ?_) (a' := ?_) #[true, true, true, true, true, true, true, true, true, true, true, true, false] rfl rfl (by kernel_rfl) (fun _ _ _ h => h) (Or.inl ⟨by rfl, ?_⟩) ?_ ?_
          rotate_left
          · intro w'
            go_simp
            try (with_reducible rfl)
          rotate_left
          · simp only [Act.put, List.setIfInBounds_toArray, List.set_cons_zero, List.set_cons_succ]
            rfl
          refine last_ (i := 12) (N := none) #[true, true, true, true, true, true, true, true, true, true, true, true, true] rfl rfl (by kernel_rfl) (by decide) (fun K hK => ?_)
          refine skip_ (w1 := ?_) (by rfl) rfl ?_ ?_
          rotate_left
          · go_simp
            rfl
          refine hK.out _ _ ?_
          clear hK K
          refine done_ (by kernel_rfl) ?_
          try go_wp2
          go_roundg (l.length - (k + 1))
          case measure => omega
          case rel => exact ⟨k + 1, .slice (some ⟨gv, 0, none⟩) rs3.length capv, _, by first | rfl | go_num, by first | rfl | go_num, by omega, Nat.le_refl _, HL5, ⟨by
            rw [HST.out]
            have hil : i < rs3.length := (List.getElem?_eq_some_iff.1 HRI.out).1
            unfold addG
            rw [← HM3.out, List.map_set]
            have hri : rd_T60 (rs3.map (·.x)) (i : Int) = r.x := by
              rw [rd_getElem (by rw [List.length_map]; exact hil), List.getElem_map, (List.getElem?_eq_some_iff.1 HRI.out).2]
            rw [hri]⟩, HB5⟩
    · obtain rfl : k = l.length := by omega
      have hkz : ¬ (l.length : Int) < (l.length : Int) := by omega
      rw [List.take_length] at HM
      have HGL := Aside0.mk (groups_len' l)
      have HGP := Aside0.mk (groups_pos l)
      have HRB : Aside0 (rs.length = (groupsL l).length) := ⟨by rw [← HM.out, List.length_map]⟩
      obtain ⟨Av, cv, hu, _, _⟩ := HL.out.reads
      subst hu
      have hrl : rs.length ≤ 100000 := by rw [HRB.out]; exact Nat.le_trans HGL.out.1 hlen
      go_wp2
      go_loopg [51] rs.length (fun kx s51 wr => ∃ (j : Nat) (rs2 : List Rec), s51 = .int .i64 j ∧ j ≤ rs.length ∧ rs.length - j ≤ kx ∧ Aside0 (rs2.length = rs.length) ∧ Aside0 (Lay wr w.heap.size (.slice Av rs.length cv) rs2) ∧ Aside0 (rs2.map (·.x) = mixJ (groupsL l) j) ∧ Aside0 (Below w.heap.size w wr))
      case atStart => exact ⟨0, rs, rfl, Nat.zero_le _, Nat.le_refl _, ⟨rfl⟩, HL, ⟨by rw [HM.out]; rfl⟩, HB⟩
      case round =>
        clear HL HM HB
        obtain ⟨j, rs2, rfl, hj, hkx2, HLE, HL, HM, HB⟩ := hrel
        by_cases hjl : j < rs.length
        · have hjz : (j : Int) < (rs.length : Int) := by omega
          have hjG : j < (groupsL l).length := by rw [← HRB.out]; exact hjl
          obtain ⟨gv, capv, he, hgv⟩ := lay_form HL.out (by rw [HLE.out]; omega)
          simp only [Value.slice.injEq] at he
          obtain ⟨rfl, hxx, rfl⟩ := he
          clear hxx
          have hj2 : j < rs2.length := by rw [HLE.out]; exact hjl
          obtain ⟨r, hri⟩ : ∃ r, rs2[j]? = some r := ⟨_, List.getElem?_eq_getElem hj2⟩
          have hrx : r.x = (groupsL l)[j] := by
            have h1 := mixJ_at (groupsL l) j hjG
            rw [← HM.out, List.getElem?_map, hri] at h1
            simpa using h1
          have hm : r.x ∈ groupsL l := by rw [hrx]; exact List.getElem_mem hjG
          have hp := HGP.out _ hm
          have hpl := HGL.out.2 _ hm
          have hRS := (HL.out.2.1 r (List.mem_of_getElem? hri)).2
          obtain ⟨gs, caps, hsv, hbs, hgs, _⟩ := Kd.R_form hRS (by omega)
          have hown := rs_own hRS
          rw [hsv] at hown
          have HC := Aside0.mk (chunkRisen.calls w.heap.size gs caps r.x.f1 wr hown (by omega) (by have := HT.out; omega))
          obtain ⟨_, x2, _, _⟩ := lay_cell HL.out j r hri
          rw [hsv] at x2
          have HSV := Aside0.mk hsv
          have HRI := Aside0.mk hri
          have HRX := Aside0.mk hrx
          have HGV := Aside0.mk hgv
          have HBS : Aside0 (w.heap.size ≤ gs) := ⟨hbs⟩
          have HJG := Aside0.mk hjG
          clear hri hgv hsv hRS hown hbs hgs hrx hm hp hpl
          generalize hns : r.x.f1.length = ns at x2 HC
          generalize hnr : (risenL r.x.f1).length = nr at HC
          have HNS := Aside0.mk hns
          have HNR := Aside0.mk hnr
          clear hns hnr
          go_wp2_with (first | (go_at_call 53; (with_reducible refine HC.out.mono ?_); rintro e w2 ⟨rfl, hO, hG⟩; have HO := Aside0.mk hO; have HG := Aside0.mk hG; clear hO hG; have HG1 : Aside0 (wr.grownBy w2 r.sv.ownBlock) := ⟨by rw [HSV.out]; exact HG.out⟩; have HRR : Aside0 (RR w2 w.heap.size (.slice (some ⟨gv, 0, none⟩) rs.length cv) (rs2.map cellsR)) := ⟨keep_of rfl HL.out.1 HG1.out (ne_type (by decide) HL.out.1 (HL.out.2.1 r (List.mem_of_getElem? HRI.out)).2)⟩; obtain ⟨_, z1, _, z3⟩ := rr_cell HRR.out j r.lv r.sv (by rw [List.getElem?_map, HRI.out]; rfl)))
          have HR1 : Aside0 (RS w2 w.heap.size (.slice (some ⟨gs, 0, none⟩) nr caps) (risenL r.x.f1)) := ⟨own_rs (by rw [HNR.out]; exact HO.out)⟩
          have HL5 := Aside0.mk (Lay.samples HL.out j r HRI.out HG1.out HR1.out (.inl (by rw [HSV.out]; rfl)))
          have HB5 := Aside0.mk (below_set (j := j * 2 + 1) (v := .slice (some ⟨gs, 0, none⟩) nr caps) (pw_below_grown HB.out _ HB.out.size HG.out (fun k hk => by cases hk; exact HBS.out)) HGV.out)
          go_roundg (rs.length - (j + 1))
          case measure => omega
          case rel => exact ⟨j + 1, _, by go_num, by omega, Nat.le_refl _, ⟨by rw [List.length_set]; exact HLE.out⟩, HL5, ⟨by
            rw [List.map_set, HM.out, ← mixJ_set (groupsL l) j HJG.out]
            unfold ris
            rw [HRX.out]⟩, HB5⟩
        · obtain rfl : j = rs.length := by omega
          have hjz : ¬ (rs.length : Int) < (rs.length : Int) := by omega
          have HJ : Aside0 (rs2.map (·.x) = joinL l) := ⟨by
            rw [HM.out, mixJ, HRB.out, List.take_length, List.drop_length, List.append_nil]
            rfl⟩
          go_wp2
          go_ret
          obtain ⟨A2, c2, he, hc2, hC⟩ := HL.out.reads
          have hlen2 : (joinL l).length = rs2.length := by rw [← HJ.out, List.length_map]
          refine ⟨A2, c2, ?_, by rw [hlen2]; exact hc2, by rw [hlen2, ← HJ.out]; exact hC, HB.out⟩
          rw [hlen2, ← he]
          rfl
end Go.Proofs.YtbgmnmjokdfmlaaDoor.PA
namespace Go.Proofs.YtbgmnmjokdfmlaaDoor.PA
open Go.RowKit Go.Proofs.YtbgmnmjokdfmlaaDoor.G Go.Proofs.YtbgmnmjokdfmlaaDoorW.PrintWords Go.Proofs.YtbgmnmjokdfmlaaDoorW.PrintLast Go.Proofs.YtbgmnmjokdfmlaaDoorW.PrintMore
set_option linter.unusedVariables false
set_option linter.unusedSimpArgs false
theorem flatP_set : ∀ (l : List S54) (q : Nat) (s : S54), flatP (l.set q s) = ((flatP l).set (q * 2) (.int .i64 s.f0)).set (q * 2 + 1) (.int .u64 s.f1)
  | [], q, s => by simp [flatP]
  | x :: l, 0, s => rfl
  | x :: l, q + 1, s => by
    rw [List.set_cons_succ, flatP_cons, flatP_cons, flatP_set l q s, show (q + 1) * 2 = q * 2 + 1 + 1 from by omega, List.set_cons_succ, List.set_cons_succ, List.set_cons_succ, List.set_cons_succ]
theorem rs_set {w : World} {base g cap n : Nat} {l : List S54} (h : RS w base (.slice (some ⟨g, 0, none⟩) n cap) l) (hn : l.length = n) (h0 : 0 < n) (q : Nat) (s : S54) :
    RS ((w.setCell ⟨g, q * 2, none⟩ (.int .i64 s.f0)).setCell ⟨g, q * 2 + 1, none⟩ (.int .u64 s.f1)) base (.slice (some ⟨g, 0, none⟩) n cap) (l.set q s) := by
  obtain ⟨hl, ho⟩ := rs_own h
  rcases ho with ⟨_, h1⟩ | ⟨g', cap', cur, he, hb, hh, h2, h3, h4, h5⟩
  · omega
  · simp only [Value.slice.injEq, Option.some.injEq, Addr.mk.injEq, and_true] at he
    obtain ⟨rfl, hnn, rfl⟩ := he
    refine own_rs ⟨by rw [flatP_len], .inr ⟨g, cap, (cur.setIfInBounds (q * 2) (.int .i64 s.f0)).setIfInBounds (q * 2 + 1) (.int .u64 s.f1), by rw [List.length_set, hn], hb, blk_set (blk_set hh _ _) _ _, by rw [List.length_set]; exact h2, h3, by simp [h4], ?_⟩⟩
    rw [Array.toList_setIfInBounds, Array.toList_setIfInBounds, List.take_set, List.take_set, List.length_set, h5, flatP_set]
theorem alloc_size (w : World) (o : Obj) : (w.alloc o).heap.size = w.heap.size + 1 := Array.size_push _
theorem slice_ne {a b n c : Nat} (h : a ≠ b) : some a ≠ (Value.slice (some ⟨b, 0, none⟩) n c).ownBlock := by
  intro e
  simp only [Value.ownBlock, Option.map_some, Option.some.injEq] at e
  exact h e
theorem ownJ_ne {W : World} {v v' : Value} {b : Nat} (hb : b < W.heap.size) (hne : some b ≠ v.ownBlock) (hat : v'.ownBlock = v.ownBlock ∨ ∃ k, v'.ownBlock = some k ∧ W.heap.size ≤ k) : some b ≠ v'.ownBlock := by
  rcases hat with h | ⟨k, h, hk⟩
  · rwa [h]
  · rw [h]
    intro e
    injection e with e
    omega
set_option maxHeartbeats 8000000 in
set_option maxRecDepth 1000000 in
theorem rSet.calls (A : Option Addr) (c n : Nat) (l : List S54) (s : S54) (w : World) (hn : l.length = n) (hr : Kd.C k54 w A n l) (hc : n ≤ c) (hlen : n ≤ 1000000) :
    Calls Tryd.prog 55 #[.slice A n c, .agg #[.int .i64 s.f0, .int .u64 s.f1]] w fun e w' => ∃ v : Value, e = .returned v ∧ RS w' w.heap.size v (setL l s) ∧ Below w.heap.size w w' := by
  subst hn
  have mixed : Tryd.prog.follows .mixedOrders = true := by kernel_rfl
  have HR := Aside0.mk hr
  clear hr
  go_enter Tryd.func55, Tryd.ntmps55
  go_upto_region 1 with (fail)
  have HX0 := Aside0.mk (blk_new w (.cells #[.int .i64 s.f0, .int .u64 s.f1] 54 (0, 0)))
  have HB0 := Aside0.mk (below_alloc (Below.refl w.heap.size w) (.cells #[.int .i64 s.f0, .int .u64 s.f1] 54 (0, 0)))
  generalize w.alloc (.cells #[.int .i64 s.f0, .int .u64 s.f1] 54 (0, 0)) = W0 at HX0 HB0 ⊢
  obtain ⟨bx, hbx⟩ : ∃ bx, bx = w.heap.size := ⟨_, rfl⟩
  have HBX := Aside0.mk hbx
  rw [← hbx] at HX0 ⊢
  clear hbx
  go_upto_block 0 with (fail)
  go_cut [5] (fun v wx => v = .int .i64 (posS l s.f0 l.length : Nat) ∧ Aside0 (Below W0.heap.size W0 wx))
  case first =>
    go_wp2_with fail
    go_loopg [5] l.length (fun kx s5 wr => ∃ (q : Nat), s5 = .int .i64 q ∧ q ≤ l.length ∧ q ≤ kx ∧ Aside0 (posS l s.f0 q = posS l s.f0 l.length) ∧ Aside0 (Below W0.heap.size W0 wr))
    case atStart => exact ⟨l.length, rfl, Nat.le_refl _, Nat.le_refl _, ⟨rfl⟩, ⟨Below.refl _ _⟩⟩
    case round =>
      obtain ⟨q, rfl, hq, hkx, HQ, HB⟩ := hrel
      have HX := Aside0.mk (blk_below HX0.out HB.out)
      have y0 := blk_cell HX.out 0
      have HBw := Aside0.mk (below_step HB0.out HB.out)
      rcases Nat.eq_zero_or_pos q with rfl | hq0
      · have HP : Aside0 (posS l s.f0 l.length = 0) := ⟨by rw [← HQ.out]; rfl⟩
        have g2 : decide ((0 : Int) > 0) = false := rfl
        go_wp2_with fail
        go_quiet (fail)
        go_wp2_with fail
        go_meet
        exact ⟨by rw [HP.out], ⟨pw_below_drewN HB.out _⟩⟩
      · obtain ⟨p, rfl⟩ : ∃ p, q = p + 1 := ⟨q - 1, by omega⟩
        obtain ⟨ad, rfl, x0, _⟩ := at_T54 (Kd.C_below HR.out HBw.out) (p : Int) (by omega) (by omega)
        rw [Int.toNat_natCast] at x0
        have g2 : decide ((p : Int) + 1 > 0) = true := decide_eq_true (by omega)
        have e2 : (p : Int) + 1 - 1 = (p : Int) := by omega
        have r2 : IntKind.i64.wrap ((p : Int) + 1 - 1) = (p : Int) := by rw [IntKind.wrap_i64]; omega
        have r3 : IntKind.i64.wrap (p : Int) = (p : Int) := by rw [IntKind.wrap_i64]; omega
        have bp : (p : Int) < (l.length : Int) := by omega
        have HPS : Aside0 (posS l s.f0 (p + 1) = if s.f0 ≤ (rd_T54 l (p : Int)).f0 then posS l s.f0 p else p + 1) := ⟨rfl⟩
        generalize (rd_T54 l (p : Int)).f0 = t at x0 HPS
        by_cases hge : s.f0 ≤ t
        · have g3 : decide (s.f0 ≤ t) = true := decide_eq_true hge
          have g4 : decide (t ≥ s.f0) = true := decide_eq_true hge
          have HPN : Aside0 (posS l s.f0 p = posS l s.f0 l.length) := ⟨by rw [← HQ.out, HPS.out, if_pos hge]⟩
          go_wp2_with fail
          go_quiet (fail)
          go_wp2
          go_roundg p
          case measure => omega
          case rel => exact ⟨p, by go_num, by omega, Nat.le_refl _, HPN, ⟨pw_below_drewN HB.out _⟩⟩
        · have g3 : decide (s.f0 ≤ t) = false := decide_eq_false hge
          have g4 : decide (t ≥ s.f0) = false := decide_eq_false hge
          have HPN : Aside0 (posS l s.f0 l.length = p + 1) := ⟨by rw [← HQ.out, HPS.out, if_neg hge]⟩
          go_wp2_with fail
          go_quiet (fail)
          go_wp2_with fail
          go_meet
          exact ⟨by rw [HPN.out]; go_num, ⟨pw_below_drewN HB.out _⟩⟩
  case rest =>
    obtain ⟨rfl, HB⟩ := hcut
    have HX := Aside0.mk (blk_below HX0.out HB.out)
    have HBw := Aside0.mk (below_step HB0.out HB.out)
    have hple := posS_le l s.f0 l.length
    obtain ⟨q, hq⟩ : ∃ q, q = posS l s.f0 l.length := ⟨_, rfl⟩
    rw [← hq] at hple ⊢
    have HQ := Aside0.mk hq
    clear hq HX0 HB
    have y0 := blk_cell HX.out 0
    have y1 := blk_cell HX.out 1
    by_cases hit : q < l.length ∧ (rd_T54 l (q : Int)).f0 = s.f0
    · obtain ⟨hql, he⟩ := hit
      have HV : Aside0 (setL l s = l.set q s) := ⟨by
        unfold setL
        rw [← HQ.out]
        exact if_pos ⟨hql, he⟩⟩
      obtain ⟨ad, rfl, x0, _⟩ := at_T54 (Kd.C_below HR.out HBw.out) (q : Int) (by omega) (by omega)
      rw [Int.toNat_natCast, he] at x0
      have g1 : decide ((q : Int) < (l.length : Int)) = true := decide_eq_true (by omega)
      have gq : (q : Int) < (l.length : Int) := by omega
      clear he
      go_wp2_with fail
      go_quiet (fail)
      have HX2 : Aside0 ((wc.drewN nq).heap[bx]? = some (.cells #[.int .i64 s.f0, .int .u64 s.f1] 54 (0, 0))) := HX
      have HB2 := Aside0.mk (pw_below_drewN HBw.out nq)
      clear HX HBw y0 y1 x0
      generalize wc.drewN nq = w1 at HX2 HB2 ⊢
      have hE := Aside0.mk (R_empty k54 54 w.heap.size w1 (fun _ => True) HB2.out.size trivial)
      have HBA := Aside0.mk (below_alloc HB2.out (.cells #[] 54 (0, 0)))
      have HRA := Aside0.mk (Kd.C_below HR.out HBA.out)
      have HXA := Aside0.mk (blk_alloc HX2.out (.cells #[] 54 (0, 0)))
      go_upto_region 6 with ((with_reducible refine gate_dst (N := 40) rfl ?_); refine Kd.R_append_rows k54 (w0 := w) w.heap.size rfl (.tmp 38) (.tmp 39) 30 54 (.agg #[.int .i64 0, .int .u64 0]) 16 rfl Tryd.underlying30 info54 rfl (by decide) (by omega) _ [] l (some ad) l.length c (fun _ => True) (fun _ => False) rfl rfl hE.out HRA.out (fun x cs hx => k54_JKM hx) (fun _ hk => hk.elim) (fun _ _ => trivial) HBA.out ?hb ?hl ?_; (case hb => exact HBA.out.size); (case hl => (simp; omega)); intro v1 w2 hR1 hB1 hg_ ho_; rw [List.nil_append] at hR1; have HR1 := Aside0.mk hR1; have HB1 := Aside0.mk hB1; have HG1 := Aside0.mk hg_; clear hR1 hB1 hg_ ho_)
      have hbl := blk_lt HX2.out
      have HX3 := Aside0.mk (blk_grown HXA.out HG1.out (by
        show some bx ≠ some w1.heap.size
        intro e
        injection e with e
        omega))
      obtain ⟨g, cap, hv, hbg, hgl, cur, hcur⟩ := Kd.R_form HR1.out (by omega)
      subst hv
      have HR2 : Aside0 (RS w2 w.heap.size (.slice (some ⟨g, 0, none⟩) l.length cap) l) := HR1
      obtain ⟨ad2, had2, z0, z1⟩ := at_T54 (Kd.R_reads' HR1.out).2.2 (q : Int) (by omega) (by omega)
      injection had2 with had2
      subst had2
      rw [Int.toNat_natCast, add_plain] at z0 z1
      have f0 := blk_frozen hcur (q * 2)
      have f1 := blk_frozen hcur (q * 2 + 1)
      have y0 := blk_cell HX3.out 0
      have y1 := blk_cell HX3.out 1
      have HRS := Aside0.mk (rs_set HR2.out rfl (by omega) q s)
      have HBS := Aside0.mk (below_set (j := q * 2 + 1) (v := .int .u64 s.f1) (below_set (j := q * 2) (v := .int .i64 s.f0) HB1.out hbg) hbg)
      clear hcur HG1 HR1 hbg hgl hbl
      go_wp2
      go_ret
      exact ⟨_, rfl, by rw [HV.out]; exact HRS.out, HBS.out⟩
    · have HV : Aside0 (setL l s = l.take q ++ s :: l.drop q) := ⟨by
        unfold setL
        rw [← HQ.out]
        exact if_neg hit⟩
      have HXD : Aside0 (∀ (W : World) (bi : Nat), Below w.heap.size w W → W.heap[bi]? = some (.cells #[.int .i64 s.f0, .int .u64 s.f1] 54 (0, 0)) → w.heap.size ≤ bi → RS W w.heap.size (.slice (some ⟨bi, 0, none⟩) 1 1) [s]) := ⟨fun W bi _ hb hbi => own_rs ⟨rfl, .inr ⟨bi, 1, #[.int .i64 s.f0, .int .u64 s.f1], rfl, hbi, hb, Nat.le_refl 1, by decide, rfl, rfl⟩⟩⟩
      have HTK : Aside0 (∀ W, Below w.heap.size w W → Kd.C k54 W A q (l.take q)) := ⟨fun W hb => by
        have := Kd.C_take (Kd.C_below HR.out hb) hple
        rwa [List.length_take, Nat.min_eq_left hple] at this⟩
      have HDR : Aside0 (∀ W, Below w.heap.size w W → Kd.C k54 W (if c = q then A else A.map (·.add (q * 2))) (l.length - q) (l.drop q)) := ⟨fun W hb => by
        have := Kd.C_drop (Kd.C_below HR.out hb) hple hc
        rwa [List.length_drop] at this⟩
      have hqcz : (q : Int) ≤ (c : Int) := by omega
      have hqlz : (q : Int) ≤ (l.length : Int) := by omega
      have HIT : Aside0 (¬ (q < l.length ∧ (rd_T54 l (q : Int)).f0 = s.f0)) := ⟨hit⟩
      have HLL : Aside0 ((l.take q).length = q) := ⟨by rw [List.length_take]; omega⟩
      clear hit
      go_upto_region 4 with (fail)
      go_cut [37] (fun v37 wx => v37 = .bool false ∧ Aside0 (Below w.heap.size w wx) ∧ Aside0 (wx.heap[bx]? = some (.cells #[.int .i64 s.f0, .int .u64 s.f1] 54 (0, 0))))
      case first =>
        rcases Nat.lt_or_ge q l.length with hql | hql
        · obtain ⟨ad, rfl, x0, _⟩ := at_T54 (Kd.C_below HR.out HBw.out) (q : Int) (by omega) (by omega)
          rw [Int.toNat_natCast] at x0
          have g1 : decide ((q : Int) < (l.length : Int)) = true := decide_eq_true (by omega)
          have gq : (q : Int) < (l.length : Int) := by omega
          have hne : ¬ (rd_T54 l (q : Int)).f0 = s.f0 := fun e => HIT.out ⟨hql, e⟩
          generalize (rd_T54 l (q : Int)).f0 = t at x0 hne
          have g2 : (t == s.f0) = false := beq_eq_false_iff_ne.2 hne
          have g3 : decide (t = s.f0) = false := decide_eq_false hne
          go_wp2_with fail
          go_quiet (fail)
          go_wp2_with fail
          go_meet
          exact ⟨rfl, ⟨pw_below_drewN HBw.out _⟩, HX⟩
        · have g1 : decide ((q : Int) < (l.length : Int)) = false := decide_eq_false (by omega)
          have gq : ¬ (q : Int) < (l.length : Int) := by omega
          have gn : ¬ q < l.length := by omega
          have g3 : decide (q < l.length) = false := decide_eq_false gn
          go_wp2_with fail
          go_quiet (fail)
          go_wp2_with fail
          go_meet
          exact ⟨rfl, ⟨pw_below_drewN HBw.out _⟩, HX⟩
      case rest =>
        obtain ⟨rfl, HB2, HX2⟩ := hcut
        clear HX HBw HB0 y0 y1 HIT
        go_upto_region 8 with (fail)
        refine start_ (n := 13) (ds := []) (S := fun w' => w'.heap[bx]? = some (.cells #[.int .i64 s.f0, .int .u64 s.f1] 54 (0, 0))) #[false, false, false, false, false, false, false, false, false, false, false, false, false] mixed rfl rfl HX2.out (fun hS => ?_)
        have hb2 := below_drew1 HB2.out
        refine pure_ (i := 1) (N := some 47) (v := ?_) (a' := ?_) #[false, true, false, false, false, false, false, false, false, false, false, false, false] rfl rfl (by kernel_rfl) (fun _ _ _ h => h) (Or.inl ⟨by rfl, ?_⟩) ?_ ?_
        rotate_left
        · intro w'
          go_simp
          try (with_reducible rfl)
        rotate_left
        · simp only [Act.put, List.setIfInBounds_toArray, List.set_cons_zero, List.set_cons_succ]
          rfl
        refine pure_ (i := 2) (N := some 48) (v := ?_) (a' := ?_) #[false, true, true, false, false, false, false, false, false, false, false, false, false] rfl rfl (by kernel_rfl) (fun _ _ _ h => h) (Or.inl ⟨by rfl, ?_⟩) ?_ ?_
        rotate_left
        · intro w'
          go_simp
          try (with_reducible rfl)
        rotate_left
        · simp only [Act.put, List.setIfInBounds_toArray, List.set_cons_zero, List.set_cons_succ]
          rfl
        refine pure_ (i := 3) (N := some 49) (v := ?_) (a' := ?_) #[false, true, true, true, false, false, false, false, false, false, false, false, false] rfl rfl (by kernel_rfl) (fun _ _ _ h => h) (Or.inl ⟨by rfl, ?_⟩) ?_ ?_
        rotate_left
        · intro w'
          go_simp
          try (with_reducible rfl)
        rotate_left
        · simp only [Act.put, List.setIfInBounds_toArray, List.set_cons_zero, List.set_cons_succ]
          rfl
        refine pure_ (i := 8) (N := some 54) (v := ?_) (a' := ?_) #[false, true, true, true, false, false, false, false, true, false, false, false, false] rfl rfl (by kernel_rfl) (fun _ _ _ h => h) (Or.inl ⟨by rfl, ?_⟩) ?_ ?_
        rotate_left
        · intro w'
          go_simp
          try (with_reducible rfl)
        rotate_left
        · simp only [Act.put, List.setIfInBounds_toArray, List.set_cons_zero, List.set_cons_succ]
          rfl
        refine pure_ (i := 9) (N := some 55) (v := ?_) (a' := ?_) #[false, true, true, true, false, false, false, false, true, true, false, false, false] rfl rfl (by kernel_rfl) (fun _ _ _ h => h) (Or.inl ⟨by rfl, ?_⟩) ?_ ?_
        rotate_left
        · intro w'
          go_simp
          try (with_reducible rfl)
        rotate_left
        · simp only [Act.put, List.setIfInBounds_toArray, List.set_cons_zero, List.set_cons_succ]
          rfl
        refine pure_ (i := 10) (N := some 56) (v := ?_) (a' := ?_) #[false, true, true, true, false, false, false, false, true, true, true, false, false] rfl rfl (by kernel_rfl) (fun _ _ _ h => h) (Or.inl ⟨by rfl, ?_⟩) ?_ ?_
        rotate_left
        · intro w'
          go_simp
          try (with_reducible rfl)
        rotate_left
        · simp only [Act.put, List.setIfInBounds_toArray, List.set_cons_zero, List.set_cons_succ]
          rfl
        refine take_ (i := 5) (N := some 51) (v := ?_) (a' := ?_) #[false, true, true, true, false, true, false, false, true, true, true, false, false] rfl rfl (by kernel_rfl) (fun _ _ _ h => h) (Or.inl ⟨by rfl, ?_⟩) hS ?_ ?_
        rotate_left
        · rintro w' hS2
          have c1 := blk_cell hS2 0
          have c2 := blk_cell hS2 1
          go_simp
          try (with_reducible rfl)
        rotate_left
        · simp only [Act.put, List.setIfInBounds_toArray, List.set_cons_zero, List.set_cons_succ]
          rfl
        have HB4 := Aside0.mk hb2
        have HX4 := Aside0.mk hS
        clear hS hb2 HX2 HB2
        generalize wc.drew = w4 at HB4 HX4 ⊢
        refine join_ (σ := Value × Value × Nat) 3 #[true, true, true, true, true, true, true, false, true, true, true, false, false] (fun z => [(46, z.1), (50, z.2.1), (52, .slice (some ⟨z.2.2, 0, none⟩) 1 1)]) (fun z W => Aside0 (W.heap[bx]? = some (.cells #[.int .i64 s.f0, .int .u64 s.f1] 54 (0, 0))) ∧ Aside0 (RS W w.heap.size z.2.1 (l.take q)) ∧ Aside0 (Below w.heap.size w W) ∧ Aside0 (W.heap[z.2.2]? = some (.cells #[.int .i64 s.f0, .int .u64 s.f1] 54 (0, 0))) ∧ Aside0 (some z.2.2 ≠ z.2.1.ownBlock) ∧ Aside0 (w.heap.size ≤ z.2.2) ∧ Aside0 (some bx ≠ z.2.1.ownBlock)) ?_ (fun HC => ?_)
        rotate_left
        -- SPLIT
        refine two_ (i := 0) (j := 6) (Ni := some 46) (Nj := some 52) #[true, true, true, true, false, true, false, false, true, true, true, false, false] #[false, true, true, true, false, true, true, false, true, true, true, false, false] rfl rfl rfl rfl (by kernel_rfl) (by decide) (by decide) (fun K hK => ?_) (fun K hK => ?_)
        · refine value_ (v := ?_) (w1 := ?_) (by rfl) rfl ?_ ?_
          rotate_left; rotate_left
          · go_simp
            refine ⟨?_, ?_⟩ <;> rfl
          have hE := Aside0.mk (R_empty k54 54 w.heap.size w4 (fun _ => True) HB4.out.size trivial)
          have HB5 := Aside0.mk (below_alloc HB4.out (.cells #[] 54 (0, 0)))
          have HX5 := Aside0.mk (blk_alloc HX4.out (.cells #[] 54 (0, 0)))
          refine hK.out _ _ HX5.out (fun hS9 => ?_)
          clear hK hS9
          clear K
          refine norm_ (a' := ?_) ?_ ?_
          rotate_left
          · show Act.put _ (some 46) _ = _
            simp only [Act.put, List.setIfInBounds_toArray, List.set_cons_zero, List.set_cons_succ]
            rfl
          refine two_ (i := 4) (j := 6) (Ni := some 50) (Nj := some 52) #[true, true, true, true, true, true, false, false, true, true, true, false, false] #[true, true, true, true, false, true, true, false, true, true, true, false, false] rfl rfl rfl rfl (by kernel_rfl) (by decide) (by decide) (fun K hK => ?_) (fun K hK => ?_)
          · refine Kd.R_append_rows_step k54 (w0 := w) w.heap.size (by rfl) (.tmp 46) (.tmp 49) 30 54 (.agg #[.int .i64 0, .int .u64 0]) 16 rfl Tryd.underlying30 info54 rfl (by decide) (by omega) _ [] (l.take q) A q c (fun _ => True) (fun _ => False) rfl rfl hE.out (HTK.out _ HB5.out) (fun x cs hx => k54_JKM hx) (fun _ hk => hk.elim) (fun _ _ => trivial) HB5.out ?hb ?hl ?_
            case hb => exact HB5.out.size
            case hl => (simp; omega)
            intro v5 w5 hR1 hB1 hg1 hat1
            rw [List.nil_append] at hR1
            have HX6 := Aside0.mk (blk_grown HX5.out hg1 (slice_ne (by have := blk_lt HX4.out; omega)))
            have HN5 := Aside0.mk (ownJ_ne (blk_lt HX5.out) (slice_ne (by have := blk_lt HX4.out; omega)) hat1)
            refine hK.out _ _ HX6.out (fun hS9 => ?_)
            clear hK hS9
            clear K
            refine norm_ (a' := ?_) ?_ ?_
            rotate_left
            · show Act.put _ (some 50) _ = _
              simp only [Act.put, List.setIfInBounds_toArray, List.set_cons_zero, List.set_cons_succ]
              rfl
            refine one_ (i := 6) (N := some 52) #[true, true, true, true, true, true, true, false, true, true, true, false, false] rfl rfl (by kernel_rfl) (by decide) (fun K hK => ?_)
            refine value_ (v := ?_) (w1 := ?_) (by rfl) rfl ?_ ?_
            rotate_left; rotate_left
            · go_simp
              refine ⟨?_, ?_⟩ <;> rfl
            have HX7 := Aside0.mk (blk_alloc HX6.out (.cells #[.int .i64 s.f0, .int .u64 s.f1] 54 (0, 0)))
            refine hK.out _ _ HX7.out (fun hS9 => ?_)
            clear hK hS9
            clear K
            refine norm_ (a' := ?_) ?_ ?_
            rotate_left
            · show Act.put _ (some 52) _ = _
              simp only [Act.put, List.setIfInBounds_toArray, List.set_cons_zero, List.set_cons_succ]
              rfl
            exact HC (_, v5, w5.heap.size) _ ⟨HX7, ⟨Kd.R_alloc hR1 _⟩, ⟨below_alloc hB1 _⟩, ⟨blk_new _ _⟩, ⟨show some w5.heap.size ≠ v5.ownBlock from fun e => Nat.lt_irrefl _ (Kd.R_lt hR1 _ e.symm)⟩, ⟨hB1.size⟩, HN5⟩
          · refine value_ (v := ?_) (w1 := ?_) (by rfl) rfl ?_ ?_
            rotate_left; rotate_left
            · go_simp
              refine ⟨?_, ?_⟩ <;> rfl
            have HX6 := Aside0.mk (blk_alloc HX5.out (.cells #[.int .i64 s.f0, .int .u64 s.f1] 54 (0, 0)))
            refine hK.out _ _ HX6.out (fun hS9 => ?_)
            clear hK hS9
            clear K
            refine norm_ (a' := ?_) ?_ ?_
            rotate_left
            · show Act.put _ (some 52) _ = _
              simp only [Act.put, List.setIfInBounds_toArray, List.set_cons_zero, List.set_cons_succ]
              rfl
            refine one_ (i := 4) (N := some 50) #[true, true, true, true, true, true, true, false, true, true, true, false, false] rfl rfl (by kernel_rfl) (by decide) (fun K hK => ?_)
            have HB6 := Aside0.mk (below_alloc HB5.out (.cells #[.int .i64 s.f0, .int .u64 s.f1] 54 (0, 0)))
            refine Kd.R_append_rows_step k54 (w0 := w) w.heap.size (by rfl) (.tmp 46) (.tmp 49) 30 54 (.agg #[.int .i64 0, .int .u64 0]) 16 rfl Tryd.underlying30 info54 rfl (by decide) (by omega) _ [] (l.take q) A q c (fun _ => True) (fun _ => False) rfl rfl (Kd.R_alloc hE.out _) (HTK.out _ HB6.out) (fun x cs hx => k54_JKM hx) (fun _ hk => hk.elim) (fun _ _ => trivial) HB6.out ?hb ?hl ?_
            case hb => exact HB6.out.size
            case hl => (simp; omega)
            intro v5 w5 hR1 hB1 hg1 hat1
            rw [List.nil_append] at hR1
            refine hK.out _ _ (blk_grown HX6.out hg1 (slice_ne (by have := blk_lt HX4.out; omega))) (fun hS9 => ?_)
            clear hK
            clear K
            have hn : (w4.alloc (.cells #[] 54 (0, 0))).heap.size = w4.heap.size + 1 := alloc_size _ _
            have HV5 : Aside0 (w5.heap[w4.heap.size + 1]? = some (.cells #[.int .i64 s.f0, .int .u64 s.f1] 54 (0, 0))) := ⟨hn ▸ blk_grown (blk_new (w4.alloc (.cells #[] 54 (0, 0))) (.cells #[.int .i64 s.f0, .int .u64 s.f1] 54 (0, 0))) hg1 (slice_ne (by omega))⟩
            refine norm_ (a' := ?_) ?_ ?_
            rotate_left
            · show Act.put _ (some 50) _ = _
              simp only [Act.put, List.setIfInBounds_toArray, List.set_cons_zero, List.set_cons_succ]
              rfl
            exact HC (_, v5, w4.heap.size + 1) _ ⟨⟨hS9⟩, ⟨hR1⟩, ⟨hB1⟩, HV5, ⟨show some (w4.heap.size + 1) ≠ v5.ownBlock from ownJ_ne (by rw [alloc_size, alloc_size]; omega) (slice_ne (by omega)) hat1⟩, ⟨show w.heap.size ≤ w4.heap.size + 1 from Nat.le_succ_of_le HB4.out.size⟩, ⟨ownJ_ne (blk_lt HX6.out) (slice_ne (by have := blk_lt HX4.out; omega)) hat1⟩⟩
        · refine value_ (v := ?_) (w1 := ?_) (by rfl) rfl ?_ ?_
          rotate_left; rotate_left
          · go_simp
            refine ⟨?_, ?_⟩ <;> rfl
          have HB5 := Aside0.mk (below_alloc HB4.out (.cells #[.int .i64 s.f0, .int .u64 s.f1] 54 (0, 0)))
          have HX5 := Aside0.mk (blk_alloc HX4.out (.cells #[.int .i64 s.f0, .int .u64 s.f1] 54 (0, 0)))
          refine hK.out _ _ HX5.out (fun hS9 => ?_)
          clear hK hS9
          clear K
          refine norm_ (a' := ?_) ?_ ?_
          rotate_left
          · show Act.put _ (some 52) _ = _
            simp only [Act.put, List.setIfInBounds_toArray, List.set_cons_zero, List.set_cons_succ]
            rfl
          refine one_ (i := 0) (N := some 46) #[true, true, true, true, false, true, true, false, true, true, true, false, false] rfl rfl (by kernel_rfl) (by decide) (fun K hK => ?_)
          refine value_ (v := ?_) (w1 := ?_) (by rfl) rfl ?_ ?_
          rotate_left; rotate_left
          · go_simp
            refine ⟨?_, ?_⟩ <;> rfl
          have hE : Aside0 (RS ((w4.alloc (.cells #[.int .i64 s.f0, .int .u64 s.f1] 54 (0, 0))).alloc (.cells #[] 54 (0, 0))) w.heap.size (.slice (some ⟨w4.heap.size + 1, 0, none⟩) 0 0) []) := ⟨by
            have := R_empty k54 54 w.heap.size (w4.alloc (.cells #[.int .i64 s.f0, .int .u64 s.f1] 54 (0, 0))) (fun _ => True) HB5.out.size trivial
            rwa [alloc_size] at this⟩
          have HB6 := Aside0.mk (below_alloc HB5.out (.cells #[] 54 (0, 0)))
          have HX6 := Aside0.mk (blk_alloc HX5.out (.cells #[] 54 (0, 0)))
          refine hK.out _ _ HX6.out (fun hS9 => ?_)
          clear hK hS9
          clear K
          refine norm_ (a' := ?_) ?_ ?_
          rotate_left
          · show Act.put _ (some 46) _ = _
            simp only [Act.put, List.setIfInBounds_toArray, List.set_cons_zero, List.set_cons_succ]
            rfl
          refine one_ (i := 4) (N := some 50) #[true, true, true, true, true, true, true, false, true, true, true, false, false] rfl rfl (by kernel_rfl) (by decide) (fun K hK => ?_)
          refine Kd.R_append_rows_step k54 (w0 := w) w.heap.size (by rfl) (.tmp 46) (.tmp 49) 30 54 (.agg #[.int .i64 0, .int .u64 0]) 16 rfl Tryd.underlying30 info54 rfl (by decide) (by omega) _ [] (l.take q) A q c (fun _ => True) (fun _ => False) rfl rfl hE.out (HTK.out _ HB6.out) (fun x cs hx => k54_JKM hx) (fun _ hk => hk.elim) (fun _ _ => trivial) HB6.out ?hb ?hl ?_
          case hb => exact HB6.out.size
          case hl => (simp; omega)
          intro v5 w5 hR1 hB1 hg1 hat1
          rw [List.nil_append] at hR1
          have hn : (w4.alloc (.cells #[.int .i64 s.f0, .int .u64 s.f1] 54 (0, 0))).heap.size = w4.heap.size + 1 := alloc_size _ _
          refine hK.out _ _ (blk_grown HX6.out hg1 (slice_ne (by have := blk_lt HX4.out; omega))) (fun hS9 => ?_)
          clear hK
          clear K
          have HV5 := Aside0.mk (blk_grown (blk_alloc (blk_new w4 (.cells #[.int .i64 s.f0, .int .u64 s.f1] 54 (0, 0))) (.cells #[] 54 (0, 0))) hg1 (slice_ne (by omega)))
          refine norm_ (a' := ?_) ?_ ?_
          rotate_left
          · show Act.put _ (some 50) _ = _
            simp only [Act.put, List.setIfInBounds_toArray, List.set_cons_zero, List.set_cons_succ]
            rfl
          exact HC (_, v5, w4.heap.size) _ ⟨⟨hS9⟩, ⟨hR1⟩, ⟨hB1⟩, HV5, ⟨show some w4.heap.size ≠ v5.ownBlock from ownJ_ne (by rw [alloc_size, alloc_size]; omega) (slice_ne (by omega)) hat1⟩, ⟨HB4.out.size⟩, ⟨ownJ_ne (blk_lt HX6.out) (slice_ne (by have := blk_lt HX4.out; omega)) hat1⟩⟩
        rintro ⟨v46, v50, vb⟩ w5 ⟨HX5, HR5, HB5, HV5, HN5, HG5, HNB⟩
        refine norm_ (a' := ?_) ?_ ?_
        rotate_left
        · simp only [putAll, Act.put, List.setIfInBounds_toArray, List.set_cons_zero, List.set_cons_succ]
          rfl
        have HS5 := Aside0.mk (HXD.out w5 vb HB5.out HV5.out HG5.out)
        refine one_ (i := 7) (N := some 53) #[true, true, true, true, true, true, true, true, true, true, true, false, false] rfl rfl (by kernel_rfl) (by decide) (fun K hK => ?_)
        refine Kd.R_append_rows_step k54 (w0 := w) w.heap.size (by rfl) (.tmp 50) (.tmp 52) 30 54 (.agg #[.int .i64 0, .int .u64 0]) 16 rfl Tryd.underlying30 info54 rfl (by decide) (by omega) v50 (l.take q) [s] (some ⟨vb, 0, none⟩) 1 1 (fun _ => True) (fun _ => False) rfl rfl HR5.out (Kd.R_reads' HS5.out).2.2 (fun x cs hx => k54_JKM hx) (fun _ hk => hk.elim) (fun _ _ => trivial) HB5.out ?hb ?hl ?_
        case hb => exact HB5.out.size
        case hl => (have := HLL.out; omega)
        intro v6 w6 hR6 hB6 hg6 hat6
        have HNX6 := Aside0.mk (ownJ_ne (blk_lt HX5.out) HNB.out hat6)
        refine hK.out _ _ (blk_grown HX5.out hg6 HNB.out) (fun hS9 => ?_)
        clear hK
        clear K
        refine norm_ (a' := ?_) ?_ ?_
        rotate_left
        · show Act.put _ (some 53) _ = _
          simp only [Act.put, List.setIfInBounds_toArray, List.set_cons_zero, List.set_cons_succ]
          rfl
        refine one_ (i := 11) (N := some 57) #[true, true, true, true, true, true, true, true, true, true, true, true, false] rfl rfl (by kernel_rfl) (by decide) (fun K hK => ?_)
        refine Kd.R_append_rows_step k54 (w0 := w) w.heap.size (by rfl) (.tmp 53) (.tmp 56) 30 54 (.agg #[.int .i64 0, .int .u64 0]) 16 rfl Tryd.underlying30 info54 rfl (by decide) (by omega) v6 (l.take q ++ [s]) (l.drop q) _ _ _ (fun _ => True) (fun _ => False) rfl rfl hR6 (HDR.out _ hB6) (fun x cs hx => k54_JKM hx) (fun _ hk => hk.elim) (fun _ _ => trivial) hB6 ?hb ?hl ?_
        case hb => exact hB6.size
        case hl => (have := HLL.out; rw [List.length_append, this]; simp; omega)
        intro v7 w7 hR7 hB7 hg7 hat7
        refine hK.out _ _ (blk_grown hS9 hg7 HNX6.out) (fun hS8 => ?_)
        clear hK hS9
        clear K
        refine norm_ (a' := ?_) ?_ ?_
        rotate_left
        · show Act.put _ (some 57) _ = _
          simp only [Act.put, List.setIfInBounds_toArray, List.set_cons_zero, List.set_cons_succ]
          rfl
        refine pure_ (i := 12) (N := some 4) (v := ?_) (a' := ?_) #[true, true, true, true, true, true, true, true, true, true, true, true, true] rfl rfl (by kernel_rfl) (fun _ _ _ h => h) (Or.inl ⟨by rfl, ?_⟩) ?_ ?_
        rotate_left
        · intro w'
          go_simp
          try (with_reducible rfl)
        rotate_left
        · simp only [Act.put, List.setIfInBounds_toArray, List.set_cons_zero, List.set_cons_succ]
          rfl
        refine done_ (by kernel_rfl) ?_
        go_wp2
        all_goals
          go_ret
          exact ⟨v7, rfl, by rw [HV.out]; rw [List.append_assoc] at hR7; exact hR7, hB7⟩
end Go.Proofs.YtbgmnmjokdfmlaaDoor.PA
namespace Go.Proofs.YtbgmnmjokdfmlaaDoor.PA
set_option linter.unusedVariables false
set_option linter.unusedSimpArgs false
def setG (G : List S60) (i : Nat) (ss : List S54) : List S60 := G.set i ⟨(rd_T60 G (i : Int)).f0, setAll (rd_T60 G (i : Int)).f1 ss⟩
theorem setG_len (G : List S60) (i : Nat) (ss : List S54) : (setG G i ss).length = G.length := List.length_set
theorem setG_nil {G : List S60} {i : Nat} (h : i < G.length) : setG G i [] = G := by
  unfold setG
  rw [rd_getElem h]
  show G.set i G[i] = G
  exact List.set_getElem_self h
theorem setG_at {G : List S60} {i : Nat} (h : i < G.length) (ss : List S54) : (setG G i ss)[i]? = some ⟨(rd_T60 G (i : Int)).f0, setAll (rd_T60 G (i : Int)).f1 ss⟩ := by
  unfold setG
  rw [List.getElem?_set_self h]
theorem setG_snoc {G : List S60} {i : Nat} (ss : List S54) (s : S54) :
    (setG G i ss).set i ⟨(rd_T60 G (i : Int)).f0, setL (setAll (rd_T60 G (i : Int)).f1 ss) s⟩ = setG G i (ss ++ [s]) := by
  unfold setG
  rw [List.set_set]
  unfold setAll
  rw [List.foldl_append]
  rfl
theorem setAll_append (l a b : List S54) : setAll l (a ++ b) = setAll (setAll l a) b := by
  unfold setAll
  rw [List.foldl_append]
theorem ris_addG {G : List S60} {i : Nat} (h : i < G.length) (ss : List S54) : (addG G i ss).map ris = setG (G.map ris) i ss := by
  unfold addG setG
  rw [List.map_set, rd_getElem h, rd_getElem (by rw [List.length_map]; exact h), List.getElem_map]
  unfold ris risenL
  rw [setAll_append]
theorem posB_ris (G : List S60) (t : List S65) : posB (G.map ris) t = posB G t := by
  unfold posB
  rw [List.takeWhile_map, List.length_map]
  rfl
theorem hasG_ris (G : List S60) (t : List S65) : hasG (G.map ris) t = hasG G t := by
  unfold hasG
  rw [posB_ris, List.length_map]
  by_cases h : posB G t < G.length
  · rw [rd_getElem h, rd_getElem (by rw [List.length_map]; exact h), List.getElem_map]
    rfl
  · rw [decide_eq_false h]
    rfl
theorem putG_ris (G : List S60) (t : List S65) : putG (G.map ris) t = (putG G t).map ris := by
  unfold putG
  rw [hasG_ris, posB_ris]
  split
  · rfl
  · unfold insG
    rw [List.map_append, List.map_append, List.map_take, List.map_drop]
    rfl
theorem stepG_ris (G : List S60) (s : S60) (h : ¬ s.f1.length = 0) : (stepG G s).map ris = setG (putG (G.map ris) s.f0) (posB (G.map ris) s.f0) s.f1 := by
  unfold stepG
  rw [if_neg h, ris_addG (putG_lt G s.f0).1, putG_ris, posB_ris]
theorem risenL_len (a : List S54) : (risenL a).length ≤ a.length := by
  have := setAll_len a []
  simpa [risenL] using this
theorem posB_next {G : List S60} {t : List S65} {q : Nat} (hq : q ≤ posB G t) (hl : q < G.length) (hc : cmpL (rd_T60 G (q : Int)).f0 t < 0) : q + 1 ≤ posB G t := by
  rcases Nat.lt_or_ge q (posB G t) with h | h
  · exact h
  · have : q = posB G t := by omega
    subst this
    exact absurd hc (posB_at G t hl)
theorem posB_stop {G : List S60} {t : List S65} {q : Nat} (hq : q ≤ posB G t) (hc : ¬ cmpL (rd_T60 G (q : Int)).f0 t < 0) : q = posB G t := by
  rcases Nat.lt_or_ge q (posB G t) with h | h
  · exact absurd (posB_lt G t q h) hc
  · omega
end Go.Proofs.YtbgmnmjokdfmlaaDoor.PA
namespace Go.Proofs.YtbgmnmjokdfmlaaDoor.PA
open Go.RowKit Go.Proofs.YtbgmnmjokdfmlaaDoor.G Go.Proofs.YtbgmnmjokdfmlaaDoorW.PrintWords Go.Proofs.YtbgmnmjokdfmlaaDoorW.PrintLast Go.Proofs.YtbgmnmjokdfmlaaDoorW.PrintMore
set_option linter.unusedVariables false
set_option linter.unusedSimpArgs false
theorem rr_box {w : World} {vb : Nat} {c0 c1 : Value} (hv : w.heap[vb]? = some (.cells #[c0, c1] 60 (0, 0))) (h0 : c0.oneCell' = true) (h1 : c1.oneCell' = true) : (Kd.raw 2).C w (some ⟨vb, 0, none⟩) 1 [[c0, c1]] :=
  ⟨rfl, by omega, fun _ => ⟨⟨vb, 0, none⟩, rfl, fun j p hj => by
    rcases j with _ | j
    · simp at hj
      subst hj
      refine ⟨[c0, c1], rfl, ⟨rfl, rfl, fun u hu => by simp at hu; rcases hu with rfl | rfl <;> assumption⟩, fun i u hi => ?_⟩
      rw [Addr.add_lit, blk_cell hv, Nat.zero_add, Nat.zero_mul, Nat.zero_add]
      simpa using hi
    · simp at hj⟩⟩
set_option maxHeartbeats 800000 in
theorem CopyL.calls (A0 : Option Addr) (c0 : Nat) (l0 : List S65) (n : Nat) (w : World) (hn : l0.length = n) (hr0 : Kd.C k65 w A0 l0.length l0) (hlen : l0.length ≤ 1000000) :
    Calls Tryd.prog 54 #[.slice A0 n c0] w fun e w' => ∃ v0_ : Value, e = .returned (v0_) ∧ RL w' w.heap.size v0_ l0 ∧ Below w.heap.size w w' := by
  subst hn
  have HR := Aside0.mk hr0
  have HL := Aside0.mk hlen
  have hE := Aside0.mk (R_empty k65 65 w.heap.size w (fun _ => True) (Nat.le_refl _) trivial)
  have HBA := Aside0.mk (below_alloc (Below.refl w.heap.size w) (.cells #[] 65 (0, 0)))
  have HRA := Aside0.mk (Kd.C_below HR.out HBA.out)
  clear hr0
  go_enter Tryd.func54, Tryd.ntmps54
  go_wp2_with ((with_reducible refine gate_dst (N := 5) rfl ?_); refine Kd.R_append_rows k65 (w0 := w) w.heap.size rfl (.tmp 3) (.tmp 4) 27 65 (.agg #[.string ⟨#[]⟩, .string ⟨#[]⟩]) 32 rfl Tryd.underlying27 info65 rfl (by decide) (by omega) _ [] l0 A0 l0.length c0 (fun _ => True) (fun _ => False) rfl rfl hE.out HRA.out (fun x cs hx => k65_KM hx) (fun _ hk => hk.elim) (fun _ _ => trivial) HBA.out ?hb ?hl ?_; (case hb => exact HBA.out.size); (case hl => (simp; have := HL.out; omega)); intro v1 w2 hR1 hB1 hg_ ho_; rw [List.nil_append] at hR1; have HR1 := Aside0.mk hR1; have HB1 := Aside0.mk hB1; clear hR1 hB1 hg_ ho_)
  go_ret
  exact ⟨_, rfl, HR1.out, HB1.out⟩
set_option maxHeartbeats 16000000 in
set_option maxRecDepth 1000000 in
theorem rJoin.calls (A : Option Addr) (c n : Nat) (l : List S60) (w : World) (hn : l.length = n) (hr : Kd.C k60 w A n l) (hlen : n ≤ 100000) (htot : tot l ≤ 1000000) (hlab : ∀ x ∈ l, x.f0.length ≤ 1000000) :
    Calls Tryd.prog 26 #[.slice A n c] w fun e w' => ∃ (A' : Option Addr) (c' : Nat), e = .returned (.slice A' (joinL l).length c') ∧ (joinL l).length ≤ c' ∧ Kd.C k60 w' A' (joinL l).length (joinL l) ∧ Below w.heap.size w w' := by
  subst hn
  have mixed : Tryd.prog.follows .mixedOrders = true := by kernel_rfl
  have HR := Aside0.mk hr
  have HT := Aside0.mk htot
  have HLAB := Aside0.mk hlab
  clear hr htot hlab
  go_enter Tryd.func26, Tryd.ntmps26
  go_wp2
  go_loopg [3, 11] l.length (fun kx s3 s11 wr => ∃ (k : Nat) (v : Value) (rs : List Rec), s11 = .int .i64 k ∧ s3 = v ∧ k ≤ l.length ∧ l.length - k ≤ kx ∧ Aside0 (Lay wr w.heap.size v rs) ∧ Aside0 (rs.map (·.x) = (groupsL (l.take k)).map ris) ∧ Aside0 (Below w.heap.size w wr))
  case atStart => exact ⟨0, _, [], rfl, rfl, Nat.zero_le _, by omega, ⟨Lay.nil _ _⟩, ⟨rfl⟩, ⟨Below.refl _ _⟩⟩
  case round =>
    obtain ⟨k, v, rs, rfl, rfl, hk, hkx, HL, HM, HB⟩ := hrel
    by_cases hlt : k < l.length
    · obtain ⟨ad, A0, c0, A1, c1, rfl, x0, x1, l0, g0, l1, g1⟩ := at_T60 HR.out (k : Int) (by omega) (by omega)
      rw [Int.toNat_natCast] at x0 x1
      replace x0 := pw_cell_below HB.out x0
      replace x1 := pw_cell_below HB.out x1
      have hkz : (k : Int) < (l.length : Int) := by omega
      have HGT := Aside0.mk (groups_take l k hlt)
      have HSL : Aside0 ((rd_T60 l (k : Int)).f0.length ≤ 1000000 ∧ tot (l.take k) + (rd_T60 l (k : Int)).f1.length ≤ 1000000) := ⟨by
        rw [rd_getElem hlt]
        refine ⟨HLAB.out _ (List.getElem_mem hlt), ?_⟩
        have h1 := tot_le_take l (k + 1)
        rw [List.take_succ_eq_append_getElem hlt, tot_snoc] at h1
        exact Nat.le_trans h1 HT.out⟩
      have HGL := Aside0.mk (groups_len l k hk)
      have G0 := Aside0.mk g0
      have G1 := Aside0.mk g1
      clear l0 g0 l1 g1
      generalize hs : rd_T60 l (k : Int) = s at *
      clear hs
      by_cases hz : s.f1.length = 0
      · have HZ := Aside0.mk hz
        have hzb : ((s.f1.length : Int) == 0) = true := by rw [hz]; rfl
        have hzz : (s.f1.length : Int) = 0 := by omega
        clear hz
        have HL1 := Aside0.mk (HL.out.below (below_alloc (Below.refl _ _) (.cells #[.slice A0 s.f0.length c0, .slice A1 s.f1.length c1] 60 (0, 0))))
        have HB1 := Aside0.mk (below_alloc HB.out (.cells #[.slice A0 s.f0.length c0, .slice A1 s.f1.length c1] 60 (0, 0)))
        generalize s.f0.length = L0 at x0 HL1 HB1
        generalize s.f1.length = L1 at x1 HL1 HB1 hzb hzz
        go_wp2
        go_roundg (l.length - (k + 1))
        case measure => omega
        case rel => exact ⟨k + 1, _, rs, by go_num, rfl, by omega, Nat.le_refl _, HL1, ⟨by rw [HM.out, HGT.out, stepG, if_pos HZ.out]⟩, HB1⟩
      · have HZ := Aside0.mk hz
        have hzb : ((s.f1.length : Int) == 0) = false := beq_eq_false_iff_ne.2 (by omega)
        have hzz : ¬ (s.f1.length : Int) = 0 := by omega
        clear hz
        have HL1 := Aside0.mk (HL.out.below (below_alloc (Below.refl _ _) (.cells #[.slice A0 s.f0.length c0, .slice A1 s.f1.length c1] 60 (0, 0))))
        have HB1 := Aside0.mk (below_alloc HB.out (.cells #[.slice A0 s.f0.length c0, .slice A1 s.f1.length c1] 60 (0, 0)))
        have HX1 := Aside0.mk (blk_new wr (.cells #[.slice A0 s.f0.length c0, .slice A1 s.f1.length c1] 60 (0, 0)))
        have HBX := Aside0.mk (show w.heap.size ≤ wr.heap.size from HB.out.size)
        generalize hL0 : s.f0.length = L0 at x0 HL1 HB1 HX1 G0
        generalize hL1 : s.f1.length = L1 at x1 HL1 HB1 HX1 G1 hzb hzz
        have HL0 := Aside0.mk hL0
        have HLL1 := Aside0.mk hL1
        clear hL0 hL1
        go_upto_region 6 with (fail)
        clear HL HB x0 x1
        generalize wr.alloc (.cells #[.slice A0 L0 c0, .slice A1 L1 c1] 60 (0, 0)) = W1 at HL1 HB1 HX1 ⊢
        generalize wr.heap.size = bx at *
        obtain ⟨Av, cv, rfl, hcv, hC⟩ := HL1.out.reads
        have HPL : Aside0 (∀ x ∈ rs.map (·.x), x.f0.length ≤ 1000000) := ⟨fun x hx => by
          rw [HM.out] at hx
          obtain ⟨y, hy, rfl⟩ := List.mem_map.1 hx
          obtain ⟨q, hq, he⟩ := groups_lab _ y hy
          show y.f0.length ≤ _
          rw [he]
          exact HLAB.out q (List.mem_of_mem_take hq)⟩
        have HRB : Aside0 (rs.length ≤ 100000) := ⟨by have := HGL.out.1; rw [← List.length_map (f := ris), ← HM.out, List.length_map] at this; omega⟩
        have HIL : Aside0 (posB (rs.map (·.x)) s.f0 ≤ rs.length) := ⟨by have := posB_le (rs.map (·.x)) s.f0; rwa [List.length_map] at this⟩
        have HC := Aside0.mk hC
        have HCV := Aside0.mk hcv
        have HPN : Aside0 ((rs.map (·.x)).length = rs.length) := ⟨List.length_map ..⟩
        clear hC hcv
        generalize hpp : rs.map (·.x) = PQ at HM HPL HIL HC HPN
        have HPP := Aside0.mk hpp
        clear hpp
        generalize hi : posB PQ s.f0 = i at HIL
        have HI := Aside0.mk hi
        clear hi
        go_upto_block 2 with (fail)
        go_cut [6] (fun v6 wx => v6 = .int .i64 (i : Nat) ∧ Aside0 (Below W1.heap.size W1 wx))
        case first =>
          go_wp2_with fail
          go_loopg [6] rs.length (fun kx s6 wr => ∃ (q : Nat), s6 = .int .i64 q ∧ q ≤ i ∧ rs.length - q ≤ kx ∧ Aside0 (Below W1.heap.size W1 wr))
          case atStart => exact ⟨0, rfl, Nat.zero_le _, by omega, ⟨Below.refl _ _⟩⟩
          case round =>
            clear hkx
            obtain ⟨q, rfl, hq, hkx, HBQ⟩ := hrel
            have hrb := HRB.out
            have hil := HIL.out
            rcases Nat.lt_or_ge q rs.length with hql | hql
            · obtain ⟨ad, Aq, cq, _, _, rfl, q0, _, lq0, gq0, _, _⟩ := at_T60 (Kd.C_below HC.out HBQ.out) (q : Int) (by omega) (by omega)
              rw [Int.toNat_natCast] at q0
              have HQL : Aside0 ((rd_T60 PQ (q : Int)).f0.length ≤ 1000000) := ⟨by
                rw [rd_getElem (by rw [HPN.out]; exact hql)]
                exact HPL.out _ (List.getElem_mem _)⟩
              have HNX := Aside0.mk (fun h => posB_next (G := PQ) (t := s.f0) (q := q) (by rw [HI.out]; exact hq) (by rw [HPN.out]; exact hql) h)
              have HST := Aside0.mk (fun h => posB_stop (G := PQ) (t := s.f0) (q := q) (by rw [HI.out]; exact hq) h)
              rw [HI.out] at HNX HST
              have GQ := Aside0.mk gq0
              clear lq0 gq0
              generalize (rd_T60 PQ (q : Int)).f0 = t at q0 GQ HQL HNX HST
              have C3 := Aside0.mk (fun W (hb : Below wr.heap.size wr W) => rcmpL.calls Aq A0 cq c0 t.length L0 t s.f0 W rfl HL0.out (Kd.C_below GQ.out hb) (Kd.C_below G0.out (below_step (below_step HB1.out HBQ.out) hb)) HQL.out)
              have qA := BW.cell q0
              have sA := BW.cell (blk_cell (blk_below HX1.out HBQ.out) 0 |>.trans rfl)
              generalize cmpL t s.f0 = z at C3 HNX HST
              have gq : (q : Int) < (rs.length : Int) := by omega
              have g1 : decide ((q : Int) < (rs.length : Int)) = true := decide_eq_true gq
              have gqn : decide (q < rs.length) = true := decide_eq_true hql
              by_cases hzc : z < 0
              · have g2 : decide (z < 0) = true := decide_eq_true hzc
                have HQ1 := Aside0.mk (HNX.out hzc)
                clear q0 HNX HST
                go_wp2_with fail
                refine wp_region_bw (by kernel_rfl) (by kernel_rfl) ?_
                repeat (any_goals (first | go_big_quiet_step (first | (go_at_call 42; refine bw_of (C3.out _ (BW.hb _)))) | quiet_step (first | (go_at_call 42; refine bw_of (C3.out _ (BW.hb _))))))
                all_goals (refine wpQuiet_nil ?_; intro _ hw'; obtain ⟨⟨w2, hb⟩, hw''⟩ := hw'; subst hw''; have HB2 := Aside0.mk (below_step HBQ.out hb); clear hb)
                go_wp2
                go_roundg (rs.length - (q + 1))
                case measure => omega
                case rel => exact ⟨q + 1, by go_num, HQ1.out, Nat.le_refl _, HB2⟩
              · have g2 : decide (z < 0) = false := decide_eq_false hzc
                have HQ1 := Aside0.mk (HST.out hzc)
                clear q0 HNX HST
                go_wp2_with fail
                refine wp_region_bw (by kernel_rfl) (by kernel_rfl) ?_
                repeat (any_goals (first | go_big_quiet_step (first | (go_at_call 42; refine bw_of (C3.out _ (BW.hb _)))) | quiet_step (first | (go_at_call 42; refine bw_of (C3.out _ (BW.hb _))))))
                all_goals (refine wpQuiet_nil ?_; intro _ hw'; obtain ⟨⟨w2, hb⟩, hw''⟩ := hw'; subst hw''; have HB2 := Aside0.mk (below_step HBQ.out hb); clear hb)
                go_wp2_with fail
                go_meet
                exact ⟨by rw [← HQ1.out], HB2⟩
            · have hqi : q = i := by omega
              subst hqi
              have gq : ¬ (q : Int) < (rs.length : Int) := by omega
              have g1 : decide ((q : Int) < (rs.length : Int)) = false := decide_eq_false gq
              have gn : ¬ q < rs.length := by omega
              have gqn : decide (q < rs.length) = false := decide_eq_false gn
              go_wp2_with fail
              go_quiet (fail)
              go_wp2_with fail
              go_meet
              exact ⟨rfl, ⟨pw_below_drewN HBQ.out _⟩⟩
        case rest =>
          obtain ⟨rfl, HBQ⟩ := hcut
          go_upto_region 9 with (fail)
          go_cut [50] (fun v50 wx => v50 = .bool (!hasG PQ s.f0) ∧ Aside0 (Below W1.heap.size W1 wx))
          case first =>
            have hil := HIL.out
            rcases Nat.lt_or_ge i rs.length with hql | hql
            · obtain ⟨ad, Aq, cq, _, _, rfl, q0, _, lq0, gq0, _, _⟩ := at_T60 (Kd.C_below HC.out HBQ.out) (i : Int) (by omega) (by omega)
              rw [Int.toNat_natCast] at q0
              have HQL : Aside0 ((rd_T60 PQ (i : Int)).f0.length ≤ 1000000) := ⟨by
                rw [rd_getElem (by rw [HPN.out]; exact hql)]
                exact HPL.out _ (List.getElem_mem _)⟩
              have HHG : Aside0 (hasG PQ s.f0 = decide (cmpL (rd_T60 PQ (i : Int)).f0 s.f0 = 0)) := ⟨by
                unfold hasG
                rw [HI.out, HPN.out, decide_eq_true hql, Bool.true_and]⟩
              have GQ := Aside0.mk gq0
              clear lq0 gq0
              generalize (rd_T60 PQ (i : Int)).f0 = t at q0 GQ HQL HHG
              have C3 := Aside0.mk (fun W (hb : Below wc.heap.size wc W) => rcmpL.calls Aq A0 cq c0 t.length L0 t s.f0 W rfl HL0.out (Kd.C_below GQ.out hb) (Kd.C_below G0.out (below_step (below_step HB1.out HBQ.out) hb)) HQL.out)
              have qA := BW.cell q0
              have sA := BW.cell (blk_cell (blk_below HX1.out HBQ.out) 0 |>.trans rfl)
              generalize cmpL t s.f0 = z at C3 HHG
              have gq : ¬ (i : Int) = (rs.length : Int) := by omega
              have g1 : ((i : Int) == (rs.length : Int)) = false := beq_eq_false_iff_ne.2 gq
              have gn : ¬ i = rs.length := by omega
              have g3 : (i == rs.length) = false := beq_eq_false_iff_ne.2 gn
              by_cases hzc : z = 0
              · have HV : Aside0 (hasG PQ s.f0 = true) := ⟨by rw [HHG.out, decide_eq_true hzc]⟩
                subst hzc
                clear q0 HHG
                go_wp2_with fail
                refine wp_region_bw (by kernel_rfl) (by kernel_rfl) ?_
                repeat (any_goals (first | go_big_quiet_step (first | (go_at_call 42; refine bw_of (C3.out _ (BW.hb _)))) | quiet_step (first | (go_at_call 42; refine bw_of (C3.out _ (BW.hb _))))))
                all_goals (refine wpQuiet_nil ?_; intro _ hw'; obtain ⟨⟨w2, hb⟩, hw''⟩ := hw'; subst hw''; have HB2 := Aside0.mk (below_step HBQ.out hb); clear hb)
                go_wp2_with fail
                go_meet
                exact ⟨by rw [HV.out]; rfl, HB2⟩
              · have HV : Aside0 (hasG PQ s.f0 = false) := ⟨by rw [HHG.out, decide_eq_false hzc]⟩
                have g2 : decide (z = 0) = false := decide_eq_false hzc
                have g4 : (z == 0) = false := beq_eq_false_iff_ne.2 hzc
                have g5 : (z != 0) = true := bne_iff_ne.2 hzc
                clear q0 HHG
                go_wp2_with fail
                refine wp_region_bw (by kernel_rfl) (by kernel_rfl) ?_
                repeat (any_goals (first | go_big_quiet_step (first | (go_at_call 42; refine bw_of (C3.out _ (BW.hb _)))) | quiet_step (first | (go_at_call 42; refine bw_of (C3.out _ (BW.hb _))))))
                all_goals (refine wpQuiet_nil ?_; intro _ hw'; obtain ⟨⟨w2, hb⟩, hw''⟩ := hw'; subst hw''; have HB2 := Aside0.mk (below_step HBQ.out hb); clear hb)
                go_wp2_with fail
                go_meet
                exact ⟨by rw [HV.out]; rfl, HB2⟩
            · have hqi : i = rs.length := by omega
              have HV : Aside0 (hasG PQ s.f0 = false) := ⟨by
                unfold hasG
                rw [HI.out, HPN.out, decide_eq_false (by omega), Bool.false_and]⟩
              have gq : (i : Int) = (rs.length : Int) := by omega
              have g1 : ((i : Int) == (rs.length : Int)) = true := beq_iff_eq.2 gq
              have g3 : (i == rs.length) = true := beq_iff_eq.2 hqi
              go_wp2_with fail
              go_quiet (fail)
              go_wp2_with fail
              go_meet
              exact ⟨by rw [HV.out]; rfl, ⟨pw_below_drewN HBQ.out _⟩⟩
          case rest =>
            clear HBQ
            obtain ⟨rfl, HBQ'⟩ := hcut
            have HL2 := Aside0.mk (HL1.out.below HBQ'.out)
            have HX2 := Aside0.mk (blk_below HX1.out HBQ'.out)
            have HBQ := Aside0.mk (below_step HB1.out HBQ'.out)
            clear HL1 HX1 HB1 HBQ'
            have y0 := blk_cell HX2.out 0
            have y1 := blk_cell HX2.out 1
            go_upto_if 50 with (fail)
            go_cut [3] (fun v3 wx => ∃ rs3 : List Rec, Aside0 (Lay wx w.heap.size v3 rs3) ∧ Aside0 (rs3.map (·.x) = putG PQ s.f0) ∧ Aside0 (Below w.heap.size w wx) ∧ Aside0 (wx.heap[bx]? = some (.cells #[.slice A0 L0 c0, .slice A1 L1 c1] 60 (0, 0))))
            case first =>
              generalize hfb : hasG PQ s.f0 = fb
              have HFBV := Aside0.mk hfb
              clear hfb
              cases fb with
              | true =>
                go_wp2_with fail
                go_meet
                exact ⟨rs, HL2, ⟨by rw [putG, if_pos HFBV.out]; exact HPP.out⟩, HBQ, HX2⟩
              | false =>
                have hil := HIL.out
                have hcv := HCV.out
                have hicz : (i : Int) ≤ (cv : Int) := by omega
                have hilz : (i : Int) ≤ (rs.length : Int) := by omega
                have hL2D := (Kd.R_reads' (HL2.out.below (below_drew (Below.refl _ _))).1).2.2
                rw [List.length_map] at hL2D
                have HTK : Aside0 (∀ W, Below wc.drew.heap.size wc.drew W → (Kd.raw 2).C W Av i ((rs.map cellsR).take i)) := ⟨fun W hb => by
                  have := Kd.C_take (m := i) (by rw [List.length_map]; exact Kd.C_below hL2D hb) (by rw [List.length_map]; exact hil)
                  rwa [List.length_take, List.length_map, Nat.min_eq_left hil] at this⟩
                have HDR : Aside0 (∀ W, Below wc.drew.heap.size wc.drew W → (Kd.raw 2).C W (if cv = i then Av else Av.map (·.add (i * 2))) (rs.length - i) ((rs.map cellsR).drop i)) := ⟨fun W hb => by
                  have := Kd.C_drop (m := i) (by rw [List.length_map]; exact Kd.C_below hL2D hb) (by rw [List.length_map]; exact hil) (by rw [List.length_map]; exact hcv)
                  rwa [List.length_drop, List.length_map] at this⟩
                clear hL2D
                rw [Bool.not_false]
                go_upto_region 10 with (fail)
                refine start_ (n := 16) (ds := [7, 9, 10, 14]) (S := fun w' => w'.cell? ⟨bx, 0, none⟩ = some (.slice A0 L0 c0)) #[false, false, false, false, false, false, false, false, false, false, false, false, false, false, false, false] mixed rfl rfl y0 (fun hS => ?_)
                refine pure_ (i := 1) (N := some 52) (v := ?_) (a' := ?_) #[false, true, false, false, false, false, false, false, false, false, false, false, false, false, false, false] rfl rfl (by kernel_rfl) (fun _ _ _ h => h) (Or.inl ⟨by rfl, ?_⟩) ?_ ?_
                rotate_left
                · intro w'
                  go_simp
                  try (with_reducible rfl)
                rotate_left
                · simp only [Act.put, List.setIfInBounds_toArray, List.set_cons_zero, List.set_cons_succ]
                  rfl
                refine pure_ (i := 2) (N := some 53) (v := ?_) (a' := ?_) #[false, true, true, false, false, false, false, false, false, false, false, false, false, false, false, false] rfl rfl (by kernel_rfl) (fun _ _ _ h => h) (Or.inl ⟨by rfl, ?_⟩) ?_ ?_
                rotate_left
                · intro w'
                  go_simp
                  try (with_reducible rfl)
                rotate_left
                · simp only [Act.put, List.setIfInBounds_toArray, List.set_cons_zero, List.set_cons_succ]
                  rfl
                refine pure_ (i := 3) (N := some 54) (v := ?_) (a' := ?_) #[false, true, true, true, false, false, false, false, false, false, false, false, false, false, false, false] rfl rfl (by kernel_rfl) (fun _ _ _ h => h) (Or.inl ⟨by rfl, ?_⟩) ?_ ?_
                rotate_left
                · intro w'
                  go_simp
                  try (with_reducible rfl)
                rotate_left
                · simp only [Act.put, List.setIfInBounds_toArray, List.set_cons_zero, List.set_cons_succ]
                  rfl
                refine pure_ (i := 5) (N := some 56) (v := ?_) (a' := ?_) #[false, true, true, true, false, true, false, false, false, false, false, false, false, false, false, false] rfl rfl (by kernel_rfl) (fun _ _ _ h => h) (Or.inl ⟨by rfl, ?_⟩) ?_ ?_
                rotate_left
                · intro w'
                  go_simp
                  try (with_reducible rfl)
                rotate_left
                · simp only [Act.put, List.setIfInBounds_toArray, List.set_cons_zero, List.set_cons_succ]
                  rfl
                refine pure_ (i := 11) (N := some 62) (v := ?_) (a' := ?_) #[false, true, true, true, false, true, false, false, false, false, false, true, false, false, false, false] rfl rfl (by kernel_rfl) (fun _ _ _ h => h) (Or.inl ⟨by rfl, ?_⟩) ?_ ?_
                rotate_left
                · intro w'
                  go_simp
                  try (with_reducible rfl)
                rotate_left
                · simp only [Act.put, List.setIfInBounds_toArray, List.set_cons_zero, List.set_cons_succ]
                  rfl
                refine pure_ (i := 12) (N := some 63) (v := ?_) (a' := ?_) #[false, true, true, true, false, true, false, false, false, false, false, true, true, false, false, false] rfl rfl (by kernel_rfl) (fun _ _ _ h => h) (Or.inl ⟨by rfl, ?_⟩) ?_ ?_
                rotate_left
                · intro w'
                  go_simp
                  try (with_reducible rfl)
                rotate_left
                · simp only [Act.put, List.setIfInBounds_toArray, List.set_cons_zero, List.set_cons_succ]
                  rfl
                refine pure_ (i := 13) (N := some 64) (v := ?_) (a' := ?_) #[false, true, true, true, false, true, false, false, false, false, false, true, true, true, false, false] rfl rfl (by kernel_rfl) (fun _ _ _ h => h) (Or.inl ⟨by rfl, ?_⟩) ?_ ?_
                rotate_left
                · intro w'
                  go_simp
                  try (with_reducible rfl)
                rotate_left
                · simp only [Act.put, List.setIfInBounds_toArray, List.set_cons_zero, List.set_cons_succ]
                  rfl
                refine take_ (i := 6) (N := some 57) (v := ?_) (a' := ?_) #[false, true, true, true, false, true, true, false, false, false, false, true, true, true, false, false] rfl rfl (by kernel_rfl) (fun _ _ _ h => h) (Or.inl ⟨by rfl, ?_⟩) hS ?_ ?_
                rotate_left
                · rintro w' hc1
                  go_simp
                  try (with_reducible rfl)
                rotate_left
                · simp only [Act.put, List.setIfInBounds_toArray, List.set_cons_zero, List.set_cons_succ]
                  rfl
                have HL2D := Aside0.mk (HL2.out.below (below_drew (Below.refl _ _)))
                have HX2D : Aside0 (wc.drew.heap[bx]? = some (.cells #[.slice A0 L0 c0, .slice A1 L1 c1] 60 (0, 0))) := HX2
                have HB2D := Aside0.mk (below_drew1 HBQ.out)
                clear HL2 HX2 HBQ y0 y1 hS
                generalize wc.drew = w4 at HL2D HX2D HB2D HTK HDR ⊢
                have HROW := Aside0.mk HL2D.out.1
                have HRCC := Aside0.mk (Kd.R_reads' HROW.out).2.2
                refine one_ (i := 0) (N := some 51) #[true, true, true, true, false, true, true, false, false, false, false, true, true, true, false, false] rfl rfl (by kernel_rfl) (by decide) (fun K hK => ?_)
                refine value_ (v := ?_) (w1 := ?_) (by rfl) rfl ?_ ?_
                rotate_left; rotate_left
                · go_simp
                  refine ⟨?_, ?_⟩ <;> rfl
                have hE := Aside0.mk (R_empty (Kd.raw 2) 60 w4.heap.size w4 (fun _ => True) (Nat.le_refl _) trivial)
                have HB5 := Aside0.mk (below_alloc (Below.refl w4.heap.size w4) (.cells #[] 60 (0, 0)))
                refine hK.out _ _ (blk_cell (blk_below HX2D.out HB5.out) 0) (fun hS9 => ?_)
                clear hK hS9
                clear K
                refine norm_ (a' := ?_) ?_ ?_
                rotate_left
                · show Act.put _ (some 51) _ = _
                  simp only [Act.put, List.setIfInBounds_toArray, List.set_cons_zero, List.set_cons_succ]
                  rfl
                refine one_ (i := 4) (N := some 55) #[true, true, true, true, true, true, true, false, false, false, false, true, true, true, false, false] rfl rfl (by kernel_rfl) (by decide) (fun K hK => ?_)
                refine Kd.R_append_rows_step (Kd.raw 2) (w0 := w4) w4.heap.size (by rfl) (.tmp 51) (.tmp 54) 38 60 (.agg #[.slice none 0 0, .slice none 0 0]) 48 rfl Tryd.underlying38 info60 rfl (by decide) (by omega) _ [] ((rs.map cellsR).take i) Av i cv (fun _ => True) (fun _ => False) rfl rfl hE.out (HTK.out _ HB5.out) (fun x cs hx => hx) (fun _ hk => hk.elim) (fun _ _ => trivial) HB5.out ?hb ?hl ?_
                case hb => exact HB5.out.size
                case hl => (have := HRB.out; have := HIL.out; simp; omega)
                intro v5 w5 hR5 hB5 hg5 hat5
                rw [List.nil_append] at hR5
                have HR5 := Aside0.mk hR5
                have HB6 := Aside0.mk hB5
                clear hR5 hB5 hg5 hat5
                refine hK.out _ _ (blk_cell (blk_below HX2D.out HB6.out) 0) (fun hS9 => ?_)
                clear hK hS9
                clear K
                refine norm_ (a' := ?_) ?_ ?_
                rotate_left
                · show Act.put _ (some 55) _ = _
                  simp only [Act.put, List.setIfInBounds_toArray, List.set_cons_zero, List.set_cons_succ]
                  rfl
                refine last_ (i := 7) (N := some 58) #[true, true, true, true, true, true, true, true, false, false, false, true, true, true, false, false] rfl rfl (by kernel_rfl) (by decide) (fun K hK => ?_)
                refine goes_ Tryd.func54 (by kernel_rfl) rfl #[.slice A0 L0 c0] (by rfl) rfl rfl (by rw [List.map_toArray]; rfl) ?_
                refine (CopyL.calls A0 c0 s.f0 L0 _ HL0.out (by rw [HL0.out]; exact Kd.C_below G0.out (below_step HB2D.out HB6.out)) HSL.out.1).mono ?_
                rintro e w6 ⟨lv, rfl, hRL, hb⟩
                obtain ⟨Al, cl, rfl⟩ := Kd.R_slice hRL
                have HRL6 := Aside0.mk hRL
                have HR6 := Aside0.mk (Kd.R_below HR5.out hb)
                have HB7 := Aside0.mk (below_step HB6.out hb)
                clear hRL
                refine ⟨_, rfl, hK.out _ _ ?_⟩
                clear hK K
                refine norm_ (a' := ?_) ?_ ?_
                rotate_left
                · show Act.put _ (some 58) _ = _
                  simp only [Act.put, List.setIfInBounds_toArray, List.set_cons_zero, List.set_cons_succ]
                  rfl
                refine pure_ (i := 8) (N := some 59) (v := ?_) (a' := ?_) #[true, true, true, true, true, true, true, true, true, false, false, true, true, true, false, false] rfl rfl (by kernel_rfl) (fun _ _ _ h => h) (Or.inl ⟨by rfl, ?_⟩) ?_ ?_
                rotate_left
                · intro w'
                  go_simp
                  try (with_reducible rfl)
                rotate_left
                · simp only [Act.put, List.setIfInBounds_toArray, List.set_cons_zero, List.set_cons_succ]
                  rfl
                refine last_ (i := 9) (N := some 60) #[true, true, true, true, true, true, true, true, true, true, false, true, true, true, false, false] rfl rfl (by kernel_rfl) (by decide) (fun K hK => ?_)
                refine value_ (v := ?_) (w1 := ?_) (by rfl) rfl ?_ ?_
                rotate_left; rotate_left
                · go_simp
                  refine ⟨?_, ?_⟩ <;> rfl
                have HRL7 := Aside0.mk (Kd.R_alloc HRL6.out (.cells #[.slice Al s.f0.length cl, .slice none 0 0] 60 (0, 0)))
                have HR7 := Aside0.mk (Kd.R_alloc HR6.out (.cells #[.slice Al s.f0.length cl, .slice none 0 0] 60 (0, 0)))
                have HB8 := Aside0.mk (below_alloc HB7.out (.cells #[.slice Al s.f0.length cl, .slice none 0 0] 60 (0, 0)))
                have HBXX := Aside0.mk (rr_box (blk_new w6 (.cells #[.slice Al s.f0.length cl, .slice none 0 0] 60 (0, 0))) rfl rfl)
                refine hK.out _ _ ?_
                clear hK K
                refine norm_ (a' := ?_) ?_ ?_
                rotate_left
                · show Act.put _ (some 60) _ = _
                  simp only [Act.put, List.setIfInBounds_toArray, List.set_cons_zero, List.set_cons_succ]
                  rfl
                refine last_ (i := 10) (N := some 61) #[true, true, true, true, true, true, true, true, true, true, true, true, true, true, false, false] rfl rfl (by kernel_rfl) (by decide) (fun K hK => ?_)
                refine Kd.R_append_rows_step (Kd.raw 2) (w0 := w4) w4.heap.size (by rfl) (.tmp 55) (.tmp 60) 38 60 (.agg #[.slice none 0 0, .slice none 0 0]) 48 rfl Tryd.underlying38 info60 rfl (by decide) (by omega) v5 ((rs.map cellsR).take i) [[.slice Al s.f0.length cl, .slice none 0 0]] (some ⟨w6.heap.size, 0, none⟩) 1 1 (fun _ => True) (fun _ => False) rfl rfl HR7.out HBXX.out (fun x cs hx => hx) (fun _ hk => hk.elim) (fun _ _ => trivial) HB8.out ?hb ?hl ?_
                case hb => exact HB8.out.size
                case hl => (have := HRB.out; have := HIL.out; simp; omega)
                intro v8 w8 hR8 hB8 hg8 hat8
                have HR8 := Aside0.mk hR8
                have HB9 := Aside0.mk hB8
                have HRL8 := Aside0.mk (keep_of rfl HRL7.out hg8 (ne_type (by decide) HRL7.out HR7.out))
                clear hR8 hB8 hg8 hat8
                refine hK.out _ _ ?_
                clear hK K
                refine norm_ (a' := ?_) ?_ ?_
                rotate_left
                · show Act.put _ (some 61) _ = _
                  simp only [Act.put, List.setIfInBounds_toArray, List.set_cons_zero, List.set_cons_succ]
                  rfl
                refine last_ (i := 14) (N := some 65) #[true, true, true, true, true, true, true, true, true, true, true, true, true, true, true, false] rfl rfl (by kernel_rfl) (by decide) (fun K hK => ?_)
                refine Kd.R_append_rows_step (Kd.raw 2) (w0 := w4) w4.heap.size (by rfl) (.tmp 61) (.tmp 64) 38 60 (.agg #[.slice none 0 0, .slice none 0 0]) 48 rfl Tryd.underlying38 info60 rfl (by decide) (by omega) v8 _ ((rs.map cellsR).drop i) _ _ _ (fun _ => True) (fun _ => False) rfl rfl HR8.out (HDR.out _ HB9.out) (fun x cs hx => hx) (fun _ hk => hk.elim) (fun _ _ => trivial) HB9.out ?hb ?hl ?_
                case hb => exact HB9.out.size
                case hl => (have := HRB.out; have := HIL.out; simp; omega)
                intro v9 w9 hR9 hB9 hg9 hat9
                have HRL9 := Aside0.mk (keep_of rfl HRL8.out hg9 (ne_type (by decide) HRL8.out HR8.out))
                refine hK.out _ _ ?_
                clear hK K
                refine norm_ (a' := ?_) ?_ ?_
                rotate_left
                · show Act.put _ (some 65) _ = _
                  simp only [Act.put, List.setIfInBounds_toArray, List.set_cons_zero, List.set_cons_succ]
                  rfl
                refine pure_ (i := 15) (N := some 3) (v := ?_) (a' := ?_) #[true, true, true, true, true, true, true, true, true, true, true, true, true, true, true, true] rfl rfl (by kernel_rfl) (fun _ _ _ h => h) (Or.inl ⟨by rfl, ?_⟩) ?_ ?_
                rotate_left
                · intro w'
                  go_simp
                  try (with_reducible rfl)
                rotate_left
                · simp only [Act.put, List.setIfInBounds_toArray, List.set_cons_zero, List.set_cons_succ]
                  rfl
                refine done_ (by kernel_rfl) ?_
                try go_wp2
                all_goals
                  go_meet
                  refine ⟨rs.take i ++ [⟨⟨s.f0, []⟩, .slice Al s.f0.length cl, .slice none 0 0⟩] ++ rs.drop i, ⟨Lay.insert HL2D.out (⟨hB9.os, hB9.tape, hB9.output, hB9.size, fun k hk _ => hB9.block k hk⟩) i ⟨⟨s.f0, []⟩, .slice Al s.f0.length cl, .slice none 0 0⟩ (Kd.R_lower hR9 HB2D.out.size) (Kd.R_lower HRL9.out (Nat.le_trans HB2D.out.size HB6.out.size)) (Kd.R_nil _ _ _ _ _) rfl⟩, ⟨?_⟩, ⟨below_step HB2D.out hB9⟩, ⟨blk_below HX2D.out hB9⟩⟩
                  rw [putG, if_neg (by rw [HFBV.out]; simp), HI.out, insG, List.map_append, List.map_append, List.map_take, List.map_drop, HPP.out]
                  rfl
            case rest =>
              obtain ⟨rs3, HL3, HM3, HB3, HX3⟩ := hcut
              clear HL2 HX2 HBQ y0 y1
              have hil : i < rs3.length := by
                have := (putG_lt PQ s.f0).1
                rw [HI.out, ← HM3.out, List.length_map] at this
                exact this
              obtain ⟨gv, capv, hv3, hgv⟩ := lay_form HL3.out (by omega)
              subst hv3
              have HGV := Aside0.mk hgv
              have HILT := Aside0.mk hil
              have y1 := blk_cell HX3.out 1
              have HPPL : Aside0 (i < (putG PQ s.f0).length) := ⟨by rw [← HM3.out, List.length_map]; exact hil⟩
              have HLT : Aside0 ((rd_T60 (putG PQ s.f0) (i : Int)).f1.length + L1 ≤ 1000000) := ⟨by
                have h0 : ∀ x ∈ putG PQ s.f0, x.f1.length + L1 ≤ 1000000 := fun x h1 => by
                  have h2 := HSL.out.2
                  rw [HLL1.out] at h2
                  rcases putG_mem h1 with h1 | h1
                  · rw [HM.out] at h1
                    obtain ⟨y, hy, he⟩ := List.mem_map.1 h1
                    have h3 := HGL.out.2 _ hy
                    have h4 := risenL_len y.f1
                    rw [← he]
                    show (risenL y.f1).length + L1 ≤ _
                    omega
                  · rw [h1]
                    show (0 : Nat) + L1 ≤ _
                    omega
                refine h0 _ ?_
                rw [rd_getElem HPPL.out]
                exact List.getElem_mem _⟩
              have HST : Aside0 ((groupsL (l.take (k + 1))).map ris = setG (putG PQ s.f0) i s.f1) := ⟨by
                rw [HGT.out, stepG_ris _ _ HZ.out, ← HM.out, HI.out]⟩
              generalize hn3 : rs3.length = n at HL3
              have HN3 := Aside0.mk hn3
              have hiz : (i : Int) < (n : Int) := by omega
              have hnz : n ≤ capv := by
                have := Kd.R_reads' HL3.out.1
                obtain ⟨_, _, h, _, h2, _⟩ := HL3.out.reads
                simp only [Value.slice.injEq] at h
                omega
              have hL1 : L1 ≤ 1000000 := by have := HLT.out; omega
              clear hgv hn3 hil
              generalize hPP : putG PQ s.f0 = PP at HM3 HPPL HLT HST
              clear hPP
              go_wp2
              go_loopg [69] L1 (fun kx s69 wr => ∃ (j : Nat) (rs4 : List Rec), s69 = .int .i64 j ∧ j ≤ L1 ∧ L1 - j ≤ kx ∧ Aside0 (Lay wr w.heap.size (.slice (some ⟨gv, 0, none⟩) n capv) rs4) ∧ Aside0 (rs4.map (·.x) = setG PP i (s.f1.take j)) ∧ Aside0 (Below w.heap.size w wr))
              case atStart => exact ⟨0, rs3, rfl, Nat.zero_le _, by omega, HL3, ⟨by rw [HM3.out, List.take_zero, setG_nil HPPL.out]⟩, HB3⟩
              case round =>
                clear y1
                obtain ⟨j, rs4, rfl, hj, hkx4, HL4', HM4, HB4'⟩ := hrel
                clear HL3 HM3 HB3 HX3
                by_cases hjl : j < L1
                · obtain ⟨ad, rfl, p0, p1⟩ := at_T54 (Kd.C_below G1.out HB4'.out) (j : Int) (by omega) (by omega)
                  rw [Int.toNat_natCast] at p0 p1
                  have hjz : (j : Int) < (L1 : Int) := by omega
                  have HTJ : Aside0 (s.f1.take j ++ [rd_T54 s.f1 (j : Int)] = s.f1.take (j + 1)) := ⟨by
                    have hjs : j < s.f1.length := by rw [HLL1.out]; exact hjl
                    have : rd_T54 s.f1 (j : Int) = s.f1[j] := by simp [rd_T54, List.getD_eq_getElem?_getD, List.getElem?_eq_getElem hjs]
                    rw [List.take_succ_eq_append_getElem hjs, this]⟩
                  generalize rd_T54 s.f1 (j : Int) = p at p0 p1 HTJ
                  have HL4'' := Aside0.mk (HL4'.out.below (below_alloc (Below.refl _ _) (.cells #[.int .i64 p.f0, .int .u64 p.f1] 54 (0, 0))))
                  have HB4'' := Aside0.mk (below_alloc HB4'.out (.cells #[.int .i64 p.f0, .int .u64 p.f1] 54 (0, 0)))
                  have HXB := Aside0.mk (blk_new wr (.cells #[.int .i64 p.f0, .int .u64 p.f1] 54 (0, 0)))
                  go_upto_region 14 with (fail)
                  clear HL4' HB4' p0 p1
                  generalize wr.alloc (.cells #[.int .i64 p.f0, .int .u64 p.f1] 54 (0, 0)) = W4 at HL4'' HB4'' HXB ⊢
                  generalize wr.heap.size = bs at HXB ⊢
                  have HL4 := Aside0.mk (HL4''.out.below (below_drew (Below.refl _ _)))
                  have HBD := Aside0.mk (below_drew1 HB4''.out)
                  have hrl : i < rs4.length := by
                    have h1 := setG_len PP i (s.f1.take j)
                    rw [← HM4.out, List.length_map] at h1
                    have := HPPL.out
                    omega
                  obtain ⟨r, hri⟩ : ∃ r, rs4[i]? = some r := ⟨_, List.getElem?_eq_getElem hrl⟩
                  have HRI := Aside0.mk hri
                  have HRX : Aside0 (r.x = ⟨(rd_T60 PP (i : Int)).f0, setAll (rd_T60 PP (i : Int)).f1 (s.f1.take j)⟩) := ⟨by
                    have h1 := setG_at HPPL.out (s.f1.take j)
                    rw [← HM4.out, List.getElem?_map, hri] at h1
                    simpa using h1⟩
                  obtain ⟨As, cs, hsv, hcs, hCs⟩ := Kd.R_reads (HL4.out.2.1 r (List.mem_of_getElem? hri)).2
                  obtain ⟨_, x2, _, _⟩ := lay_cell HL4.out i r hri
                  rw [hsv] at x2
                  have HNL : Aside0 (r.x.f1.length ≤ 1000000) := ⟨by
                    rw [HRX.out]
                    have h1 := setAll_len (s.f1.take j) (rd_T60 PP (i : Int)).f1
                    rw [List.length_take] at h1
                    have := HLT.out
                    show (setAll _ _).length ≤ _
                    omega⟩
                  have b0 := blk_cell (blk_below HXB.out (below_drew (Below.refl _ _))) 0
                  have b1 := blk_cell (blk_below HXB.out (below_drew (Below.refl _ _))) 1
                  generalize hns : r.x.f1.length = ns at x2 hcs hCs HNL
                  have HNS := Aside0.mk hns
                  have HNC := Aside0.mk hcs
                  have HCS := Aside0.mk hCs
                  clear hri hsv hcs hCs hns hrl HL4'' HB4'' HXB
                  replace b0 : W4.drew.cell? ⟨bs, 0, none⟩ = some (.int .i64 p.f0) := b0
                  replace b1 : W4.drew.cell? ⟨bs, 1, none⟩ = some (.int .u64 p.f1) := b1
                  refine start_ (n := 12) (ds := [8, 11]) (S := fun w' => w'.cell? ⟨gv, i * 2 + 1, none⟩ = some (.slice As ns cs) ∧ w'.cell? ⟨bs, 0, none⟩ = some (.int .i64 p.f0) ∧ w'.cell? ⟨bs, 1, none⟩ = some (.int .u64 p.f1)) #[false, false, false, false, false, false, false, false, false, false, false, false] mixed rfl rfl ⟨x2, b0, b1⟩ (fun hS => ?_)
                  refine pure_ (i := 0) (N := some 73) (v := ?_) (a' := ?_) #[true, false, false, false, false, false, false, false, false, false, false, false] rfl rfl (by kernel_rfl) (fun _ _ _ h => h) (Or.inl ⟨by rfl, ?_⟩) ?_ ?_
                  rotate_left
                  · intro w'
                    go_simp
                    try (with_reducible rfl)
                  rotate_left
                  · simp only [Act.put, List.setIfInBounds_toArray, List.set_cons_zero, List.set_cons_succ]
                    rfl
                  refine pure_ (i := 1) (N := some 74) (v := ?_) (a' := ?_) #[true, true, false, false, false, false, false, false, false, false, false, false] rfl rfl (by kernel_rfl) (fun _ _ _ h => h) (Or.inl ⟨by rfl, ?_⟩) ?_ ?_
                  rotate_left
                  · intro w'
                    go_simp
                    try (with_reducible rfl)
                  rotate_left
                  · simp only [Act.put, List.setIfInBounds_toArray, List.set_cons_zero, List.set_cons_succ]
                    rfl
                  refine pure_ (i := 2) (N := some 75) (v := ?_) (a' := ?_) #[true, true, true, false, false, false, false, false, false, false, false, false] rfl rfl (by kernel_rfl) (fun _ _ _ h => h) (Or.inl ⟨by rfl, ?_⟩) ?_ ?_
                  rotate_left
                  · intro w'
                    go_simp
                    try (with_reducible rfl)
                  rotate_left
                  · simp only [Act.put, List.setIfInBounds_toArray, List.set_cons_zero, List.set_cons_succ]
                    rfl
                  refine pure_ (i := 3) (N := some 76) (v := ?_) (a' := ?_) #[true, true, true, true, false, false, false, false, false, false, false, false] rfl rfl (by kernel_rfl) (fun _ _ _ h => h) (Or.inl ⟨by rfl, ?_⟩) ?_ ?_
                  rotate_left
                  · intro w'
                    go_simp
                    try (with_reducible rfl)
                  rotate_left
                  · simp only [Act.put, List.setIfInBounds_toArray, List.set_cons_zero, List.set_cons_succ]
                    rfl
                  refine pure_ (i := 4) (N := some 77) (v := ?_) (a' := ?_) #[true, true, true, true, true, false, false, false, false, false, false, false] rfl rfl (by kernel_rfl) (fun _ _ _ h => h) (Or.inl ⟨by rfl, ?_⟩) ?_ ?_
                  rotate_left
                  · intro w'
                    go_simp
                    try (with_reducible rfl)
                  rotate_left
                  · simp only [Act.put, List.setIfInBounds_toArray, List.set_cons_zero, List.set_cons_succ]
                    rfl
                  refine pure_ (i := 5) (N := some 78) (v := ?_) (a' := ?_) #[true, true, true, true, true, true, false, false, false, false, false, false] rfl rfl (by kernel_rfl) (fun _ _ _ h => h) (Or.inl ⟨by rfl, ?_⟩) ?_ ?_
                  rotate_left
                  · intro w'
                    go_simp
                    try (with_reducible rfl)
                  rotate_left
                  · simp only [Act.put, List.setIfInBounds_toArray, List.set_cons_zero, List.set_cons_succ]
                    rfl
                  refine take_ (i := 6) (N := some 79) (v := ?_) (a' := ?_) #[true, true, true, true, true, true, true, false, false, false, false, false] rfl rfl (by kernel_rfl) (fun _ _ _ h => h) (Or.inl ⟨by rfl, ?_⟩) hS ?_ ?_
                  rotate_left
                  · rintro w' ⟨hc1, hc2, hc3⟩
                    go_simp
                    try (with_reducible rfl)
                  rotate_left
                  · simp only [Act.put, List.setIfInBounds_toArray, List.set_cons_zero, List.set_cons_succ]
                    rfl
                  refine take_ (i := 7) (N := some 80) (v := ?_) (a' := ?_) #[true, true, true, true, true, true, true, true, false, false, false, false] rfl rfl (by kernel_rfl) (fun _ _ _ h => h) (Or.inl ⟨by rfl, ?_⟩) hS ?_ ?_
                  rotate_left
                  · rintro w' ⟨hc1, hc2, hc3⟩
                    go_simp
                    try (with_reducible rfl)
                  rotate_left
                  · simp only [Act.put, List.setIfInBounds_toArray, List.set_cons_zero, List.set_cons_succ]
                    rfl
                  generalize W4.drew = wd at *
                  refine last_ (i := 8) (N := some 81) #[true, true, true, true, true, true, true, true, true, false, false, false] rfl rfl (by kernel_rfl) (by decide) (fun K hK => ?_)
                  refine goes_ Tryd.func55 (by kernel_rfl) rfl #[.slice As ns cs, .agg #[.int .i64 p.f0, .int .u64 p.f1]] (by rfl) rfl rfl (by rw [List.map_toArray]; rfl) ?_
                  refine (rSet.calls As cs ns r.x.f1 p _ HNS.out HCS.out HNC.out HNL.out).mono ?_
                  rintro e w1 ⟨v1, rfl, hR1, hB1⟩
                  have HG1 : Aside0 (wd.grownBy w1 r.sv.ownBlock) := ⟨⟨hB1.os, hB1.tape, hB1.output, hB1.size, fun k hk _ => hB1.block k hk⟩⟩
                  have HAT : Aside0 (v1.ownBlock = r.sv.ownBlock ∨ ∃ b, v1.ownBlock = some b ∧ wd.heap.size ≤ b) := ⟨by
                    obtain ⟨g, cap, hv, hbg, _⟩ := Kd.R_form hR1 (setL_len r.x.f1 p).1
                    exact .inr ⟨g, by rw [hv]; rfl, hbg⟩⟩
                  have HR1 := Aside0.mk (Kd.R_lower hR1 HBD.out.size)
                  have HB4 := Aside0.mk (below_step HBD.out hB1)
                  clear hR1 hB1
                  obtain ⟨A9, c9, hv9⟩ := Kd.R_slice HR1.out
                  generalize (setL r.x.f1 p).length = n9 at hv9
                  subst hv9
                  refine ⟨_, rfl, hK.out _ _ ?_⟩
                  clear hK K
                  refine norm_ (a' := ?_) ?_ ?_
                  rotate_left
                  · show Act.put _ (some 81) _ = _
                    simp only [Act.put, List.setIfInBounds_toArray, List.set_cons_zero, List.set_cons_succ]
                    rfl
                  have HRR : Aside0 (RR w1 w.heap.size (.slice (some ⟨gv, 0, none⟩) n capv) (rs4.map cellsR)) := ⟨keep_of rfl HL4.out.1 HG1.out (ne_type (by decide) HL4.out.1 (HL4.out.2.1 r (List.mem_of_getElem? HRI.out)).2)⟩
                  obtain ⟨_, z1, _, z3⟩ := rr_cell HRR.out i r.lv r.sv (by rw [List.getElem?_map, HRI.out]; rfl)
                  have HL5 := Aside0.mk (Lay.samples HL4.out i r HRI.out HG1.out HR1.out HAT.out)
                  have HB5 := Aside0.mk (below_set (j := i * 2 + 1) (v := .slice A9 n9 c9) HB4.out HGV.out)
                  refine pure_ (i := 9) (N := some 82) (v := ?_) (a' := ?_) #[true, true, true, true, true, true, true, true, true, true, false, false] rfl rfl (by kernel_rfl) (fun _ _ _ h => h) (Or.inl ⟨by rfl, ?_⟩) ?_ ?_
                  rotate_left
                  · intro w'
                    go_simp
                    try (with_reducible rfl)
                  rotate_left
                  · simp only [Act.put, List.setIfInBounds_toArray, List.set_cons_zero, List.set_cons_succ]
                    rfl
                  refine pure_ (i := 10) (N := some 83) (v := ?_) (a' := ?_) #[true, true, true, true, true, true, true, true, true, true, true, false] rfl rfl (by kernel_rfl) (fun _ _ _ h => h) (Or.inl ⟨by rfl, ?_⟩) ?_ ?_
                  rotate_left
                  · intro w'
                    go_simp
                    try (with_reducible rfl)
                  rotate_left
                  · simp only [Act.put, List.setIfInBounds_toArray, List.set_cons_zero, List.set_cons_succ]
                    rfl
                  refine last_ (i := 11) (N := none) #[true, true, true, true, true, true, true, true, true, true, true, true] rfl rfl (by kernel_rfl) (by decide) (fun K hK => ?_)
                  refine skip_ (w1 := ?_) (by rfl) rfl ?_ ?_
                  rotate_left
                  · go_simp
                    rfl
                  refine hK.out _ _ ?_
                  clear hK K
                  refine done_ (by kernel_rfl) ?_
                  try go_wp2
                  go_roundg (L1 - (j + 1))
                  case measure => omega
                  case rel => exact ⟨j + 1, _, by first | rfl | go_num, by omega, Nat.le_refl _, HL5, ⟨by
                    rw [List.map_set, HM4.out]
                    show (setG PP i (s.f1.take j)).set i ⟨r.x.f0, setL r.x.f1 p⟩ = _
                    rw [HRX.out, setG_snoc, HTJ.out]⟩, HB5⟩
                · obtain rfl : j = L1 := by omega
                  have hjz : ¬ (j : Int) < (j : Int) := by omega
                  have HFIN : Aside0 (rs4.map (·.x) = (groupsL (l.take (k + 1))).map ris) := ⟨by rw [HM4.out, HST.out, ← HLL1.out, List.take_length]⟩
                  go_wp2
                  go_roundg (l.length - (k + 1))
                  case measure => omega
                  case rel => exact ⟨k + 1, _, rs4, by go_num, rfl, by omega, Nat.le_refl _, HL4', HFIN, HB4'⟩
    · obtain rfl : k = l.length := by omega
      have hkz : ¬ (l.length : Int) < (l.length : Int) := by omega
      rw [List.take_length] at HM
      obtain ⟨A2, c2, hu, hc2, hC⟩ := HL.out.reads
      have hlen2 : (joinL l).length = rs.length := by
        have h := congrArg List.length HM.out
        rw [List.length_map] at h
        exact h.symm
      have HJ : Aside0 (rs.map (·.x) = joinL l) := ⟨HM.out⟩
      rw [HJ.out] at hC
      subst hu
      have HCC := Aside0.mk hC
      have HC2 := Aside0.mk hc2
      have HLEN := Aside0.mk hlen2
      clear hC hc2 hlen2
      go_wp2
      go_ret
      refine ⟨A2, c2, by rw [HLEN.out]; rfl, by rw [HLEN.out]; exact HC2.out, by rw [HLEN.out]; exact HCC.out, HB.out⟩
end Go.Proofs.YtbgmnmjokdfmlaaDoor.PA
namespace Go.Proofs.YtbgmnmjokdfmlaaDoor.PA
open Go.RowKit Go.Proofs.YtbgmnmjokdfmlaaDoor.G Go.Proofs.YtbgmnmjokdfmlaaDoorW.PrintWords Go.Proofs.YtbgmnmjokdfmlaaDoorW.PrintLast Go.Proofs.YtbgmnmjokdfmlaaDoorW.PrintMore
set_option linter.unusedVariables false
set_option linter.unusedSimpArgs false
structure SE where
  f0 : List S65
  f1 : Int
  f2 : Int
  f3 : Int
  f4 : Int
def zE : SE := ⟨[], 0, 0, 0, 0⟩
def kE : Kd SE := Kd.iso (Kd.pair (Kd.slice 65 k65) (Kd.pair (Kd.int .i64) (Kd.pair (Kd.int .i64) (Kd.pair (Kd.int .i64) (Kd.int .i64))))) (fun x : SE => (x.f0, x.f1, x.f2, x.f3, x.f4))
theorem kE_open {w : World} {x : SE} {cs : List Value} (h : kE.K w x cs) : ∃ A0 c0, cs = [.slice A0 x.f0.length c0, .int .i64 x.f1, .int .i64 x.f2, .int .i64 x.f3, .int .i64 x.f4] ∧ x.f0.length ≤ c0 ∧ k65.C w A0 x.f0.length x.f0 := by
  obtain ⟨_, _, rfl, ⟨A0, c0, rfl, l0, g0⟩, ⟨_, _, rfl, rfl, ⟨_, _, rfl, rfl, ⟨_, _, rfl, rfl, rfl⟩⟩⟩⟩ := h
  exact ⟨A0, c0, rfl, l0, g0⟩
def rd_E (xs : List SE) (i : Int) : SE := xs.getD i.toNat zE
theorem at_E {w : World} {A : Option Addr} {n : Nat} {xs : List SE} (h : Kd.C kE w A n xs) (i : Int) (h0 : 0 ≤ i) (h1 : i < n) : ∃ ad A0 c0, A = some ad ∧ (∀ j u, [Value.slice A0 (rd_E xs i).f0.length c0, .int .i64 (rd_E xs i).f1, .int .i64 (rd_E xs i).f2, .int .i64 (rd_E xs i).f3, .int .i64 (rd_E xs i).f4][j]? = some u → w.cell? (ad.add (i.toNat * 5 + j)) = some u) ∧ (rd_E xs i).f0.length ≤ c0 ∧ k65.C w A0 (rd_E xs i).f0.length (rd_E xs i).f0 := by
  obtain ⟨ad, c, e, _, hK, hc0⟩ := Kd.C_get h zE i h0 h1
  obtain ⟨A0, c0, rfl, l0, g0⟩ := kE_open hK
  exact ⟨ad, A0, c0, e, hc0, l0, g0⟩
end Go.Proofs.YtbgmnmjokdfmlaaDoor.PA
namespace Go.Proofs.YtbgmnmjokdfmlaaDoor.PA
open Go.RowKit Go.Proofs.YtbgmnmjokdfmlaaDoor.G Go.Proofs.YtbgmnmjokdfmlaaDoorW.PrintWords Go.Proofs.YtbgmnmjokdfmlaaDoorW.PrintLast Go.Proofs.YtbgmnmjokdfmlaaDoorW.PrintMore
set_option linter.unusedVariables false
set_option linter.unusedSimpArgs false
set_option maxHeartbeats 4000000 in
set_option maxRecDepth 100000 in
theorem equalL.calls (A0 : Option Addr) (c0 : Nat) (A1 : Option Addr) (c1 n : Nat) (l : List S65) (w : World) (hn : l.length = n) (hr0 : Kd.C k65 w A0 n l) (hr1 : Kd.C k65 w A1 n l) (hl : n ≤ 1000000) :
    Calls Tryd.prog 46 #[.slice A0 n c0, .slice A1 n c1] w fun e w' => e = .returned (.bool true) ∧ Below w.heap.size w w' := by
  subst hn
  have HR0 := Aside0.mk hr0
  have HR1 := Aside0.mk hr1
  clear hr0 hr1
  have hnn : ((l.length : Int) != (l.length : Int)) = false := by simp
  go_enter Tryd.func46, Tryd.ntmps46
  go_wp2
  go_loopw [13] (fun i wr => ∃ k : Nat, k ≤ l.length ∧ i = .int .i64 k ∧ Aside0 (Below w.heap.size w wr)) (fun i _ => l.length - (intOf i).toNat)
  case atStart => exact ⟨0, Nat.zero_le _, rfl, ⟨Below.refl _ _⟩⟩
  case round =>
    obtain ⟨k, hk, rfl, HB⟩ := hrel
    by_cases hlt : k < l.length
    · obtain ⟨ad, rfl, e0, e1⟩ := at_T65 (Kd.C_below HR0.out HB.out) (k : Int) (by omega) (by omega)
      obtain ⟨ae, rfl, g0, g1⟩ := at_T65 (Kd.C_below HR1.out HB.out) (k : Int) (by omega) (by omega)
      rw [Int.toNat_natCast] at e0 e1 g0 g1
      generalize rd_T65 l (k : Int) = x at e0 e1 g0 g1
      go_wp2
      go_region
      go_wp2
      go_roundw
      case rel => exact ⟨k + 1, by omega, by go_num, ⟨below_drew HB.out⟩⟩
      case measure => simp [intOf]; omega
    · obtain rfl : k = l.length := by omega
      go_wp2
      go_ret
      exact ⟨rfl, HB.out⟩
set_option maxHeartbeats 4000000 in
set_option maxRecDepth 100000 in
theorem entEq.calls (A0 : Option Addr) (c0 : Nat) (A1 : Option Addr) (c1 : Nat) (x : SE) (w : World) (hr0 : Kd.C k65 w A0 x.f0.length x.f0) (hr1 : Kd.C k65 w A1 x.f0.length x.f0) (hl : x.f0.length ≤ 1000000) :
    Calls Tryd.prog 45 #[.agg #[.slice A0 x.f0.length c0, .int .i64 x.f1, .int .i64 x.f2, .int .i64 x.f3, .int .i64 x.f4], .agg #[.slice A1 x.f0.length c1, .int .i64 x.f1, .int .i64 x.f2, .int .i64 x.f3, .int .i64 x.f4]] w fun e w' => e = .returned (.bool true) ∧ Below w.heap.size w w' := by
  obtain ⟨o0, ho0⟩ : ∃ o0 : Obj, Obj.cells #[.slice A0 x.f0.length c0, .int .i64 x.f1, .int .i64 x.f2, .int .i64 x.f3, .int .i64 x.f4] 29 = o0 := ⟨_, rfl⟩
  obtain ⟨o1, ho1⟩ : ∃ o1 : Obj, Obj.cells #[.slice A1 x.f0.length c1, .int .i64 x.f1, .int .i64 x.f2, .int .i64 x.f3, .int .i64 x.f4] 29 = o1 := ⟨_, rfl⟩
  have HB0 := Aside0.mk (below_alloc (below_alloc (Below.refl w.heap.size w) o0) o1)
  have EQ := Aside0.mk (equalL.calls A0 c0 A1 c1 x.f0.length x.f0 ((w.alloc o0).alloc o1) rfl (Kd.C_below hr0 HB0.out) (Kd.C_below hr1 HB0.out) hl)
  have H0 : Aside0 (((w.alloc o0).alloc o1).heap[w.heap.size]? = some o0) := ⟨blk_alloc (blk_new w o0) o1⟩
  have H1 : Aside0 (((w.alloc o0).alloc o1).heap[w.heap.size + 1]? = some o1) := ⟨by have := blk_new (w.alloc o0) o1; rwa [World.size_alloc] at this⟩
  subst ho0 ho1
  clear hr0 hr1
  go_enter Tryd.func45, Tryd.ntmps45
  go_wp2_with (first | (go_at_call 46; (with_reducible refine EQ.out.mono ?_); rintro e w1 ⟨rfl, hb⟩; have HB1 := Aside0.mk (below_step HB0.out hb); have b0 := blk_below H0.out hb; have b1 := blk_below H1.out hb; have x1 := (blk_cell b0 1).trans rfl; have x2 := (blk_cell b0 2).trans rfl; have x3 := (blk_cell b0 3).trans rfl; have x4 := (blk_cell b0 4).trans rfl; have y1 := (blk_cell b1 1).trans rfl; have y2 := (blk_cell b1 2).trans rfl; have y3 := (blk_cell b1 3).trans rfl; have y4 := (blk_cell b1 4).trans rfl; clear hb b0 b1))
  go_ret
  exact ⟨rfl, HB1.out⟩
set_option maxHeartbeats 4000000 in
set_option maxRecDepth 100000 in
theorem sameE.calls (a0 a1 : Addr) (x : SE) (w : World) (hr0 : Kd.C kE w (some a0) 1 [x]) (hr1 : Kd.C kE w (some a1) 1 [x]) (hl : x.f0.length ≤ 1000000) :
    Calls Tryd.prog 22 #[.slice (some a0) 1 1, .slice (some a1) 1 1] w fun e w' => e = .returned (.bool true) ∧ Below w.heap.size w w' := by
  obtain ⟨ad, A0, c0, e0, hc0, _, hC0⟩ := at_E hr0 0 (by decide) (by decide)
  obtain ⟨ae, A1, c1, e1, hc1, _, hC1⟩ := at_E hr1 0 (by decide) (by decide)
  cases e0
  cases e1
  have hx : rd_E [x] 0 = x := rfl
  rw [hx] at hc0 hc1 hC0 hC1
  have z : (0 : Int).toNat * 5 = 0 := rfl
  rw [z] at hc0 hc1
  have p0 : w.cell? a0 = some (.slice A0 x.f0.length c0) := by simpa [Addr.add] using hc0 0 _ rfl
  have p1 : w.cell? ⟨a0.block, a0.off + 1, none⟩ = some (.int .i64 x.f1) := by simpa [Addr.add] using hc0 1 _ rfl
  have p2 : w.cell? ⟨a0.block, a0.off + 2, none⟩ = some (.int .i64 x.f2) := by simpa [Addr.add] using hc0 2 _ rfl
  have p3 : w.cell? ⟨a0.block, a0.off + 3, none⟩ = some (.int .i64 x.f3) := by simpa [Addr.add] using hc0 3 _ rfl
  have p4 : w.cell? ⟨a0.block, a0.off + 4, none⟩ = some (.int .i64 x.f4) := by simpa [Addr.add] using hc0 4 _ rfl
  have r0 : w.cell? a1 = some (.slice A1 x.f0.length c1) := by simpa [Addr.add] using hc1 0 _ rfl
  have r1 : w.cell? ⟨a1.block, a1.off + 1, none⟩ = some (.int .i64 x.f1) := by simpa [Addr.add] using hc1 1 _ rfl
  have r2 : w.cell? ⟨a1.block, a1.off + 2, none⟩ = some (.int .i64 x.f2) := by simpa [Addr.add] using hc1 2 _ rfl
  have r3 : w.cell? ⟨a1.block, a1.off + 3, none⟩ = some (.int .i64 x.f3) := by simpa [Addr.add] using hc1 3 _ rfl
  have r4 : w.cell? ⟨a1.block, a1.off + 4, none⟩ = some (.int .i64 x.f4) := by simpa [Addr.add] using hc1 4 _ rfl
  have EE := Aside0.mk (fun W (hb : Below w.heap.size w W) => entEq.calls A0 c0 A1 c1 x W (Kd.C_below hC0 hb) (Kd.C_below hC1 hb) hl)
  obtain ⟨o0, ho0⟩ : ∃ o0 : Obj, Obj.cells #[.slice A0 x.f0.length c0, .int .i64 x.f1, .int .i64 x.f2, .int .i64 x.f3, .int .i64 x.f4] 29 = o0 := ⟨_, rfl⟩
  obtain ⟨o1, ho1⟩ : ∃ o1 : Obj, Obj.cells #[.slice A1 x.f0.length c1, .int .i64 x.f1, .int .i64 x.f2, .int .i64 x.f3, .int .i64 x.f4] 29 = o1 := ⟨_, rfl⟩
  have HB0 := Aside0.mk (below_alloc (below_alloc (Below.refl w.heap.size w) o0) o1)
  have r0' := cell_alloc_old o0 r0
  have r1' := cell_alloc_old o0 r1
  have r2' := cell_alloc_old o0 r2
  have r3' := cell_alloc_old o0 r3
  have r4' := cell_alloc_old o0 r4
  subst ho0 ho1
  clear hr0 hr1 hc0 hc1 hC0 hC1 hx z
  go_enter Tryd.func22, Tryd.ntmps22
  go_wp2
  refine wp_loop_rounds 2 ?_
  rw [rounds_succ]
  go_wp2_with (first | (go_at_call 45; (with_reducible refine (EE.out _ HB0.out).mono ?_); rintro e w1 ⟨rfl, hb⟩; have HB1 := Aside0.mk (below_step HB0.out hb); clear hb))
  rw [rounds_succ]
  go_wp2
  go_ret
  exact ⟨rfl, HB1.out⟩
end Go.Proofs.YtbgmnmjokdfmlaaDoor.PA
namespace Go.Proofs.YtbgmnmjokdfmlaaDoor.PA
open Go.RowKit Go.Proofs.YtbgmnmjokdfmlaaDoorW.PrintWords Go.Proofs.YtbgmnmjokdfmlaaDoorW.PrintLast Go.Proofs.YtbgmnmjokdfmlaaDoorW.PrintMore
attribute [local go_sem] max2_int min2_int max_two min_two max_three min_three max_four min_four   -- for this text's walks alone
set_option linter.unusedVariables false
set_option linter.unusedSimpArgs false
theorem eqA54 (d : Nat) (w : World) (x0 y0 : Int) (x1 y1 : Int) :
    (Op.equalIn (d + 2) 54 (.agg #[.int .i64 x0, .int .u64 x1]) (.agg #[.int .i64 y0, .int .u64 y1])).run Tryd.prog w = .ok (x0 == y0 && (x1 == y1)) w := by
  refine eqA_of Tryd.underlying54 (by kernel_rfl) ?_
  refine eqf_cons (by rfl) (by go_simp; rfl) (by go_simp; rfl) (by go_simp) ?_
  exact eqf_last (by rfl) (by go_simp; rfl) (by go_simp; rfl) (by go_simp)
end Go.Proofs.YtbgmnmjokdfmlaaDoor.PA
namespace Go.Proofs.YtbgmnmjokdfmlaaDoor.PA
open Go.RowKit Go.Proofs.YtbgmnmjokdfmlaaDoorW.PrintWords Go.Proofs.YtbgmnmjokdfmlaaDoorW.PrintLast Go.Proofs.YtbgmnmjokdfmlaaDoorW.PrintMore
attribute [local go_sem] max2_int min2_int max_two min_two max_three min_three max_four min_four   -- for this text's walks alone
set_option linter.unusedVariables false
set_option linter.unusedSimpArgs false
attribute [local go_sem high] eqA54
def api_Sample_23.l0 : Nat → List (S54) → List (S54) → Int → Int → Option (Bool)
  | 0, _, _, _, _ => none
  | k + 1, x0, x1, x12, x13 => if x13 < x12 then (if 0 ≤ x13 then (if x13 < (x0.length : Int) then (if x13 < (x1.length : Int) then (if (!(((rd_T54 x0 x13).f0) == ((rd_T54 x1 x13).f0)) || (!(((rd_T54 x0 x13).f1) == ((rd_T54 x1 x13).f1)))) = true then (some false) else (api_Sample_23.l0 k x0 x1 x12 (wrap64 (x13 + 1)))) else (none)) else (none)) else (none)) else (some true)
def api_Sample_23.f (k : Nat) (l0 : List (S54)) (l1 : List (S54)) : Option (Bool) := if (l0.length : Int) = (l1.length : Int) then (api_Sample_23.l0 k l0 l1 (l0.length : Int) 0) else (some false)
theorem api_Sample_23.mono_l : ∀ k, (∀ y0 y1 y2 y3, LeO (api_Sample_23.l0 k y0 y1 y2 y3) (api_Sample_23.l0 (k + 1) y0 y1 y2 y3))
  | 0 => fun _ _ _ _ r h => by simp [api_Sample_23.l0] at h
  | k + 1 => by
    have ih0 := api_Sample_23.mono_l k
    · intro y0 y1 y2 y3
      unfold api_Sample_23.l0
      repeat' first
      | (with_reducible exact ih0 _ _ _ _)
      | (with_reducible exact LeO.refl _)
      | (with_reducible exact LeO.none _)
      | (with_reducible refine LeO.ite ?_ ?_)
      | (with_reducible refine LeO.bind ?_ (fun _ => ?_))
      | exact ih0 _ _ _ _
      | exact LeO.none _
      | refine LeO.ite ?_ ?_
      | refine LeO.bind ?_ (fun _ => ?_)
theorem api_Sample_23.mono : ∀ a0 a1 k, LeO (api_Sample_23.f k a0 a1) (api_Sample_23.f (k + 1) a0 a1) := by
  intro a0 a1 k
  have ih0 := api_Sample_23.mono_l k
  unfold api_Sample_23.f
  repeat' first
      | (with_reducible exact ih0 _ _ _ _)
      | (with_reducible exact LeO.refl _)
      | (with_reducible exact LeO.none _)
      | (with_reducible refine LeO.ite ?_ ?_)
      | (with_reducible refine LeO.bind ?_ (fun _ => ?_))
      | exact ih0 _ _ _ _
      | exact LeO.none _
      | refine LeO.ite ?_ ?_
      | refine LeO.bind ?_ (fun _ => ?_)
set_option maxHeartbeats 8000000 in
set_option maxRecDepth 100000 in
theorem api_Sample_23.calls (k : Nat) (A0 : Option Addr) (c0 : Nat) (l0 : List (S54)) (A1 : Option Addr) (c1 : Nat) (l1 : List (S54)) (r : Bool) (w : World) (hr0 : Kd.C k54 w A0 l0.length l0) (hc0 : l0.length ≤ c0) (hr1 : Kd.C k54 w A1 l1.length l1) (hc1 : l1.length ≤ c1) (h : api_Sample_23.f k l0 l1 = some r) :
    Calls Tryd.prog 23 #[.slice A0 l0.length c0, .slice A1 l1.length c1] w fun e w' => e = .returned (.bool r) ∧ Drawn0 w w' := by
  have hu54 := Tryd.underlying54
  have HR0 := Aside0.mk hr0
  have HC0 := Aside0.mk hc0
  clear hr0 hc0
  have HR1 := Aside0.mk hr1
  have HC1 := Aside0.mk hc1
  clear hr1 hc1
  have H : (if (l0.length : Int) = (l1.length : Int) then (api_Sample_23.l0 k l0 l1 (l0.length : Int) 0) else (some false)) = some r := h
  clear h
  by_cases c3 : (l0.length : Int) = (l1.length : Int)
  · rw [if_pos c3] at H
    have c3b0 : ((l0.length : Int) == (l1.length : Int)) = true := beq_iff_eq.mpr c3
    have c3b1 : ((l0.length : Int) != (l1.length : Int)) = false := bne_eq_false_iff_eq.mpr c3
    have c3b2 : (l0.length == l1.length) = true := by first | simpa using c3 | (simp at c3 ⊢; omega)
    clear c3
    have H' := Aside0.mk H
    clear H
    go_enter Tryd.func23, Tryd.ntmps23
    go_wp2
    repeat (go_quiet (fail); try go_wp2)
    go_loopg [13] k (fun kq v13 w' => ∃ (x13_1 : Int), v13 = .int .i64 x13_1 ∧ Aside0 (api_Sample_23.l0 kq l0 l1 (l0.length : Int) x13_1 = some r) ∧ Aside0 (kq ≤ k) ∧ Drawn0 w w')
    case atStart => exact ⟨(0), (by first | rfl | (simp; done) | (simp [*]; done)), H', ⟨Nat.le_refl _⟩, by repeat (first | exact Drawn0.refl _ | apply Drawn0.step)⟩
    case round =>
      clear H'
      try clear c1
      try clear c2
      try clear p2
      try clear c3
      try clear c3b0
      try clear c3b1
      try clear c3b2
      obtain ⟨x13_1, rfl, HA, HK1, ⟨m1, rfl⟩⟩ := hrel
      cases gk with
      | zero => exact absurd HA.out (by simp [api_Sample_23.l0])
      | succ k1 =>
        have H := HA.out
        clear HA
        simp only [api_Sample_23.l0] at H
        by_cases c4 : x13_1 < (l0.length : Int)
        · rw [if_pos c4] at H
          have c4b0 : decide (x13_1 < (l0.length : Int)) = true := decide_eq_true c4
          clear c4
          by_cases c5 : 0 ≤ x13_1
          · rw [if_pos c5] at H
            have c5b0 : decide (0 ≤ x13_1) = true := decide_eq_true c5
            clear c5
            by_cases c6 : x13_1 < (l0.length : Int)
            · rw [if_pos c6] at H
              have c6b0 : decide (x13_1 < (l0.length : Int)) = true := decide_eq_true c6
              clear c6
              by_cases c7 : x13_1 < (l1.length : Int)
              · rw [if_pos c7] at H
                have c7b0 : decide (x13_1 < (l1.length : Int)) = true := decide_eq_true c7
                clear c7
                by_cases c8 : (!(((rd_T54 l0 x13_1).f0) == ((rd_T54 l1 x13_1).f0)) || (!(((rd_T54 l0 x13_1).f1) == ((rd_T54 l1 x13_1).f1)))) = true
                · rw [if_pos c8] at H
                  have c8b0 : (!(((rd_T54 l0 x13_1).f0) == ((rd_T54 l1 x13_1).f0)) || (!(((rd_T54 l0 x13_1).f1) == ((rd_T54 l1 x13_1).f1)))) = true := c8
                  clear c8
                  obtain rfl := Option.some.inj H
                  have p321 : 0 ≤ (x13_1 : Int) := of_decide_eq_true (by first | (with_reducible assumption) | assumption)
                  have q321 : x13_1 < (l0.length : Int) := of_decide_eq_true (by first | (with_reducible assumption) | assumption)
                  obtain ⟨ad321, e321, hx321_0, hx321_1⟩ := at_T54 HR0.out x13_1 p321 q321
                  cases e321
                  replace p321 := eq_true p321
                  replace q321 := eq_true q321
                  have p322 : 0 ≤ (x13_1 : Int) := of_decide_eq_true (by first | (with_reducible assumption) | assumption)
                  have q322 : x13_1 < (l1.length : Int) := of_decide_eq_true (by first | (with_reducible assumption) | assumption)
                  obtain ⟨ad322, e322, hx322_0, hx322_1⟩ := at_T54 HR1.out x13_1 p322 q322
                  cases e322
                  replace p322 := eq_true p322
                  replace q322 := eq_true q322
                  go_wp2
                  repeat (go_quiet (fail); try go_wp2)
                  go_ret
                  exact ⟨by first | rfl | (simp; done) | (simp [*]; done) | (simp; decide +kernel), by repeat (first | exact Drawn0.refl _ | apply Drawn0.step)⟩
                · rw [if_neg c8] at H
                  have c8b0 : (!(((rd_T54 l0 x13_1).f0) == ((rd_T54 l1 x13_1).f0)) || (!(((rd_T54 l0 x13_1).f1) == ((rd_T54 l1 x13_1).f1)))) = false := by simpa using c8
                  clear c8
                  have H' := Aside0.mk H
                  clear H
                  have p321 : 0 ≤ (x13_1 : Int) := of_decide_eq_true (by first | (with_reducible assumption) | assumption)
                  have q321 : x13_1 < (l0.length : Int) := of_decide_eq_true (by first | (with_reducible assumption) | assumption)
                  obtain ⟨ad321, e321, hx321_0, hx321_1⟩ := at_T54 HR0.out x13_1 p321 q321
                  cases e321
                  replace p321 := eq_true p321
                  replace q321 := eq_true q321
                  have p322 : 0 ≤ (x13_1 : Int) := of_decide_eq_true (by first | (with_reducible assumption) | assumption)
                  have q322 : x13_1 < (l1.length : Int) := of_decide_eq_true (by first | (with_reducible assumption) | assumption)
                  obtain ⟨ad322, e322, hx322_0, hx322_1⟩ := at_T54 HR1.out x13_1 p322 q322
                  cases e322
                  replace p322 := eq_true p322
                  replace q322 := eq_true q322
                  go_wp2
                  repeat (go_quiet (fail); try go_wp2)
                  go_roundg k1
                  case measure => have := HK1.out; omega
                  case rel => exact ⟨(wrap64 (x13_1 + 1)), (by first | rfl | (simp; done) | (simp [*]; done)), H', ⟨by have := HK1.out; omega⟩, by repeat (first | exact Drawn0.refl _ | apply Drawn0.step)⟩
              · rw [if_neg c7] at H
                exact absurd H (by simp)
            · rw [if_neg c6] at H
              exact absurd H (by simp)
          · rw [if_neg c5] at H
            exact absurd H (by simp)
        · rw [if_neg c4] at H
          have c4b0 : decide (x13_1 < (l0.length : Int)) = false := decide_eq_false c4
          clear c4
          obtain rfl := Option.some.inj H
          go_wp2
          repeat (go_quiet (fail); try go_wp2)
          go_ret
          exact ⟨by first | rfl | (simp; done) | (simp [*]; done) | (simp; decide +kernel), by repeat (first | exact Drawn0.refl _ | apply Drawn0.step)⟩
  · rw [if_neg c3] at H
    have c3b0 : ((l0.length : Int) == (l1.length : Int)) = false := beq_eq_false_iff_ne.mpr c3
    have c3b1 : ((l0.length : Int) != (l1.length : Int)) = true := bne_iff_ne.mpr c3
    have c3b2 : (l0.length == l1.length) = false := by first | simpa using c3 | (simp at c3 ⊢; omega)
    obtain rfl := Option.some.inj H
    go_enter Tryd.func23, Tryd.ntmps23
    go_wp2
    repeat (go_quiet (fail); try go_wp2)
    go_ret
    exact ⟨by first | rfl | (simp; done) | (simp [*]; done) | (simp; decide +kernel), by repeat (first | exact Drawn0.refl _ | apply Drawn0.step)⟩
end Go.Proofs.YtbgmnmjokdfmlaaDoor.PA
