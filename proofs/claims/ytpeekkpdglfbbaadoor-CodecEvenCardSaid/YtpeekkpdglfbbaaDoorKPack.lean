/- The contracts of the codec's pack: a sequence of bits that grows. -/
import Derived.Test.YtpeekkpdglfbbaaDoorHBitI
namespace Go.Proofs.YtpeekkpdglfbbaaDoor.PA
open Go.RowKit Go.Proofs.YtpeekkpdglfbbaaDoor.G Go.Proofs.YtpeekkpdglfbbaaDoorW.PrintWords Go.Proofs.YtpeekkpdglfbbaaDoorW.PrintLast Go.Proofs.YtpeekkpdglfbbaaDoorW.PrintMore
set_option linter.unusedVariables false
set_option linter.unusedSimpArgs false

/-- block g is a pack that holds these bits -/
def PK (W : World) (g : Nat) (L : List Bool) : Prop :=
  ∃ (A : Option Addr) (c : Nat) (l : List Int), W.heap[g]? = some (.cells #[.slice A l.length c, .int .i64 (L.length : Int)] 46 (0, 0)) ∧ Kd.R (Kd.int .u8) 5 W 0 (fun k => k ≠ g) (.slice A l.length c) l ∧ OkX l L.length ∧ Bs l L.length = L
theorem PK.keep {W W' : World} {g : Nat} {L : List Bool} (h : PK W g L) (hb : Below W.heap.size W W') : PK W' g L := by
  obtain ⟨A, c, l, h1, h2, h3, h4⟩ := h
  exact ⟨A, c, l, blk_below h1 hb, Kd.R_below h2 hb, h3, h4⟩

theorem pk_store {W0 W : World} {g n c : Nat} {A : Option Addr} {l' : List Int} {u v : Value} {L M : List Bool} (hb : W.heap[g]? = some (.cells #[u, v] 46 (0, 0))) (hr : Kd.R (Kd.int .u8) 5 W W0.heap.size (fun _ => True) (.slice A l'.length c) l') (hg : g < W0.heap.size)
    (ho : OkX l' (L.length + n)) (hbs : Bs l' (L.length + n) = L ++ M) : PK ((W.setCell ⟨g, 0, none⟩ (.slice A l'.length c)).setCell ⟨g, 1, none⟩ (.int .i64 ((L.length : Int) + (n : Int)))) g (L ++ M) := by
  have hlen : (L ++ M).length = L.length + n := by rw [← hbs]; simp
  refine ⟨A, c, l', ?_, ?_, by rw [hlen]; exact ho, by rw [hlen]; exact hbs⟩
  · rw [hlen]
    refine blk_put (cs := #[.slice A l'.length c, v]) ?_ 1 _ (by simp)
    exact blk_put hb 0 _ (by simp)
  · have h2 := Kd.R_lower (Kd.R_mono (ok' := fun k => k ≠ g) (Kd.R_bound hr) (fun k hk => by omega)) (Nat.zero_le _)
    exact Kd.R_far (p := ⟨g, 1, none⟩) (Kd.R_far (p := ⟨g, 0, none⟩) h2 (fun k hk => hk) _) (fun k hk => hk) _
set_option maxHeartbeats 1000000 in
set_option maxRecDepth 100000 in
theorem pack_put.calls (g : Nat) (L : List Bool) (v c : Nat) (w : World) (hP : PK w g L) (hv : v < 18446744073709551616) (hc : c ≤ 64) (hL : L.length ≤ 7000000) :
    Calls Tryd.prog 21 #[.pointer (some ⟨g, 0, none⟩), .int .u64 (v : Int), .int .i64 (c : Int)] w fun e w' => e = .returned (.tuple #[]) ∧ PK w' g (L ++ low v c) ∧ KeepBut w w' g none ∧ w'.os = w.os ∧ w'.tape = w.tape ∧ w'.output = w.output := by
  obtain ⟨A, cc, l, hblk, hR, hok, hbs⟩ := hP
  have hlen : l.length ≤ 900000000 := by have := hok.near; omega
  obtain ⟨l', hf, hok', hbs'⟩ := put_ok hok hlen v c hv hc
  have h0 : w.cell? ⟨g, 0, none⟩ = some (.slice A l.length cc) := (blk_cell hblk 0).trans rfl
  have h1 : w.cell? ⟨g, 1, none⟩ = some (.int .i64 (L.length : Int)) := (blk_cell hblk 1).trans rfl
  have HG := Aside0.mk (blk_lt hblk)
  have HBK := Aside0.mk hblk
  have HR := Aside0.mk (Kd.R_reads' hR)
  have HF := Aside0.mk hf
  have HO := Aside0.mk hok'
  have HBS := Aside0.mk (hbs'.trans (by rw [hbs]))
  clear hblk hR hok hbs hf hok' hbs' hlen hL hv hc
  go_enter Tryd.func21, Tryd.ntmps21
  go_wp2_with (go_at_call 38; (with_reducible refine (bits_Put.calls _ _ l _ _ _ l' _ 0 _ HR.out.2.2 HR.out.2.1 HF.out).mono ?_); rintro e w1 ⟨v1, rfl, hr1, hb⟩; obtain ⟨A1, c1, rfl⟩ := Kd.R_slice hr1; have HR1 := Aside0.mk hr1; have HB1 := Aside0.mk hb; have HBK1 := Aside0.mk (blk_below HBK.out hb); have g0 := (blk_cell HBK1.out 0).trans rfl; have g1 := (blk_cell HBK1.out 1).trans rfl; have f0 := blk_frozen HBK1.out 0; have f1 := blk_frozen HBK1.out 1; clear hr1 hb)
  refine bodyPost_end (results_none rfl _ _ _) rfl ?_
  exact ⟨rfl, pk_store HBK1.out HR1.out HG.out HO.out HBS.out, ((KeepBut.of_below HB1.out g none).set_ 0 _).set_ 1 _, HB1.out.os, HB1.out.tape, HB1.out.output⟩

set_option maxHeartbeats 1000000 in
set_option maxRecDepth 100000 in
theorem pack_number.calls (g : Nat) (L : List Bool) (v : Int) (w : World) (hP : PK w g L) (hL : L.length ≤ 7000000) :
    Calls Tryd.prog 22 #[.pointer (some ⟨g, 0, none⟩), .int .i64 v] w fun e w' => e = .returned (.tuple #[]) ∧ PK w' g (L ++ intBits v) ∧ KeepBut w w' g none ∧ w'.os = w.os ∧ w'.tape = w.tape ∧ w'.output = w.output := by
  obtain ⟨A, cc, l, hblk, hR, hok, hbs⟩ := hP
  have hlen : l.length ≤ 900000000 := by have := hok.near; omega
  obtain ⟨l', m, hf, hm, hok', hbs'⟩ := putInt_ok hok hlen v
  subst hm
  have h0 : w.cell? ⟨g, 0, none⟩ = some (.slice A l.length cc) := (blk_cell hblk 0).trans rfl
  have h1 : w.cell? ⟨g, 1, none⟩ = some (.int .i64 (L.length : Int)) := (blk_cell hblk 1).trans rfl
  have HG := Aside0.mk (blk_lt hblk)
  have HBK := Aside0.mk hblk
  have HR := Aside0.mk (Kd.R_reads' hR)
  have HF := Aside0.mk hf
  have HO := Aside0.mk hok'
  have HBS := Aside0.mk (hbs'.trans (by rw [hbs]))
  clear hblk hR hok hbs hf hok' hbs' hlen hL
  go_enter Tryd.func22, Tryd.ntmps22
  go_wp2_with (go_at_call 39; (with_reducible refine (bits_PutInt.calls _ _ l _ _ l' _ 0 _ HR.out.2.2 HR.out.2.1 HF.out).mono ?_); rintro e w1 ⟨v1, rfl, hr1, hb⟩; obtain ⟨A1, c1, rfl⟩ := Kd.R_slice hr1; have HR1 := Aside0.mk hr1; have HB1 := Aside0.mk hb; have HBK1 := Aside0.mk (blk_below HBK.out hb); have g0 := (blk_cell HBK1.out 0).trans rfl; have g1 := (blk_cell HBK1.out 1).trans rfl; have f0 := blk_frozen HBK1.out 0; have f1 := blk_frozen HBK1.out 1; clear hr1 hb)
  refine bodyPost_end (results_none rfl _ _ _) rfl ?_
  exact ⟨rfl, pk_store HBK1.out HR1.out HG.out HO.out HBS.out, ((KeepBut.of_below HB1.out g none).set_ 0 _).set_ 1 _, HB1.out.os, HB1.out.tape, HB1.out.output⟩
end Go.Proofs.YtpeekkpdglfbbaaDoor.PA
