/- The row and the card of the law ChunkReads, out of its walk: for every input the law answers true and its arguments stay; no condition of its own. The row's frame is the guide's; written by a program of this session (wip/mkrow.py). -/
import Derived.Test.YtbgmnmjokdfmlaaDoorZR5
import Derived.Test.YtbgmnmjokdfmlaaDoorZR7
import Derived.Test.YtbgmnmjokdfmlaaDoorRows
import Derived.Test.YtbgmnmjokdfmlaaDoorCards
import Derived.Test.YtbgmnmjokdfmlaaDoorTie
import Derived.WalkKit
import Derived.ProofKit
import Derived.OpenShut
import Derived.ShutString
import Derived.ChangeOld
import Derived.Below
import Derived.SizedLaws
import Derived.Deep.DeepHandedRow
import Derived.Lib.LaidTab
import Derived.Lib.SmallJoins
import Derived.Test.YtbgmnmjokdfmlaaDoorZR1
import Derived.ChangeSame
import Derived.Test.YtbgmnmjokdfmlaaDoorZR3
import Derived.Deep.Slices
import Derived.Deep.Fields
import Derived.RowKit
namespace Go.Proofs.YtbgmnmjokdfmlaaDoor.PA
open Go.RowKit Go.Proofs.YtbgmnmjokdfmlaaDoor.G Go.Proofs.YtbgmnmjokdfmlaaDoorW.PrintWords Go.Proofs.YtbgmnmjokdfmlaaDoorW.PrintLast Go.Proofs.YtbgmnmjokdfmlaaDoorW.PrintMore
set_option linter.unusedVariables false
set_option linter.unusedSimpArgs false
theorem decLb_short8 (b : List Int) : (decLb b).1.length ≤ 8 := by
  cases b with
  | nil => simp [decLb]
  | cons a r =>
    simp only [decLb]
    split
    · simp
    · split
      · rename_i h
        exact (canL_parts h).2.1
      · simp
theorem chunkB_len8 (b : List Int) : (chunkB b).1.length ≤ 8 := by
  unfold chunkB
  split
  · simp
  · split
    · simp
    · split
      · simp
      · split
        · simp
        · exact decLb_short8 _
theorem at_NE {W : World} {base : Nat} {ok : Nat → Prop} {A : Option Addr} {n cap : Nat} {xs : List SE} (h : Kd.N kE 29 W base ok (.slice A n cap) xs) (i : Nat) (hi : i < xs.length) (x : SE) (hx : xs.getD i zE = x) :
    ∃ ad A0 c0, A = some ad ∧ (∀ j u, [Value.slice A0 x.f0.length c0, .int .i64 x.f1, .int .i64 x.f2, .int .i64 x.f3, .int .i64 x.f4][j]? = some u → W.cell? (ad.add (i * 5 + j)) = some u) ∧ x.f0.length ≤ c0 ∧ (∀ W2 : World, (∀ k, ok k → k < W.heap.size → W2.heap[k]? = W.heap[k]?) → Kd.C k65 W2 A0 x.f0.length x.f0) ∧ (∀ k, (Value.slice A n cap).ownBlock = some k → ok k) := by
  have hn := (Kd.N_reads' h).1
  obtain ⟨g, cp, he, _⟩ := Kd.N_form h (by omega)
  injection he with hA _ _
  subst hA
  obtain ⟨c, hcl, hFK, hcc⟩ := Kd.N_get h zE (i : Int) (by omega) (by omega)
  rw [Int.toNat_natCast, hx] at hFK
  rw [Int.toNat_natCast] at hcc
  obtain ⟨A0, c0, rfl, hl0, _⟩ := kE_open (Kd.FK_now hFK)
  refine ⟨_, A0, c0, rfl, hcc, hl0, fun W2 hW2 => ?_, h.1⟩
  obtain ⟨A0', c0', he2, _, hC⟩ := kE_open (hFK W2 (fun k hk hlt => hW2 k hk.1 hlt))
  injection he2 with he2 _
  injection he2 with he2 _ _
  rw [he2]
  exact hC
theorem at_NS {W : World} {base : Nat} {ok : Nat → Prop} {A : Option Addr} {n cap : Nat} {xs : List (List S54)} (h : Kd.N kSS 30 W base ok (.slice A n cap) xs) (i : Nat) (hi : i < xs.length) (x : List S54) (hx : xs.getD i [] = x) :
    ∃ ad A0 c0, A = some ad ∧ x.length ≤ c0 ∧ ∀ W2 : World, (∀ k, ok k → k < W.heap.size → W2.heap[k]? = W.heap[k]?) → W2.cell? (ad.add i) = some (.slice A0 x.length c0) ∧ Kd.C k54 W2 A0 x.length x := by
  have hn := (Kd.N_reads' h).1
  obtain ⟨g, cp, he, _⟩ := Kd.N_form h (by omega)
  injection he with hA _ _
  subst hA
  obtain ⟨c, hcl, hFK, hcc⟩ := Kd.N_get h ([] : List S54) (i : Int) (by omega) (by omega)
  rw [Int.toNat_natCast, hx] at hFK
  rw [Int.toNat_natCast] at hcc
  obtain ⟨A0, c0, rfl, hl0, _⟩ := Kd.FK_now hFK
  refine ⟨_, A0, c0, rfl, hl0, fun W2 hW2 => ⟨?_, ?_⟩⟩
  · have h1 := hcc 0 _ rfl
    rw [show kSS.sz = 1 from rfl, Nat.mul_one, Nat.add_zero] at h1
    refine (World.cell?_of_block ?_).trans h1
    rw [add_block]
    exact hW2 _ (h.1 _ rfl) (Kd.N_lt h _ rfl)
  · obtain ⟨A0', c0', he2, _, hC⟩ := hFK W2 (fun k hk hlt => hW2 k hk.1 hlt)
    injection he2 with he2 _
    injection he2 with he2 _ _
    rw [he2]
    exact hC
theorem blk_new1 (w : World) (a b : Obj) : ((w.alloc a).alloc b).heap[w.heap.size + 1]? = some b := by have := blk_new (w.alloc a) b; rwa [World.size_alloc] at this
theorem blk_new2 (w : World) (a b c : Obj) : (((w.alloc a).alloc b).alloc c).heap[w.heap.size + 1 + 1]? = some c := by have := blk_new ((w.alloc a).alloc b) c; rwa [World.size_alloc, World.size_alloc] at this
structure Mid (lo hi : Nat) (a b : World) : Prop where
  os : b.os = a.os
  tape : b.tape = a.tape
  output : b.output = a.output
  size : a.heap.size ≤ b.heap.size
  block : ∀ k, k < a.heap.size → (k < lo ∨ hi ≤ k) → b.heap[k]? = a.heap[k]?
theorem Mid.refl (lo hi : Nat) (a : World) : Mid lo hi a a := ⟨rfl, rfl, rfl, Nat.le_refl _, fun _ _ _ => rfl⟩
theorem Mid.of_but {lo hi g : Nat} {a b : World} (h : But g a.heap.size a b) (h1 : lo ≤ g) (h2 : g < hi) : Mid lo hi a b := ⟨h.os, h.tape, h.output, h.size, fun k hk hn => h.block k hk (by omega)⟩
theorem Mid.below {lo hi : Nat} {a b : World} (h : Mid lo hi a b) (hs : lo ≤ a.heap.size) : Below lo a b := ⟨h.os, h.tape, h.output, h.size, fun k hk => h.block k (by omega) (.inl hk)⟩
theorem meas_step {k n : Nat} (h : k < n) : n - (intOf (.int .i64 ((k + 1 : Nat) : Int))).toNat < n - (intOf (.int .i64 (k : Int))).toNat := by
  simp only [intOf]
  omega
theorem But.mono {O B B' : Nat} {a b : World} (h : But O B a b) (hB : B' ≤ B) : But O B' a b := ⟨h.os, h.tape, h.output, h.size, fun k hk hn => h.block k (by omega) hn⟩
theorem spoilR.calls (p : Addr) (lo : Nat) (c : Nat) (v : Value) (b : List Int) (w : World) (hp : w.cell? p = some v) (hv : ∃ A, v = .slice A b.length c) (hi : Nat) (hr : Kd.R (Kd.int .u8) 5 w lo (fun k => k < hi) v b) (hn : b.length ≤ 1000000) :
    Calls Tryd.prog 21 #[.slice (some p) 1 1] w fun e w' => (∃ v, e = .returned v) ∧ Mid lo hi w w' := by
  obtain ⟨A, rfl⟩ := hv
  rcases Nat.eq_zero_or_pos b.length with h0 | h0
  · rw [h0] at hp
    refine (spoil.nil p A c w hp).mono ?_
    rintro e w' ⟨he, rfl⟩
    exact ⟨he, Mid.refl _ _ _⟩
  · obtain ⟨g, cap, he, hg1, hg2, _⟩ := Kd.N_form (Kd.R_N hr) h0
    injection he with hA _ hc
    subst hA
    have hB := bytesIn_of (Kd.R_mono hr (fun _ _ => trivial))
    refine (spoil.calls p g b.length c w hp hB hn).mono ?_
    rintro e w' ⟨he, hb⟩
    exact ⟨he, Mid.of_but hb hg1 (hr.1 g rfl)⟩
end Go.Proofs.YtbgmnmjokdfmlaaDoor.PA
namespace Go.Proofs.YtbgmnmjokdfmlaaDoor.G.ChunkReads
open Go.RowKit Go.Proofs.YtbgmnmjokdfmlaaDoor.PA Go.Proofs.YtbgmnmjokdfmlaaDoor.G Go.Proofs.YtbgmnmjokdfmlaaDoorW.PrintWords Go.Proofs.YtbgmnmjokdfmlaaDoorW.PrintLast Go.Proofs.YtbgmnmjokdfmlaaDoorW.PrintMore
set_option linter.unusedVariables false
set_option linter.unusedSimpArgs false
set_option maxHeartbeats 4000000 in
set_option maxRecDepth 100000 in
theorem walk (A : Option Addr) (c : Nat) (l : List Int) (q : Int) (w : World) (hr : Kd.C (Kd.int .u8) w A l.length l) (hc : l.length ≤ c) (hw : ∀ x ∈ l, (Lit.int .u8 x).wf = true) (hs : l.length * 1 ≤ 140737488351232) (hq : (Lit.int .i64 q).wf = true) (hT : TabZ w) :
    Calls Tryd.prog 5 #[.slice A l.length c, .int .i64 q] w fun e w' => e = .returned (.bool true) ∧ Below w.heap.size w w' := by
  obtain ⟨L, hL⟩ : ∃ L, l.take 600 = L := ⟨_, rfl⟩
  have hlm : (min (l.length : Int) 600).toNat = L.length := by rw [← hL, List.length_take]; omega
  have h600 : L.length ≤ 600 := by rw [← hL, List.length_take]; omega
  have hLl : L.length ≤ l.length := by rw [← hL, List.length_take]; omega
  have hok : okB L = true := okB_iff.2 fun x hx => by
    have h1 := hw x (List.mem_of_mem_take (hL ▸ hx))
    simp [Lit.wf, IntKind.min, IntKind.max, IntKind.signed, IntKind.bits] at h1
    omega
  have hC0 : Kd.C (Kd.int .u8) w A L.length L := by
    have h1 := Kd.C_take hr hLl
    have e : l.take L.length = L := by rw [← hL, List.length_take]; rcases Nat.le_total 600 l.length with h | h; rw [Nat.min_eq_left h]; rw [Nat.min_eq_right h, List.take_length, List.take_of_length_le h]
    rwa [e] at h1
  have CL := Aside0.mk (CloneB.calls A c L L.length w rfl hC0 (by omega) (by omega))
  have AL := Aside0.mk (fun W (hb : Below w.heap.size w W) => rAll.calls A c L.length L q W rfl (Kd.C_below hC0 hb) (by omega) hok (by omega))
  have HT := Aside0.mk hT
  have HOK := Aside0.mk hok
  clear hr hw hs hq hT hC0 hok hL
  go_enter Tryd.func5, Tryd.ntmps5
  have HE0 := Aside0.mk (allR_len L.length L (atC q))
  obtain ⟨E, SS, F, hAll⟩ : ∃ E SS F, allR L.length L (atC q) = (E, SS, F) := ⟨_, _, _, rfl⟩
  have HALL := Aside0.mk hAll
  rw [hAll] at HE0
  simp only [hAll] at AL
  clear hAll
  go_wp2_with (first | (go_at_call 19; (with_reducible refine CL.out.mono ?_); rintro e w1 ⟨v1, rfl, hr1, hb⟩; obtain ⟨A1, c1, rfl⟩ := Kd.R_slice hr1; have HR1 := Aside0.mk hr1; have HB1 := Aside0.mk hb; clear hr1 hb) | (go_at_call 20; (with_reducible refine (AL.out _ HB1.out).mono ?_); rintro e w2 ⟨v2, v3, rfl, h2, h3, hb⟩; obtain ⟨A2, c2, rfl⟩ := Kd.N_slice h2; obtain ⟨A3, c3, rfl⟩ := Kd.N_slice h3; have HN2 := Aside0.mk (Kd.N_bound h2); have HN3 := Aside0.mk (Kd.N_bound h3); have HB2 := Aside0.mk hb; clear h2 h3 hb) | (go_at_call 11; (with_reducible refine (open.calls A1 c1 L.length L q _ rfl (Kd.C_below (Kd.R_reads' HR1.out).2.2 HB2.out) (Kd.R_reads' HR1.out).2.1 (by omega)).mono ?_); rintro e w3 ⟨g, v5, rfl, hg, hr5, hgw, hb⟩; obtain ⟨A5, c5, rfl⟩ := Kd.R_slice hr5; have HG := Aside0.mk hg; have HR5 := Aside0.mk (Kd.R_bound hr5); have HGW := Aside0.mk hgw; have HB3 := Aside0.mk hb; clear hg hr5 hgw hb) | (go_at_call 21; (refine (spoilR.calls _ w.heap.size c1 (.slice A1 L.length c1) L _ ((blk_cell (blk_new _ _) 0).trans rfl) ⟨_, rfl⟩ w1.heap.size ?sp (by omega)).mono ?_); (case sp => exact Kd.R_mono (Kd.R_below (Kd.R_bound HR1.out) (below_alloc (below_step HB2.out HB3.out) _)) (fun k hk => hk.2.2.1)); rintro e w4 ⟨⟨vv, rfl⟩, hm⟩; have HM := Aside0.mk hm; clear hm))
  have hw12 : w1.heap.size ≤ w2.heap.size := HB2.out.size
  have hw23 : w2.heap.size ≤ w3.heap.size := HB3.out.size
  have hw01 : w.heap.size ≤ w1.heap.size := HB1.out.size
  have hg3 : g < w3.heap.size := blk_lt HG.out
  have hsa : (w3.alloc (.cells #[.slice A1 L.length c1] 22)).heap.size = w3.heap.size + 1 := World.size_alloc _ _
  have hw34 : w3.heap.size + 1 ≤ w4.heap.size := by rw [← hsa]; exact HM.out.size
  have HNE := Aside0.mk (Kd.N_step (Kd.N_alloc (Kd.N_below HN2.out HB3.out) (.cells #[.slice A1 L.length c1] 22)) (fun k hk hlt => HM.out.block k hlt (.inr hk.1)))
  have HNS := Aside0.mk (Kd.N_step (Kd.N_alloc (Kd.N_below HN3.out HB3.out) (.cells #[.slice A1 L.length c1] 22)) (fun k hk hlt => HM.out.block k hlt (.inr hk.1)))
  have HG4 : Aside0 (CU w4 g true (.slice A5 L.length c5) (atC q) false) := ⟨(HM.out.block g (by omega) (.inr (by have := HGW.out; omega))).trans (blk_alloc HG.out _)⟩
  have HR54 := Aside0.mk (Kd.R_step (Kd.R_alloc HR5.out (.cells #[.slice A1 L.length c1] 22)) (fun k hk hlt => HM.out.block k hlt (.inr (by have := hk.2.1; omega))))
  have HBw : Aside0 (Below w.heap.size w w4) := ⟨(below_alloc (below_step (below_step HB1.out HB2.out) HB3.out) (.cells #[.slice A1 L.length c1] 22)).trans (HM.out.below (by rw [hsa]; omega))⟩
  have HNg : Aside0 (∀ a, A5 = some a → a.block ≠ g) := ⟨own_ne (Kd.R_mono HR54.out (fun _ _ => trivial)) HG4.out⟩
  have HC5 := Aside0.mk (Kd.R_reads' HR54.out)
  clear HM HR5 HG HN2 HN3 HR1 CL AL HR54 hsa
  have HQ : Aside0 (0 ≤ atC q ∧ atC q ≤ 2147483647) := ⟨by unfold atC; omega⟩
  go_loopw [40] (fun i wr => ∃ (k k' : Nat) (bi : List Int) (Ai : Option Addr) (ci : Nat) (qi : Int), k ≤ E.length ∧ i = .int .i64 k ∧ bi.length ≤ k' ∧ bi.length ≤ 600 ∧ 0 ≤ qi ∧ qi + bi.length ≤ 2147483647 + 600 ∧ bi.length ≤ ci ∧ Aside0 (allR k' bi qi = (E.drop k, SS.drop k, F)) ∧ Aside0 (okB bi = true) ∧ Aside0 (CU wr g true (.slice Ai bi.length ci) qi false) ∧ Aside0 (Kd.C (Kd.int .u8) wr Ai bi.length bi) ∧ Aside0 (∀ a, Ai = some a → a.block ≠ g) ∧ Aside0 (But g w4.heap.size w4 wr)) (fun i _ => E.length - (intOf i).toNat)
  case atStart => exact ⟨0, L.length, L, A5, c5, atC q, Nat.zero_le _, rfl, Nat.le_refl _, h600, HQ.out.1, by have := HQ.out.2; omega, HC5.out.2.1, ⟨by rw [HALL.out, List.drop_zero, List.drop_zero]⟩, HOK, HG4, ⟨HC5.out.2.2⟩, HNg, ⟨But.refl _ _ _⟩⟩
  case round =>
    clear HG4 HC5 HNg HOK HALL
    obtain ⟨k, k', bi, Ai, ci, qi, hk, rfl, hk', h6, hq1, hq2, hci, HZ, HOK, HG, HC, HNg, HB⟩ := hrel
    have HBWr : Aside0 (Below w.heap.size w wr) := ⟨HBw.out.trans (HB.out.below (by have := HGW.out; omega) HBw.out.size)⟩
    have hwr : w4.heap.size ≤ wr.heap.size := HB.out.size
    have HNEr := Aside0.mk (Kd.N_step HNE.out (fun k hk hlt => HB.out.block k hlt (by have := hk.2; have := HGW.out; omega)))
    have HNSr := Aside0.mk (Kd.N_step HNS.out (fun k hk hlt => HB.out.block k hlt (by have := hk.2; have := HGW.out; omega)))
    by_cases hlt : k < E.length
    · have hlS : k < SS.length := by have := HE0.out.2; omega
      have hED : E.drop k = E[k] :: E.drop (k + 1) := List.drop_eq_getElem_cons hlt
      have hSD : SS.drop k = SS[k] :: SS.drop (k + 1) := List.drop_eq_getElem_cons hlS
      have hb0 : bi.length ≠ 0 := fun h0 => by
        have h1 := HZ.out
        rw [allR_end _ _ _ h0, hED] at h1
        injection h1 with h1 _
        cases h1
      rcases chunkB_cases bi with hbad | ⟨ls, ss, m, hch, hm4, hml, hs1, hs2⟩
      · have h1 := HZ.out
        rw [allR_bad _ _ _ hk' hb0 hbad, hED] at h1
        injection h1 with h1 _
        cases h1
      · obtain ⟨k2, hk2, hz2⟩ := allR_ok k' bi qi hk' hch hm4 hml
        have h1 := HZ.out
        rw [hz2, hED, hSD] at h1
        simp only [Prod.mk.injEq, List.cons.injEq] at h1
        obtain ⟨⟨hEk, hE2⟩, ⟨hSk, hS2⟩, hF2⟩ := h1
        have hrdE : E.getD k zE = entE ls ss qi m := by rw [hEk]; simp [List.getD_eq_getElem?_getD, List.getElem?_eq_getElem hlt]
        obtain ⟨adE, A0, c0, hA2, hcE, hl0, hLab, _⟩ := at_NE HNEr.out k hlt _ hrdE
        subst hA2
        have e0 : wr.cell? (adE.add (k * 5)) = some (.slice A0 ls.length c0) := hcE 0 _ rfl
        have e1 : wr.cell? ⟨(adE.add (k * 5)).block, (adE.add (k * 5)).off + 1, none⟩ = some (.int .i64 qi) := by rw [← add_field _ _ 1 (by omega)]; exact hcE 1 _ rfl
        have e2 : wr.cell? ⟨(adE.add (k * 5)).block, (adE.add (k * 5)).off + 2, none⟩ = some (.int .i64 m) := by rw [← add_field _ _ 2 (by omega)]; exact hcE 2 _ rfl
        have e3 : wr.cell? ⟨(adE.add (k * 5)).block, (adE.add (k * 5)).off + 3, none⟩ = some (.int .i64 (rd_T54 ss 0).f0) := by rw [← add_field _ _ 3 (by omega)]; exact hcE 3 _ rfl
        have e4 : wr.cell? ⟨(adE.add (k * 5)).block, (adE.add (k * 5)).off + 4, none⟩ = some (.int .i64 (rd_T54 ss ((ss.length : Int) - 1)).f0) := by rw [← add_field _ _ 4 (by omega)]; exact hcE 4 _ rfl
        obtain ⟨oW, hoW⟩ : ∃ oW : Obj, Obj.cells #[.slice A0 ls.length c0, .int .i64 qi, .int .i64 m, .int .i64 (rd_T54 ss 0).f0, .int .i64 (rd_T54 ss ((ss.length : Int) - 1)).f0] 29 (0, 0) = oW := ⟨_, rfl⟩
        have HBa := Aside0.mk (below_alloc (Below.refl wr.heap.size wr) oW)
        have HOW := Aside0.mk (blk_new wr oW)
        have HL0 : Aside0 (ls.length ≤ c0 ∧ ls.length ≤ 8) := ⟨hl0, by have := chunkB_len8 bi; rwa [hch] at this⟩
        have HLAB := Aside0.mk hLab
        have NX := Aside0.mk (fun W (hb : Below wr.heap.size wr W) => next.ok g Ai ci bi.length bi qi W (CU.below HG.out hb) rfl (Kd.C_below HC.out hb) hci HOK.out (by omega) (by omega) (.inl (by omega)) (HT.out.below (below_step HBWr.out hb)) ⟨hq1, by omega⟩ ls ss m hch ⟨by omega, hml⟩ ⟨hs1, hs2⟩ HNg.out)
        have HZ2 := Aside0.mk (And.intro hE2 (And.intro hS2 (And.intro hF2 hk2)))
        have hsS : SS.getD k [] = ss := by rw [hSk]; simp [List.getD_eq_getElem?_getD, List.getElem?_eq_getElem hlS]
        obtain ⟨adS, A0s, c0s, hA3, hls, hSR⟩ := at_NS HNSr.out k hlS ss hsS
        subst hA3
        have HSR := Aside0.mk hSR
        have HLs := Aside0.mk hls
        have AG : Aside0 (∀ w5 : World, But g (wr.alloc oW).heap.size (wr.alloc oW) w5 → ∀ W2, Below w5.heap.size w5 W2 → ∀ k, (w1.heap.size ≤ k ∧ k < w2.heap.size) → k < wr.heap.size → W2.heap[k]? = wr.heap[k]?) := ⟨fun w5 hb W2 hb2 k hk hlt => (hb2.block k (by have := hb.size; rw [World.size_alloc] at this; omega)).trans ((hb.block k (by rw [World.size_alloc]; omega) (by have := HGW.out; omega)).trans (Below.heap_alloc wr oW k hlt))⟩
        have AGS := AG
        have HSk := Aside0.mk hSk
        have hgwr : g < wr.heap.size := by omega
        subst hoW
        clear hEk hSk hcE hl0 hLab hrdE hsS hls hSR hz2 hE2 hS2 hF2 hk2 hch hb0 hED hSD
        go_wp2_with (first | (go_at_call 9; (with_reducible refine (NX.out _ HBa.out).mono ?_); rintro e w5 ⟨v6, v7, A', c', rfl, h6, h7, hg5, hC5, hc5, hn5, hb5⟩; obtain ⟨A6, c6, rfl⟩ := Kd.R_slice h6; obtain ⟨A7, c7, rfl⟩ := Kd.R_slice h7; have HV6 := Aside0.mk (Kd.R_reads' h6); have HV7 := Aside0.mk (Kd.R_reads' h7); have HG5 := Aside0.mk hg5; have HC5 := Aside0.mk hC5; have HCC5 := Aside0.mk hc5; have HN5 := Aside0.mk hn5; have HB5 := Aside0.mk hb5; have hw5 := (HB5.out.block wr.heap.size (by rw [World.size_alloc]; omega) (by omega)).trans HOW.out; have d0 := cell_alloc_old (.cells #[.slice A6 ls.length c6, .int .i64 qi, .int .i64 m, .int .i64 (rd_T54 ss 0).f0, .int .i64 (rd_T54 ss ((ss.length : Int) - 1)).f0] 29) (cell_alloc_old (.cells #[.slice A6 ls.length c6, .int .i64 qi, .int .i64 m, .int .i64 (rd_T54 ss 0).f0, .int .i64 (rd_T54 ss ((ss.length : Int) - 1)).f0] 29) ((blk_cell hw5 0).trans rfl)); have d1 := cell_alloc_old (.cells #[.slice A6 ls.length c6, .int .i64 qi, .int .i64 m, .int .i64 (rd_T54 ss 0).f0, .int .i64 (rd_T54 ss ((ss.length : Int) - 1)).f0] 29) (cell_alloc_old (.cells #[.slice A6 ls.length c6, .int .i64 qi, .int .i64 m, .int .i64 (rd_T54 ss 0).f0, .int .i64 (rd_T54 ss ((ss.length : Int) - 1)).f0] 29) ((blk_cell hw5 1).trans rfl)); have d2 := cell_alloc_old (.cells #[.slice A6 ls.length c6, .int .i64 qi, .int .i64 m, .int .i64 (rd_T54 ss 0).f0, .int .i64 (rd_T54 ss ((ss.length : Int) - 1)).f0] 29) (cell_alloc_old (.cells #[.slice A6 ls.length c6, .int .i64 qi, .int .i64 m, .int .i64 (rd_T54 ss 0).f0, .int .i64 (rd_T54 ss ((ss.length : Int) - 1)).f0] 29) ((blk_cell hw5 2).trans rfl)); have d3 := cell_alloc_old (.cells #[.slice A6 ls.length c6, .int .i64 qi, .int .i64 m, .int .i64 (rd_T54 ss 0).f0, .int .i64 (rd_T54 ss ((ss.length : Int) - 1)).f0] 29) (cell_alloc_old (.cells #[.slice A6 ls.length c6, .int .i64 qi, .int .i64 m, .int .i64 (rd_T54 ss 0).f0, .int .i64 (rd_T54 ss ((ss.length : Int) - 1)).f0] 29) ((blk_cell hw5 3).trans rfl)); have d4 := cell_alloc_old (.cells #[.slice A6 ls.length c6, .int .i64 qi, .int .i64 m, .int .i64 (rd_T54 ss 0).f0, .int .i64 (rd_T54 ss ((ss.length : Int) - 1)).f0] 29) (cell_alloc_old (.cells #[.slice A6 ls.length c6, .int .i64 qi, .int .i64 m, .int .i64 (rd_T54 ss 0).f0, .int .i64 (rd_T54 ss ((ss.length : Int) - 1)).f0] 29) ((blk_cell hw5 4).trans rfl)); clear hw5 h6 h7 hg5 hC5 hc5 hn5 hb5) | (go_at_call 22; (refine (sameE.calls ⟨w5.heap.size + 1, 0, none⟩ ⟨w5.heap.size + 1 + 1, 0, none⟩ (entE ls ss qi m) _ ?s0 ?s1 ?s2).mono ?_); (case s0 => exact one_C kE (blk_alloc (blk_new1 w5 (.cells #[.slice A6 ls.length c6, .int .i64 qi, .int .i64 m, .int .i64 (rd_T54 ss 0).f0, .int .i64 (rd_T54 ss ((ss.length : Int) - 1)).f0] 29) (.cells #[.slice A6 ls.length c6, .int .i64 qi, .int .i64 m, .int .i64 (rd_T54 ss 0).f0, .int .i64 (rd_T54 ss ((ss.length : Int) - 1)).f0] 29)) _) (kE_mk _ (entE ls ss qi m) HV6.out.2.1 (Kd.C_below HV6.out.2.2 (below_alloc (below_alloc (below_alloc (Below.refl _ _) _) _) _)))); (case s1 => exact one_C kE (blk_new2 w5 (.cells #[.slice A6 ls.length c6, .int .i64 qi, .int .i64 m, .int .i64 (rd_T54 ss 0).f0, .int .i64 (rd_T54 ss ((ss.length : Int) - 1)).f0] 29) (.cells #[.slice A6 ls.length c6, .int .i64 qi, .int .i64 m, .int .i64 (rd_T54 ss 0).f0, .int .i64 (rd_T54 ss ((ss.length : Int) - 1)).f0] 29) (.cells #[.slice A0 ls.length c0, .int .i64 qi, .int .i64 m, .int .i64 (rd_T54 ss 0).f0, .int .i64 (rd_T54 ss ((ss.length : Int) - 1)).f0] 29)) (kE_mk _ (entE ls ss qi m) HL0.out.1 (HLAB.out _ (AG.out w5 HB5.out _ (below_alloc (below_alloc (below_alloc (Below.refl _ _) _) _) _))))); (case s2 => exact Nat.le_trans HL0.out.2 (by decide)); rintro e w6 ⟨rfl, hb⟩; have HB56 := Aside0.mk (below_step (below_alloc (below_alloc (below_alloc (Below.refl w5.heap.size w5) (.cells #[.slice A6 ls.length c6, .int .i64 qi, .int .i64 m, .int .i64 (rd_T54 ss 0).f0, .int .i64 (rd_T54 ss ((ss.length : Int) - 1)).f0] 29)) (.cells #[.slice A6 ls.length c6, .int .i64 qi, .int .i64 m, .int .i64 (rd_T54 ss 0).f0, .int .i64 (rd_T54 ss ((ss.length : Int) - 1)).f0] 29)) (.cells #[.slice A0 ls.length c0, .int .i64 qi, .int .i64 m, .int .i64 (rd_T54 ss 0).f0, .int .i64 (rd_T54 ss ((ss.length : Int) - 1)).f0] 29)) hb); have q0 := (HSR.out w6 (AGS.out w5 HB5.out _ HB56.out)).1; clear hb) | (go_at_call 23; (with_reducible refine (EqualS A7 c7 A0s c0s ss _ (Kd.C_below HV7.out.2.2 HB56.out) HV7.out.2.1 (HSR.out _ (AGS.out w5 HB5.out _ HB56.out)).2 HLs.out (by omega)).mono ?_); rintro e w7 ⟨rfl, hb⟩; have HB57 := Aside0.mk (below_step HB56.out hb); clear hb) | (go_at_call 10; (with_reducible refine (err_ok.calls _ g _ _ (CU.below HG5.out HB57.out)).mono ?_); rintro e w8 ⟨rfl, hb⟩; have HB58 := Aside0.mk (below_step HB57.out hb); clear hb))
        have hwk : wrap64 ((k : Int) + 1) = ((k + 1 : Nat) : Int) := by unfold wrap64; have := HE0.out.1; omega
        rw [hwk]
        have hs5 : wr.heap.size + 1 ≤ w5.heap.size := by have := HB5.out.size; rwa [World.size_alloc] at this
        refine ⟨⟨k + 1, k2, bi.drop m, A', c', qi + m, hlt, rfl, HZ2.out.2.2.2, by rw [List.length_drop]; omega, by omega, by rw [List.length_drop]; omega, HCC5.out, ⟨Prod.ext HZ2.out.1 (Prod.ext HZ2.out.2.1 HZ2.out.2.2.1)⟩, ⟨okB_sub HOK.out (fun x hx => List.mem_of_mem_drop hx)⟩, ⟨CU.below HG5.out HB58.out⟩, ⟨Kd.C_below HC5.out HB58.out⟩, HN5, ⟨?_⟩⟩, meas_step hlt⟩
        exact (HB.out.trans (But.of_below (HBa.out.mono hwr))).trans ((But.mono HB5.out (by rw [World.size_alloc]; omega)).trans (But.of_below (HB58.out.mono (by omega))))
    · obtain rfl : k = E.length := by omega
      have HZe : Aside0 (allR k' bi qi = ([], [], F)) := ⟨by rw [HZ.out, List.drop_length, List.drop_of_length_le (by have := HE0.out.2; omega)]⟩
      rcases Nat.eq_zero_or_pos bi.length with h0 | h0
      · have hF : F = 0 := by have := HZe.out; rw [allR_end _ _ _ h0] at this; simpa using this.symm
        subst hF
        have HGe := HG
        rw [h0] at HGe
        clear HG HC HZ HZe HNE HNS HNEr HNSr h0 hlt
        go_wp2
        refine wp_loop_rounds 3 ?_
        rw [rounds_succ]
        go_wp2_with (first | (go_at_call 9; (with_reducible refine (next_end.calls _ g Ai ci qi HGe.out).mono ?_); rintro e x1 ⟨rfl, hb⟩; have HX1 := Aside0.mk hb; have HG1 := Aside0.mk (CU.below HGe.out hb); dsimp only [noEntry]; clear hb) | (go_at_call 10; (with_reducible refine (err_ok.calls _ g _ _ (CU.below HG1.out (below_alloc (Below.refl _ _) _))).mono ?_); rintro e x2 ⟨rfl, hb⟩; have HX2 := Aside0.mk (below_step (below_alloc HX1.out _) hb); have HG2 := Aside0.mk (CU.below HGe.out HX2.out); clear hb))
        rw [rounds_succ]
        go_wp2_with (first | (go_at_call 9; (with_reducible refine (next_end.calls _ g Ai ci qi HG2.out).mono ?_); rintro e x3 ⟨rfl, hb⟩; have HX3 := Aside0.mk (below_step HX2.out hb); have HG3 := Aside0.mk (CU.below HG2.out hb); dsimp only [noEntry]; clear hb) | (go_at_call 10; (with_reducible refine (err_ok.calls _ g _ _ (CU.below HG3.out (below_alloc (Below.refl _ _) _))).mono ?_); rintro e x4 ⟨rfl, hb⟩; have HX4 := Aside0.mk (below_step (below_alloc HX3.out _) hb); clear hb))
        rw [rounds_succ]
        go_wp2_with (first | (go_at_call 12; (with_reducible refine (PA.cawake.calls _ (HT.out.below (below_step HBWr.out HX4.out))).mono ?_); rintro e x5 ⟨rfl, hb⟩; have HX5 := Aside0.mk (below_step (below_step HBWr.out HX4.out) hb); clear hb))
        go_ret
        exact ⟨rfl, HX5.out⟩
      · rcases chunkB_cases bi with hbad | ⟨ls, ss, m, hch, hm4, hml, hs1, hs2⟩
        · have hF : F = 5 := by have := HZe.out; rw [allR_bad _ _ _ hk' (by omega) hbad] at this; simpa using this.symm
          subst hF
          have NB := Aside0.mk (next.bad g Ai ci bi.length bi qi wr HG.out rfl HC.out hci HOK.out h0 (by omega) (.inl (by omega)) (HT.out.below HBWr.out) hbad)
          have hgw : w.heap.size ≤ g := by have := HGW.out; omega
          clear HG HC HZ HZe HNE HNS HNEr HNSr h0 hlt hbad
          go_wp2
          refine wp_loop_rounds 3 ?_
          rw [rounds_succ]
          go_wp2_with (first | (go_at_call 9; (with_reducible refine NB.out.mono ?_); rintro e x1 ⟨rfl, hg1, hb⟩; have HX1 : Aside0 (Below w.heap.size w x1) := ⟨HBWr.out.trans (hb.below hgw HBWr.out.size)⟩; have HG1 := Aside0.mk hg1; dsimp only [noEntry]; clear hb hg1) | (go_at_call 10; (with_reducible refine (err_broken.calls _ g _ _ (CU.below HG1.out (below_alloc (Below.refl _ _) _))).mono ?_); rintro e x2 ⟨rfl, hb⟩; have HX2 := Aside0.mk (below_step (below_alloc HX1.out _) hb); have HG2 := Aside0.mk (CU.below HG1.out (below_step (below_alloc (Below.refl _ _) _) hb)); clear hb))
          rw [rounds_succ]
          go_wp2_with (first | (go_at_call 9; (with_reducible refine (next_broken.calls _ g _ _ HG2.out).mono ?_); rintro e x3 ⟨rfl, hb⟩; have HX3 := Aside0.mk (below_step HX2.out hb); have HG3 := Aside0.mk (CU.below HG2.out hb); dsimp only [noEntry]; clear hb) | (go_at_call 10; (with_reducible refine (err_broken.calls _ g _ _ (CU.below HG3.out (below_alloc (Below.refl _ _) _))).mono ?_); rintro e x4 ⟨rfl, hb⟩; have HX4 := Aside0.mk (below_step (below_alloc HX3.out _) hb); clear hb))
          rw [rounds_succ]
          go_wp2_with (first | (go_at_call 12; (with_reducible refine (PA.cawake.calls _ (HT.out.below HX4.out)).mono ?_); rintro e x5 ⟨rfl, hb⟩; have HX5 := Aside0.mk (below_step HX4.out hb); clear hb))
          go_ret
          exact ⟨rfl, HX5.out⟩
        · obtain ⟨k2, hk2, hz2⟩ := allR_ok k' bi qi hk' hch hm4 hml
          have h1 := HZe.out
          rw [hz2] at h1
          simp at h1
end Go.Proofs.YtbgmnmjokdfmlaaDoor.G.ChunkReads
namespace Go.Proofs.YtbgmnmjokdfmlaaDoor.chunkReads
open Go.ChangeShapes Go.WideShapes Go.ChangeAt Go.RowKit
open Go.ChangeMaps (open_string shut_string)
open Go.Proofs.YtbgmnmjokdfmlaaDoorW
set_option linter.unusedVariables false
set_option linter.unusedSimpArgs false
theorem own : ownKnob Tryd.prog.godebug = none := by kernel_rfl
theorem laidOut : laidOutB Tryd.prog = true := by kernel_rfl
def IsRow (k : IntKind) (w : World) (a : Option Addr) (len cap : Nat) (zs : List Int) : Prop :=
  (a = none ∧ len = 0 ∧ cap = 0 ∧ zs = []) ∨
  ∃ x, a = some x ∧ len ≤ cap ∧ cap ≤ maxLen ∧ zs.length = cap ∧ (∀ i, i < zs.length → w.cell? (x.add i) = some (.int k (zs.getD i 0))) ∧ ∀ n ∈ zs, (Lit.int k n).wf = true
theorem g_deBruijn64tab : Tryd.prog.globalNamed "math/bits.deBruijn64tab" = some 0 := by kernel_rfl
theorem t_deBruijn64tab : (Tryd.prog.globals[0]?).map (·.type) = some 156 := by kernel_rfl
theorem c_deBruijn64tab : Tryd.prog.cellsOf 156 = 64 := by kernel_rfl
theorem e_deBruijn64tab : Tryd.prog.cellsOf 5 = 1 := by kernel_rfl
theorem tab_deBruijn64tab {W : World} (h : laidMetH Tryd.prog Rows.chunkReadsRow.laid W) : Lib.TabIs Tryd.prog W "math/bits.deBruijn64tab" .u8 [0, 1, 56, 2, 57, 49, 28, 3, 61, 58, 42, 50, 38, 29, 17, 4, 62, 47, 59, 36, 45, 43, 51, 22, 53, 39, 33, 30, 24, 18, 12, 5, 63, 55, 48, 27, 60, 41, 37, 16, 46, 35, 44, 21, 52, 32, 23, 11, 54, 26, 40, 15, 34, 20, 31, 10, 25, 14, 19, 9, 13, 8, 7, 6] :=
  Lib.tabIs_of_head (rest := _) g_deBruijn64tab t_deBruijn64tab Tryd.underlying156 Tryd.underlying5 e_deBruijn64tab c_deBruijn64tab h
theorem db_tab : ∀ j, j < 64 → ([0, 1, 56, 2, 57, 49, 28, 3, 61, 58, 42, 50, 38, 29, 17, 4, 62, 47, 59, 36, 45, 43, 51, 22, 53, 39, 33, 30, 24, 18, 12, 5, 63, 55, 48, 27, 60, 41, 37, 16, 46, 35, 44, 21, 52, 32, 23, 11, 54, 26, 40, 15, 34, 20, 31, 10, 25, 14, 19, 9, 13, 8, 7, 6] : List Int).getD j 0 = ((Lib.deBruijn64tab.getD j 0 : Nat) : Int) := by decide
noncomputable def laidWorld (os : Os) : World :=
  { World.holding Tryd.prog os ⟨#[], #[], []⟩ with heap := ((World.holding Tryd.prog os ⟨#[], #[], []⟩).heap).modify 0 fun
      | .cells _ t frozen => .cells #[.int .u8 0, .int .u8 1, .int .u8 56, .int .u8 2, .int .u8 57, .int .u8 49, .int .u8 28, .int .u8 3, .int .u8 61, .int .u8 58, .int .u8 42, .int .u8 50, .int .u8 38, .int .u8 29, .int .u8 17, .int .u8 4, .int .u8 62, .int .u8 47, .int .u8 59, .int .u8 36, .int .u8 45, .int .u8 43, .int .u8 51, .int .u8 22, .int .u8 53, .int .u8 39, .int .u8 33, .int .u8 30, .int .u8 24, .int .u8 18, .int .u8 12, .int .u8 5, .int .u8 63, .int .u8 55, .int .u8 48, .int .u8 27, .int .u8 60, .int .u8 41, .int .u8 37, .int .u8 16, .int .u8 46, .int .u8 35, .int .u8 44, .int .u8 21, .int .u8 52, .int .u8 32, .int .u8 23, .int .u8 11, .int .u8 54, .int .u8 26, .int .u8 40, .int .u8 15, .int .u8 34, .int .u8 20, .int .u8 31, .int .u8 10, .int .u8 25, .int .u8 14, .int .u8 19, .int .u8 9, .int .u8 13, .int .u8 8, .int .u8 7, .int .u8 6] t frozen
      | o => o }
theorem laid_met (os : Os) : laidMet Tryd.prog Rows.chunkReadsRow.laid ((laidWorld os).forCall (fun _ _ => 0) ⟨#[], #[.slice none 0 0, .int .i64 0], []⟩).memory :=
  laidMet_of_run' 8 (by kernel_rfl) (by kernel_rfl)
theorem reads (os : Os) {H : Type} (enc : TypeId × Value → H) : ∃ places, DataW.whole enc Tryd.prog ((laidWorld os).forCall (fun _ _ => 0) ⟨#[], #[.slice none 0 0, .int .i64 0], []⟩).memory Tryd.f5.params.toList Rows.chunkReadsSpec.vars false #[(Value.slice none 0 0), .int .i64 0].toList 8 = some ([.nil, .lit (.int .i64 0)], [], places) :=
  ⟨[], by kernel_rfl⟩
set_option maxRecDepth 100000 in
theorem lifted (os : Os) (started : os.Started) (H : Type) (enc : TypeId × Value → H) (F : Stop.Interp) :
    ReturnsInHanded {} Tryd.checked os 5 .any ((OpenSpec.ofChange Rows.chunkReadsSpec).preRow enc Tryd.prog Tryd.f5 Rows.chunkReadsRow.domain false Rows.chunkReadsRow.laid) (((OpenSpec.ofChange Rows.chunkReadsSpec).at F).post enc Tryd.prog Tryd.f5 false true false false) := by
  obtain ⟨places, hx⟩ := reads os enc
  refine returnsInHanded_of_row (C := Tryd.checked) (s := (OpenSpec.ofChange Rows.chunkReadsSpec)) own started (by kernel_rfl) Tryd.func5
    (witness_row_at (enc := enc) (C := Tryd.checked) false (laidWorld os) #[.slice none 0 0, .int .i64 0] rfl (by kernel_rfl) (by kernel_rfl) (by kernel_rfl)
      (OpenSpec.preRow_of_cond 8 hx (by kernel_rfl) (fun k hk => by cases hk) (by kernel_rfl) (laid_met os))) ?_
  intro W base args ds gs before hval0 hW _ hcond hsz0 hL _ _
  have hsz : (DataW.weightsEach Tryd.prog (Tryd.f5.params.toList ++ Rows.chunkReadsSpec.plain.varTypes Tryd.prog) (ds ++ gs)).all (· ≤ reachBytes) = true := hsz0
  have hval : ∀ (j : Nat) t v, Tryd.f5.params[j]? = some t → args[j]? = some v → Value.okWide Tryd.prog W .any base t v := hval0
  have hW' := hW
  obtain ⟨p, q, hA0, hV, rfl, hfz, hnd⟩ := hW
  have hA : DataW.TrodAll enc Tryd.prog W 0 (fun _ => true) true Tryd.f5.params.toList args.toList ds p := hA0
  rw [Tryd.params5] at hA hval hsz
  obtain ⟨v0, vs0, d0, ds0, p0, q0, hargs, rfl, rfl, h0, r0⟩ := trodAll_cons hA
  obtain ⟨v1, vs1, d1, ds1, p1, q1, rfl, rfl, rfl, h1, r1⟩ := trodAll_cons r0
  obtain ⟨rfl, rfl, rfl⟩ := trodAll_nil r1
  obtain rfl : args = #[v0, v1] := by cases args; simp_all
  obtain ⟨rfl, rfl⟩ := trodVars_none hV
  obtain ⟨a0, len0, cap0, rfl⟩ := okWide_slice Tryd.underlying22 (hval 0 22 v0 rfl rfl)
  have k0 := h0
  have lt0 : ∀ x ∈ p0, x.block < W.heap.size := by obtain ⟨m, hm⟩ := k0; exact DataW.trod_lt m _ _ _ hm
  obtain ⟨z0, w0⟩ : ∃ zs, IsRow .u8 W a0 len0 cap0 zs := by
    obtain ⟨fuel, hf⟩ := h0
    rcases open_ints Tryd.underlying22 Tryd.underlying5 (by kernel_rfl) hf with ⟨hcs, _⟩ | ⟨x, l, c, zs, hcs, _, hl, hm, hz, _, hcell, hwz⟩
    · simp [Value.cells] at hcs
      obtain ⟨rfl, rfl, rfl⟩ := hcs
      exact ⟨[], .inl ⟨rfl, rfl, rfl, rfl⟩⟩
    · simp [Value.cells] at hcs
      obtain ⟨rfl, rfl, rfl⟩ := hcs
      exact ⟨zs, .inr ⟨_, rfl, hl, hm, by simpa using hz, hcell, hwz⟩⟩
  have y0 : len0 * 1 ≤ 140737488351232 := PrintWords.sized_ints hsz (j := 0) (t := 22) rfl rfl Tryd.underlying22 Tryd.underlying5 (by kernel_rfl) (by kernel_rfl) h0
  obtain ⟨l0, rfl, hr0, hm0, hw0, hc0⟩ := PrintWords.ReadsInt.ofRowC w0
  obtain ⟨a1, rfl, rfl, rfl, w1⟩ := open_int Tryd.underlying3 (hval 1 3 v1 rfl rfl) h1
  have T_deBruijn64tab := tab_deBruijn64tab hL
  clear hA0 hval0 hsz0 hsz
  refine (G.ChunkReads.walk a0 cap0 l0 a1 W (PrintWords.Kd.C_of_reads (d := (0 : Int)) (h1 := fun _ => rfl) hr0) hc0 hw0 y0 w1 (⟨fun j hj => (T_deBruijn64tab.cell g_deBruijn64tab j hj).trans (congrArg (fun z : Int => some (Value.int .u8 z)) (db_tab j hj))⟩)).mono fun e W' ⟨he, bel⟩ => ?_
  subst he
  exact ⟨_, rfl, _, _, _, [], _, [], hW', trodAll_mk1 (shut_bool Tryd.underlying4 _), (trodAll_cons_mk (Below.trod laidOut (by kernel_rfl) (of_decide_eq_true (by kernel_rfl)) k0 bel lt0) (trodAll_cons_mk (shut_int Tryd.underlying3 w1) trodAll_mk0)), rfl, bel.frame _, fun h => by cases h⟩
theorem said : Rows.ChunkReadsSaid :=
  OpenClaim.holds_of_cond 5 Tryd.f5 rfl rfl rfl rfl rfl rfl rfl ⟨rfl, rfl, rfl, rfl, rfl⟩ rfl rfl rfl rfl rfl (by kernel_rfl) Tryd.func5 (by kernel_rfl)
    (of_decide_eq_true (by kernel_rfl)) (by unfold Func.isWrapper; first | (rw [if_pos (by decide +kernel)]; kernel_rfl) | (rw [if_neg (by decide +kernel)]; exact ⟨rfl, rfl⟩))
    (fun os started H enc _ F => by rw [OpenClaim.pre_eq_preRow]; exact lifted os started H enc F)
set_option maxRecDepth 100000 in
theorem plain (f : FuncId) (fn : Func) (hf : Tryd.pinned.checked.prog.funcNamed "dryrot/dryrotlaw12.ChunkReads" = some f) (hfn : Tryd.pinned.checked.prog.funcs[f]? = some fn) :
    false = Tryd.pinned.checked.prog.looks [] ∧ ∀ (j : Nat) t, fn.params[j]? = some t → Tryd.pinned.checked.prog.wantsStandIn t = false := by
  obtain rfl : f = 5 := Option.some.inj ((show Tryd.prog.funcNamed "dryrot/dryrotlaw12.ChunkReads" = some 5 by kernel_rfl).symm.trans hf) |>.symm
  obtain rfl : fn = Tryd.f5 := (Option.some.inj (Tryd.func5.symm.trans hfn)).symm
  refine ⟨by kernel_rfl, fun j t ht => ?_⟩
  rw [Tryd.params5] at ht
  have ht := Array.mem_of_getElem? ht
  simp only [List.mem_toArray, List.mem_cons, List.not_mem_nil, or_false] at ht
  rcases ht with rfl | rfl
  all_goals first | exact (show Tryd.prog.wantsStandIn 22 = false by kernel_rfl) | exact (show Tryd.prog.wantsStandIn 3 = false by kernel_rfl)
theorem proved : Rows.ChunkReadsCardSaid :=
  Claim7.holds_tied_plain_at .later [] _ _ _ _ said (fun _ h => by cases h) (by kernel_rfl) (fun _ h => by cases h) chunkReads_row_tie rfl ⟨rfl, rfl⟩ (by kernel_rfl) rfl plain (by kernel_rfl)
#print axioms proved
end Go.Proofs.YtbgmnmjokdfmlaaDoor.chunkReads
