/- The row and the card of the law ChunkBack, out of its walk: for every input the law answers true and its arguments stay; no condition of its own. -/
import Derived.Test.YtbgmnmjokdfmlaaDoorZB5
import Derived.Test.YtbgmnmjokdfmlaaDoorZB6
import Derived.Test.YtbgmnmjokdfmlaaDoorZB7
import Derived.Test.YtbgmnmjokdfmlaaDoorZB8
import Derived.Test.YtbgmnmjokdfmlaaDoorRows
import Derived.Test.YtbgmnmjokdfmlaaDoorCards
import Derived.Test.YtbgmnmjokdfmlaaDoorTie
import Derived.WalkKit
import Derived.ProofKit
import Derived.OpenShut
import Derived.ShutString
import Derived.ChangeOld
import Derived.Below
import Derived.SizedLaws
import Derived.Deep.DeepHandedRow
import Derived.Lib.LaidTab
import Derived.Lib.SmallJoins
import Derived.ChangeSlices
import Derived.ChangeSame
set_option linter.unusedVariables false
set_option linter.unusedSimpArgs false
namespace Go.Proofs.YtbgmnmjokdfmlaaDoor.G.ChunkBack
open Go.RowKit Go.Proofs.YtbgmnmjokdfmlaaDoor.PA Go.Proofs.YtbgmnmjokdfmlaaDoor.G Go.Proofs.YtbgmnmjokdfmlaaDoorW.PrintWords Go.Proofs.YtbgmnmjokdfmlaaDoorW.PrintLast Go.Proofs.YtbgmnmjokdfmlaaDoorW.PrintMore
theorem take_filter (J : List S60) (k : Nat) (h : k < J.length) (f : S60 → Bool) : (J.take (k + 1)).filter f = (J.take k).filter f ++ (if f J[k] = true then [J[k]] else []) := by
  rw [List.take_succ_eq_append_getElem h, List.filter_append]
  congr 1
  cases h2 : f J[k] <;> simp [List.filter, h2]
theorem open_F {w : World} {base n c g : Nat} {A : Option Addr} {xs : List Int} (h : Kd.R (Kd.int .u8) 5 w base (fun _ => True) (.slice A n c) xs) (hne : ∀ a, A = some a → a.block ≠ g) : Kd.F (Kd.int .u8) w (fun k => k < w.heap.size ∧ k ≠ g) A xs.length xs := by
  obtain ⟨A', c', he⟩ := Kd.R_slice h
  injection he with hA hn hc
  subst hA hn hc
  refine Kd.R_F (Kd.R_mono (Kd.R_bound (Kd.R_tight rfl h)) (fun k hk => ⟨hk.2.2.1, ?_⟩))
  have h1 := hk.1
  cases A with
  | none => cases h1
  | some a =>
    injection h1 with h1
    rw [h1]
    exact hne a rfl
set_option maxHeartbeats 4000000 in
set_option maxRecDepth 100000 in
theorem walk (A : Option Addr) (c : Nat) (l : List S60) (w : World) (hr : Kd.C k60 w A l.length l) (hc : l.length ≤ c) (hw : okW l ∧ l.length * 48 ≤ 140737488355328) (hT : TabZ w) :
    Calls Tryd.prog 8 #[.slice A l.length c] w fun e w' => e = .returned (.bool true) ∧ Below w.heap.size w w' := by
  obtain ⟨r, hf, hr8, hP⟩ := few_L l (by omega) 8 60
  have H60 : ∀ x ∈ r, x.f0.length ≤ 10 ∧ x.f1.length ≤ 60 := fun x hx => (hP x hx).2
  have hZ := few_okZ hw.1 60 (by decide) hP
  obtain ⟨sZ, s8, s480, sC, sP, sJ⟩ := fineL_spec hr8 hZ (fun x hx => (H60 x hx).1) (fun x hx => (H60 x hx).2)
  have hPn : (partsL (fineL r)).length ≤ 1000 := by
    have := parts_few (n := 24) s480
    omega
  have htP : tot (partsL (fineL r)) ≤ 1000000 := Nat.le_trans (tot_le (m := 20) (fun x hx => (sP x hx).2.2.2.2)) (by omega)
  have hlP : ∀ x ∈ partsL (fineL r), x.f0.length ≤ 1000000 := fun x hx => by have := (canL_parts (sP x hx).1).2.1; omega
  have hLl : (encC (fineL r)).length ≤ 200000 := by
    have := encC_len sC s480 sZ (fineL r).length (Nat.le_refl _)
    rw [List.take_length] at this
    omega
  have HE := Aside0.mk (show encCF (fineL r) = (encC (fineL r), 0) by rw [encCF, if_pos sC])
  have HEP := Aside0.mk (encC_parts (fineL r))
  have HJL : Aside0 ((joinL r).length ≤ 8 ∧ ∀ x ∈ joinL r, okLs x.f0 ∧ x.f0.length ≤ 10) := ⟨Nat.le_trans (joinL_len r) hr8, fun x hx => by
    obtain ⟨⟨s, hs, e⟩, _⟩ := joinL_mem hx
    rw [e]
    exact ⟨(hZ s hs).1, (H60 s hs).1⟩⟩
  have HFJ : Aside0 (fineL r = (joinL r).filter (fun x => canL x.f0)) := ⟨rfl⟩
  have HSE : Aside0 (okSer (fineL r)) := ⟨fun x hx => ⟨(sZ x hx).2.1, by have := s480 x hx; omega⟩⟩
  have HS := Aside0.mk (And.intro sZ (And.intro s8 (And.intro s480 (And.intro sP sJ))))
  have HP := Aside0.mk (And.intro hPn (And.intro htP hlP))
  have HL := Aside0.mk hLl
  have H8 := Aside0.mk hr8
  have HTR : Aside0 (tot r ≤ 1000000) := ⟨tot_small hr8 (fun x hx => (H60 x hx).2)⟩
  have H10 : Aside0 (∀ x ∈ r, x.f0.length ≤ 1000000) := ⟨fun x hx => by have := (H60 x hx).1; omega⟩
  have FEW := Aside0.mk (dryrotplain_Few.calls (l.length + 1) (fun k => k < w.heap.size) A c l 8 60 r w (Kd.V_mk hc (Kd.C_F kS_heapJ hr)) hf)
  have HT := Aside0.mk hT
  clear hr hc hw hT hf hr8 hP H60 hZ sZ s8 s480 sC sP sJ hPn htP hlP hLl
  generalize fineL r = F at *
  generalize partsL F = P at *
  generalize encC F = L at *
  go_enter Tryd.func8, Tryd.ntmps8
  go_wp2_with (first | (go_at_call 13; (with_reducible refine FEW.out.mono ?_); rintro e w1 ⟨v1, rfl, hn, hb⟩; obtain ⟨A1, c1, rfl, hc1, hC1⟩ := Kd.N_reads hn; have HO1 := Aside0.mk hC1; have HL1 := Aside0.mk hc1; have HB1 := Aside0.mk hb; clear hn hc1 hC1 hb FEW) | (go_at_call 26; (with_reducible refine (rJoin.calls A1 c1 r.length r _ rfl HO1.out (Nat.le_trans H8.out (by decide)) HTR.out H10.out).mono ?_); rintro e w2 ⟨A2, c2, rfl, hc2, hr2, hb⟩; have HC2 := Aside0.mk hr2; have HB2 := Aside0.mk (below_step HB1.out hb); clear hr2 hc2 hb HO1 HL1))
  generalize joinL r = J at *
  have HCF := Aside0.mk (Kd.C_F kS_heapJ HC2.out)
  have HW2 := Aside0.mk HB2.out.size
  clear HC2
  go_loopg [3, 19] J.length (fun kx s3 s19 wr => ∃ (k : Nat), s19 = .int .i64 k ∧ k ≤ J.length ∧ J.length - k ≤ kx ∧ Aside0 (Kd.N k60 60 wr w2.heap.size (fun _ => True) s3 ((J.take k).filter (fun x => canL x.f0))) ∧ Aside0 (Below w2.heap.size w2 wr))
  case atStart => exact ⟨0, rfl, Nat.zero_le _, by omega, ⟨by rw [List.take_zero]; exact Kd.N_nil _ _ _ _ _⟩, ⟨Below.refl _ _⟩⟩
  case round =>
    obtain ⟨k, rfl, hk, hkx, HN, HB⟩ := hrel
    by_cases hlt : k < J.length
    · obtain ⟨ad, cs, rfl, hcl, hFK, hcc, _⟩ := Kd.F_get (Kd.F_below HCF.out HB.out) z60 (k : Int) (by omega) (by omega)
      rw [Int.toNat_natCast] at hFK hcc
      obtain ⟨A0, c0, A3, c3, rfl, l0, g0, l3, g3⟩ := k60_openF hFK
      have x0 : wr.cell? (ad.add (k * 2)) = some (.slice A0 (J.getD k z60).f0.length c0) := hcc 0 _ rfl
      have x1 : wr.cell? ⟨(ad.add (k * 2)).block, (ad.add (k * 2)).off + 1, none⟩ = some (.slice A3 (J.getD k z60).f1.length c3) := by rw [← add_field _ _ 1 (by omega)]; exact hcc 1 _ rfl
      have HM := Aside0.mk (HJL.out.2 (J.getD k z60) (by rw [List.getD_eq_getElem?_getD, List.getElem?_eq_getElem hlt]; exact List.getElem_mem hlt))
      have HTF : Aside0 ((J.take (k + 1)).filter (fun x => canL x.f0) = (J.take k).filter (fun x => canL x.f0) ++ (if canL (J.getD k z60).f0 = true then [J.getD k z60] else [])) := ⟨by
        rw [take_filter J k hlt]
        simp [List.getD_eq_getElem?_getD, List.getElem?_eq_getElem hlt]⟩
      have HFK := Aside0.mk hFK
      have HG0 := Aside0.mk (Kd.F_now g0)
      have HG0L := Aside0.mk l0
      have hkz : (k : Int) < (J.length : Int) := by omega
      have HFL : Aside0 (((J.take k).filter (fun x => canL x.f0)).length ≤ 8) := ⟨Nat.le_trans (List.length_filter_le ..) (by rw [List.length_take]; have := HJL.out.1; omega)⟩
      have HBS := Aside0.mk (Kd.N_base HN.out)
      clear hcc hFK g0 l0 g3 l3 hcl
      generalize J.getD k z60 = s at *
      have HR4 := Aside0.mk (rcanL.calls A0 c0 s.f0.length s.f0 (wr.alloc (.cells #[.slice A0 s.f0.length c0, .slice A3 s.f1.length c3] 60)) rfl (Kd.C_alloc HG0.out _) HG0L.out HM.out.1)
      have hj8 := HJL.out.1
      cases hcan : canL s.f0 with
      | false =>
        rw [hcan] at HR4 HTF
        rw [if_neg (by decide), List.append_nil] at HTF
        go_wp2_with (first | (go_at_call 28; (with_reducible refine HR4.out.mono ?_); rintro e w3 ⟨rfl, hb⟩; have HB3 := Aside0.mk (below_step (below_alloc HB.out _) hb); have HB13 := Aside0.mk (below_step (below_alloc (Below.refl wr.heap.size wr) _) hb); clear hb))
        go_roundg (J.length - (k + 1))
        case measure => omega
        case rel => exact ⟨k + 1, by go_num, hlt, Nat.le_refl _, ⟨by rw [HTF.out]; exact Kd.N_below HN.out HB13.out⟩, HB3⟩
      | true =>
        rw [hcan] at HR4 HTF
        rw [if_pos rfl] at HTF
        go_wp2_with (first | (go_at_call 28; (with_reducible refine HR4.out.mono ?_); rintro e w3 ⟨rfl, hb⟩; have HB3 := Aside0.mk (below_step (below_alloc HB.out _) hb); have HB13 := Aside0.mk (below_step (below_alloc (Below.refl wr.heap.size wr) _) hb); have hbx := blk_below (blk_new wr (.cells #[.slice A0 s.f0.length c0, .slice A3 s.f1.length c3] 60)) hb; have d0 := (blk_cell hbx 0).trans rfl; have d1 := (blk_cell hbx 1).trans rfl; have HN3 := Aside0.mk (Kd.N_below HN.out HB13.out); have HF3 := Aside0.mk (Kd.FK_step HFK.out (fun k hk hlt => HB13.out.block k hlt)); clear hb hbx) | ((with_reducible refine gate_dst (N := 29) rfl ?_); go_must (refine Kd.N_append k60 (w0 := w2) w2.heap.size rfl (.tmp 26) (.tmp 28) 38 60 (.agg #[.slice none 0 0, .slice none 0 0]) 48 rfl Tryd.underlying38 info60 rfl (by decide) (by decide) u3 _ s _ (fun _ => True) (fun k => k < w2.heap.size) rfl rfl HF3.out ?h4 ?h5 HN3.out HB3.out HB3.out.size ?h6 ?_); (case h4 => exact fun k hk => ⟨trivial, fun e => by have := HBS.out k e.symm; omega⟩); (case h5 => exact fun _ _ => trivial); (case h6 => (have := HFL.out; omega)); intro v4 w4 hn4 hb4 hg4 hat4; have HN4 := Aside0.mk hn4; have HB4 := Aside0.mk hb4; clear hn4 hb4 hg4 hat4))
        go_roundg (J.length - (k + 1))
        case measure => omega
        case rel => exact ⟨k + 1, by go_num, hlt, Nat.le_refl _, ⟨by rw [HTF.out]; exact HN4.out⟩, HB4⟩
    · obtain rfl : k = J.length := by omega
      rw [List.take_length] at HN
      have hFJ := HFJ.out
      rw [← hFJ] at HN
      obtain ⟨Af, cf, rfl, hcf, hCf⟩ := Kd.N_reads HN.out
      have HCf := Aside0.mk hCf
      have HT3 := Aside0.mk (HT.out.below (below_step HB2.out HB.out))
      have HB0 := Aside0.mk (below_step HB2.out HB.out)
      have ENC := Aside0.mk (encCF.calls Af cf F.length F L 0 wr rfl hCf hcf HS.out.1 HS.out.2.1 HS.out.2.2.1 HT3.out HE.out)
      clear hFJ hCf HFJ HN HB HJL hkx hk
      go_wp2_with (first | (go_at_call 14; (with_reducible refine ENC.out.mono ?_); rintro e w3 ⟨v3, rfl, hr3, hb⟩; obtain ⟨A5, c5, rfl⟩ := Kd.R_slice hr3; have HR3 := Aside0.mk hr3; have HB3 := Aside0.mk (below_step HB0.out hb); have HCf3 := Aside0.mk (Kd.C_below HCf.out hb); clear hr3 hb) | (go_at_call 11; (with_reducible refine (open.calls A5 c5 L.length L 0 _ rfl (Kd.R_reads' HR3.out).2.2 (Kd.R_reads' HR3.out).2.1 (by have := HL.out; omega)).mono ?_); rintro e w4 ⟨g, v5, rfl, hg, hr5, hgw, hb⟩; obtain ⟨A6, c6, rfl⟩ := Kd.R_slice hr5; have HG := Aside0.mk hg; have HR5 := Aside0.mk (Kd.R_reads' hr5); have HNE := Aside0.mk (own_ne hr5 hg); have HGW := Aside0.mk hgw; have HB4 := Aside0.mk hb; have HT4 := Aside0.mk (HT.out.below (below_step HB3.out hb)); have HF5 := Aside0.mk (open_F hr5 (own_ne hr5 hg)); have HCU : Aside0 (CurAt w4 g w4.heap.size P 0) := ⟨⟨HS.out.2.2.2.1, by rw [← HEP.out]; have := HL.out; omega, A6, c6, by rw [← HEP.out]; exact HG.out, by rw [← HEP.out]; exact HF5.out, by rw [← HEP.out]; exact HR5.out.2.1, HNE.out⟩⟩; clear hg hr5 hgw hb HG HR5 HNE HF5) | (go_at_call 9; (with_reducible refine (nextA.calls g w4.heap.size P 0 _ HCU.out ⟨by decide, by decide⟩ HT4.out).mono ?_); rintro e w5 ⟨B1, B2, n1, e1, n2, e2, q', m, mn, mx, rfl, htold, hcu, hb⟩; have HTO := Aside0.mk htold; have HC5 := Aside0.mk hcu; have HB5 := Aside0.mk hb; clear htold hcu hb))
      have HG4 := Aside0.mk (HCU.out.lt)
      have HW5 : Aside0 (w4.heap.size ≤ w5.heap.size) := ⟨HB5.out.size⟩
      obtain ⟨oW, hoW⟩ : ∃ oW : Obj, Obj.cells #[.slice B1 n1 e1, .int .i64 q', .int .i64 m, .int .i64 mn, .int .i64 mx] 29 (0, 0) = oW := ⟨_, rfl⟩
      have HB35 : Aside0 (Below w3.heap.size w3 (w5.alloc oW)) := ⟨below_alloc (HB4.out.trans (HB5.out.below HGW.out HB4.out.size)) _⟩
      have HBX := Aside0.mk (blk_new w5 oW)
      have HTO5 := Aside0.mk (ToldP.below HTO.out (below_alloc (Below.refl _ _) oW))
      have HC55 := Aside0.mk (CurAt.below HC5.out (below_alloc (Below.refl _ _) oW))
      subst hoW
      go_loopg [9, 10, 11, 12, 13] P.length (fun kx s9 s10 s11 s12 s13 wx => ∃ (dn td : List S60) (b0 nb : Nat) (B1 B2 : Option Addr) (n1 e1 n2 e2 : Nat) (q' m mn mx : Int), Aside0 (P = dn ++ td) ∧ td.length ≤ kx ∧ s10 = .int .i64 ((dn.flatMap encPj).length : Nat) ∧ s11 = .pointer (some ⟨b0, 0, none⟩) ∧ s12 = .slice B2 n2 e2 ∧ s13 = .bool (!td.isEmpty) ∧ Aside0 (wx.heap[b0]? = some (.cells #[.slice B1 n1 e1, .int .i64 q', .int .i64 m, .int .i64 mn, .int .i64 mx] 29 (0, 0))) ∧ Aside0 (Kd.N k60 60 wx w3.heap.size (fun k => k ≠ g) s9 dn) ∧ Aside0 (ToldP wx nb td ((dn.flatMap encPj).length : Nat) (.slice B1 n1 e1) q' m (.slice B2 n2 e2)) ∧ Aside0 (CurAt wx g w4.heap.size td.tail (((dn.flatMap encPj).length : Nat) + ((td.take 1).flatMap encPj).length)) ∧ Aside0 (g < nb ∧ w4.heap.size ≤ wx.heap.size ∧ ∀ k, s9.ownBlock = some k → w4.heap.size ≤ k ∧ k < nb) ∧ Aside0 (Below w3.heap.size w3 wx))
      case atStart => exact ⟨[], P, _, w4.heap.size, B1, B2, n1, e1, n2, e2, q', m, mn, mx, ⟨rfl⟩, Nat.le_refl _, rfl, rfl, rfl, rfl, HBX, ⟨Kd.N_nil _ _ _ _ _⟩, HTO5, HC55, ⟨HG4.out, by have := HW5.out; rw [World.size_alloc]; omega, fun k hk => by cases hk⟩, HB35⟩
      case round =>
        clear HTO HC5 HB5 HW5 HB35 HBX HTO5 HC55
        obtain ⟨dn, td, b0, nb, B1, B2, n1, e1, n2, e2, q', m, mn, mx, HPD, hkx, rfl, rfl, rfl, rfl, HBX, HN, HTO, HCR, HNB, HB⟩ := hrel
        have HLP : Aside0 ((dn.flatMap encPj).length + (td.flatMap encPj).length = L.length) := ⟨by rw [HEP.out, HPD.out, List.flatMap_append, List.length_append]⟩
        cases td with
        | nil =>
          have hPd : P = dn := by rw [HPD.out, List.append_nil]
          subst hPd
          have hLd : (P.flatMap encPj).length = L.length := by rw [HEP.out]
          rw [hLd]
          obtain ⟨Ap, cp, rfl, hcp, hCp⟩ := Kd.N_reads HN.out
          have HCp := Aside0.mk hCp
          have JN : Aside0 (∀ W, Kd.C k60 W Ap P.length P → Calls Tryd.prog 25 #[.slice Ap P.length cp] W fun e w' => ∃ (A' : Option Addr) (c' : Nat), e = .returned (.slice A' F.length c') ∧ F.length ≤ c' ∧ Kd.C k60 w' A' F.length F ∧ Below W.heap.size W w') := ⟨fun W hW => by
            have h1 := join.calls Ap cp P.length P W rfl hW (Nat.le_trans HP.out.1 (by decide)) HP.out.2.1 HP.out.2.2
            rwa [HS.out.2.2.2.2] at h1⟩
          have HB0r := Aside0.mk (below_step HB3.out HB.out)
          have HCr := Aside0.mk (show CurAt wr g w4.heap.size [] _ from HCR.out)
          have HCfr := Aside0.mk (Kd.C_below HCf3.out HB.out)
          clear hCp HPD HN HTO HBX HNB hkx hLd HCR
          go_wp2_with (first | (go_at_call 10; (with_reducible refine (CurAt.err HCr.out).mono ?_); rintro e w6 ⟨rfl, hb⟩; have HB6 := Aside0.mk (below_step HB0r.out hb); have HCp6 := Aside0.mk (Kd.C_below HCp.out hb); have HCf6 := Aside0.mk (Kd.C_below HCfr.out hb); clear hb) | (go_at_call 25; (with_reducible refine (JN.out _ HCp6.out).mono ?_); rintro e w7 ⟨A7, c7, rfl, hc7, hr7, hb⟩; have HC7 := Aside0.mk hr7; have HB7 := Aside0.mk (below_step HB6.out hb); have HCf7 := Aside0.mk (Kd.C_below HCf6.out hb); clear hr7 hc7 hb) | (go_at_call 24; (with_reducible refine (sameSer.calls A7 Af c7 cf F.length F _ rfl HC7.out HCf7.out (Nat.le_trans HS.out.2.1 (by decide)) HSE.out).mono ?_); rintro e w8 ⟨rfl, hb⟩; have HB8 := Aside0.mk (below_step HB7.out hb); clear hb) | (go_at_call 12; (with_reducible refine (PA.cawake.calls _ (HT.out.below HB8.out)).mono ?_); rintro e w9 ⟨rfl, hb⟩; have HB9 := Aside0.mk (below_step HB8.out hb); clear hb))
          go_ret
          exact ⟨rfl, HB9.out⟩
        | cons p td =>
          obtain ⟨hq', hm', r1, r2⟩ := HTO.out p rfl
          obtain ⟨A8, c8, he1⟩ := Kd.R_slice r1
          obtain ⟨A9, c9, he2⟩ := Kd.R_slice r2
          injection he1 with ha1 hn1 hc1
          injection he2 with ha2 hn2 hc2
          subst hq' hm' hn1 hn2 ha1 ha2 hc1 hc2
          have hpo : okP p := HS.out.2.2.2.1 p (by rw [HPD.out]; simp)
          have hl := encPj_len hpo
          have hlp := HLP.out
          rw [List.flatMap_cons, List.length_append] at hlp
          have hLl := HL.out
          have hp1 := hpo.2.2.2.1
          have hp2 := hpo.2.2.2.2
          have HR1 := Aside0.mk r1
          have HR2 := Aside0.mk r2
          have HPO := Aside0.mk hpo
          have hqn : ((dn ++ [p]).flatMap encPj).length = (dn.flatMap encPj).length + (encPj p).length := by rw [List.flatMap_append, List.length_append, List.flatMap_singleton]
          have HCR' : Aside0 (CurAt wr g w4.heap.size td (((dn.flatMap encPj).length : Nat) + ((encPj p).length : Nat))) := ⟨by have h1 := HCR.out; rwa [show ((p :: td).take 1).flatMap encPj = encPj p from by simp] at h1⟩
          have hPn : (dn.length + 1) ≤ 1000 := by have h1 := HP.out.1; rw [HPD.out] at h1; simp at h1; omega
          have HK1 : Aside0 (Kd.FK k60 wr (fun k => nb ≤ k ∧ k < wr.heap.size) p [.slice B1 p.f0.length e1, .slice B2 p.f1.length e2]) := ⟨k60_mkF wr _ p (Kd.R_reads' r1).2.1 (Kd.R_F (Kd.R_mono (Kd.R_bound r1) (fun k hk => ⟨hk.2.1, hk.2.2.1⟩))) (Kd.R_reads' r2).2.1 (Kd.R_F (Kd.R_mono (Kd.R_bound r2) (fun k hk => ⟨hk.2.1, hk.2.2.1⟩)))⟩
          have HBX' := HBX
          clear hpo r1 r2 HTO HCR HLP
          generalize hqd : (dn.flatMap encPj).length = qd at *
          generalize hml : (encPj p).length = ml at *
          generalize hns : p.f1.length = ns at *
          generalize hnl : p.f0.length = nl at *
          have b0_ := (blk_cell HBX.out 0).trans rfl
          have b1_ := (blk_cell HBX.out 1).trans rfl
          have b2_ := (blk_cell HBX.out 2).trans rfl
          have b3_ := (blk_cell HBX.out 3).trans rfl
          have b4_ := (blk_cell HBX.out 4).trans rfl
          have z1 : ((ns : Int) == 0) = false := beq_eq_false_iff_ne.2 (by omega)
          have z2 : decide ((ns : Int) > 20) = false := decide_eq_false (by omega)
          have z3 : decide ((ml : Int) < 1) = false := decide_eq_false (by omega)
          have z4 : (qd : Int) ≤ (L.length : Int) := by omega
          have hsum : IntKind.i64.wrap ((qd : Int) + (ml : Int)) = ((qd + ml : Nat) : Int) := by
            rw [IntKind.wrap_i64]
            omega
          have HNE2 := Aside0.mk (Kd.N_ne HN.out HBX.out (by decide))
          have hgs : g < w4.heap.size := HG4.out
          have HOX := Aside0.mk (fun (w6 : World) => blk_new w6 (.cells #[.slice B1 nl e1, .int .i64 qd, .int .i64 ml, .int .i64 mn, .int .i64 mx] 29 (0, 0)))
          have HT3' := Aside0.mk (HT.out.below HB3.out)
          have hq3 : (0 : Int) ≤ (qd : Int) + (ml : Int) ∧ (qd : Int) + (ml : Int) ≤ 1000000 := by omega
          clear HB4 HT4 HCU HG4 HR3 HB0 ENC HT3 HCf HBX
          go_wp2_with (first | ((with_reducible refine gate_dst (N := 86) rfl ?_); go_must (refine Kd.N_append k60 (w0 := w3) w3.heap.size rfl (.tmp 80) (.tmp 85) 38 60 (.agg #[.slice none 0 0, .slice none 0 0]) 48 rfl Tryd.underlying38 info60 rfl (by decide) (by decide) u9 dn p _ (fun k => k ≠ g) (fun k => nb ≤ k ∧ k < wr.heap.size) rfl rfl HK1.out ?h4 ?h5 HN.out HB.out HB.out.size ?h6 ?_); (case h4 => exact fun k hk => ⟨by have := HNB.out.1; omega, fun e => by have := HNB.out.2.2 k e.symm; omega⟩); (case h5 => exact fun k hk => by have := HNB.out.2.1; omega); (case h6 => omega); intro v6 w6 hn6 hb6 hg6 hat6; have hblk := (hg6.block b0 (blk_lt HBX'.out) HNE2.out).trans HBX'.out; have d0 := (blk_cell hblk 0).trans rfl; have d1 := (blk_cell hblk 1).trans rfl; have d2 := (blk_cell hblk 2).trans rfl; have d3 := (blk_cell hblk 3).trans rfl; have d4 := (blk_cell hblk 4).trans rfl; have HC6 := Aside0.mk (fun o => ((HCR'.out.step (w1 := w6) (fun k hk h => hg6.block k hk (fun e => by have := HNB.out.2.2 k e.symm; omega))).below (below_alloc (Below.refl _ _) o))); have HN6 := Aside0.mk hn6; have HB6 := Aside0.mk hb6; have HAT6 := Aside0.mk hat6; have HW6 := Aside0.mk hg6.size; clear hblk hn6 hb6 hat6 hg6 b0_ b1_ b2_ b3_ b4_) | (go_at_call 9; (with_reducible refine (nextA.calls g w4.heap.size td ((qd : Int) + (ml : Int)) _ (HC6.out _) hq3 (HT3'.out.below (below_alloc HB6.out _))).mono ?_); rintro e w7 ⟨B3, B4, n3, e3, n4, e4, q3, m3, mn3, mx3, rfl, htold, hcu, hb⟩; have HTO7 := Aside0.mk htold; have HC7 := Aside0.mk hcu; have HB7 := Aside0.mk hb; have hblk := (hb.block w6.heap.size (by rw [World.size_alloc]; omega) (by have := HW6.out; have := HNB.out.2.1; omega)).trans (HOX.out w6); have y0 := (blk_cell hblk 0).trans rfl; have y1 := (blk_cell hblk 1).trans rfl; have y2 := (blk_cell hblk 2).trans rfl; have y3 := (blk_cell hblk 3).trans rfl; have y4 := (blk_cell hblk 4).trans rfl; have yf0 := blk_frozen hblk 0; have yf1 := blk_frozen hblk 1; have yf2 := blk_frozen hblk 2; have yf3 := blk_frozen hblk 3; have yf4 := blk_frozen hblk 4; have HBLK := Aside0.mk hblk; clear htold hcu hb hblk d0 d1 d2 d3 d4))
          have HBUT : Aside0 (But g w6.heap.size w6 (set5 w7 w6.heap.size (.slice B3 n3 e3) (.int .i64 q3) (.int .i64 m3) (.int .i64 mn3) (.int .i64 mx3))) := ⟨set5_but ((But.of_below (below_alloc (Below.refl _ _) _)).trans (⟨HB7.out.os, HB7.out.tape, HB7.out.output, HB7.out.size, fun k hk hn => HB7.out.block k (by rw [World.size_alloc]; omega) hn⟩)) (Nat.le_refl _) _ _ _ _ _⟩
          have HBX8 := Aside0.mk (set5_at HBLK.out (.slice B3 n3 e3) (.int .i64 q3) (.int .i64 m3) (.int .i64 mn3) (.int .i64 mx3))
          have HFAR := Aside0.mk (set5_far w7 w6.heap.size (.slice B3 n3 e3) (.int .i64 q3) (.int .i64 m3) (.int .i64 mn3) (.int .i64 mx3))
          clear y0 y1 y2 y3 y4 yf0 yf1 yf2 yf3 yf4
          show Handed _ _ _ (set5 w7 w6.heap.size (.slice B3 n3 e3) (.int .i64 q3) (.int .i64 m3) (.int .i64 mn3) (.int .i64 mx3))
          generalize set5 w7 w6.heap.size (.slice B3 n3 e3) (.int .i64 q3) (.int .i64 m3) (.int .i64 mn3) (.int .i64 mx3) = W8 at *
          have hnb := HNB.out
          have hw6 := HW6.out
          have hw8 := HBUT.out.size
          go_roundg td.length
          case measure => simp at hkx; omega
          case rel => exact ⟨dn ++ [p], td, w6.heap.size, w6.heap.size + 1, B3, B4, n3, e3, n4, e4, q3, m3, mn3, mx3, ⟨by rw [HPD.out]; simp⟩, Nat.le_refl _, by rw [hqn]; go_num, rfl, rfl, rfl, HBX8, ⟨Kd.N_step HN6.out (fun k hk hlt => HBUT.out.block k hlt hk)⟩, ⟨by rw [hqn]; have h1 := HTO7.out; rw [World.size_alloc] at h1; exact h1.step (fun k hk hlt => HFAR.out k (by omega))⟩, ⟨by rw [hqn]; exact HC7.out.step (fun k hk h => HFAR.out k (by omega))⟩, ⟨by omega, by omega, fun k hk => ⟨by rcases HAT6.out with h | ⟨b, h, h2⟩; exact (hnb.2.2 k (by rw [← h]; exact hk)).1; rw [h] at hk; injection hk with hk; omega, by have := Kd.N_lt HN6.out k hk; omega⟩⟩, ⟨HB6.out.trans (HBUT.out.below HGW.out HB6.out.size)⟩⟩
end Go.Proofs.YtbgmnmjokdfmlaaDoor.G.ChunkBack
namespace Go.Proofs.YtbgmnmjokdfmlaaDoor.chunkBack
open Go.ChangeShapes Go.WideShapes Go.ChangeAt Go.RowKit
open Go.ChangeMaps (open_string shut_string)
open Go.Proofs.YtbgmnmjokdfmlaaDoorW
theorem own : ownKnob Tryd.prog.godebug = none := by kernel_rfl
theorem laidOut : laidOutB Tryd.prog = true := by kernel_rfl
def IsRow (k : IntKind) (w : World) (a : Option Addr) (len cap : Nat) (zs : List Int) : Prop :=
  (a = none ∧ len = 0 ∧ cap = 0 ∧ zs = []) ∨
  ∃ x, a = some x ∧ len ≤ cap ∧ cap ≤ maxLen ∧ zs.length = cap ∧ (∀ i, i < zs.length → w.cell? (x.add i) = some (.int k (zs.getD i 0))) ∧ ∀ n ∈ zs, (Lit.int k n).wf = true
theorem g_deBruijn64tab : Tryd.prog.globalNamed "math/bits.deBruijn64tab" = some 0 := by kernel_rfl
theorem t_deBruijn64tab : (Tryd.prog.globals[0]?).map (·.type) = some 156 := by kernel_rfl
theorem c_deBruijn64tab : Tryd.prog.cellsOf 156 = 64 := by kernel_rfl
theorem e_deBruijn64tab : Tryd.prog.cellsOf 5 = 1 := by kernel_rfl
theorem tab_deBruijn64tab {W : World} (h : laidMetH Tryd.prog Rows.chunkBackRow.laid W) : Lib.TabIs Tryd.prog W "math/bits.deBruijn64tab" .u8 [0, 1, 56, 2, 57, 49, 28, 3, 61, 58, 42, 50, 38, 29, 17, 4, 62, 47, 59, 36, 45, 43, 51, 22, 53, 39, 33, 30, 24, 18, 12, 5, 63, 55, 48, 27, 60, 41, 37, 16, 46, 35, 44, 21, 52, 32, 23, 11, 54, 26, 40, 15, 34, 20, 31, 10, 25, 14, 19, 9, 13, 8, 7, 6] :=
  Lib.tabIs_of_head (rest := _) g_deBruijn64tab t_deBruijn64tab Tryd.underlying156 Tryd.underlying5 e_deBruijn64tab c_deBruijn64tab h
theorem db_tab : ∀ j, j < 64 → ([0, 1, 56, 2, 57, 49, 28, 3, 61, 58, 42, 50, 38, 29, 17, 4, 62, 47, 59, 36, 45, 43, 51, 22, 53, 39, 33, 30, 24, 18, 12, 5, 63, 55, 48, 27, 60, 41, 37, 16, 46, 35, 44, 21, 52, 32, 23, 11, 54, 26, 40, 15, 34, 20, 31, 10, 25, 14, 19, 9, 13, 8, 7, 6] : List Int).getD j 0 = ((Lib.deBruijn64tab.getD j 0 : Nat) : Int) := by decide
noncomputable def laidWorld (os : Os) : World :=
  { World.holding Tryd.prog os ⟨#[], #[], []⟩ with heap := ((World.holding Tryd.prog os ⟨#[], #[], []⟩).heap).modify 0 fun
      | .cells _ t frozen => .cells #[.int .u8 0, .int .u8 1, .int .u8 56, .int .u8 2, .int .u8 57, .int .u8 49, .int .u8 28, .int .u8 3, .int .u8 61, .int .u8 58, .int .u8 42, .int .u8 50, .int .u8 38, .int .u8 29, .int .u8 17, .int .u8 4, .int .u8 62, .int .u8 47, .int .u8 59, .int .u8 36, .int .u8 45, .int .u8 43, .int .u8 51, .int .u8 22, .int .u8 53, .int .u8 39, .int .u8 33, .int .u8 30, .int .u8 24, .int .u8 18, .int .u8 12, .int .u8 5, .int .u8 63, .int .u8 55, .int .u8 48, .int .u8 27, .int .u8 60, .int .u8 41, .int .u8 37, .int .u8 16, .int .u8 46, .int .u8 35, .int .u8 44, .int .u8 21, .int .u8 52, .int .u8 32, .int .u8 23, .int .u8 11, .int .u8 54, .int .u8 26, .int .u8 40, .int .u8 15, .int .u8 34, .int .u8 20, .int .u8 31, .int .u8 10, .int .u8 25, .int .u8 14, .int .u8 19, .int .u8 9, .int .u8 13, .int .u8 8, .int .u8 7, .int .u8 6] t frozen
      | o => o }
theorem laid_met (os : Os) : laidMet Tryd.prog Rows.chunkBackRow.laid ((laidWorld os).forCall (fun _ _ => 0) ⟨#[], #[.slice none 0 0], []⟩).memory :=
  laidMet_of_run' 8 (by kernel_rfl) (by kernel_rfl)
theorem reads (os : Os) {H : Type} (enc : TypeId × Value → H) : ∃ places, DataW.whole enc Tryd.prog ((laidWorld os).forCall (fun _ _ => 0) ⟨#[], #[.slice none 0 0], []⟩).memory Tryd.f8.params.toList Rows.chunkBackSpec.vars false #[(Value.slice none 0 0)].toList 8 = some ([.nil], [], places) :=
  ⟨[], by kernel_rfl⟩
set_option maxRecDepth 100000 in
theorem lifted (os : Os) (started : os.Started) (H : Type) (enc : TypeId × Value → H) (F : Stop.Interp) :
    ReturnsInHanded {} Tryd.checked os 8 .any ((OpenSpec.ofChange Rows.chunkBackSpec).preRow enc Tryd.prog Tryd.f8 Rows.chunkBackRow.domain false Rows.chunkBackRow.laid) (((OpenSpec.ofChange Rows.chunkBackSpec).at F).post enc Tryd.prog Tryd.f8 false true false false) := by
  obtain ⟨places, hx⟩ := reads os enc
  refine returnsInHanded_of_row (C := Tryd.checked) (s := (OpenSpec.ofChange Rows.chunkBackSpec)) own started (by kernel_rfl) Tryd.func8
    (witness_row_at (enc := enc) (C := Tryd.checked) false (laidWorld os) #[.slice none 0 0] rfl (by kernel_rfl) (by kernel_rfl) (by kernel_rfl)
      (OpenSpec.preRow_of_cond 8 hx (by kernel_rfl) (fun k hk => by cases hk) (by kernel_rfl) (laid_met os))) ?_
  intro W base args ds gs before hval0 hW _ hcond hsz0 hL _ _
  have hsz : (DataW.weightsEach Tryd.prog (Tryd.f8.params.toList ++ Rows.chunkBackSpec.plain.varTypes Tryd.prog) (ds ++ gs)).all (· ≤ reachBytes) = true := hsz0
  have hval : ∀ (j : Nat) t v, Tryd.f8.params[j]? = some t → args[j]? = some v → Value.okWide Tryd.prog W .any base t v := hval0
  have hW' := hW
  obtain ⟨p, q, hA0, hV, rfl, hfz, hnd⟩ := hW
  have hA : DataW.TrodAll enc Tryd.prog W 0 (fun _ => true) true Tryd.f8.params.toList args.toList ds p := hA0
  rw [Tryd.params8] at hA hval hsz
  obtain ⟨v0, vs0, d0, ds0, p0, q0, hargs, rfl, rfl, h0, r0⟩ := trodAll_cons hA
  obtain ⟨rfl, rfl, rfl⟩ := trodAll_nil r0
  obtain rfl : args = #[v0] := by cases args; simp_all
  obtain ⟨rfl, rfl⟩ := trodVars_none hV
  have k0 := h0
  have lt0 : ∀ x ∈ p0, x.block < W.heap.size := by obtain ⟨m, hm⟩ := k0; exact DataW.trod_lt m _ _ _ hm
  obtain ⟨a0, cap0, l0, rfl, hr0, hc0, hw0⟩ := G.open_rowsS38 (okWide_slice Tryd.underlying38 (hval 0 38 v0 rfl rfl)) hsz h0
  have T_deBruijn64tab := tab_deBruijn64tab hL
  clear hA0 hval0 hsz0 hsz
  refine (G.ChunkBack.walk a0 cap0 l0 W hr0 hc0 hw0 (⟨fun j hj => (T_deBruijn64tab.cell g_deBruijn64tab j hj).trans (congrArg (fun z : Int => some (Value.int .u8 z)) (db_tab j hj))⟩)).mono fun e W' ⟨he, bel⟩ => ?_
  subst he
  exact ⟨_, rfl, _, _, _, [], _, [], hW', trodAll_mk1 (shut_bool Tryd.underlying4 _), (trodAll_cons_mk (Below.trod laidOut (by kernel_rfl) (of_decide_eq_true (by kernel_rfl)) k0 bel lt0) trodAll_mk0), rfl, bel.frame _, fun h => by cases h⟩
theorem said : Rows.ChunkBackSaid :=
  OpenClaim.holds_of_cond 8 Tryd.f8 rfl rfl rfl rfl rfl rfl rfl ⟨rfl, rfl, rfl, rfl, rfl⟩ rfl rfl rfl rfl rfl (by kernel_rfl) Tryd.func8 (by kernel_rfl)
    (of_decide_eq_true (by kernel_rfl)) (by unfold Func.isWrapper; first | (rw [if_pos (by decide +kernel)]; kernel_rfl) | (rw [if_neg (by decide +kernel)]; exact ⟨rfl, rfl⟩))
    (fun os started H enc _ F => by rw [OpenClaim.pre_eq_preRow]; exact lifted os started H enc F)
set_option maxRecDepth 100000 in
theorem plain (f : FuncId) (fn : Func) (hf : Tryd.pinned.checked.prog.funcNamed "dryrot/dryrotlaw12.ChunkBack" = some f) (hfn : Tryd.pinned.checked.prog.funcs[f]? = some fn) :
    false = Tryd.pinned.checked.prog.looks [] ∧ ∀ (j : Nat) t, fn.params[j]? = some t → Tryd.pinned.checked.prog.wantsStandIn t = false := by
  obtain rfl : f = 8 := Option.some.inj ((show Tryd.prog.funcNamed "dryrot/dryrotlaw12.ChunkBack" = some 8 by kernel_rfl).symm.trans hf) |>.symm
  obtain rfl : fn = Tryd.f8 := (Option.some.inj (Tryd.func8.symm.trans hfn)).symm
  refine ⟨by kernel_rfl, fun j t ht => ?_⟩
  rw [Tryd.params8] at ht
  have ht := Array.mem_of_getElem? ht
  simp only [List.mem_toArray, List.mem_cons, List.not_mem_nil, or_false] at ht
  rcases ht with rfl
  all_goals first | exact (show Tryd.prog.wantsStandIn 38 = false by kernel_rfl)
theorem proved : Rows.ChunkBackCardSaid :=
  Claim7.holds_tied_plain_at .later [] _ _ _ _ said (fun _ h => by cases h) (by kernel_rfl) (fun _ h => by cases h) chunkBack_row_tie rfl ⟨rfl, rfl⟩ (by kernel_rfl) rfl plain (by kernel_rfl)
#print axioms proved
end Go.Proofs.YtbgmnmjokdfmlaaDoor.chunkBack
