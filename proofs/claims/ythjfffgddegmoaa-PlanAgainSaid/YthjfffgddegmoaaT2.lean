/- Lemmas and contracts:  -/
import Derived.Test.YthjfffgddegmoaaT1
-- written by wip/gprint.py of this session (it runs the print of the guide's kit over contracts of the session)
namespace Go.Proofs.Ythjfffgddegmoaa.PA
open Go.RowKit Go.Proofs.YthjfffgddegmoaaW.PrintWords Go.Proofs.YthjfffgddegmoaaW.PrintLast Go.Proofs.YthjfffgddegmoaaW.PrintMore
attribute [local go_sem] max2_int min2_int max_two min_two max_three min_three max_four min_four   -- for this text's walks alone
set_option linter.unusedVariables false
set_option linter.unusedSimpArgs false

/-! ### dryrotref16_Live: function 30 -/
mutual
def dryrotref16_Live.l0 : Nat → List (S30) → Int → Int → List (S30) → List (S30) → Int → Int → Option ((List (S30)))
  | 0, _, _, _, _, _, _, _ => none
  | k + 1, x0, x1, x2, x7, x16, x17, x18 => if x18 < x17 then (if 0 ≤ x18 then (if x18 < (x16.length : Int) then (if ((rd_T30 x16 x18).f1) ≤ x1 then (if ((rd_T30 x16 x18).f5) ≥ x2 then (dryrotref16_Live.j1 k x0 x1 x2 x7 x18 true x16 x17 x18 ((rd_T30 x16 x18).f0) ((rd_T30 x16 x18).f1) ((rd_T30 x16 x18).f2) ((rd_T30 x16 x18).f3) ((rd_T30 x16 x18).f4) ((rd_T30 x16 x18).f5) ((rd_T30 x16 x18).f6) ((rd_T30 x16 x18).f7)) else (dryrotref16_Live.j1 k x0 x1 x2 x7 x18 (((rd_T30 x16 x18).f6) == 0) x16 x17 x18 ((rd_T30 x16 x18).f0) ((rd_T30 x16 x18).f1) ((rd_T30 x16 x18).f2) ((rd_T30 x16 x18).f3) ((rd_T30 x16 x18).f4) ((rd_T30 x16 x18).f5) ((rd_T30 x16 x18).f6) ((rd_T30 x16 x18).f7))) else (dryrotref16_Live.j1 k x0 x1 x2 x7 x18 false x16 x17 x18 ((rd_T30 x16 x18).f0) ((rd_T30 x16 x18).f1) ((rd_T30 x16 x18).f2) ((rd_T30 x16 x18).f3) ((rd_T30 x16 x18).f4) ((rd_T30 x16 x18).f5) ((rd_T30 x16 x18).f6) ((rd_T30 x16 x18).f7))) else (none)) else (none)) else (some x7)
def dryrotref16_Live.j1 : Nat → List (S30) → Int → Int → List (S30) → Int → Bool → List (S30) → Int → Int → Int → Int → Int → Int → Int → Int → Int → List Int → Option ((List (S30)))
  | 0, _, _, _, _, _, _, _, _, _, _, _, _, _, _, _, _, _ => none
  | k + 1, x0, x1, x2, x7, x8, x10, x16, x17, x18, x242000, x242001, x242002, x242003, x242004, x242005, x242006, x242007 => dryrotref16_Live.l1 k x0 x1 x2 x7 x8 x10 x16 x17 x18 x0 (x0.length : Int) 0 x242000 x242001 x242002 x242003 x242004 x242005 x242006 x242007
def dryrotref16_Live.l1 : Nat → List (S30) → Int → Int → List (S30) → Int → Bool → List (S30) → Int → Int → List (S30) → Int → Int → Int → Int → Int → Int → Int → Int → Int → List Int → Option ((List (S30)))
  | 0, _, _, _, _, _, _, _, _, _, _, _, _, _, _, _, _, _, _, _, _ => none
  | k + 1, x0, x1, x2, x7, x8, x10, x16, x17, x18, x38, x39, x40, x242000, x242001, x242002, x242003, x242004, x242005, x242006, x242007 => if x40 < x39 then (if 0 ≤ x40 then (if x40 < (x38.length : Int) then (dryrotref16_Live.l2 k x0 x1 x2 x7 x8 x10 x40 x16 x17 x18 x38 x39 x40 ((rd_T30 x38 x40).f7) (((rd_T30 x38 x40).f7).length : Int) 0 x242000 x242001 x242002 x242003 x242004 x242005 x242006 x242007 ((rd_T30 x38 x40).f0) ((rd_T30 x38 x40).f1) ((rd_T30 x38 x40).f2) ((rd_T30 x38 x40).f3) ((rd_T30 x38 x40).f4) ((rd_T30 x38 x40).f5) ((rd_T30 x38 x40).f6) ((rd_T30 x38 x40).f7)) else (none)) else (none)) else (if x10 = true then (dryrotref16_Live.l3 k x0 x1 x2 x7 (x7.length : Int) x16 x17 x18 x242000 x242001 x242002 x242003 x242004 x242005 x242006 x242007) else (dryrotref16_Live.l0 k x0 x1 x2 x7 x16 x17 (wrap64 (x18 + 1))))
def dryrotref16_Live.l2 : Nat → List (S30) → Int → Int → List (S30) → Int → Bool → Int → List (S30) → Int → Int → List (S30) → Int → Int → List Int → Int → Int → Int → Int → Int → Int → Int → Int → Int → List Int → Int → Int → Int → Int → Int → Int → Int → List Int → Option ((List (S30)))
  | 0, _, _, _, _, _, _, _, _, _, _, _, _, _, _, _, _, _, _, _, _, _, _, _, _, _, _, _, _, _, _, _, _ => none
  | k + 1, x0, x1, x2, x7, x8, x10, x11, x16, x17, x18, x38, x39, x40, x46, x47, x48, x242000, x242001, x242002, x242003, x242004, x242005, x242006, x242007, x244000, x244001, x244002, x244003, x244004, x244005, x244006, x244007 => if x48 < x47 then (if 0 ≤ x48 then (if x48 < (x46.length : Int) then (if x10 = true then (if x11 = x8 then (dryrotref16_Live.l2 k x0 x1 x2 x7 x8 (!false) x11 x16 x17 x18 x38 x39 x40 x46 x47 (wrap64 (x48 + 1)) x242000 x242001 x242002 x242003 x242004 x242005 x242006 x242007 x244000 x244001 x244002 x244003 x244004 x244005 x244006 x244007) else (if x244001 ≤ x1 then (dryrotref16_Live.l2 k x0 x1 x2 x7 x8 (!((rd x46 x48) == x242000)) x11 x16 x17 x18 x38 x39 x40 x46 x47 (wrap64 (x48 + 1)) x242000 x242001 x242002 x242003 x242004 x242005 x242006 x242007 x244000 x244001 x244002 x244003 x244004 x244005 x244006 x244007) else (dryrotref16_Live.l2 k x0 x1 x2 x7 x8 (!false) x11 x16 x17 x18 x38 x39 x40 x46 x47 (wrap64 (x48 + 1)) x242000 x242001 x242002 x242003 x242004 x242005 x242006 x242007 x244000 x244001 x244002 x244003 x244004 x244005 x244006 x244007))) else (dryrotref16_Live.l2 k x0 x1 x2 x7 x8 false x11 x16 x17 x18 x38 x39 x40 x46 x47 (wrap64 (x48 + 1)) x242000 x242001 x242002 x242003 x242004 x242005 x242006 x242007 x244000 x244001 x244002 x244003 x244004 x244005 x244006 x244007)) else (none)) else (none)) else (dryrotref16_Live.l1 k x0 x1 x2 x7 x8 x10 x16 x17 x18 x38 x39 (wrap64 (x40 + 1)) x242000 x242001 x242002 x242003 x242004 x242005 x242006 x242007)
def dryrotref16_Live.l3 : Nat → List (S30) → Int → Int → List (S30) → Int → List (S30) → Int → Int → Int → Int → Int → Int → Int → Int → Int → List Int → Option ((List (S30)))
  | 0, _, _, _, _, _, _, _, _, _, _, _, _, _, _, _, _ => none
  | k + 1, x0, x1, x2, x7, x15, x16, x17, x18, x242000, x242001, x242002, x242003, x242004, x242005, x242006, x242007 => if x15 > 0 then (if 0 ≤ (wrap64 (x15 - 1)) then (if (wrap64 (x15 - 1)) < (x7.length : Int) then (if ((rd_T30 x7 (wrap64 (x15 - 1))).f3) > x242003 then (dryrotref16_Live.l3 k x0 x1 x2 x7 (wrap64 (x15 - 1)) x16 x17 x18 x242000 x242001 x242002 x242003 x242004 x242005 x242006 x242007) else ((some (([] : List (S30)) : List (S30))).bind fun y246 => (if 0 ≤ x15 then (if x15 ≤ (x7.length : Int) then ((some (x7.take (x15 : Int).toNat : List (S30))).bind fun y249 => (if y246.length + y249.length < 1759218604441 then ((some (y246 ++ y249 : List (S30))).bind fun y254 => ((dryrotref16_Copy.f x242000 x242001 x242002 x242003 x242004 x242005 x242006 x242007).bind fun bt257 => (if y254.length < 1759218604441 then ((some (y254 ++ [(⟨bt257.1, bt257.2.1, bt257.2.2.1, bt257.2.2.2.1, bt257.2.2.2.2.1, bt257.2.2.2.2.2.1, bt257.2.2.2.2.2.2.1, bt257.2.2.2.2.2.2.2⟩ : S30)] : List (S30))).bind fun y267 => ((some (x7.drop (x15 : Int).toNat : List (S30))).bind fun y270 => (if y267.length + y270.length < 1759218604441 then (dryrotref16_Live.l0 k x0 x1 x2 (y267 ++ y270) x16 x17 (wrap64 (x18 + 1))) else (none)))) else (none)))) else (none))) else (none)) else (none)))) else (none)) else (none)) else ((some (([] : List (S30)) : List (S30))).bind fun y278 => (if 0 ≤ x15 then (if x15 ≤ (x7.length : Int) then ((some (x7.take (x15 : Int).toNat : List (S30))).bind fun y281 => (if y278.length + y281.length < 1759218604441 then ((some (y278 ++ y281 : List (S30))).bind fun y286 => ((dryrotref16_Copy.f x242000 x242001 x242002 x242003 x242004 x242005 x242006 x242007).bind fun bt289 => (if y286.length < 1759218604441 then ((some (y286 ++ [(⟨bt289.1, bt289.2.1, bt289.2.2.1, bt289.2.2.2.1, bt289.2.2.2.2.1, bt289.2.2.2.2.2.1, bt289.2.2.2.2.2.2.1, bt289.2.2.2.2.2.2.2⟩ : S30)] : List (S30))).bind fun y299 => ((some (x7.drop (x15 : Int).toNat : List (S30))).bind fun y302 => (if y299.length + y302.length < 1759218604441 then (dryrotref16_Live.l0 k x0 x1 x2 (y299 ++ y302) x16 x17 (wrap64 (x18 + 1))) else (none)))) else (none)))) else (none))) else (none)) else (none)))
end
def dryrotref16_Live.f (k : Nat) (l0 : List (S30)) (a1 : Int) (a2 : Int) : Option ((List (S30))) := dryrotref16_Live.l0 k l0 a1 a2 ([] : List (S30)) l0 (l0.length : Int) 0
theorem dryrotref16_Live.mono_l : ∀ k, (∀ y0 y1 y2 y3 y4 y5 y6, LeO (dryrotref16_Live.l0 k y0 y1 y2 y3 y4 y5 y6) (dryrotref16_Live.l0 (k + 1) y0 y1 y2 y3 y4 y5 y6)) ∧ (∀ y0 y1 y2 y3 y4 y5 y6 y7 y8 y9 y10 y11 y12 y13 y14 y15 y16, LeO (dryrotref16_Live.j1 k y0 y1 y2 y3 y4 y5 y6 y7 y8 y9 y10 y11 y12 y13 y14 y15 y16) (dryrotref16_Live.j1 (k + 1) y0 y1 y2 y3 y4 y5 y6 y7 y8 y9 y10 y11 y12 y13 y14 y15 y16)) ∧ (∀ y0 y1 y2 y3 y4 y5 y6 y7 y8 y9 y10 y11 y12 y13 y14 y15 y16 y17 y18 y19, LeO (dryrotref16_Live.l1 k y0 y1 y2 y3 y4 y5 y6 y7 y8 y9 y10 y11 y12 y13 y14 y15 y16 y17 y18 y19) (dryrotref16_Live.l1 (k + 1) y0 y1 y2 y3 y4 y5 y6 y7 y8 y9 y10 y11 y12 y13 y14 y15 y16 y17 y18 y19)) ∧ (∀ y0 y1 y2 y3 y4 y5 y6 y7 y8 y9 y10 y11 y12 y13 y14 y15 y16 y17 y18 y19 y20 y21 y22 y23 y24 y25 y26 y27 y28 y29 y30 y31, LeO (dryrotref16_Live.l2 k y0 y1 y2 y3 y4 y5 y6 y7 y8 y9 y10 y11 y12 y13 y14 y15 y16 y17 y18 y19 y20 y21 y22 y23 y24 y25 y26 y27 y28 y29 y30 y31) (dryrotref16_Live.l2 (k + 1) y0 y1 y2 y3 y4 y5 y6 y7 y8 y9 y10 y11 y12 y13 y14 y15 y16 y17 y18 y19 y20 y21 y22 y23 y24 y25 y26 y27 y28 y29 y30 y31)) ∧ (∀ y0 y1 y2 y3 y4 y5 y6 y7 y8 y9 y10 y11 y12 y13 y14 y15, LeO (dryrotref16_Live.l3 k y0 y1 y2 y3 y4 y5 y6 y7 y8 y9 y10 y11 y12 y13 y14 y15) (dryrotref16_Live.l3 (k + 1) y0 y1 y2 y3 y4 y5 y6 y7 y8 y9 y10 y11 y12 y13 y14 y15))
  | 0 => ⟨fun _ _ _ _ _ _ _ r h => by simp [dryrotref16_Live.l0] at h, fun _ _ _ _ _ _ _ _ _ _ _ _ _ _ _ _ _ r h => by simp [dryrotref16_Live.j1] at h, fun _ _ _ _ _ _ _ _ _ _ _ _ _ _ _ _ _ _ _ _ r h => by simp [dryrotref16_Live.l1] at h, fun _ _ _ _ _ _ _ _ _ _ _ _ _ _ _ _ _ _ _ _ _ _ _ _ _ _ _ _ _ _ _ _ r h => by simp [dryrotref16_Live.l2] at h, fun _ _ _ _ _ _ _ _ _ _ _ _ _ _ _ _ r h => by simp [dryrotref16_Live.l3] at h⟩
  | k + 1 => by
    obtain ⟨ih0, ih1, ih2, ih3, ih4⟩ := dryrotref16_Live.mono_l k
    refine ⟨?_, ?_, ?_, ?_, ?_⟩
    · intro y0 y1 y2 y3 y4 y5 y6
      unfold dryrotref16_Live.l0
      repeat' first
      | (with_reducible exact ih0 _ _ _ _ _ _ _)
      | (with_reducible exact ih1 _ _ _ _ _ _ _ _ _ _ _ _ _ _ _ _ _)
      | (with_reducible exact ih2 _ _ _ _ _ _ _ _ _ _ _ _ _ _ _ _ _ _ _ _)
      | (with_reducible exact ih3 _ _ _ _ _ _ _ _ _ _ _ _ _ _ _ _ _ _ _ _ _ _ _ _ _ _ _ _ _ _ _ _)
      | (with_reducible exact ih4 _ _ _ _ _ _ _ _ _ _ _ _ _ _ _ _)
      | (with_reducible exact LeO.refl _)
      | (with_reducible exact LeO.none _)
      | (with_reducible refine LeO.ite ?_ ?_)
      | (with_reducible refine LeO.bind ?_ (fun _ => ?_))
      | exact ih0 _ _ _ _ _ _ _
      | exact ih1 _ _ _ _ _ _ _ _ _ _ _ _ _ _ _ _ _
      | exact ih2 _ _ _ _ _ _ _ _ _ _ _ _ _ _ _ _ _ _ _ _
      | exact ih3 _ _ _ _ _ _ _ _ _ _ _ _ _ _ _ _ _ _ _ _ _ _ _ _ _ _ _ _ _ _ _ _
      | exact ih4 _ _ _ _ _ _ _ _ _ _ _ _ _ _ _ _
      | exact LeO.none _
      | refine LeO.ite ?_ ?_
      | refine LeO.bind ?_ (fun _ => ?_)
    · intro y0 y1 y2 y3 y4 y5 y6 y7 y8 y9 y10 y11 y12 y13 y14 y15 y16
      unfold dryrotref16_Live.j1
      repeat' first
      | (with_reducible exact ih0 _ _ _ _ _ _ _)
      | (with_reducible exact ih1 _ _ _ _ _ _ _ _ _ _ _ _ _ _ _ _ _)
      | (with_reducible exact ih2 _ _ _ _ _ _ _ _ _ _ _ _ _ _ _ _ _ _ _ _)
      | (with_reducible exact ih3 _ _ _ _ _ _ _ _ _ _ _ _ _ _ _ _ _ _ _ _ _ _ _ _ _ _ _ _ _ _ _ _)
      | (with_reducible exact ih4 _ _ _ _ _ _ _ _ _ _ _ _ _ _ _ _)
      | (with_reducible exact LeO.refl _)
      | (with_reducible exact LeO.none _)
      | (with_reducible refine LeO.ite ?_ ?_)
      | (with_reducible refine LeO.bind ?_ (fun _ => ?_))
      | exact ih0 _ _ _ _ _ _ _
      | exact ih1 _ _ _ _ _ _ _ _ _ _ _ _ _ _ _ _ _
      | exact ih2 _ _ _ _ _ _ _ _ _ _ _ _ _ _ _ _ _ _ _ _
      | exact ih3 _ _ _ _ _ _ _ _ _ _ _ _ _ _ _ _ _ _ _ _ _ _ _ _ _ _ _ _ _ _ _ _
      | exact ih4 _ _ _ _ _ _ _ _ _ _ _ _ _ _ _ _
      | exact LeO.none _
      | refine LeO.ite ?_ ?_
      | refine LeO.bind ?_ (fun _ => ?_)
    · intro y0 y1 y2 y3 y4 y5 y6 y7 y8 y9 y10 y11 y12 y13 y14 y15 y16 y17 y18 y19
      unfold dryrotref16_Live.l1
      repeat' first
      | (with_reducible exact ih0 _ _ _ _ _ _ _)
      | (with_reducible exact ih1 _ _ _ _ _ _ _ _ _ _ _ _ _ _ _ _ _)
      | (with_reducible exact ih2 _ _ _ _ _ _ _ _ _ _ _ _ _ _ _ _ _ _ _ _)
      | (with_reducible exact ih3 _ _ _ _ _ _ _ _ _ _ _ _ _ _ _ _ _ _ _ _ _ _ _ _ _ _ _ _ _ _ _ _)
      | (with_reducible exact ih4 _ _ _ _ _ _ _ _ _ _ _ _ _ _ _ _)
      | (with_reducible exact LeO.refl _)
      | (with_reducible exact LeO.none _)
      | (with_reducible refine LeO.ite ?_ ?_)
      | (with_reducible refine LeO.bind ?_ (fun _ => ?_))
      | exact ih0 _ _ _ _ _ _ _
      | exact ih1 _ _ _ _ _ _ _ _ _ _ _ _ _ _ _ _ _
      | exact ih2 _ _ _ _ _ _ _ _ _ _ _ _ _ _ _ _ _ _ _ _
      | exact ih3 _ _ _ _ _ _ _ _ _ _ _ _ _ _ _ _ _ _ _ _ _ _ _ _ _ _ _ _ _ _ _ _
      | exact ih4 _ _ _ _ _ _ _ _ _ _ _ _ _ _ _ _
      | exact LeO.none _
      | refine LeO.ite ?_ ?_
      | refine LeO.bind ?_ (fun _ => ?_)
    · intro y0 y1 y2 y3 y4 y5 y6 y7 y8 y9 y10 y11 y12 y13 y14 y15 y16 y17 y18 y19 y20 y21 y22 y23 y24 y25 y26 y27 y28 y29 y30 y31
      unfold dryrotref16_Live.l2
      repeat' first
      | (with_reducible exact ih0 _ _ _ _ _ _ _)
      | (with_reducible exact ih1 _ _ _ _ _ _ _ _ _ _ _ _ _ _ _ _ _)
      | (with_reducible exact ih2 _ _ _ _ _ _ _ _ _ _ _ _ _ _ _ _ _ _ _ _)
      | (with_reducible exact ih3 _ _ _ _ _ _ _ _ _ _ _ _ _ _ _ _ _ _ _ _ _ _ _ _ _ _ _ _ _ _ _ _)
      | (with_reducible exact ih4 _ _ _ _ _ _ _ _ _ _ _ _ _ _ _ _)
      | (with_reducible exact LeO.refl _)
      | (with_reducible exact LeO.none _)
      | (with_reducible refine LeO.ite ?_ ?_)
      | (with_reducible refine LeO.bind ?_ (fun _ => ?_))
      | exact ih0 _ _ _ _ _ _ _
      | exact ih1 _ _ _ _ _ _ _ _ _ _ _ _ _ _ _ _ _
      | exact ih2 _ _ _ _ _ _ _ _ _ _ _ _ _ _ _ _ _ _ _ _
      | exact ih3 _ _ _ _ _ _ _ _ _ _ _ _ _ _ _ _ _ _ _ _ _ _ _ _ _ _ _ _ _ _ _ _
      | exact ih4 _ _ _ _ _ _ _ _ _ _ _ _ _ _ _ _
      | exact LeO.none _
      | refine LeO.ite ?_ ?_
      | refine LeO.bind ?_ (fun _ => ?_)
    · intro y0 y1 y2 y3 y4 y5 y6 y7 y8 y9 y10 y11 y12 y13 y14 y15
      unfold dryrotref16_Live.l3
      repeat' first
      | (with_reducible exact ih0 _ _ _ _ _ _ _)
      | (with_reducible exact ih1 _ _ _ _ _ _ _ _ _ _ _ _ _ _ _ _ _)
      | (with_reducible exact ih2 _ _ _ _ _ _ _ _ _ _ _ _ _ _ _ _ _ _ _ _)
      | (with_reducible exact ih3 _ _ _ _ _ _ _ _ _ _ _ _ _ _ _ _ _ _ _ _ _ _ _ _ _ _ _ _ _ _ _ _)
      | (with_reducible exact ih4 _ _ _ _ _ _ _ _ _ _ _ _ _ _ _ _)
      | (with_reducible exact LeO.refl _)
      | (with_reducible exact LeO.none _)
      | (with_reducible refine LeO.ite ?_ ?_)
      | (with_reducible refine LeO.bind ?_ (fun _ => ?_))
      | exact ih0 _ _ _ _ _ _ _
      | exact ih1 _ _ _ _ _ _ _ _ _ _ _ _ _ _ _ _ _
      | exact ih2 _ _ _ _ _ _ _ _ _ _ _ _ _ _ _ _ _ _ _ _
      | exact ih3 _ _ _ _ _ _ _ _ _ _ _ _ _ _ _ _ _ _ _ _ _ _ _ _ _ _ _ _ _ _ _ _
      | exact ih4 _ _ _ _ _ _ _ _ _ _ _ _ _ _ _ _
      | exact LeO.none _
      | refine LeO.ite ?_ ?_
      | refine LeO.bind ?_ (fun _ => ?_)
theorem dryrotref16_Live.mono : ∀ a0 a1 a2 k, LeO (dryrotref16_Live.f k a0 a1 a2) (dryrotref16_Live.f (k + 1) a0 a1 a2) := by
  intro a0 a1 a2 k
  obtain ⟨ih0, ih1, ih2, ih3, ih4⟩ := dryrotref16_Live.mono_l k
  unfold dryrotref16_Live.f
  repeat' first
      | (with_reducible exact ih0 _ _ _ _ _ _ _)
      | (with_reducible exact ih1 _ _ _ _ _ _ _ _ _ _ _ _ _ _ _ _ _)
      | (with_reducible exact ih2 _ _ _ _ _ _ _ _ _ _ _ _ _ _ _ _ _ _ _ _)
      | (with_reducible exact ih3 _ _ _ _ _ _ _ _ _ _ _ _ _ _ _ _ _ _ _ _ _ _ _ _ _ _ _ _ _ _ _ _)
      | (with_reducible exact ih4 _ _ _ _ _ _ _ _ _ _ _ _ _ _ _ _)
      | (with_reducible exact LeO.refl _)
      | (with_reducible exact LeO.none _)
      | (with_reducible refine LeO.ite ?_ ?_)
      | (with_reducible refine LeO.bind ?_ (fun _ => ?_))
      | exact ih0 _ _ _ _ _ _ _
      | exact ih1 _ _ _ _ _ _ _ _ _ _ _ _ _ _ _ _ _
      | exact ih2 _ _ _ _ _ _ _ _ _ _ _ _ _ _ _ _ _ _ _ _
      | exact ih3 _ _ _ _ _ _ _ _ _ _ _ _ _ _ _ _ _ _ _ _ _ _ _ _ _ _ _ _ _ _ _ _
      | exact ih4 _ _ _ _ _ _ _ _ _ _ _ _ _ _ _ _
      | exact LeO.none _
      | refine LeO.ite ?_ ?_
      | refine LeO.bind ?_ (fun _ => ?_)
def dryrotref16_Live.T17 : Bool × List (List Nat × List Nat) := (true, [([], []), ([0], [0]), ([1], [1]), ([2], [2]), ([2], [2]), ([4, 2], [2, 4]), ([3, 5, 2], [2, 3, 5]), ([6, 2], [2, 6]), ([7, 2], [2, 7]), ([2], [2]), ([9, 2], [2, 9]), ([8, 10, 2], [2, 8, 10]), ([2, 11], [2, 11])])
def dryrotref16_Live.B17 : List Nat := [0, 1, 3, 7, 7, 23, 63, 127, 255, 7, 519, 2047, 4095]
theorem dryrotref16_Live.tab17 : rtab .any (opsOf Try.f30 17) = dryrotref16_Live.T17 := by kernel_rfl
theorem dryrotref16_Live.bits17 : waitsOk dryrotref16_Live.T17.2 dryrotref16_Live.B17 = true := by kernel_rfl
def dryrotref16_Live.T19 : Bool × List (List Nat × List Nat) := (true, [([], []), ([], []), ([], []), ([1, 2], [1, 2]), ([0, 3], [0, 3]), ([], []), ([5, 4], [5]), ([6], [6]), ([4, 7, 6], [4, 7]), ([], []), ([], []), ([9, 10], [9, 10]), ([8, 11, 8], [8, 11]), ([12, 12, 0, 1, 2, 3, 4, 5, 6, 7, 8, 9, 10, 11, 12], [1, 9, 12])])
def dryrotref16_Live.B19 : List Nat := [0, 0, 0, 6, 15, 0, 63, 127, 255, 0, 0, 1536, 4095, 8191]
theorem dryrotref16_Live.tab19 : rtab .any (opsOf Try.f30 19) = dryrotref16_Live.T19 := by kernel_rfl
theorem dryrotref16_Live.bits19 : waitsOk dryrotref16_Live.T19.2 dryrotref16_Live.B19 = true := by kernel_rfl
set_option maxHeartbeats 8000000 in
set_option maxRecDepth 100000 in
theorem dryrotref16_Live.calls (k : Nat) (A0 : Option Addr) (c0 : Nat) (l0 : List (S30)) (a1 : Int) (a2 : Int) (r : List (S30)) (w : World) (hr0 : Kd.C k30 w A0 l0.length l0) (hc0 : l0.length ≤ c0) (h : dryrotref16_Live.f k l0 a1 a2 = some r) :
    Calls Try.prog 30 #[.slice A0 l0.length c0, .int .i64 a1, .int .i64 a2] w fun e w' => ∃ v0_ : Value, e = .returned (v0_) ∧ Kd.N k30 30 w' w.heap.size (fun k_ => (w.heap.size ≤ k_)) v0_ r ∧ Below w.heap.size w w' := by
  have hu30 := Try.underlying30
  have HR0 := Aside0.mk hr0
  have HC0 := Aside0.mk hc0
  clear hr0 hc0
  have HB := Aside0.mk (Below.refl w.heap.size w)
  have H : (dryrotref16_Live.l0 k l0 a1 a2 ([] : List (S30)) l0 (l0.length : Int) 0) = some r := h
  clear h
  have H' := Aside0.mk H
  clear H
  go_enter Try.func30, Try.ntmps30
  go_wp2
  go_loopg [7, 18] k (fun kq v7 v18 w' => ∃ (x7_1 : List (S30)) (x18_1 : Int), v18 = .int .i64 x18_1 ∧ Aside0 (dryrotref16_Live.l0 kq l0 a1 a2 x7_1 l0 (l0.length : Int) x18_1 = some r) ∧ Aside0 (kq ≤ k) ∧ Aside0 (Kd.N k30 30 w' w.heap.size (fun k_ => (w.heap.size ≤ k_)) v7 x7_1) ∧ Aside0 (Below w.heap.size w w'))
  case atStart => exact ⟨(([] : List (S30))), (0), (by first | rfl | (simp; done) | (simp [*]; done)), H', ⟨Nat.le_refl _⟩, ⟨by first | exact Kd.S_nil _ _ _ _ _ | exact Kd.N_nil _ _ _ _ _ | exact Kd.V_nil _ _ _ _ _ | exact Kd.Q_nil _ _ _ _ _ | exact Kd.R_nil _ _ _ _ _⟩, ⟨by repeat (first | (with_reducible first | exact HB.out | apply below_alloc | apply pw_below_drewN | apply below_drew1) | exact HB.out)⟩⟩
  case round =>
    clear H'
    try clear p2
    try clear c3
    obtain ⟨x7_1, x18_1, rfl, HA, HK1, HO_7, HB⟩ := hrel
    cases gk with
    | zero => exact absurd HA.out (by simp [dryrotref16_Live.l0])
    | succ k1 =>
      have H := HA.out
      clear HA
      simp only [dryrotref16_Live.l0] at H
      by_cases c4 : x18_1 < (l0.length : Int)
      · rw [if_pos c4] at H
        have c4b0 : decide (x18_1 < (l0.length : Int)) = true := decide_eq_true c4
        clear c4
        by_cases c5 : 0 ≤ x18_1
        · rw [if_pos c5] at H
          have c5b0 : decide (0 ≤ x18_1) = true := decide_eq_true c5
          clear c5
          by_cases c6 : x18_1 < (l0.length : Int)
          · rw [if_pos c6] at H
            have c6b0 : decide (x18_1 < (l0.length : Int)) = true := decide_eq_true c6
            clear c6
            have HC7 := Aside0.mk H
            clear H
            have p240 : 0 ≤ (x18_1 : Int) := of_decide_eq_true (by first | (with_reducible assumption) | assumption)
            have q240 : x18_1 < (l0.length : Int) := of_decide_eq_true (by first | (with_reducible assumption) | assumption)
            obtain ⟨ad240, A240_7, c240_7, e240, hx240_0, hx240_1, hx240_2, hx240_3, hx240_4, hx240_5, hx240_6, hx240_7, hl240_7, hi240_7⟩ := at_T30 HR0.out x18_1 p240 q240
            cases e240
            replace hx240_0 := (HB.out.cell (World.block_lt_of_cell? w _ hx240_0)).trans hx240_0
            replace hx240_1 := (HB.out.cell (World.block_lt_of_cell? w _ hx240_1)).trans hx240_1
            replace hx240_2 := (HB.out.cell (World.block_lt_of_cell? w _ hx240_2)).trans hx240_2
            replace hx240_3 := (HB.out.cell (World.block_lt_of_cell? w _ hx240_3)).trans hx240_3
            replace hx240_4 := (HB.out.cell (World.block_lt_of_cell? w _ hx240_4)).trans hx240_4
            replace hx240_5 := (HB.out.cell (World.block_lt_of_cell? w _ hx240_5)).trans hx240_5
            replace hx240_6 := (HB.out.cell (World.block_lt_of_cell? w _ hx240_6)).trans hx240_6
            replace hx240_7 := (HB.out.cell (World.block_lt_of_cell? w _ hx240_7)).trans hx240_7
            have HR240_7 := Aside0.mk hi240_7
            have HC240_7 := Aside0.mk hl240_7
            clear hi240_7 hl240_7
            replace p240 := eq_true p240
            replace q240 := eq_true q240
            go_upto_region 5 with (first | ((with_reducible refine gate_dst (N := 9) rfl ?_); refine box_event ?hg (N := 9) ?hd (cs := #[.int .i64 0, .int .i64 0, .int .i64 0, .int .i64 0, .int .i64 0, .int .i64 0, .int .i64 0, .slice none 0 0]) (t := 30) ?hr ?_; (case hd => rfl); (case hg => rfl); (case hr => first | (go_simp; done) | (go_simp; rfl)); intro gb241 hg w8 hbox hb; have n0_ := Aside0.mk (Kd.N_below (Kd.N_elderB (by (with_reducible repeat (first | apply Kd.N_alloc | apply Kd.N_drewN | apply Kd.N_drew)); exact HO_7.out) gb241 (Nat.le_of_eq hg.symm)) hb); have n1_ := Aside0.mk (below_step (by repeat (first | (with_reducible first | exact HB.out | apply below_alloc | apply pw_below_drewN | apply below_drew1) | exact HB.out)) hb); have n2_ := Aside0.mk (hbox); have n3_ := Aside0.mk ((by rw [hg]; exact (below_size (by repeat (first | (with_reducible first | exact HB.out | apply below_alloc | apply pw_below_drewN | apply below_drew1) | exact HB.out))) : w.heap.size ≤ gb241)); have n4_ := Aside0.mk ((by rw [hg]; exact (below_size (by repeat (first | (with_reducible first | exact HB.out | apply below_alloc | apply pw_below_drewN | apply below_drew1) | exact HB.out))) : w.heap.size ≤ gb241)); clear HO_7; clear HB; have HO_7 := n0_; have HB := n1_; have BK241 := n2_; have GW241 := n3_; have GE241 := n4_; clear n0_ n1_ n2_ n3_ n4_; clear hb hbox hg; have hcz9_0 : w8.cell? ⟨gb241, 0, none⟩ = some (.int .i64 0) := (blk_cell BK241.out 0).trans rfl; have hcz9_1 : w8.cell? ⟨gb241, 1, none⟩ = some (.int .i64 0) := (blk_cell BK241.out 1).trans rfl; have hcz9_2 : w8.cell? ⟨gb241, 2, none⟩ = some (.int .i64 0) := (blk_cell BK241.out 2).trans rfl; have hcz9_3 : w8.cell? ⟨gb241, 3, none⟩ = some (.int .i64 0) := (blk_cell BK241.out 3).trans rfl; have hcz9_4 : w8.cell? ⟨gb241, 4, none⟩ = some (.int .i64 0) := (blk_cell BK241.out 4).trans rfl; have hcz9_5 : w8.cell? ⟨gb241, 5, none⟩ = some (.int .i64 0) := (blk_cell BK241.out 5).trans rfl; have hcz9_6 : w8.cell? ⟨gb241, 6, none⟩ = some (.int .i64 0) := (blk_cell BK241.out 6).trans rfl; have hcz9_7 : w8.cell? ⟨gb241, 7, none⟩ = some (.slice none 0 0) := (blk_cell BK241.out 7).trans rfl; have hfz9_0 := blk_frozen BK241.out 0; have hfz9_1 := blk_frozen BK241.out 1; have hfz9_2 := blk_frozen BK241.out 2; have hfz9_3 := blk_frozen BK241.out 3; have hfz9_4 := blk_frozen BK241.out 4; have hfz9_5 := blk_frozen BK241.out 5; have hfz9_6 := blk_frozen BK241.out 6; have hfz9_7 := blk_frozen BK241.out 7))
            (try simp only [Act.put, List.setIfInBounds_toArray, List.set_cons_zero, List.set_cons_succ])
            go_cut [10] (fun v10 wc => ∃ (kq : Nat) (x10_6 : Bool), v10 = .bool x10_6 ∧ Aside0 (dryrotref16_Live.j1 kq l0 a1 a2 x7_1 x18_1 x10_6 l0 (l0.length : Int) x18_1 ((rd_T30 l0 x18_1).f0) ((rd_T30 l0 x18_1).f1) ((rd_T30 l0 x18_1).f2) ((rd_T30 l0 x18_1).f3) ((rd_T30 l0 x18_1).f4) ((rd_T30 l0 x18_1).f5) ((rd_T30 l0 x18_1).f6) ((rd_T30 l0 x18_1).f7) = some r) ∧ Aside0 (kq ≤ k1) ∧ Aside0 (Kd.N k30 30 wc w.heap.size (fun k_ => (w.heap.size ≤ k_) ∧ k_ ≠ gb241) u7 x7_1) ∧ Aside0 (wc.heap[gb241]? = some (.cells #[.int .i64 ((rd_T30 l0 x18_1).f0), .int .i64 ((rd_T30 l0 x18_1).f1), .int .i64 ((rd_T30 l0 x18_1).f2), .int .i64 ((rd_T30 l0 x18_1).f3), .int .i64 ((rd_T30 l0 x18_1).f4), .int .i64 ((rd_T30 l0 x18_1).f5), .int .i64 ((rd_T30 l0 x18_1).f6), (.slice A240_7 ((rd_T30 l0 x18_1).f7).length c240_7)] 30 (0, 0))) ∧ Aside0 (Below w.heap.size w wc))
            case first =>
              have H := HC7.out
              clear HC7
              by_cases c10 : ((rd_T30 l0 x18_1).f1) ≤ a1
              · rw [if_pos c10] at H
                have c10b0 : decide (((rd_T30 l0 x18_1).f1) ≤ a1) = true := decide_eq_true c10
                clear c10
                (first | rw [c10b0] | (simp only [i64_w, i32_w]; rw [c10b0]) | skip)
                by_cases c11 : ((rd_T30 l0 x18_1).f5) ≥ a2
                · rw [if_pos c11] at H
                  have c11b0 : decide (a2 ≤ ((rd_T30 l0 x18_1).f5)) = true := decide_eq_true c11
                  clear c11
                  have H' := Aside0.mk H
                  clear H
                  have hcz12_0 : w8.cell? ⟨gb241, 0, none⟩ = some (.int .i64 0) := (blk_cell BK241.out 0).trans rfl
                  have hcz12_1 : w8.cell? ⟨gb241, 1, none⟩ = some (.int .i64 0) := (blk_cell BK241.out 1).trans rfl
                  have hcz12_2 : w8.cell? ⟨gb241, 2, none⟩ = some (.int .i64 0) := (blk_cell BK241.out 2).trans rfl
                  have hcz12_3 : w8.cell? ⟨gb241, 3, none⟩ = some (.int .i64 0) := (blk_cell BK241.out 3).trans rfl
                  have hcz12_4 : w8.cell? ⟨gb241, 4, none⟩ = some (.int .i64 0) := (blk_cell BK241.out 4).trans rfl
                  have hcz12_5 : w8.cell? ⟨gb241, 5, none⟩ = some (.int .i64 0) := (blk_cell BK241.out 5).trans rfl
                  have hcz12_6 : w8.cell? ⟨gb241, 6, none⟩ = some (.int .i64 0) := (blk_cell BK241.out 6).trans rfl
                  have hcz12_7 : w8.cell? ⟨gb241, 7, none⟩ = some (.slice none 0 0) := (blk_cell BK241.out 7).trans rfl
                  have hfz12_0 := blk_frozen BK241.out 0
                  have hfz12_1 := blk_frozen BK241.out 1
                  have hfz12_2 := blk_frozen BK241.out 2
                  have hfz12_3 := blk_frozen BK241.out 3
                  have hfz12_4 := blk_frozen BK241.out 4
                  have hfz12_5 := blk_frozen BK241.out 5
                  have hfz12_6 := blk_frozen BK241.out 6
                  have hfz12_7 := blk_frozen BK241.out 7
                  go_wp2
                  go_meet
                  case rel => exact ⟨_, (true), (by first | rfl | (simp; done) | (simp [*]; done)), H', ⟨by have := HK1.out; first | omega | exact Nat.le_refl _⟩, ⟨by (with_reducible repeat (first | apply Kd.N_alloc | apply Kd.N_drewN | apply Kd.N_drew)); exact Kd.N_mono (Kd.N_far (p := ⟨gb241, 7, none⟩) (Kd.N_far (p := ⟨gb241, 6, none⟩) (Kd.N_far (p := ⟨gb241, 5, none⟩) (Kd.N_far (p := ⟨gb241, 4, none⟩) (Kd.N_far (p := ⟨gb241, 3, none⟩) (Kd.N_far (p := ⟨gb241, 2, none⟩) (Kd.N_far (p := ⟨gb241, 1, none⟩) (Kd.N_far (p := ⟨gb241, 0, none⟩) (Kd.N_mono HO_7.out (fun k_ hk => (⟨hk, hk.2⟩ : _ ∧ k_ ≠ gb241))) (fun _ hk => hk.2) (.int .i64 ((rd_T30 l0 x18_1).f0))) (fun _ hk => hk.2) (.int .i64 ((rd_T30 l0 x18_1).f1))) (fun _ hk => hk.2) (.int .i64 ((rd_T30 l0 x18_1).f2))) (fun _ hk => hk.2) (.int .i64 ((rd_T30 l0 x18_1).f3))) (fun _ hk => hk.2) (.int .i64 ((rd_T30 l0 x18_1).f4))) (fun _ hk => hk.2) (.int .i64 ((rd_T30 l0 x18_1).f5))) (fun _ hk => hk.2) (.int .i64 ((rd_T30 l0 x18_1).f6))) (fun _ hk => hk.2) (.slice A240_7 ((rd_T30 l0 x18_1).f7).length c240_7)) (fun _ hk => ⟨hk.1.1, hk.1.2⟩)⟩, ⟨by (with_reducible repeat (first | refine blk_drewN ?_ _ | refine blk_drew ?_ | refine blk_alloc ?_ _)); refine blk_put (cs := #[.int .i64 ((rd_T30 l0 x18_1).f0), .int .i64 ((rd_T30 l0 x18_1).f1), .int .i64 ((rd_T30 l0 x18_1).f2), .int .i64 ((rd_T30 l0 x18_1).f3), .int .i64 ((rd_T30 l0 x18_1).f4), .int .i64 ((rd_T30 l0 x18_1).f5), .int .i64 ((rd_T30 l0 x18_1).f6), .slice none 0 0]) ?_ 7 _ rfl; (with_reducible repeat (first | refine blk_drewN ?_ _ | refine blk_drew ?_ | refine blk_alloc ?_ _)); refine blk_put (cs := #[.int .i64 ((rd_T30 l0 x18_1).f0), .int .i64 ((rd_T30 l0 x18_1).f1), .int .i64 ((rd_T30 l0 x18_1).f2), .int .i64 ((rd_T30 l0 x18_1).f3), .int .i64 ((rd_T30 l0 x18_1).f4), .int .i64 ((rd_T30 l0 x18_1).f5), .int .i64 0, .slice none 0 0]) ?_ 6 _ rfl; (with_reducible repeat (first | refine blk_drewN ?_ _ | refine blk_drew ?_ | refine blk_alloc ?_ _)); refine blk_put (cs := #[.int .i64 ((rd_T30 l0 x18_1).f0), .int .i64 ((rd_T30 l0 x18_1).f1), .int .i64 ((rd_T30 l0 x18_1).f2), .int .i64 ((rd_T30 l0 x18_1).f3), .int .i64 ((rd_T30 l0 x18_1).f4), .int .i64 0, .int .i64 0, .slice none 0 0]) ?_ 5 _ rfl; (with_reducible repeat (first | refine blk_drewN ?_ _ | refine blk_drew ?_ | refine blk_alloc ?_ _)); refine blk_put (cs := #[.int .i64 ((rd_T30 l0 x18_1).f0), .int .i64 ((rd_T30 l0 x18_1).f1), .int .i64 ((rd_T30 l0 x18_1).f2), .int .i64 ((rd_T30 l0 x18_1).f3), .int .i64 0, .int .i64 0, .int .i64 0, .slice none 0 0]) ?_ 4 _ rfl; (with_reducible repeat (first | refine blk_drewN ?_ _ | refine blk_drew ?_ | refine blk_alloc ?_ _)); refine blk_put (cs := #[.int .i64 ((rd_T30 l0 x18_1).f0), .int .i64 ((rd_T30 l0 x18_1).f1), .int .i64 ((rd_T30 l0 x18_1).f2), .int .i64 0, .int .i64 0, .int .i64 0, .int .i64 0, .slice none 0 0]) ?_ 3 _ rfl; (with_reducible repeat (first | refine blk_drewN ?_ _ | refine blk_drew ?_ | refine blk_alloc ?_ _)); refine blk_put (cs := #[.int .i64 ((rd_T30 l0 x18_1).f0), .int .i64 ((rd_T30 l0 x18_1).f1), .int .i64 0, .int .i64 0, .int .i64 0, .int .i64 0, .int .i64 0, .slice none 0 0]) ?_ 2 _ rfl; (with_reducible repeat (first | refine blk_drewN ?_ _ | refine blk_drew ?_ | refine blk_alloc ?_ _)); refine blk_put (cs := #[.int .i64 ((rd_T30 l0 x18_1).f0), .int .i64 0, .int .i64 0, .int .i64 0, .int .i64 0, .int .i64 0, .int .i64 0, .slice none 0 0]) ?_ 1 _ rfl; (with_reducible repeat (first | refine blk_drewN ?_ _ | refine blk_drew ?_ | refine blk_alloc ?_ _)); refine blk_put (cs := #[.int .i64 0, .int .i64 0, .int .i64 0, .int .i64 0, .int .i64 0, .int .i64 0, .int .i64 0, .slice none 0 0]) ?_ 0 _ rfl; (with_reducible repeat (first | refine blk_drewN ?_ _ | refine blk_drew ?_ | refine blk_alloc ?_ _)); exact BK241.out⟩, ⟨by repeat (first | (with_reducible first | exact HB.out | apply below_alloc | apply pw_below_drewN | apply below_drew1 | refine below_set ?_ GE241.out) | exact HB.out)⟩⟩
                · rw [if_neg c11] at H
                  have c11b0 : decide (a2 ≤ ((rd_T30 l0 x18_1).f5)) = false := decide_eq_false c11
                  clear c11
                  have H' := Aside0.mk H
                  clear H
                  have hcz13_0 : w8.cell? ⟨gb241, 0, none⟩ = some (.int .i64 0) := (blk_cell BK241.out 0).trans rfl
                  have hcz13_1 : w8.cell? ⟨gb241, 1, none⟩ = some (.int .i64 0) := (blk_cell BK241.out 1).trans rfl
                  have hcz13_2 : w8.cell? ⟨gb241, 2, none⟩ = some (.int .i64 0) := (blk_cell BK241.out 2).trans rfl
                  have hcz13_3 : w8.cell? ⟨gb241, 3, none⟩ = some (.int .i64 0) := (blk_cell BK241.out 3).trans rfl
                  have hcz13_4 : w8.cell? ⟨gb241, 4, none⟩ = some (.int .i64 0) := (blk_cell BK241.out 4).trans rfl
                  have hcz13_5 : w8.cell? ⟨gb241, 5, none⟩ = some (.int .i64 0) := (blk_cell BK241.out 5).trans rfl
                  have hcz13_6 : w8.cell? ⟨gb241, 6, none⟩ = some (.int .i64 0) := (blk_cell BK241.out 6).trans rfl
                  have hcz13_7 : w8.cell? ⟨gb241, 7, none⟩ = some (.slice none 0 0) := (blk_cell BK241.out 7).trans rfl
                  have hfz13_0 := blk_frozen BK241.out 0
                  have hfz13_1 := blk_frozen BK241.out 1
                  have hfz13_2 := blk_frozen BK241.out 2
                  have hfz13_3 := blk_frozen BK241.out 3
                  have hfz13_4 := blk_frozen BK241.out 4
                  have hfz13_5 := blk_frozen BK241.out 5
                  have hfz13_6 := blk_frozen BK241.out 6
                  have hfz13_7 := blk_frozen BK241.out 7
                  go_wp2
                  go_meet
                  case rel => exact ⟨_, ((((rd_T30 l0 x18_1).f6) == 0)), (by first | rfl | (simp; done) | (simp [*]; done)), H', ⟨by have := HK1.out; first | omega | exact Nat.le_refl _⟩, ⟨by (with_reducible repeat (first | apply Kd.N_alloc | apply Kd.N_drewN | apply Kd.N_drew)); exact Kd.N_mono (Kd.N_far (p := ⟨gb241, 7, none⟩) (Kd.N_far (p := ⟨gb241, 6, none⟩) (Kd.N_far (p := ⟨gb241, 5, none⟩) (Kd.N_far (p := ⟨gb241, 4, none⟩) (Kd.N_far (p := ⟨gb241, 3, none⟩) (Kd.N_far (p := ⟨gb241, 2, none⟩) (Kd.N_far (p := ⟨gb241, 1, none⟩) (Kd.N_far (p := ⟨gb241, 0, none⟩) (Kd.N_mono HO_7.out (fun k_ hk => (⟨hk, hk.2⟩ : _ ∧ k_ ≠ gb241))) (fun _ hk => hk.2) (.int .i64 ((rd_T30 l0 x18_1).f0))) (fun _ hk => hk.2) (.int .i64 ((rd_T30 l0 x18_1).f1))) (fun _ hk => hk.2) (.int .i64 ((rd_T30 l0 x18_1).f2))) (fun _ hk => hk.2) (.int .i64 ((rd_T30 l0 x18_1).f3))) (fun _ hk => hk.2) (.int .i64 ((rd_T30 l0 x18_1).f4))) (fun _ hk => hk.2) (.int .i64 ((rd_T30 l0 x18_1).f5))) (fun _ hk => hk.2) (.int .i64 ((rd_T30 l0 x18_1).f6))) (fun _ hk => hk.2) (.slice A240_7 ((rd_T30 l0 x18_1).f7).length c240_7)) (fun _ hk => ⟨hk.1.1, hk.1.2⟩)⟩, ⟨by (with_reducible repeat (first | refine blk_drewN ?_ _ | refine blk_drew ?_ | refine blk_alloc ?_ _)); refine blk_put (cs := #[.int .i64 ((rd_T30 l0 x18_1).f0), .int .i64 ((rd_T30 l0 x18_1).f1), .int .i64 ((rd_T30 l0 x18_1).f2), .int .i64 ((rd_T30 l0 x18_1).f3), .int .i64 ((rd_T30 l0 x18_1).f4), .int .i64 ((rd_T30 l0 x18_1).f5), .int .i64 ((rd_T30 l0 x18_1).f6), .slice none 0 0]) ?_ 7 _ rfl; (with_reducible repeat (first | refine blk_drewN ?_ _ | refine blk_drew ?_ | refine blk_alloc ?_ _)); refine blk_put (cs := #[.int .i64 ((rd_T30 l0 x18_1).f0), .int .i64 ((rd_T30 l0 x18_1).f1), .int .i64 ((rd_T30 l0 x18_1).f2), .int .i64 ((rd_T30 l0 x18_1).f3), .int .i64 ((rd_T30 l0 x18_1).f4), .int .i64 ((rd_T30 l0 x18_1).f5), .int .i64 0, .slice none 0 0]) ?_ 6 _ rfl; (with_reducible repeat (first | refine blk_drewN ?_ _ | refine blk_drew ?_ | refine blk_alloc ?_ _)); refine blk_put (cs := #[.int .i64 ((rd_T30 l0 x18_1).f0), .int .i64 ((rd_T30 l0 x18_1).f1), .int .i64 ((rd_T30 l0 x18_1).f2), .int .i64 ((rd_T30 l0 x18_1).f3), .int .i64 ((rd_T30 l0 x18_1).f4), .int .i64 0, .int .i64 0, .slice none 0 0]) ?_ 5 _ rfl; (with_reducible repeat (first | refine blk_drewN ?_ _ | refine blk_drew ?_ | refine blk_alloc ?_ _)); refine blk_put (cs := #[.int .i64 ((rd_T30 l0 x18_1).f0), .int .i64 ((rd_T30 l0 x18_1).f1), .int .i64 ((rd_T30 l0 x18_1).f2), .int .i64 ((rd_T30 l0 x18_1).f3), .int .i64 0, .int .i64 0, .int .i64 0, .slice none 0 0]) ?_ 4 _ rfl; (with_reducible repeat (first | refine blk_drewN ?_ _ | refine blk_drew ?_ | refine blk_alloc ?_ _)); refine blk_put (cs := #[.int .i64 ((rd_T30 l0 x18_1).f0), .int .i64 ((rd_T30 l0 x18_1).f1), .int .i64 ((rd_T30 l0 x18_1).f2), .int .i64 0, .int .i64 0, .int .i64 0, .int .i64 0, .slice none 0 0]) ?_ 3 _ rfl; (with_reducible repeat (first | refine blk_drewN ?_ _ | refine blk_drew ?_ | refine blk_alloc ?_ _)); refine blk_put (cs := #[.int .i64 ((rd_T30 l0 x18_1).f0), .int .i64 ((rd_T30 l0 x18_1).f1), .int .i64 0, .int .i64 0, .int .i64 0, .int .i64 0, .int .i64 0, .slice none 0 0]) ?_ 2 _ rfl; (with_reducible repeat (first | refine blk_drewN ?_ _ | refine blk_drew ?_ | refine blk_alloc ?_ _)); refine blk_put (cs := #[.int .i64 ((rd_T30 l0 x18_1).f0), .int .i64 0, .int .i64 0, .int .i64 0, .int .i64 0, .int .i64 0, .int .i64 0, .slice none 0 0]) ?_ 1 _ rfl; (with_reducible repeat (first | refine blk_drewN ?_ _ | refine blk_drew ?_ | refine blk_alloc ?_ _)); refine blk_put (cs := #[.int .i64 0, .int .i64 0, .int .i64 0, .int .i64 0, .int .i64 0, .int .i64 0, .int .i64 0, .slice none 0 0]) ?_ 0 _ rfl; (with_reducible repeat (first | refine blk_drewN ?_ _ | refine blk_drew ?_ | refine blk_alloc ?_ _)); exact BK241.out⟩, ⟨by repeat (first | (with_reducible first | exact HB.out | apply below_alloc | apply pw_below_drewN | apply below_drew1 | refine below_set ?_ GE241.out) | exact HB.out)⟩⟩
              · rw [if_neg c10] at H
                have c10b0 : decide (((rd_T30 l0 x18_1).f1) ≤ a1) = false := decide_eq_false c10
                clear c10
                (first | rw [c10b0] | (simp only [i64_w, i32_w]; rw [c10b0]) | skip)
                have H' := Aside0.mk H
                clear H
                have hcz14_0 : w8.cell? ⟨gb241, 0, none⟩ = some (.int .i64 0) := (blk_cell BK241.out 0).trans rfl
                have hcz14_1 : w8.cell? ⟨gb241, 1, none⟩ = some (.int .i64 0) := (blk_cell BK241.out 1).trans rfl
                have hcz14_2 : w8.cell? ⟨gb241, 2, none⟩ = some (.int .i64 0) := (blk_cell BK241.out 2).trans rfl
                have hcz14_3 : w8.cell? ⟨gb241, 3, none⟩ = some (.int .i64 0) := (blk_cell BK241.out 3).trans rfl
                have hcz14_4 : w8.cell? ⟨gb241, 4, none⟩ = some (.int .i64 0) := (blk_cell BK241.out 4).trans rfl
                have hcz14_5 : w8.cell? ⟨gb241, 5, none⟩ = some (.int .i64 0) := (blk_cell BK241.out 5).trans rfl
                have hcz14_6 : w8.cell? ⟨gb241, 6, none⟩ = some (.int .i64 0) := (blk_cell BK241.out 6).trans rfl
                have hcz14_7 : w8.cell? ⟨gb241, 7, none⟩ = some (.slice none 0 0) := (blk_cell BK241.out 7).trans rfl
                have hfz14_0 := blk_frozen BK241.out 0
                have hfz14_1 := blk_frozen BK241.out 1
                have hfz14_2 := blk_frozen BK241.out 2
                have hfz14_3 := blk_frozen BK241.out 3
                have hfz14_4 := blk_frozen BK241.out 4
                have hfz14_5 := blk_frozen BK241.out 5
                have hfz14_6 := blk_frozen BK241.out 6
                have hfz14_7 := blk_frozen BK241.out 7
                go_wp2
                go_meet
                case rel => exact ⟨_, (false), (by first | rfl | (simp; done) | (simp [*]; done)), H', ⟨by have := HK1.out; first | omega | exact Nat.le_refl _⟩, ⟨by (with_reducible repeat (first | apply Kd.N_alloc | apply Kd.N_drewN | apply Kd.N_drew)); exact Kd.N_mono (Kd.N_far (p := ⟨gb241, 7, none⟩) (Kd.N_far (p := ⟨gb241, 6, none⟩) (Kd.N_far (p := ⟨gb241, 5, none⟩) (Kd.N_far (p := ⟨gb241, 4, none⟩) (Kd.N_far (p := ⟨gb241, 3, none⟩) (Kd.N_far (p := ⟨gb241, 2, none⟩) (Kd.N_far (p := ⟨gb241, 1, none⟩) (Kd.N_far (p := ⟨gb241, 0, none⟩) (Kd.N_mono HO_7.out (fun k_ hk => (⟨hk, hk.2⟩ : _ ∧ k_ ≠ gb241))) (fun _ hk => hk.2) (.int .i64 ((rd_T30 l0 x18_1).f0))) (fun _ hk => hk.2) (.int .i64 ((rd_T30 l0 x18_1).f1))) (fun _ hk => hk.2) (.int .i64 ((rd_T30 l0 x18_1).f2))) (fun _ hk => hk.2) (.int .i64 ((rd_T30 l0 x18_1).f3))) (fun _ hk => hk.2) (.int .i64 ((rd_T30 l0 x18_1).f4))) (fun _ hk => hk.2) (.int .i64 ((rd_T30 l0 x18_1).f5))) (fun _ hk => hk.2) (.int .i64 ((rd_T30 l0 x18_1).f6))) (fun _ hk => hk.2) (.slice A240_7 ((rd_T30 l0 x18_1).f7).length c240_7)) (fun _ hk => ⟨hk.1.1, hk.1.2⟩)⟩, ⟨by (with_reducible repeat (first | refine blk_drewN ?_ _ | refine blk_drew ?_ | refine blk_alloc ?_ _)); refine blk_put (cs := #[.int .i64 ((rd_T30 l0 x18_1).f0), .int .i64 ((rd_T30 l0 x18_1).f1), .int .i64 ((rd_T30 l0 x18_1).f2), .int .i64 ((rd_T30 l0 x18_1).f3), .int .i64 ((rd_T30 l0 x18_1).f4), .int .i64 ((rd_T30 l0 x18_1).f5), .int .i64 ((rd_T30 l0 x18_1).f6), .slice none 0 0]) ?_ 7 _ rfl; (with_reducible repeat (first | refine blk_drewN ?_ _ | refine blk_drew ?_ | refine blk_alloc ?_ _)); refine blk_put (cs := #[.int .i64 ((rd_T30 l0 x18_1).f0), .int .i64 ((rd_T30 l0 x18_1).f1), .int .i64 ((rd_T30 l0 x18_1).f2), .int .i64 ((rd_T30 l0 x18_1).f3), .int .i64 ((rd_T30 l0 x18_1).f4), .int .i64 ((rd_T30 l0 x18_1).f5), .int .i64 0, .slice none 0 0]) ?_ 6 _ rfl; (with_reducible repeat (first | refine blk_drewN ?_ _ | refine blk_drew ?_ | refine blk_alloc ?_ _)); refine blk_put (cs := #[.int .i64 ((rd_T30 l0 x18_1).f0), .int .i64 ((rd_T30 l0 x18_1).f1), .int .i64 ((rd_T30 l0 x18_1).f2), .int .i64 ((rd_T30 l0 x18_1).f3), .int .i64 ((rd_T30 l0 x18_1).f4), .int .i64 0, .int .i64 0, .slice none 0 0]) ?_ 5 _ rfl; (with_reducible repeat (first | refine blk_drewN ?_ _ | refine blk_drew ?_ | refine blk_alloc ?_ _)); refine blk_put (cs := #[.int .i64 ((rd_T30 l0 x18_1).f0), .int .i64 ((rd_T30 l0 x18_1).f1), .int .i64 ((rd_T30 l0 x18_1).f2), .int .i64 ((rd_T30 l0 x18_1).f3), .int .i64 0, .int .i64 0, .int .i64 0, .slice none 0 0]) ?_ 4 _ rfl; (with_reducible repeat (first | refine blk_drewN ?_ _ | refine blk_drew ?_ | refine blk_alloc ?_ _)); refine blk_put (cs := #[.int .i64 ((rd_T30 l0 x18_1).f0), .int .i64 ((rd_T30 l0 x18_1).f1), .int .i64 ((rd_T30 l0 x18_1).f2), .int .i64 0, .int .i64 0, .int .i64 0, .int .i64 0, .slice none 0 0]) ?_ 3 _ rfl; (with_reducible repeat (first | refine blk_drewN ?_ _ | refine blk_drew ?_ | refine blk_alloc ?_ _)); refine blk_put (cs := #[.int .i64 ((rd_T30 l0 x18_1).f0), .int .i64 ((rd_T30 l0 x18_1).f1), .int .i64 0, .int .i64 0, .int .i64 0, .int .i64 0, .int .i64 0, .slice none 0 0]) ?_ 2 _ rfl; (with_reducible repeat (first | refine blk_drewN ?_ _ | refine blk_drew ?_ | refine blk_alloc ?_ _)); refine blk_put (cs := #[.int .i64 ((rd_T30 l0 x18_1).f0), .int .i64 0, .int .i64 0, .int .i64 0, .int .i64 0, .int .i64 0, .int .i64 0, .slice none 0 0]) ?_ 1 _ rfl; (with_reducible repeat (first | refine blk_drewN ?_ _ | refine blk_drew ?_ | refine blk_alloc ?_ _)); refine blk_put (cs := #[.int .i64 0, .int .i64 0, .int .i64 0, .int .i64 0, .int .i64 0, .int .i64 0, .int .i64 0, .slice none 0 0]) ?_ 0 _ rfl; (with_reducible repeat (first | refine blk_drewN ?_ _ | refine blk_drew ?_ | refine blk_alloc ?_ _)); exact BK241.out⟩, ⟨by repeat (first | (with_reducible first | exact HB.out | apply below_alloc | apply pw_below_drewN | apply below_drew1 | refine below_set ?_ GE241.out) | exact HB.out)⟩⟩
            case rest =>
              clear HC7
              try clear c1
              try clear c2
              try clear p2
              try clear q2
              try clear hx2
              try clear c3
              try clear c4
              try clear c4b0
              try clear c5
              try clear c5b0
              try clear c6
              try clear c6b0
              try clear c10
              try clear c10b0
              try clear c11
              try clear c11b0
              try clear hcz12_0
              try clear hcz12_1
              try clear hcz12_2
              try clear hcz12_3
              try clear hcz12_4
              try clear hcz12_5
              try clear hcz12_6
              try clear hcz12_7
              try clear hcz13_0
              try clear hcz13_1
              try clear hcz13_2
              try clear hcz13_3
              try clear hcz13_4
              try clear hcz13_5
              try clear hcz13_6
              try clear hcz13_7
              try clear hcz14_0
              try clear hcz14_1
              try clear hcz14_2
              try clear hcz14_3
              try clear hcz14_4
              try clear hcz14_5
              try clear hcz14_6
              try clear hcz14_7
              try clear hcz9_0
              try clear hcz9_1
              try clear hcz9_2
              try clear hcz9_3
              try clear hcz9_4
              try clear hcz9_5
              try clear hcz9_6
              try clear hcz9_7
              try clear hfz12_0
              try clear hfz12_1
              try clear hfz12_2
              try clear hfz12_3
              try clear hfz12_4
              try clear hfz12_5
              try clear hfz12_6
              try clear hfz12_7
              try clear hfz13_0
              try clear hfz13_1
              try clear hfz13_2
              try clear hfz13_3
              try clear hfz13_4
              try clear hfz13_5
              try clear hfz13_6
              try clear hfz13_7
              try clear hfz14_0
              try clear hfz14_1
              try clear hfz14_2
              try clear hfz14_3
              try clear hfz14_4
              try clear hfz14_5
              try clear hfz14_6
              try clear hfz14_7
              try clear hfz9_0
              try clear hfz9_1
              try clear hfz9_2
              try clear hfz9_3
              try clear hfz9_4
              try clear hfz9_5
              try clear hfz9_6
              try clear hfz9_7
              try clear hx240_0
              try clear hx240_1
              try clear hx240_2
              try clear hx240_3
              try clear hx240_4
              try clear hx240_5
              try clear hx240_6
              try clear hx240_7
              try clear p2
              try clear p240
              try clear q240
              obtain ⟨kq, x10_6, rfl, HA, HJ6, HO_7, BK241, HB⟩ := hcut
              cases kq with
              | zero => exact absurd HA.out (by simp [dryrotref16_Live.j1])
              | succ kj6 =>
                have H := HA.out
                clear HA
                simp only [dryrotref16_Live.j1] at H
                have H' := Aside0.mk H
                clear H
                go_wp2
                go_loopg [10, 40] kj6 (fun kq v10 v40 w' => ∃ (x10_3 : Bool) (x40_3 : Int), v10 = .bool x10_3 ∧ v40 = .int .i64 x40_3 ∧ Aside0 (dryrotref16_Live.l1 kq l0 a1 a2 x7_1 x18_1 x10_3 l0 (l0.length : Int) x18_1 l0 (l0.length : Int) x40_3 ((rd_T30 l0 x18_1).f0) ((rd_T30 l0 x18_1).f1) ((rd_T30 l0 x18_1).f2) ((rd_T30 l0 x18_1).f3) ((rd_T30 l0 x18_1).f4) ((rd_T30 l0 x18_1).f5) ((rd_T30 l0 x18_1).f6) ((rd_T30 l0 x18_1).f7) = some r) ∧ Aside0 (kq ≤ kj6) ∧ Aside0 (Kd.N k30 30 w' w.heap.size (fun k_ => (w.heap.size ≤ k_) ∧ k_ ≠ gb241) u7 x7_1) ∧ Aside0 (w'.heap[gb241]? = some (.cells #[.int .i64 ((rd_T30 l0 x18_1).f0), .int .i64 ((rd_T30 l0 x18_1).f1), .int .i64 ((rd_T30 l0 x18_1).f2), .int .i64 ((rd_T30 l0 x18_1).f3), .int .i64 ((rd_T30 l0 x18_1).f4), .int .i64 ((rd_T30 l0 x18_1).f5), .int .i64 ((rd_T30 l0 x18_1).f6), (.slice A240_7 ((rd_T30 l0 x18_1).f7).length c240_7)] 30 (0, 0))) ∧ Aside0 (Below w.heap.size w w'))
                case atStart => exact ⟨(x10_6), (0), (by first | rfl | (simp; done) | (simp [*]; done)), (by first | rfl | (simp; done) | (simp [*]; done)), H', ⟨Nat.le_refl _⟩, ⟨by (with_reducible repeat (first | apply Kd.N_alloc | apply Kd.N_drewN | apply Kd.N_drew)); exact HO_7.out⟩, ⟨by (with_reducible repeat (first | refine blk_drewN ?_ _ | refine blk_drew ?_ | refine blk_alloc ?_ _)); exact BK241.out⟩, ⟨by repeat (first | (with_reducible first | exact HB.out | apply below_alloc | apply pw_below_drewN | apply below_drew1 | refine below_set ?_ GE241.out) | exact HB.out)⟩⟩
                case round =>
                  clear H'
                  try clear c1
                  try clear c2
                  try clear p2
                  try clear q2
                  try clear hx2
                  try clear c3
                  try clear c4
                  try clear c4b0
                  try clear c5
                  try clear c5b0
                  try clear c6
                  try clear c6b0
                  try clear c10
                  try clear c10b0
                  try clear c11
                  try clear c11b0
                  try clear hcz12_0
                  try clear hcz12_1
                  try clear hcz12_2
                  try clear hcz12_3
                  try clear hcz12_4
                  try clear hcz12_5
                  try clear hcz12_6
                  try clear hcz12_7
                  try clear hcz13_0
                  try clear hcz13_1
                  try clear hcz13_2
                  try clear hcz13_3
                  try clear hcz13_4
                  try clear hcz13_5
                  try clear hcz13_6
                  try clear hcz13_7
                  try clear hcz14_0
                  try clear hcz14_1
                  try clear hcz14_2
                  try clear hcz14_3
                  try clear hcz14_4
                  try clear hcz14_5
                  try clear hcz14_6
                  try clear hcz14_7
                  try clear hcz9_0
                  try clear hcz9_1
                  try clear hcz9_2
                  try clear hcz9_3
                  try clear hcz9_4
                  try clear hcz9_5
                  try clear hcz9_6
                  try clear hcz9_7
                  try clear hfz12_0
                  try clear hfz12_1
                  try clear hfz12_2
                  try clear hfz12_3
                  try clear hfz12_4
                  try clear hfz12_5
                  try clear hfz12_6
                  try clear hfz12_7
                  try clear hfz13_0
                  try clear hfz13_1
                  try clear hfz13_2
                  try clear hfz13_3
                  try clear hfz13_4
                  try clear hfz13_5
                  try clear hfz13_6
                  try clear hfz13_7
                  try clear hfz14_0
                  try clear hfz14_1
                  try clear hfz14_2
                  try clear hfz14_3
                  try clear hfz14_4
                  try clear hfz14_5
                  try clear hfz14_6
                  try clear hfz14_7
                  try clear hfz9_0
                  try clear hfz9_1
                  try clear hfz9_2
                  try clear hfz9_3
                  try clear hfz9_4
                  try clear hfz9_5
                  try clear hfz9_6
                  try clear hfz9_7
                  try clear hx240_0
                  try clear hx240_1
                  try clear hx240_2
                  try clear hx240_3
                  try clear hx240_4
                  try clear hx240_5
                  try clear hx240_6
                  try clear hx240_7
                  try clear p2
                  try clear p240
                  try clear q2
                  try clear q240
                  obtain ⟨x10_3, x40_3, rfl, rfl, HA, HK3, HO_7, BK241, HB⟩ := hrel
                  cases gk with
                  | zero => exact absurd HA.out (by simp [dryrotref16_Live.l1])
                  | succ k3 =>
                    have H := HA.out
                    clear HA
                    simp only [dryrotref16_Live.l1] at H
                    by_cases c15 : x40_3 < (l0.length : Int)
                    · rw [if_pos c15] at H
                      have c15b0 : decide (x40_3 < (l0.length : Int)) = true := decide_eq_true c15
                      clear c15
                      by_cases c16 : 0 ≤ x40_3
                      · rw [if_pos c16] at H
                        have c16b0 : decide (0 ≤ x40_3) = true := decide_eq_true c16
                        clear c16
                        by_cases c17 : x40_3 < (l0.length : Int)
                        · rw [if_pos c17] at H
                          have c17b0 : decide (x40_3 < (l0.length : Int)) = true := decide_eq_true c17
                          clear c17
                          have H' := Aside0.mk H
                          clear H
                          have p242 : 0 ≤ (x40_3 : Int) := of_decide_eq_true (by first | (with_reducible assumption) | assumption)
                          have q242 : x40_3 < (l0.length : Int) := of_decide_eq_true (by first | (with_reducible assumption) | assumption)
                          obtain ⟨ad242, A242_7, c242_7, e242, hx242_0, hx242_1, hx242_2, hx242_3, hx242_4, hx242_5, hx242_6, hx242_7, hl242_7, hi242_7⟩ := at_T30 HR0.out x40_3 p242 q242
                          obtain rfl : ad240 = ad242 := (by injection e242)
                          replace hx242_0 := (HB.out.cell (World.block_lt_of_cell? w _ hx242_0)).trans hx242_0
                          replace hx242_1 := (HB.out.cell (World.block_lt_of_cell? w _ hx242_1)).trans hx242_1
                          replace hx242_2 := (HB.out.cell (World.block_lt_of_cell? w _ hx242_2)).trans hx242_2
                          replace hx242_3 := (HB.out.cell (World.block_lt_of_cell? w _ hx242_3)).trans hx242_3
                          replace hx242_4 := (HB.out.cell (World.block_lt_of_cell? w _ hx242_4)).trans hx242_4
                          replace hx242_5 := (HB.out.cell (World.block_lt_of_cell? w _ hx242_5)).trans hx242_5
                          replace hx242_6 := (HB.out.cell (World.block_lt_of_cell? w _ hx242_6)).trans hx242_6
                          replace hx242_7 := (HB.out.cell (World.block_lt_of_cell? w _ hx242_7)).trans hx242_7
                          have HR242_7 := Aside0.mk hi242_7
                          have HC242_7 := Aside0.mk hl242_7
                          clear hi242_7 hl242_7
                          replace p242 := eq_true p242
                          replace q242 := eq_true q242
                          go_wp2_with (first | ((with_reducible refine gate_dst (N := 12) rfl ?_); refine box_event ?hg (N := 12) ?hd (cs := #[.int .i64 0, .int .i64 0, .int .i64 0, .int .i64 0, .int .i64 0, .int .i64 0, .int .i64 0, .slice none 0 0]) (t := 30) ?hr ?_; (case hd => rfl); (case hg => rfl); (case hr => first | (go_simp; done) | (go_simp; rfl)); intro gb243 hg w18 hbox hb; have n0_ := Aside0.mk (Kd.N_below (Kd.N_elderB (by (with_reducible repeat (first | apply Kd.N_alloc | apply Kd.N_drewN | apply Kd.N_drew)); exact HO_7.out) gb243 (Nat.le_of_eq hg.symm)) hb); have n1_ := Aside0.mk (blk_below (g := gb241) (o := .cells #[.int .i64 ((rd_T30 l0 x18_1).f0), .int .i64 ((rd_T30 l0 x18_1).f1), .int .i64 ((rd_T30 l0 x18_1).f2), .int .i64 ((rd_T30 l0 x18_1).f3), .int .i64 ((rd_T30 l0 x18_1).f4), .int .i64 ((rd_T30 l0 x18_1).f5), .int .i64 ((rd_T30 l0 x18_1).f6), .slice A240_7 ((rd_T30 l0 x18_1).f7).length c240_7] 30 (0, 0)) (by (with_reducible repeat (first | refine blk_drewN ?_ _ | refine blk_drew ?_ | refine blk_alloc ?_ _)); exact BK241.out) hb); have n2_ := Aside0.mk (below_step (by repeat (first | (with_reducible first | exact HB.out | apply below_alloc | apply pw_below_drewN | apply below_drew1 | refine below_set ?_ GE241.out) | exact HB.out)) hb); have n3_ := Aside0.mk (hbox); have n4_ := Aside0.mk ((by rw [hg]; exact (below_size (by repeat (first | (with_reducible first | exact HB.out | apply below_alloc | apply pw_below_drewN | apply below_drew1 | refine below_set ?_ GE241.out) | exact HB.out))) : w.heap.size ≤ gb243)); have n5_ := Aside0.mk ((by rw [hg]; exact (below_size (by repeat (first | (with_reducible first | exact HB.out | apply below_alloc | apply pw_below_drewN | apply below_drew1 | refine below_set ?_ GE241.out) | exact HB.out))) : w.heap.size ≤ gb243)); have n6_ := Aside0.mk ((by rw [hg]; exact Nat.ne_of_lt (blk_lt (g := gb241) (o := .cells #[.int .i64 ((rd_T30 l0 x18_1).f0), .int .i64 ((rd_T30 l0 x18_1).f1), .int .i64 ((rd_T30 l0 x18_1).f2), .int .i64 ((rd_T30 l0 x18_1).f3), .int .i64 ((rd_T30 l0 x18_1).f4), .int .i64 ((rd_T30 l0 x18_1).f5), .int .i64 ((rd_T30 l0 x18_1).f6), .slice A240_7 ((rd_T30 l0 x18_1).f7).length c240_7] 30 (0, 0)) (by (with_reducible repeat (first | refine blk_drewN ?_ _ | refine blk_drew ?_ | refine blk_alloc ?_ _)); exact BK241.out)) : gb241 ≠ gb243)); have n7_ := Aside0.mk ((by rw [hg]; exact Nat.ne_of_gt (blk_lt (g := gb241) (o := .cells #[.int .i64 ((rd_T30 l0 x18_1).f0), .int .i64 ((rd_T30 l0 x18_1).f1), .int .i64 ((rd_T30 l0 x18_1).f2), .int .i64 ((rd_T30 l0 x18_1).f3), .int .i64 ((rd_T30 l0 x18_1).f4), .int .i64 ((rd_T30 l0 x18_1).f5), .int .i64 ((rd_T30 l0 x18_1).f6), .slice A240_7 ((rd_T30 l0 x18_1).f7).length c240_7] 30 (0, 0)) (by (with_reducible repeat (first | refine blk_drewN ?_ _ | refine blk_drew ?_ | refine blk_alloc ?_ _)); exact BK241.out)) : gb243 ≠ gb241)); clear HO_7; clear BK241; clear HB; have HO_7 := n0_; have BK241 := n1_; have HB := n2_; have BK243 := n3_; have GW243 := n4_; have GE243 := n5_; have NB241_243 := n6_; have NB243_241 := n7_; clear n0_ n1_ n2_ n3_ n4_ n5_ n6_ n7_; clear hb hbox hg; have hnb19 := NB243_241.out; have hnc19 := NB241_243.out; have hcz20_0 : w18.cell? ⟨gb243, 0, none⟩ = some (.int .i64 0) := (blk_cell BK243.out 0).trans rfl; have hcz20_1 : w18.cell? ⟨gb243, 1, none⟩ = some (.int .i64 0) := (blk_cell BK243.out 1).trans rfl; have hcz20_2 : w18.cell? ⟨gb243, 2, none⟩ = some (.int .i64 0) := (blk_cell BK243.out 2).trans rfl; have hcz20_3 : w18.cell? ⟨gb243, 3, none⟩ = some (.int .i64 0) := (blk_cell BK243.out 3).trans rfl; have hcz20_4 : w18.cell? ⟨gb243, 4, none⟩ = some (.int .i64 0) := (blk_cell BK243.out 4).trans rfl; have hcz20_5 : w18.cell? ⟨gb243, 5, none⟩ = some (.int .i64 0) := (blk_cell BK243.out 5).trans rfl; have hcz20_6 : w18.cell? ⟨gb243, 6, none⟩ = some (.int .i64 0) := (blk_cell BK243.out 6).trans rfl; have hcz20_7 : w18.cell? ⟨gb243, 7, none⟩ = some (.slice none 0 0) := (blk_cell BK243.out 7).trans rfl; have hfz20_0 := blk_frozen BK243.out 0; have hfz20_1 := blk_frozen BK243.out 1; have hfz20_2 := blk_frozen BK243.out 2; have hfz20_3 := blk_frozen BK243.out 3; have hfz20_4 := blk_frozen BK243.out 4; have hfz20_5 := blk_frozen BK243.out 5; have hfz20_6 := blk_frozen BK243.out 6; have hfz20_7 := blk_frozen BK243.out 7))
                          go_loopg [10, 48] k3 (fun kq v10 v48 w' => ∃ (x10_4 : Bool) (x48_4 : Int), v10 = .bool x10_4 ∧ v48 = .int .i64 x48_4 ∧ Aside0 (dryrotref16_Live.l2 kq l0 a1 a2 x7_1 x18_1 x10_4 x40_3 l0 (l0.length : Int) x18_1 l0 (l0.length : Int) x40_3 ((rd_T30 l0 x40_3).f7) (((rd_T30 l0 x40_3).f7).length : Int) x48_4 ((rd_T30 l0 x18_1).f0) ((rd_T30 l0 x18_1).f1) ((rd_T30 l0 x18_1).f2) ((rd_T30 l0 x18_1).f3) ((rd_T30 l0 x18_1).f4) ((rd_T30 l0 x18_1).f5) ((rd_T30 l0 x18_1).f6) ((rd_T30 l0 x18_1).f7) ((rd_T30 l0 x40_3).f0) ((rd_T30 l0 x40_3).f1) ((rd_T30 l0 x40_3).f2) ((rd_T30 l0 x40_3).f3) ((rd_T30 l0 x40_3).f4) ((rd_T30 l0 x40_3).f5) ((rd_T30 l0 x40_3).f6) ((rd_T30 l0 x40_3).f7) = some r) ∧ Aside0 (kq ≤ k3) ∧ Aside0 (Kd.N k30 30 w' w.heap.size (fun k_ => (w.heap.size ≤ k_) ∧ k_ ≠ gb241 ∧ k_ ≠ gb243) u7 x7_1) ∧ Aside0 (w'.heap[gb241]? = some (.cells #[.int .i64 ((rd_T30 l0 x18_1).f0), .int .i64 ((rd_T30 l0 x18_1).f1), .int .i64 ((rd_T30 l0 x18_1).f2), .int .i64 ((rd_T30 l0 x18_1).f3), .int .i64 ((rd_T30 l0 x18_1).f4), .int .i64 ((rd_T30 l0 x18_1).f5), .int .i64 ((rd_T30 l0 x18_1).f6), (.slice A240_7 ((rd_T30 l0 x18_1).f7).length c240_7)] 30 (0, 0))) ∧ Aside0 (w'.heap[gb243]? = some (.cells #[.int .i64 ((rd_T30 l0 x40_3).f0), .int .i64 ((rd_T30 l0 x40_3).f1), .int .i64 ((rd_T30 l0 x40_3).f2), .int .i64 ((rd_T30 l0 x40_3).f3), .int .i64 ((rd_T30 l0 x40_3).f4), .int .i64 ((rd_T30 l0 x40_3).f5), .int .i64 ((rd_T30 l0 x40_3).f6), (.slice A242_7 ((rd_T30 l0 x40_3).f7).length c242_7)] 30 (0, 0))) ∧ Aside0 (Below w.heap.size w w'))
                          case atStart => exact ⟨(x10_3), (0), (by first | rfl | (simp; done) | (simp [*]; done)), (by first | rfl | (simp; done) | (simp [*]; done)), H', ⟨Nat.le_refl _⟩, ⟨by (with_reducible repeat (first | apply Kd.N_alloc | apply Kd.N_drewN | apply Kd.N_drew)); exact Kd.N_mono (Kd.N_far (p := ⟨gb243, 7, none⟩) (Kd.N_far (p := ⟨gb243, 6, none⟩) (Kd.N_far (p := ⟨gb243, 5, none⟩) (Kd.N_far (p := ⟨gb243, 4, none⟩) (Kd.N_far (p := ⟨gb243, 3, none⟩) (Kd.N_far (p := ⟨gb243, 2, none⟩) (Kd.N_far (p := ⟨gb243, 1, none⟩) (Kd.N_far (p := ⟨gb243, 0, none⟩) (Kd.N_mono HO_7.out (fun k_ hk => (⟨hk, hk.2⟩ : _ ∧ k_ ≠ gb243))) (fun _ hk => hk.2) (.int .i64 ((rd_T30 l0 x40_3).f0))) (fun _ hk => hk.2) (.int .i64 ((rd_T30 l0 x40_3).f1))) (fun _ hk => hk.2) (.int .i64 ((rd_T30 l0 x40_3).f2))) (fun _ hk => hk.2) (.int .i64 ((rd_T30 l0 x40_3).f3))) (fun _ hk => hk.2) (.int .i64 ((rd_T30 l0 x40_3).f4))) (fun _ hk => hk.2) (.int .i64 ((rd_T30 l0 x40_3).f5))) (fun _ hk => hk.2) (.int .i64 ((rd_T30 l0 x40_3).f6))) (fun _ hk => hk.2) (.slice A242_7 ((rd_T30 l0 x40_3).f7).length c242_7)) (fun _ hk => ⟨hk.1.1.1, ⟨hk.1.1.2, hk.1.2⟩⟩)⟩, ⟨by (with_reducible repeat (first | refine blk_drewN ?_ _ | refine blk_drew ?_ | refine blk_alloc ?_ _)); refine blk_far ?_ NB241_243.out _; (with_reducible repeat (first | refine blk_drewN ?_ _ | refine blk_drew ?_ | refine blk_alloc ?_ _)); refine blk_far ?_ NB241_243.out _; (with_reducible repeat (first | refine blk_drewN ?_ _ | refine blk_drew ?_ | refine blk_alloc ?_ _)); refine blk_far ?_ NB241_243.out _; (with_reducible repeat (first | refine blk_drewN ?_ _ | refine blk_drew ?_ | refine blk_alloc ?_ _)); refine blk_far ?_ NB241_243.out _; (with_reducible repeat (first | refine blk_drewN ?_ _ | refine blk_drew ?_ | refine blk_alloc ?_ _)); refine blk_far ?_ NB241_243.out _; (with_reducible repeat (first | refine blk_drewN ?_ _ | refine blk_drew ?_ | refine blk_alloc ?_ _)); refine blk_far ?_ NB241_243.out _; (with_reducible repeat (first | refine blk_drewN ?_ _ | refine blk_drew ?_ | refine blk_alloc ?_ _)); refine blk_far ?_ NB241_243.out _; (with_reducible repeat (first | refine blk_drewN ?_ _ | refine blk_drew ?_ | refine blk_alloc ?_ _)); refine blk_far ?_ NB241_243.out _; (with_reducible repeat (first | refine blk_drewN ?_ _ | refine blk_drew ?_ | refine blk_alloc ?_ _)); exact BK241.out⟩, ⟨by (with_reducible repeat (first | refine blk_drewN ?_ _ | refine blk_drew ?_ | refine blk_alloc ?_ _)); refine blk_put (cs := #[.int .i64 ((rd_T30 l0 x40_3).f0), .int .i64 ((rd_T30 l0 x40_3).f1), .int .i64 ((rd_T30 l0 x40_3).f2), .int .i64 ((rd_T30 l0 x40_3).f3), .int .i64 ((rd_T30 l0 x40_3).f4), .int .i64 ((rd_T30 l0 x40_3).f5), .int .i64 ((rd_T30 l0 x40_3).f6), .slice none 0 0]) ?_ 7 _ rfl; (with_reducible repeat (first | refine blk_drewN ?_ _ | refine blk_drew ?_ | refine blk_alloc ?_ _)); refine blk_put (cs := #[.int .i64 ((rd_T30 l0 x40_3).f0), .int .i64 ((rd_T30 l0 x40_3).f1), .int .i64 ((rd_T30 l0 x40_3).f2), .int .i64 ((rd_T30 l0 x40_3).f3), .int .i64 ((rd_T30 l0 x40_3).f4), .int .i64 ((rd_T30 l0 x40_3).f5), .int .i64 0, .slice none 0 0]) ?_ 6 _ rfl; (with_reducible repeat (first | refine blk_drewN ?_ _ | refine blk_drew ?_ | refine blk_alloc ?_ _)); refine blk_put (cs := #[.int .i64 ((rd_T30 l0 x40_3).f0), .int .i64 ((rd_T30 l0 x40_3).f1), .int .i64 ((rd_T30 l0 x40_3).f2), .int .i64 ((rd_T30 l0 x40_3).f3), .int .i64 ((rd_T30 l0 x40_3).f4), .int .i64 0, .int .i64 0, .slice none 0 0]) ?_ 5 _ rfl; (with_reducible repeat (first | refine blk_drewN ?_ _ | refine blk_drew ?_ | refine blk_alloc ?_ _)); refine blk_put (cs := #[.int .i64 ((rd_T30 l0 x40_3).f0), .int .i64 ((rd_T30 l0 x40_3).f1), .int .i64 ((rd_T30 l0 x40_3).f2), .int .i64 ((rd_T30 l0 x40_3).f3), .int .i64 0, .int .i64 0, .int .i64 0, .slice none 0 0]) ?_ 4 _ rfl; (with_reducible repeat (first | refine blk_drewN ?_ _ | refine blk_drew ?_ | refine blk_alloc ?_ _)); refine blk_put (cs := #[.int .i64 ((rd_T30 l0 x40_3).f0), .int .i64 ((rd_T30 l0 x40_3).f1), .int .i64 ((rd_T30 l0 x40_3).f2), .int .i64 0, .int .i64 0, .int .i64 0, .int .i64 0, .slice none 0 0]) ?_ 3 _ rfl; (with_reducible repeat (first | refine blk_drewN ?_ _ | refine blk_drew ?_ | refine blk_alloc ?_ _)); refine blk_put (cs := #[.int .i64 ((rd_T30 l0 x40_3).f0), .int .i64 ((rd_T30 l0 x40_3).f1), .int .i64 0, .int .i64 0, .int .i64 0, .int .i64 0, .int .i64 0, .slice none 0 0]) ?_ 2 _ rfl; (with_reducible repeat (first | refine blk_drewN ?_ _ | refine blk_drew ?_ | refine blk_alloc ?_ _)); refine blk_put (cs := #[.int .i64 ((rd_T30 l0 x40_3).f0), .int .i64 0, .int .i64 0, .int .i64 0, .int .i64 0, .int .i64 0, .int .i64 0, .slice none 0 0]) ?_ 1 _ rfl; (with_reducible repeat (first | refine blk_drewN ?_ _ | refine blk_drew ?_ | refine blk_alloc ?_ _)); refine blk_put (cs := #[.int .i64 0, .int .i64 0, .int .i64 0, .int .i64 0, .int .i64 0, .int .i64 0, .int .i64 0, .slice none 0 0]) ?_ 0 _ rfl; (with_reducible repeat (first | refine blk_drewN ?_ _ | refine blk_drew ?_ | refine blk_alloc ?_ _)); exact BK243.out⟩, ⟨by repeat (first | (with_reducible first | exact HB.out | apply below_alloc | apply pw_below_drewN | apply below_drew1 | refine below_set ?_ GE241.out | refine below_set ?_ GE243.out) | exact HB.out)⟩⟩
                          case round =>
                            clear H'
                            try clear c1
                            try clear c2
                            try clear p2
                            try clear q2
                            try clear hx2
                            try clear c3
                            try clear c4
                            try clear c4b0
                            try clear c5
                            try clear c5b0
                            try clear c6
                            try clear c6b0
                            try clear c10
                            try clear c10b0
                            try clear c11
                            try clear c11b0
                            try clear c15
                            try clear c15b0
                            try clear c16
                            try clear c16b0
                            try clear c17
                            try clear c17b0
                            try clear c19
                            try clear hcz12_0
                            try clear hcz12_1
                            try clear hcz12_2
                            try clear hcz12_3
                            try clear hcz12_4
                            try clear hcz12_5
                            try clear hcz12_6
                            try clear hcz12_7
                            try clear hcz13_0
                            try clear hcz13_1
                            try clear hcz13_2
                            try clear hcz13_3
                            try clear hcz13_4
                            try clear hcz13_5
                            try clear hcz13_6
                            try clear hcz13_7
                            try clear hcz14_0
                            try clear hcz14_1
                            try clear hcz14_2
                            try clear hcz14_3
                            try clear hcz14_4
                            try clear hcz14_5
                            try clear hcz14_6
                            try clear hcz14_7
                            try clear hcz20_0
                            try clear hcz20_1
                            try clear hcz20_2
                            try clear hcz20_3
                            try clear hcz20_4
                            try clear hcz20_5
                            try clear hcz20_6
                            try clear hcz20_7
                            try clear hcz9_0
                            try clear hcz9_1
                            try clear hcz9_2
                            try clear hcz9_3
                            try clear hcz9_4
                            try clear hcz9_5
                            try clear hcz9_6
                            try clear hcz9_7
                            try clear hfz12_0
                            try clear hfz12_1
                            try clear hfz12_2
                            try clear hfz12_3
                            try clear hfz12_4
                            try clear hfz12_5
                            try clear hfz12_6
                            try clear hfz12_7
                            try clear hfz13_0
                            try clear hfz13_1
                            try clear hfz13_2
                            try clear hfz13_3
                            try clear hfz13_4
                            try clear hfz13_5
                            try clear hfz13_6
                            try clear hfz13_7
                            try clear hfz14_0
                            try clear hfz14_1
                            try clear hfz14_2
                            try clear hfz14_3
                            try clear hfz14_4
                            try clear hfz14_5
                            try clear hfz14_6
                            try clear hfz14_7
                            try clear hfz20_0
                            try clear hfz20_1
                            try clear hfz20_2
                            try clear hfz20_3
                            try clear hfz20_4
                            try clear hfz20_5
                            try clear hfz20_6
                            try clear hfz20_7
                            try clear hfz9_0
                            try clear hfz9_1
                            try clear hfz9_2
                            try clear hfz9_3
                            try clear hfz9_4
                            try clear hfz9_5
                            try clear hfz9_6
                            try clear hfz9_7
                            try clear hx240_0
                            try clear hx240_1
                            try clear hx240_2
                            try clear hx240_3
                            try clear hx240_4
                            try clear hx240_5
                            try clear hx240_6
                            try clear hx240_7
                            try clear hx242_0
                            try clear hx242_1
                            try clear hx242_2
                            try clear hx242_3
                            try clear hx242_4
                            try clear hx242_5
                            try clear hx242_6
                            try clear hx242_7
                            try clear p2
                            try clear p240
                            try clear p242
                            try clear q2
                            try clear q240
                            try clear q242
                            obtain ⟨x10_4, x48_4, rfl, rfl, HA, HK4, HO_7, BK241, BK243, HB⟩ := hrel
                            cases gk with
                            | zero => exact absurd HA.out (by simp [dryrotref16_Live.l2])
                            | succ k4 =>
                              have H := HA.out
                              clear HA
                              simp only [dryrotref16_Live.l2] at H
                              by_cases c21 : x48_4 < (((rd_T30 l0 x40_3).f7).length : Int)
                              · rw [if_pos c21] at H
                                have c21b0 : decide (x48_4 < (((rd_T30 l0 x40_3).f7).length : Int)) = true := decide_eq_true c21
                                clear c21
                                by_cases c22 : 0 ≤ x48_4
                                · rw [if_pos c22] at H
                                  have c22b0 : decide (0 ≤ x48_4) = true := decide_eq_true c22
                                  clear c22
                                  by_cases c23 : x48_4 < (((rd_T30 l0 x40_3).f7).length : Int)
                                  · rw [if_pos c23] at H
                                    have c23b0 : decide (x48_4 < (((rd_T30 l0 x40_3).f7).length : Int)) = true := decide_eq_true c23
                                    clear c23
                                    by_cases c24 : x10_4 = true
                                    · subst c24
                                      have H1 : (if x40_3 = x18_1 then (dryrotref16_Live.l2 k4 l0 a1 a2 x7_1 x18_1 (!false) x40_3 l0 (l0.length : Int) x18_1 l0 (l0.length : Int) x40_3 ((rd_T30 l0 x40_3).f7) (((rd_T30 l0 x40_3).f7).length : Int) (wrap64 (x48_4 + 1)) ((rd_T30 l0 x18_1).f0) ((rd_T30 l0 x18_1).f1) ((rd_T30 l0 x18_1).f2) ((rd_T30 l0 x18_1).f3) ((rd_T30 l0 x18_1).f4) ((rd_T30 l0 x18_1).f5) ((rd_T30 l0 x18_1).f6) ((rd_T30 l0 x18_1).f7) ((rd_T30 l0 x40_3).f0) ((rd_T30 l0 x40_3).f1) ((rd_T30 l0 x40_3).f2) ((rd_T30 l0 x40_3).f3) ((rd_T30 l0 x40_3).f4) ((rd_T30 l0 x40_3).f5) ((rd_T30 l0 x40_3).f6) ((rd_T30 l0 x40_3).f7)) else (if ((rd_T30 l0 x40_3).f1) ≤ a1 then (dryrotref16_Live.l2 k4 l0 a1 a2 x7_1 x18_1 (!((rd ((rd_T30 l0 x40_3).f7) x48_4) == ((rd_T30 l0 x18_1).f0))) x40_3 l0 (l0.length : Int) x18_1 l0 (l0.length : Int) x40_3 ((rd_T30 l0 x40_3).f7) (((rd_T30 l0 x40_3).f7).length : Int) (wrap64 (x48_4 + 1)) ((rd_T30 l0 x18_1).f0) ((rd_T30 l0 x18_1).f1) ((rd_T30 l0 x18_1).f2) ((rd_T30 l0 x18_1).f3) ((rd_T30 l0 x18_1).f4) ((rd_T30 l0 x18_1).f5) ((rd_T30 l0 x18_1).f6) ((rd_T30 l0 x18_1).f7) ((rd_T30 l0 x40_3).f0) ((rd_T30 l0 x40_3).f1) ((rd_T30 l0 x40_3).f2) ((rd_T30 l0 x40_3).f3) ((rd_T30 l0 x40_3).f4) ((rd_T30 l0 x40_3).f5) ((rd_T30 l0 x40_3).f6) ((rd_T30 l0 x40_3).f7)) else (dryrotref16_Live.l2 k4 l0 a1 a2 x7_1 x18_1 (!false) x40_3 l0 (l0.length : Int) x18_1 l0 (l0.length : Int) x40_3 ((rd_T30 l0 x40_3).f7) (((rd_T30 l0 x40_3).f7).length : Int) (wrap64 (x48_4 + 1)) ((rd_T30 l0 x18_1).f0) ((rd_T30 l0 x18_1).f1) ((rd_T30 l0 x18_1).f2) ((rd_T30 l0 x18_1).f3) ((rd_T30 l0 x18_1).f4) ((rd_T30 l0 x18_1).f5) ((rd_T30 l0 x18_1).f6) ((rd_T30 l0 x18_1).f7) ((rd_T30 l0 x40_3).f0) ((rd_T30 l0 x40_3).f1) ((rd_T30 l0 x40_3).f2) ((rd_T30 l0 x40_3).f3) ((rd_T30 l0 x40_3).f4) ((rd_T30 l0 x40_3).f5) ((rd_T30 l0 x40_3).f6) ((rd_T30 l0 x40_3).f7)))) = some r := by rw [if_pos rfl] at H; exact H
                                      clear H
                                      have H := H1
                                      clear H1
                                      by_cases c25 : x40_3 = x18_1
                                      · rw [if_pos c25] at H
                                        have c25b0 : (x40_3 == x18_1) = true := beq_iff_eq.mpr c25
                                        have c25b1 : (x40_3 != x18_1) = false := bne_eq_false_iff_eq.mpr c25
                                        clear c25
                                        have H' := Aside0.mk H
                                        clear H
                                        have p244 : 0 ≤ (x48_4 : Int) := of_decide_eq_true (by first | (with_reducible assumption) | assumption)
                                        have q244 : x48_4 < (((rd_T30 l0 x40_3).f7).length : Int) := of_decide_eq_true (by first | (with_reducible assumption) | assumption)
                                        obtain ⟨ad244, e244, hx244_0⟩ := Kd.at_int HR242_7.out x48_4 p244 q244
                                        cases e244
                                        replace hx244_0 := (HB.out.cell (World.block_lt_of_cell? w _ hx244_0)).trans hx244_0
                                        replace p244 := eq_true p244
                                        replace q244 := eq_true q244
                                        go_wp2
                                        go_roundg k4
                                        case measure => have := HK1.out; have := HJ6.out; have := HK3.out; have := HK4.out; omega
                                        case rel => exact ⟨(!false), (wrap64 (x48_4 + 1)), (by first | rfl | (simp; done) | (simp [*]; done)), (by first | rfl | (simp; done) | (simp [*]; done)), H', ⟨by have := HK1.out; have := HJ6.out; have := HK3.out; have := HK4.out; omega⟩, ⟨by (with_reducible repeat (first | apply Kd.N_alloc | apply Kd.N_drewN | apply Kd.N_drew)); exact HO_7.out⟩, ⟨by (with_reducible repeat (first | refine blk_drewN ?_ _ | refine blk_drew ?_ | refine blk_alloc ?_ _)); exact BK241.out⟩, ⟨by (with_reducible repeat (first | refine blk_drewN ?_ _ | refine blk_drew ?_ | refine blk_alloc ?_ _)); exact BK243.out⟩, ⟨by repeat (first | (with_reducible first | exact HB.out | apply below_alloc | apply pw_below_drewN | apply below_drew1 | refine below_set ?_ GE241.out | refine below_set ?_ GE243.out) | exact HB.out)⟩⟩
                                      · rw [if_neg c25] at H
                                        have c25b0 : (x40_3 == x18_1) = false := beq_eq_false_iff_ne.mpr c25
                                        have c25b1 : (x40_3 != x18_1) = true := bne_iff_ne.mpr c25
                                        by_cases c26 : ((rd_T30 l0 x40_3).f1) ≤ a1
                                        · rw [if_pos c26] at H
                                          have c26b0 : decide (((rd_T30 l0 x40_3).f1) ≤ a1) = true := decide_eq_true c26
                                          clear c26
                                          have H' := Aside0.mk H
                                          clear H
                                          have p244 : 0 ≤ (x48_4 : Int) := of_decide_eq_true (by first | (with_reducible assumption) | assumption)
                                          have q244 : x48_4 < (((rd_T30 l0 x40_3).f7).length : Int) := of_decide_eq_true (by first | (with_reducible assumption) | assumption)
                                          obtain ⟨ad244, e244, hx244_0⟩ := Kd.at_int HR242_7.out x48_4 p244 q244
                                          cases e244
                                          replace hx244_0 := (HB.out.cell (World.block_lt_of_cell? w _ hx244_0)).trans hx244_0
                                          replace p244 := eq_true p244
                                          replace q244 := eq_true q244
                                          have hnb27 := NB243_241.out
                                          have hnc27 := NB241_243.out
                                          have hcz28_0 : wr.cell? ⟨gb243, 0, none⟩ = some (.int .i64 ((rd_T30 l0 x40_3).f0)) := (blk_cell BK243.out 0).trans rfl
                                          have hcz28_1 : wr.cell? ⟨gb243, 1, none⟩ = some (.int .i64 ((rd_T30 l0 x40_3).f1)) := (blk_cell BK243.out 1).trans rfl
                                          have hcz28_2 : wr.cell? ⟨gb243, 2, none⟩ = some (.int .i64 ((rd_T30 l0 x40_3).f2)) := (blk_cell BK243.out 2).trans rfl
                                          have hcz28_3 : wr.cell? ⟨gb243, 3, none⟩ = some (.int .i64 ((rd_T30 l0 x40_3).f3)) := (blk_cell BK243.out 3).trans rfl
                                          have hcz28_4 : wr.cell? ⟨gb243, 4, none⟩ = some (.int .i64 ((rd_T30 l0 x40_3).f4)) := (blk_cell BK243.out 4).trans rfl
                                          have hcz28_5 : wr.cell? ⟨gb243, 5, none⟩ = some (.int .i64 ((rd_T30 l0 x40_3).f5)) := (blk_cell BK243.out 5).trans rfl
                                          have hcz28_6 : wr.cell? ⟨gb243, 6, none⟩ = some (.int .i64 ((rd_T30 l0 x40_3).f6)) := (blk_cell BK243.out 6).trans rfl
                                          have hcz28_7 : wr.cell? ⟨gb243, 7, none⟩ = some (.slice (some ad244) ((rd_T30 l0 x40_3).f7).length c242_7) := (blk_cell BK243.out 7).trans rfl
                                          have hfz28_0 := blk_frozen BK243.out 0
                                          have hfz28_1 := blk_frozen BK243.out 1
                                          have hfz28_2 := blk_frozen BK243.out 2
                                          have hfz28_3 := blk_frozen BK243.out 3
                                          have hfz28_4 := blk_frozen BK243.out 4
                                          have hfz28_5 := blk_frozen BK243.out 5
                                          have hfz28_6 := blk_frozen BK243.out 6
                                          have hfz28_7 := blk_frozen BK243.out 7
                                          have hcz29_0 : wr.cell? ⟨gb241, 0, none⟩ = some (.int .i64 ((rd_T30 l0 x18_1).f0)) := (blk_cell BK241.out 0).trans rfl
                                          have hcz29_1 : wr.cell? ⟨gb241, 1, none⟩ = some (.int .i64 ((rd_T30 l0 x18_1).f1)) := (blk_cell BK241.out 1).trans rfl
                                          have hcz29_2 : wr.cell? ⟨gb241, 2, none⟩ = some (.int .i64 ((rd_T30 l0 x18_1).f2)) := (blk_cell BK241.out 2).trans rfl
                                          have hcz29_3 : wr.cell? ⟨gb241, 3, none⟩ = some (.int .i64 ((rd_T30 l0 x18_1).f3)) := (blk_cell BK241.out 3).trans rfl
                                          have hcz29_4 : wr.cell? ⟨gb241, 4, none⟩ = some (.int .i64 ((rd_T30 l0 x18_1).f4)) := (blk_cell BK241.out 4).trans rfl
                                          have hcz29_5 : wr.cell? ⟨gb241, 5, none⟩ = some (.int .i64 ((rd_T30 l0 x18_1).f5)) := (blk_cell BK241.out 5).trans rfl
                                          have hcz29_6 : wr.cell? ⟨gb241, 6, none⟩ = some (.int .i64 ((rd_T30 l0 x18_1).f6)) := (blk_cell BK241.out 6).trans rfl
                                          have hcz29_7 : wr.cell? ⟨gb241, 7, none⟩ = some (.slice A240_7 ((rd_T30 l0 x18_1).f7).length c240_7) := (blk_cell BK241.out 7).trans rfl
                                          have hfz29_0 := blk_frozen BK241.out 0
                                          have hfz29_1 := blk_frozen BK241.out 1
                                          have hfz29_2 := blk_frozen BK241.out 2
                                          have hfz29_3 := blk_frozen BK241.out 3
                                          have hfz29_4 := blk_frozen BK241.out 4
                                          have hfz29_5 := blk_frozen BK241.out 5
                                          have hfz29_6 := blk_frozen BK241.out 6
                                          have hfz29_7 := blk_frozen BK241.out 7
                                          go_wp2
                                          go_roundg k4
                                          case measure => have := HK1.out; have := HJ6.out; have := HK3.out; have := HK4.out; omega
                                          case rel => exact ⟨(!((rd ((rd_T30 l0 x40_3).f7) x48_4) == ((rd_T30 l0 x18_1).f0))), (wrap64 (x48_4 + 1)), (by first | rfl | (simp; done) | (simp [*]; done)), (by first | rfl | (simp; done) | (simp [*]; done)), H', ⟨by have := HK1.out; have := HJ6.out; have := HK3.out; have := HK4.out; omega⟩, ⟨by (with_reducible repeat (first | apply Kd.N_alloc | apply Kd.N_drewN | apply Kd.N_drew)); exact HO_7.out⟩, ⟨by (with_reducible repeat (first | refine blk_drewN ?_ _ | refine blk_drew ?_ | refine blk_alloc ?_ _)); exact BK241.out⟩, ⟨by (with_reducible repeat (first | refine blk_drewN ?_ _ | refine blk_drew ?_ | refine blk_alloc ?_ _)); exact BK243.out⟩, ⟨by repeat (first | (with_reducible first | exact HB.out | apply below_alloc | apply pw_below_drewN | apply below_drew1 | refine below_set ?_ GE241.out | refine below_set ?_ GE243.out) | exact HB.out)⟩⟩
                                        · rw [if_neg c26] at H
                                          have c26b0 : decide (((rd_T30 l0 x40_3).f1) ≤ a1) = false := decide_eq_false c26
                                          clear c26
                                          have H' := Aside0.mk H
                                          clear H
                                          have p244 : 0 ≤ (x48_4 : Int) := of_decide_eq_true (by first | (with_reducible assumption) | assumption)
                                          have q244 : x48_4 < (((rd_T30 l0 x40_3).f7).length : Int) := of_decide_eq_true (by first | (with_reducible assumption) | assumption)
                                          obtain ⟨ad244, e244, hx244_0⟩ := Kd.at_int HR242_7.out x48_4 p244 q244
                                          cases e244
                                          replace hx244_0 := (HB.out.cell (World.block_lt_of_cell? w _ hx244_0)).trans hx244_0
                                          replace p244 := eq_true p244
                                          replace q244 := eq_true q244
                                          have hnb30 := NB243_241.out
                                          have hnc30 := NB241_243.out
                                          have hcz31_0 : wr.cell? ⟨gb243, 0, none⟩ = some (.int .i64 ((rd_T30 l0 x40_3).f0)) := (blk_cell BK243.out 0).trans rfl
                                          have hcz31_1 : wr.cell? ⟨gb243, 1, none⟩ = some (.int .i64 ((rd_T30 l0 x40_3).f1)) := (blk_cell BK243.out 1).trans rfl
                                          have hcz31_2 : wr.cell? ⟨gb243, 2, none⟩ = some (.int .i64 ((rd_T30 l0 x40_3).f2)) := (blk_cell BK243.out 2).trans rfl
                                          have hcz31_3 : wr.cell? ⟨gb243, 3, none⟩ = some (.int .i64 ((rd_T30 l0 x40_3).f3)) := (blk_cell BK243.out 3).trans rfl
                                          have hcz31_4 : wr.cell? ⟨gb243, 4, none⟩ = some (.int .i64 ((rd_T30 l0 x40_3).f4)) := (blk_cell BK243.out 4).trans rfl
                                          have hcz31_5 : wr.cell? ⟨gb243, 5, none⟩ = some (.int .i64 ((rd_T30 l0 x40_3).f5)) := (blk_cell BK243.out 5).trans rfl
                                          have hcz31_6 : wr.cell? ⟨gb243, 6, none⟩ = some (.int .i64 ((rd_T30 l0 x40_3).f6)) := (blk_cell BK243.out 6).trans rfl
                                          have hcz31_7 : wr.cell? ⟨gb243, 7, none⟩ = some (.slice (some ad244) ((rd_T30 l0 x40_3).f7).length c242_7) := (blk_cell BK243.out 7).trans rfl
                                          have hfz31_0 := blk_frozen BK243.out 0
                                          have hfz31_1 := blk_frozen BK243.out 1
                                          have hfz31_2 := blk_frozen BK243.out 2
                                          have hfz31_3 := blk_frozen BK243.out 3
                                          have hfz31_4 := blk_frozen BK243.out 4
                                          have hfz31_5 := blk_frozen BK243.out 5
                                          have hfz31_6 := blk_frozen BK243.out 6
                                          have hfz31_7 := blk_frozen BK243.out 7
                                          go_wp2
                                          go_roundg k4
                                          case measure => have := HK1.out; have := HJ6.out; have := HK3.out; have := HK4.out; omega
                                          case rel => exact ⟨(!false), (wrap64 (x48_4 + 1)), (by first | rfl | (simp; done) | (simp [*]; done)), (by first | rfl | (simp; done) | (simp [*]; done)), H', ⟨by have := HK1.out; have := HJ6.out; have := HK3.out; have := HK4.out; omega⟩, ⟨by (with_reducible repeat (first | apply Kd.N_alloc | apply Kd.N_drewN | apply Kd.N_drew)); exact HO_7.out⟩, ⟨by (with_reducible repeat (first | refine blk_drewN ?_ _ | refine blk_drew ?_ | refine blk_alloc ?_ _)); exact BK241.out⟩, ⟨by (with_reducible repeat (first | refine blk_drewN ?_ _ | refine blk_drew ?_ | refine blk_alloc ?_ _)); exact BK243.out⟩, ⟨by repeat (first | (with_reducible first | exact HB.out | apply below_alloc | apply pw_below_drewN | apply below_drew1 | refine below_set ?_ GE241.out | refine below_set ?_ GE243.out) | exact HB.out)⟩⟩
                                    · replace c24 := Bool.eq_false_iff.mpr c24
                                      subst c24
                                      have H1 : (dryrotref16_Live.l2 k4 l0 a1 a2 x7_1 x18_1 false x40_3 l0 (l0.length : Int) x18_1 l0 (l0.length : Int) x40_3 ((rd_T30 l0 x40_3).f7) (((rd_T30 l0 x40_3).f7).length : Int) (wrap64 (x48_4 + 1)) ((rd_T30 l0 x18_1).f0) ((rd_T30 l0 x18_1).f1) ((rd_T30 l0 x18_1).f2) ((rd_T30 l0 x18_1).f3) ((rd_T30 l0 x18_1).f4) ((rd_T30 l0 x18_1).f5) ((rd_T30 l0 x18_1).f6) ((rd_T30 l0 x18_1).f7) ((rd_T30 l0 x40_3).f0) ((rd_T30 l0 x40_3).f1) ((rd_T30 l0 x40_3).f2) ((rd_T30 l0 x40_3).f3) ((rd_T30 l0 x40_3).f4) ((rd_T30 l0 x40_3).f5) ((rd_T30 l0 x40_3).f6) ((rd_T30 l0 x40_3).f7)) = some r := by rw [if_neg (show ¬ (false = true) by decide)] at H; exact H
                                      clear H
                                      have H := H1
                                      clear H1
                                      have H' := Aside0.mk H
                                      clear H
                                      have p244 : 0 ≤ (x48_4 : Int) := of_decide_eq_true (by first | (with_reducible assumption) | assumption)
                                      have q244 : x48_4 < (((rd_T30 l0 x40_3).f7).length : Int) := of_decide_eq_true (by first | (with_reducible assumption) | assumption)
                                      obtain ⟨ad244, e244, hx244_0⟩ := Kd.at_int HR242_7.out x48_4 p244 q244
                                      cases e244
                                      replace hx244_0 := (HB.out.cell (World.block_lt_of_cell? w _ hx244_0)).trans hx244_0
                                      replace p244 := eq_true p244
                                      replace q244 := eq_true q244
                                      go_wp2
                                      go_roundg k4
                                      case measure => have := HK1.out; have := HJ6.out; have := HK3.out; have := HK4.out; omega
                                      case rel => exact ⟨(false), (wrap64 (x48_4 + 1)), (by first | rfl | (simp; done) | (simp [*]; done)), (by first | rfl | (simp; done) | (simp [*]; done)), H', ⟨by have := HK1.out; have := HJ6.out; have := HK3.out; have := HK4.out; omega⟩, ⟨by (with_reducible repeat (first | apply Kd.N_alloc | apply Kd.N_drewN | apply Kd.N_drew)); exact HO_7.out⟩, ⟨by (with_reducible repeat (first | refine blk_drewN ?_ _ | refine blk_drew ?_ | refine blk_alloc ?_ _)); exact BK241.out⟩, ⟨by (with_reducible repeat (first | refine blk_drewN ?_ _ | refine blk_drew ?_ | refine blk_alloc ?_ _)); exact BK243.out⟩, ⟨by repeat (first | (with_reducible first | exact HB.out | apply below_alloc | apply pw_below_drewN | apply below_drew1 | refine below_set ?_ GE241.out | refine below_set ?_ GE243.out) | exact HB.out)⟩⟩
                                  · rw [if_neg c23] at H
                                    exact absurd H (by simp)
                                · rw [if_neg c22] at H
                                  exact absurd H (by simp)
                              · rw [if_neg c21] at H
                                have c21b0 : decide (x48_4 < (((rd_T30 l0 x40_3).f7).length : Int)) = false := decide_eq_false c21
                                clear c21
                                have H' := Aside0.mk H
                                clear H
                                go_wp2
                                go_roundg k4
                                case measure => have := HK1.out; have := HJ6.out; have := HK3.out; have := HK4.out; omega
                                case rel => exact ⟨(x10_4), (wrap64 (x40_3 + 1)), (by first | rfl | (simp; done) | (simp [*]; done)), (by first | rfl | (simp; done) | (simp [*]; done)), H', ⟨by have := HK1.out; have := HJ6.out; have := HK3.out; have := HK4.out; omega⟩, ⟨by (with_reducible repeat (first | apply Kd.N_alloc | apply Kd.N_drewN | apply Kd.N_drew)); exact Kd.N_mono HO_7.out (fun _ hk => ⟨hk.1, hk.2.1⟩)⟩, ⟨by (with_reducible repeat (first | refine blk_drewN ?_ _ | refine blk_drew ?_ | refine blk_alloc ?_ _)); exact BK241.out⟩, ⟨by repeat (first | (with_reducible first | exact HB.out | apply below_alloc | apply pw_below_drewN | apply below_drew1 | refine below_set ?_ GE241.out | refine below_set ?_ GE243.out) | exact HB.out)⟩⟩
                        · rw [if_neg c17] at H
                          exact absurd H (by simp)
                      · rw [if_neg c16] at H
                        exact absurd H (by simp)
                    · rw [if_neg c15] at H
                      have c15b0 : decide (x40_3 < (l0.length : Int)) = false := decide_eq_false c15
                      clear c15
                      by_cases c32 : x10_3 = true
                      · subst c32
                        have H1 : (dryrotref16_Live.l3 k3 l0 a1 a2 x7_1 (x7_1.length : Int) l0 (l0.length : Int) x18_1 ((rd_T30 l0 x18_1).f0) ((rd_T30 l0 x18_1).f1) ((rd_T30 l0 x18_1).f2) ((rd_T30 l0 x18_1).f3) ((rd_T30 l0 x18_1).f4) ((rd_T30 l0 x18_1).f5) ((rd_T30 l0 x18_1).f6) ((rd_T30 l0 x18_1).f7)) = some r := by rw [if_pos rfl] at H; exact H
                        clear H
                        have H := H1
                        clear H1
                        have H' := Aside0.mk H
                        clear H
                        obtain ⟨Ao33, co33, eo33⟩ := Kd.N_slice HO_7.out
                        subst eo33
                        go_wp2
                        go_loopg [15] k3 (fun kq v15 w' => ∃ (x15_4 : Int), v15 = .int .i64 x15_4 ∧ Aside0 (dryrotref16_Live.l3 kq l0 a1 a2 x7_1 x15_4 l0 (l0.length : Int) x18_1 ((rd_T30 l0 x18_1).f0) ((rd_T30 l0 x18_1).f1) ((rd_T30 l0 x18_1).f2) ((rd_T30 l0 x18_1).f3) ((rd_T30 l0 x18_1).f4) ((rd_T30 l0 x18_1).f5) ((rd_T30 l0 x18_1).f6) ((rd_T30 l0 x18_1).f7) = some r) ∧ Aside0 (kq ≤ k3) ∧ Aside0 (Kd.N k30 30 w' w.heap.size (fun k_ => (w.heap.size ≤ k_) ∧ k_ ≠ gb241) (.slice Ao33 x7_1.length co33) x7_1) ∧ Aside0 (w'.heap[gb241]? = some (.cells #[.int .i64 ((rd_T30 l0 x18_1).f0), .int .i64 ((rd_T30 l0 x18_1).f1), .int .i64 ((rd_T30 l0 x18_1).f2), .int .i64 ((rd_T30 l0 x18_1).f3), .int .i64 ((rd_T30 l0 x18_1).f4), .int .i64 ((rd_T30 l0 x18_1).f5), .int .i64 ((rd_T30 l0 x18_1).f6), (.slice A240_7 ((rd_T30 l0 x18_1).f7).length c240_7)] 30 (0, 0))) ∧ Aside0 (Below w.heap.size w w'))
                        case atStart => exact ⟨((x7_1.length : Int)), (by first | rfl | (simp; done) | (simp [*]; done)), H', ⟨Nat.le_refl _⟩, ⟨by (with_reducible repeat (first | apply Kd.N_alloc | apply Kd.N_drewN | apply Kd.N_drew)); exact HO_7.out⟩, ⟨by (with_reducible repeat (first | refine blk_drewN ?_ _ | refine blk_drew ?_ | refine blk_alloc ?_ _)); exact BK241.out⟩, ⟨by repeat (first | (with_reducible first | exact HB.out | apply below_alloc | apply pw_below_drewN | apply below_drew1 | refine below_set ?_ GE241.out) | exact HB.out)⟩⟩
                        case round =>
                          clear H'
                          try clear c1
                          try clear c2
                          try clear p2
                          try clear q2
                          try clear hx2
                          try clear c3
                          try clear c4
                          try clear c4b0
                          try clear c5
                          try clear c5b0
                          try clear c6
                          try clear c6b0
                          try clear p6
                          try clear c10
                          try clear c10b0
                          try clear c11
                          try clear c11b0
                          try clear c15
                          try clear c15b0
                          try clear c16
                          try clear c16b0
                          try clear c17
                          try clear c17b0
                          try clear c19
                          try clear c21
                          try clear c21b0
                          try clear c22
                          try clear c22b0
                          try clear c23
                          try clear c23b0
                          try clear c24
                          try clear p24
                          try clear q24
                          try clear hx24
                          try clear c25
                          try clear c25b0
                          try clear c25b1
                          try clear c26
                          try clear c26b0
                          try clear c27
                          try clear c30
                          try clear c32
                          try clear hcz12_0
                          try clear hcz12_1
                          try clear hcz12_2
                          try clear hcz12_3
                          try clear hcz12_4
                          try clear hcz12_5
                          try clear hcz12_6
                          try clear hcz12_7
                          try clear hcz13_0
                          try clear hcz13_1
                          try clear hcz13_2
                          try clear hcz13_3
                          try clear hcz13_4
                          try clear hcz13_5
                          try clear hcz13_6
                          try clear hcz13_7
                          try clear hcz14_0
                          try clear hcz14_1
                          try clear hcz14_2
                          try clear hcz14_3
                          try clear hcz14_4
                          try clear hcz14_5
                          try clear hcz14_6
                          try clear hcz14_7
                          try clear hcz20_0
                          try clear hcz20_1
                          try clear hcz20_2
                          try clear hcz20_3
                          try clear hcz20_4
                          try clear hcz20_5
                          try clear hcz20_6
                          try clear hcz20_7
                          try clear hcz28_0
                          try clear hcz28_1
                          try clear hcz28_2
                          try clear hcz28_3
                          try clear hcz28_4
                          try clear hcz28_5
                          try clear hcz28_6
                          try clear hcz28_7
                          try clear hcz29_0
                          try clear hcz29_1
                          try clear hcz29_2
                          try clear hcz29_3
                          try clear hcz29_4
                          try clear hcz29_5
                          try clear hcz29_6
                          try clear hcz29_7
                          try clear hcz31_0
                          try clear hcz31_1
                          try clear hcz31_2
                          try clear hcz31_3
                          try clear hcz31_4
                          try clear hcz31_5
                          try clear hcz31_6
                          try clear hcz31_7
                          try clear hcz9_0
                          try clear hcz9_1
                          try clear hcz9_2
                          try clear hcz9_3
                          try clear hcz9_4
                          try clear hcz9_5
                          try clear hcz9_6
                          try clear hcz9_7
                          try clear hfz12_0
                          try clear hfz12_1
                          try clear hfz12_2
                          try clear hfz12_3
                          try clear hfz12_4
                          try clear hfz12_5
                          try clear hfz12_6
                          try clear hfz12_7
                          try clear hfz13_0
                          try clear hfz13_1
                          try clear hfz13_2
                          try clear hfz13_3
                          try clear hfz13_4
                          try clear hfz13_5
                          try clear hfz13_6
                          try clear hfz13_7
                          try clear hfz14_0
                          try clear hfz14_1
                          try clear hfz14_2
                          try clear hfz14_3
                          try clear hfz14_4
                          try clear hfz14_5
                          try clear hfz14_6
                          try clear hfz14_7
                          try clear hfz20_0
                          try clear hfz20_1
                          try clear hfz20_2
                          try clear hfz20_3
                          try clear hfz20_4
                          try clear hfz20_5
                          try clear hfz20_6
                          try clear hfz20_7
                          try clear hfz28_0
                          try clear hfz28_1
                          try clear hfz28_2
                          try clear hfz28_3
                          try clear hfz28_4
                          try clear hfz28_5
                          try clear hfz28_6
                          try clear hfz28_7
                          try clear hfz29_0
                          try clear hfz29_1
                          try clear hfz29_2
                          try clear hfz29_3
                          try clear hfz29_4
                          try clear hfz29_5
                          try clear hfz29_6
                          try clear hfz29_7
                          try clear hfz31_0
                          try clear hfz31_1
                          try clear hfz31_2
                          try clear hfz31_3
                          try clear hfz31_4
                          try clear hfz31_5
                          try clear hfz31_6
                          try clear hfz31_7
                          try clear hfz9_0
                          try clear hfz9_1
                          try clear hfz9_2
                          try clear hfz9_3
                          try clear hfz9_4
                          try clear hfz9_5
                          try clear hfz9_6
                          try clear hfz9_7
                          try clear hx240_0
                          try clear hx240_1
                          try clear hx240_2
                          try clear hx240_3
                          try clear hx240_4
                          try clear hx240_5
                          try clear hx240_6
                          try clear hx240_7
                          try clear hx242_0
                          try clear hx242_1
                          try clear hx242_2
                          try clear hx242_3
                          try clear hx242_4
                          try clear hx242_5
                          try clear hx242_6
                          try clear hx242_7
                          try clear hx244_0
                          try clear p2
                          try clear p240
                          try clear p242
                          try clear p244
                          try clear q2
                          try clear q240
                          try clear q242
                          try clear q244
                          obtain ⟨x15_4, rfl, HA, HK4, HO_7, BK241, HB⟩ := hrel
                          cases gk with
                          | zero => exact absurd HA.out (by simp [dryrotref16_Live.l3])
                          | succ k4 =>
                            have H := HA.out
                            clear HA
                            simp only [dryrotref16_Live.l3] at H
                            by_cases c34 : x15_4 > 0
                            · rw [if_pos c34] at H
                              have c34b0 : decide (0 < x15_4) = true := decide_eq_true c34
                              clear c34
                              obtain ⟨ji35, hji35⟩ : ∃ j_ : Int, (wrap64 (x15_4 - 1)) = j_ := ⟨_, rfl⟩
                              replace H : (if 0 ≤ (ji35) then (if (ji35) < (x7_1.length : Int) then (if ((rd_T30 x7_1 (ji35)).f3) > ((rd_T30 l0 x18_1).f3) then (dryrotref16_Live.l3 k4 l0 a1 a2 x7_1 ji35 l0 (l0.length : Int) x18_1 ((rd_T30 l0 x18_1).f0) ((rd_T30 l0 x18_1).f1) ((rd_T30 l0 x18_1).f2) ((rd_T30 l0 x18_1).f3) ((rd_T30 l0 x18_1).f4) ((rd_T30 l0 x18_1).f5) ((rd_T30 l0 x18_1).f6) ((rd_T30 l0 x18_1).f7)) else ((some (([] : List (S30)) : List (S30))).bind fun y246 => (if 0 ≤ x15_4 then (if x15_4 ≤ (x7_1.length : Int) then ((some (x7_1.take (x15_4 : Int).toNat : List (S30))).bind fun y249 => (if y246.length + y249.length < 1759218604441 then ((some (y246 ++ y249 : List (S30))).bind fun y254 => ((dryrotref16_Copy.f ((rd_T30 l0 x18_1).f0) ((rd_T30 l0 x18_1).f1) ((rd_T30 l0 x18_1).f2) ((rd_T30 l0 x18_1).f3) ((rd_T30 l0 x18_1).f4) ((rd_T30 l0 x18_1).f5) ((rd_T30 l0 x18_1).f6) ((rd_T30 l0 x18_1).f7)).bind fun bt257 => (if y254.length < 1759218604441 then ((some (y254 ++ [(⟨bt257.1, bt257.2.1, bt257.2.2.1, bt257.2.2.2.1, bt257.2.2.2.2.1, bt257.2.2.2.2.2.1, bt257.2.2.2.2.2.2.1, bt257.2.2.2.2.2.2.2⟩ : S30)] : List (S30))).bind fun y267 => ((some (x7_1.drop (x15_4 : Int).toNat : List (S30))).bind fun y270 => (if y267.length + y270.length < 1759218604441 then (dryrotref16_Live.l0 k4 l0 a1 a2 (y267 ++ y270) l0 (l0.length : Int) (wrap64 (x18_1 + 1))) else (none)))) else (none)))) else (none))) else (none)) else (none)))) else (none)) else (none)) = some r := by first | (rw [hji35] at H; exact H) | (simp only [hji35] at H ⊢; exact H)
                              have hji35w : (IntKind.i64.wrap (x15_4 - 1)) = ji35 := (i64_w _).trans hji35
                              by_cases c36 : 0 ≤ (ji35)
                              · rw [if_pos c36] at H
                                have c36b0 : decide (0 ≤ (ji35)) = true := decide_eq_true c36
                                clear c36
                                by_cases c37 : (ji35) < (x7_1.length : Int)
                                · rw [if_pos c37] at H
                                  have c37b0 : decide ((ji35) < (x7_1.length : Int)) = true := decide_eq_true c37
                                  clear c37
                                  by_cases c38 : ((rd_T30 x7_1 (ji35)).f3) > ((rd_T30 l0 x18_1).f3)
                                  · rw [if_pos c38] at H
                                    have c38b0 : decide (((rd_T30 l0 x18_1).f3) < ((rd_T30 x7_1 (ji35)).f3)) = true := decide_eq_true c38
                                    clear c38
                                    have H' := Aside0.mk H
                                    clear H
                                    try go_wp2
                                    have n0_ := Aside0.mk (Kd.N_drew HO_7.out)
                                    have n1_ := Aside0.mk (blk_drew BK241.out)
                                    have n2_ := Aside0.mk (below_drew1 HB.out)
                                    clear HO_7
                                    clear BK241
                                    clear HB
                                    have HO_7 := n0_
                                    have BK241 := n1_
                                    have HB := n2_
                                    clear n0_ n1_ n2_
                                    have p245 : 0 ≤ ((ji35) : Int) := of_decide_eq_true (by first | (with_reducible assumption) | assumption)
                                    have q245 : (ji35) < (x7_1.length : Int) := of_decide_eq_true (by first | (with_reducible assumption) | assumption)
                                    obtain ⟨ad245, A245_7, c245_7, e245, hx245_0, hx245_1, hx245_2, hx245_3, hx245_4, hx245_5, hx245_6, hx245_7, hl245_7, hi245_7⟩ := at_T30 (Kd.N_reads' HO_7.out).2.2 (ji35) p245 q245
                                    cases e245
                                    obtain ⟨ce245, hce245, hMe245, hcc245⟩ := Kd.N_get HO_7.out z30 (ji35) p245 (by first | exact q245 | exact of_decide_eq_true (by first | (with_reducible assumption) | assumption) | (have e_ := (Kd.N_reads' HO_7.out).1; omega))
                                    obtain ⟨ua245_7, uc245_7, rfl, ul245_7, ge245_7⟩ := k30_openF hMe245
                                    have hv245_7 := hcc245 7 _ rfl
                                    rw [add_field _ _ 7 (by omega)] at hv245_7
                                    replace hv245_7 := Option.some.inj (hv245_7.symm.trans hx245_7)
                                    injection hv245_7 with hva_ hvn_ hvc_
                                    rw [hva_] at ge245_7
                                    rw [hvc_] at ul245_7
                                    have HL245_7 := Aside0.mk (show Kd.V (Kd.int .i64) 3 _ w.heap.size _ _ ((rd_T30 x7_1 (ji35)).f7) from Kd.V_mk ul245_7 ge245_7)
                                    clear hva_ hvn_ hvc_ ge245_7 ul245_7
                                    clear hcc245 hce245
                                    have HR245_7 := Aside0.mk hi245_7
                                    have HC245_7 := Aside0.mk hl245_7
                                    clear hi245_7 hl245_7
                                    replace p245 := eq_true p245
                                    replace q245 := eq_true q245
                                    refine start_ (n := 13) (S := fun w' => w'.cell? ⟨gb241, 0, none⟩ = some (.int .i64 ((rd_T30 l0 x18_1).f0)) ∧ w'.cell? ⟨gb241, 1, none⟩ = some (.int .i64 ((rd_T30 l0 x18_1).f1)) ∧ w'.cell? ⟨gb241, 2, none⟩ = some (.int .i64 ((rd_T30 l0 x18_1).f2)) ∧ w'.cell? ⟨gb241, 3, none⟩ = some (.int .i64 ((rd_T30 l0 x18_1).f3)) ∧ w'.cell? ⟨gb241, 4, none⟩ = some (.int .i64 ((rd_T30 l0 x18_1).f4)) ∧ w'.cell? ⟨gb241, 5, none⟩ = some (.int .i64 ((rd_T30 l0 x18_1).f5)) ∧ w'.cell? ⟨gb241, 6, none⟩ = some (.int .i64 ((rd_T30 l0 x18_1).f6)) ∧ w'.cell? ⟨gb241, 7, none⟩ = some (.slice A240_7 ((rd_T30 l0 x18_1).f7).length c240_7) ∧ w'.cell? (ad245.add (((ji35)).toNat * 8)) = some (.int .i64 ((rd_T30 x7_1 (ji35)).f0)) ∧ w'.cell? ⟨(ad245.add (((ji35)).toNat * 8)).block, (ad245.add (((ji35)).toNat * 8)).off + 1, none⟩ = some (.int .i64 ((rd_T30 x7_1 (ji35)).f1)) ∧ w'.cell? ⟨(ad245.add (((ji35)).toNat * 8)).block, (ad245.add (((ji35)).toNat * 8)).off + 2, none⟩ = some (.int .i64 ((rd_T30 x7_1 (ji35)).f2)) ∧ w'.cell? ⟨(ad245.add (((ji35)).toNat * 8)).block, (ad245.add (((ji35)).toNat * 8)).off + 3, none⟩ = some (.int .i64 ((rd_T30 x7_1 (ji35)).f3)) ∧ w'.cell? ⟨(ad245.add (((ji35)).toNat * 8)).block, (ad245.add (((ji35)).toNat * 8)).off + 4, none⟩ = some (.int .i64 ((rd_T30 x7_1 (ji35)).f4)) ∧ w'.cell? ⟨(ad245.add (((ji35)).toNat * 8)).block, (ad245.add (((ji35)).toNat * 8)).off + 5, none⟩ = some (.int .i64 ((rd_T30 x7_1 (ji35)).f5)) ∧ w'.cell? ⟨(ad245.add (((ji35)).toNat * 8)).block, (ad245.add (((ji35)).toNat * 8)).off + 6, none⟩ = some (.int .i64 ((rd_T30 x7_1 (ji35)).f6)) ∧ w'.cell? ⟨(ad245.add (((ji35)).toNat * 8)).block, (ad245.add (((ji35)).toNat * 8)).off + 7, none⟩ = some (.slice A245_7 ((rd_T30 x7_1 (ji35)).f7).length c245_7)) (ds := []) #[false, false, false, false, false, false, false, false, false, false, false, false, false] (by kernel_rfl) rfl rfl ⟨(blk_cell BK241.out 0).trans rfl, (blk_cell BK241.out 1).trans rfl, (blk_cell BK241.out 2).trans rfl, (blk_cell BK241.out 3).trans rfl, (blk_cell BK241.out 4).trans rfl, (blk_cell BK241.out 5).trans rfl, (blk_cell BK241.out 6).trans rfl, (blk_cell BK241.out 7).trans rfl, hx245_0, hx245_1, hx245_2, hx245_3, hx245_4, hx245_5, hx245_6, hx245_7⟩ (fun hHeld => ?_); refine with_tabW dryrotref16_Live.tab17 dryrotref16_Live.bits17 (fun HT_ HW_ => ?_)
                                    generalize wr.drew = w39 at HO_7 BK241 HB HL245_7 HR245_7 hx245_0 hx245_1 hx245_2 hx245_3 hx245_4 hx245_5 hx245_6 hx245_7 hHeld ⊢
                                    refine pure_ (i := 0) (N := some 77) (v := ?_) (a' := ?_) #[true, false, false, false, false, false, false, false, false, false, false, false, false] rfl rfl (any_of HT_.out (by kernel_rfl)) (fun _ _ _ h => h) (Or.inl ⟨by rfl, ?_⟩) ?_ ?_
                                    rotate_left
                                    · intro w'
                                      go_simp
                                      with_reducible rfl
                                    rotate_left
                                    · simp only [Act.put, List.setIfInBounds_toArray, List.set_cons_zero, List.set_cons_succ, i64_w, i32_w]
                                      rfl
                                    refine pure_ (i := 1) (N := some 78) (v := ?_) (a' := ?_) #[true, true, false, false, false, false, false, false, false, false, false, false, false] rfl rfl (any_of HT_.out (by kernel_rfl)) (fun _ _ _ h => h) (Or.inl ⟨by rfl, ?_⟩) ?_ ?_
                                    rotate_left
                                    · intro w'
                                      go_simp
                                      with_reducible rfl
                                    rotate_left
                                    · simp only [Act.put, List.setIfInBounds_toArray, List.set_cons_zero, List.set_cons_succ, i64_w, i32_w]
                                      rfl
                                    refine pure_ (i := 2) (N := some 79) (v := ?_) (a' := ?_) #[true, true, true, false, false, false, false, false, false, false, false, false, false] rfl rfl (any_of HT_.out (by kernel_rfl)) (fun _ _ _ h => h) (Or.inl ⟨by rfl, ?_⟩) ?_ ?_
                                    rotate_left
                                    · intro w'
                                      go_simp
                                      with_reducible rfl
                                    rotate_left
                                    · simp only [Act.put, List.setIfInBounds_toArray, List.set_cons_zero, List.set_cons_succ, i64_w, i32_w]
                                      rfl
                                    refine pure_ (i := 3) (N := some 80) (v := ?_) (a' := ?_) #[true, true, true, true, false, false, false, false, false, false, false, false, false] rfl rfl (any_of HT_.out (by kernel_rfl)) (fun _ _ _ h => h) (Or.inl ⟨by rfl, ?_⟩) ?_ ?_
                                    rotate_left
                                    · intro w'
                                      go_simp
                                      with_reducible rfl
                                    rotate_left
                                    · simp only [Act.put, List.setIfInBounds_toArray, List.set_cons_zero, List.set_cons_succ, i64_w, i32_w]
                                      rfl
                                    refine pure_ (i := 4) (N := some 81) (v := ?_) (a' := ?_) #[true, true, true, true, true, false, false, false, false, false, false, false, false] rfl rfl (any_of HT_.out (by kernel_rfl)) (fun _ _ _ h => h) (Or.inl ⟨by rfl, ?_⟩) ?_ ?_
                                    rotate_left
                                    · intro w'
                                      go_simp
                                      with_reducible rfl
                                    rotate_left
                                    · simp only [Act.put, List.setIfInBounds_toArray, List.set_cons_zero, List.set_cons_succ, i64_w, i32_w]
                                      rfl
                                    refine pure_ (i := 5) (N := some 82) (v := ?_) (a' := ?_) #[true, true, true, true, true, true, false, false, false, false, false, false, false] rfl rfl (any_of HT_.out (by kernel_rfl)) (fun _ _ _ h => h) (Or.inl ⟨by rfl, ?_⟩) ?_ ?_
                                    rotate_left
                                    · intro w'
                                      go_simp
                                      with_reducible rfl
                                    rotate_left
                                    · simp only [Act.put, List.setIfInBounds_toArray, List.set_cons_zero, List.set_cons_succ, i64_w, i32_w]
                                      rfl
                                    refine pure_ (i := 6) (N := some 83) (v := ?_) (a' := ?_) #[true, true, true, true, true, true, true, false, false, false, false, false, false] rfl rfl (any_of HT_.out (by kernel_rfl)) (fun _ _ _ h => h) (Or.inl ⟨by rfl, ?_⟩) ?_ ?_
                                    rotate_left
                                    · intro w'
                                      go_simp
                                      with_reducible rfl
                                    rotate_left
                                    · simp only [Act.put, List.setIfInBounds_toArray, List.set_cons_zero, List.set_cons_succ, i64_w, i32_w]
                                      rfl
                                    refine pure_ (i := 7) (N := some 84) (v := ?_) (a' := ?_) #[true, true, true, true, true, true, true, true, false, false, false, false, false] rfl rfl (any_of HT_.out (by kernel_rfl)) (fun _ _ _ h => h) (Or.inl ⟨by rfl, ?_⟩) ?_ ?_
                                    rotate_left
                                    · intro w'
                                      go_simp
                                      with_reducible rfl
                                    rotate_left
                                    · simp only [Act.put, List.setIfInBounds_toArray, List.set_cons_zero, List.set_cons_succ, i64_w, i32_w]
                                      rfl
                                    refine pure_ (i := 9) (N := some 86) (v := ?_) (a' := ?_) #[true, true, true, true, true, true, true, true, false, true, false, false, false] rfl rfl (any_of HT_.out (by kernel_rfl)) (fun _ _ _ h => h) (Or.inl ⟨by rfl, ?_⟩) ?_ ?_
                                    rotate_left
                                    · intro w'
                                      go_simp
                                      with_reducible rfl
                                    rotate_left
                                    · simp only [Act.put, List.setIfInBounds_toArray, List.set_cons_zero, List.set_cons_succ, i64_w, i32_w]
                                      rfl
                                    refine take_ (i := 8) (N := some 85) (v := ?_) (a' := ?_) #[true, true, true, true, true, true, true, true, true, true, false, false, false] rfl rfl (take_ofW HT_.out HW_.out (by kernel_rfl)) (fun _ _ _ h => h) (Or.inl ⟨by rfl, ?_⟩) hHeld ?_ ?_
                                    rotate_left
                                    · rintro w' ⟨s0, s1, s2, s3, s4, s5, s6, s7, s8, s9, s10, s11, s12, s13, s14, s15⟩
                                      go_simp
                                      with_reducible rfl
                                    rotate_left
                                    · simp only [Act.put, List.setIfInBounds_toArray, List.set_cons_zero, List.set_cons_succ, i64_w, i32_w]
                                      rfl
                                    refine take_ (i := 10) (N := some 87) (v := ?_) (a' := ?_) #[true, true, true, true, true, true, true, true, true, true, true, false, false] rfl rfl (take_ofW HT_.out HW_.out (by kernel_rfl)) (fun _ _ _ h => h) (Or.inl ⟨by rfl, ?_⟩) hHeld ?_ ?_
                                    rotate_left
                                    · rintro w' ⟨s0, s1, s2, s3, s4, s5, s6, s7, s8, s9, s10, s11, s12, s13, s14, s15⟩
                                      go_simp
                                      with_reducible rfl
                                    rotate_left
                                    · simp only [Act.put, List.setIfInBounds_toArray, List.set_cons_zero, List.set_cons_succ, i64_w, i32_w]
                                      rfl
                                    refine pure_ (i := 11) (N := some 88) (v := ?_) (a' := ?_) #[true, true, true, true, true, true, true, true, true, true, true, true, false] rfl rfl (any_of HT_.out (by kernel_rfl)) (fun _ _ _ h => h) (Or.inl ⟨by rfl, ?_⟩) ?_ ?_
                                    rotate_left
                                    · intro w'
                                      go_simp
                                      with_reducible rfl
                                    rotate_left
                                    · simp only [Act.put, List.setIfInBounds_toArray, List.set_cons_zero, List.set_cons_succ, i64_w, i32_w]
                                      rfl
                                    refine pure_ (i := 12) (N := some 89) (v := ?_) (a' := ?_) #[true, true, true, true, true, true, true, true, true, true, true, true, true] rfl rfl (any_of HT_.out (by kernel_rfl)) (fun _ _ _ h => h) (Or.inl ⟨by rfl, ?_⟩) ?_ ?_
                                    rotate_left
                                    · intro w'
                                      go_simp
                                      with_reducible rfl
                                    rotate_left
                                    · simp only [Act.put, List.setIfInBounds_toArray, List.set_cons_zero, List.set_cons_succ, i64_w, i32_w]
                                      rfl
                                    refine done_ (done_of HT_.out (by kernel_rfl)) ?_
                                    try go_wp2
                                    go_roundg k4
                                    case measure => have := HK1.out; have := HJ6.out; have := HK3.out; have := HK4.out; omega
                                    case rel => exact ⟨(ji35), (by first | rfl | (simp; done) | (simp only [← hji35] <;> (first | rfl | simp)) | (simp [*]; done)), H', ⟨by have := HK1.out; have := HJ6.out; have := HK3.out; have := HK4.out; omega⟩, ⟨by (with_reducible repeat (first | apply Kd.N_alloc | apply Kd.N_drewN | apply Kd.N_drew)); exact HO_7.out⟩, ⟨by (with_reducible repeat (first | refine blk_drewN ?_ _ | refine blk_drew ?_ | refine blk_alloc ?_ _)); exact BK241.out⟩, ⟨by repeat (first | (with_reducible first | exact HB.out | apply below_alloc | apply pw_below_drewN | apply below_drew1 | refine below_set ?_ GE241.out) | exact HB.out)⟩⟩
                                  · rw [if_neg c38] at H
                                    have c38b0 : decide (((rd_T30 l0 x18_1).f3) < ((rd_T30 x7_1 (ji35)).f3)) = false := decide_eq_false c38
                                    clear c38
                                    obtain ⟨y246, hy246⟩ : ∃ y_ : List (S30), y_ = (([] : List (S30))) := ⟨_, rfl⟩
                                    replace H : (if 0 ≤ x15_4 then (if x15_4 ≤ (x7_1.length : Int) then ((some (x7_1.take (x15_4 : Int).toNat : List (S30))).bind fun y249 => (if y246.length + y249.length < 1759218604441 then ((some (y246 ++ y249 : List (S30))).bind fun y254 => ((dryrotref16_Copy.f ((rd_T30 l0 x18_1).f0) ((rd_T30 l0 x18_1).f1) ((rd_T30 l0 x18_1).f2) ((rd_T30 l0 x18_1).f3) ((rd_T30 l0 x18_1).f4) ((rd_T30 l0 x18_1).f5) ((rd_T30 l0 x18_1).f6) ((rd_T30 l0 x18_1).f7)).bind fun bt257 => (if y254.length < 1759218604441 then ((some (y254 ++ [(⟨bt257.1, bt257.2.1, bt257.2.2.1, bt257.2.2.2.1, bt257.2.2.2.2.1, bt257.2.2.2.2.2.1, bt257.2.2.2.2.2.2.1, bt257.2.2.2.2.2.2.2⟩ : S30)] : List (S30))).bind fun y267 => ((some (x7_1.drop (x15_4 : Int).toNat : List (S30))).bind fun y270 => (if y267.length + y270.length < 1759218604441 then (dryrotref16_Live.l0 k4 l0 a1 a2 (y267 ++ y270) l0 (l0.length : Int) (wrap64 (x18_1 + 1))) else (none)))) else (none)))) else (none))) else (none)) else (none)) = some r := by first | (rw [hy246]; with_reducible exact H) | (have H2_ := (Option.bind_some _ _).symm.trans H; rw [hy246]; with_reducible exact H2_) | (have H2_ := (Option.bind_some _ _).symm.trans H; with_reducible exact H2_) | with_reducible exact H | (rw [hy246]; exact H) | exact H
                                    have Ny246 := Aside0.mk hy246
                                    clear hy246
                                    by_cases c40 : 0 ≤ x15_4
                                    · rw [if_pos c40] at H
                                      have c40b0 := eq_true c40
                                      have c40b1 : decide (0 ≤ x15_4) = true := decide_eq_true c40
                                      clear c40
                                      by_cases c41 : x15_4 ≤ (x7_1.length : Int)
                                      · rw [if_pos c41] at H
                                        have c41b0 := eq_true c41
                                        have c41b1 : decide (x15_4 ≤ (x7_1.length : Int)) = true := decide_eq_true c41
                                        clear c41
                                        obtain ⟨y249, hy249⟩ : ∃ y_ : List (S30), y_ = (x7_1.take (x15_4 : Int).toNat) := ⟨_, rfl⟩
                                        replace H : (if y246.length + y249.length < 1759218604441 then ((some (y246 ++ y249 : List (S30))).bind fun y254 => ((dryrotref16_Copy.f ((rd_T30 l0 x18_1).f0) ((rd_T30 l0 x18_1).f1) ((rd_T30 l0 x18_1).f2) ((rd_T30 l0 x18_1).f3) ((rd_T30 l0 x18_1).f4) ((rd_T30 l0 x18_1).f5) ((rd_T30 l0 x18_1).f6) ((rd_T30 l0 x18_1).f7)).bind fun bt257 => (if y254.length < 1759218604441 then ((some (y254 ++ [(⟨bt257.1, bt257.2.1, bt257.2.2.1, bt257.2.2.2.1, bt257.2.2.2.2.1, bt257.2.2.2.2.2.1, bt257.2.2.2.2.2.2.1, bt257.2.2.2.2.2.2.2⟩ : S30)] : List (S30))).bind fun y267 => ((some (x7_1.drop (x15_4 : Int).toNat : List (S30))).bind fun y270 => (if y267.length + y270.length < 1759218604441 then (dryrotref16_Live.l0 k4 l0 a1 a2 (y267 ++ y270) l0 (l0.length : Int) (wrap64 (x18_1 + 1))) else (none)))) else (none)))) else (none)) = some r := by first | (rw [hy249]; with_reducible exact H) | (have H2_ := (Option.bind_some _ _).symm.trans H; rw [hy249]; with_reducible exact H2_) | (have H2_ := (Option.bind_some _ _).symm.trans H; with_reducible exact H2_) | with_reducible exact H | (rw [hy249]; exact H) | exact H
                                        have Ny249 := Aside0.mk hy249
                                        clear hy249
                                        by_cases c42 : y246.length + y249.length < 1759218604441
                                        · rw [if_pos c42] at H
                                          have LMc42 := Aside0.mk c42
                                          clear c42
                                          obtain ⟨y254, hy254⟩ : ∃ y_ : List (S30), y_ = (y246 ++ y249) := ⟨_, rfl⟩
                                          replace H : ((dryrotref16_Copy.f ((rd_T30 l0 x18_1).f0) ((rd_T30 l0 x18_1).f1) ((rd_T30 l0 x18_1).f2) ((rd_T30 l0 x18_1).f3) ((rd_T30 l0 x18_1).f4) ((rd_T30 l0 x18_1).f5) ((rd_T30 l0 x18_1).f6) ((rd_T30 l0 x18_1).f7)).bind fun bt257 => (if y254.length < 1759218604441 then ((some (y254 ++ [(⟨bt257.1, bt257.2.1, bt257.2.2.1, bt257.2.2.2.1, bt257.2.2.2.2.1, bt257.2.2.2.2.2.1, bt257.2.2.2.2.2.2.1, bt257.2.2.2.2.2.2.2⟩ : S30)] : List (S30))).bind fun y267 => ((some (x7_1.drop (x15_4 : Int).toNat : List (S30))).bind fun y270 => (if y267.length + y270.length < 1759218604441 then (dryrotref16_Live.l0 k4 l0 a1 a2 (y267 ++ y270) l0 (l0.length : Int) (wrap64 (x18_1 + 1))) else (none)))) else (none))) = some r := by first | (rw [hy254]; with_reducible exact H) | (have H2_ := (Option.bind_some _ _).symm.trans H; rw [hy254]; with_reducible exact H2_) | (have H2_ := (Option.bind_some _ _).symm.trans H; with_reducible exact H2_) | with_reducible exact H | (rw [hy254]; exact H) | exact H
                                          have Ny254 := Aside0.mk hy254
                                          clear hy254
                                          replace H := Option.bind_eq_some_iff.mp H
                                          obtain ⟨⟨t257, t258, t259, t260, t261, t262, t263, t264⟩, A430, H⟩ := H
                                          replace H : (if y254.length < 1759218604441 then ((some (y254 ++ [(⟨t257, t258, t259, t260, t261, t262, t263, t264⟩ : S30)] : List (S30))).bind fun y267 => ((some (x7_1.drop (x15_4 : Int).toNat : List (S30))).bind fun y270 => (if y267.length + y270.length < 1759218604441 then (dryrotref16_Live.l0 k4 l0 a1 a2 (y267 ++ y270) l0 (l0.length : Int) (wrap64 (x18_1 + 1))) else (none)))) else (none)) = some r := H
                                          have A43 := Aside0.mk A430
                                          clear A430
                                          by_cases c44 : y254.length < 1759218604441
                                          · rw [if_pos c44] at H
                                            have LMc44 := Aside0.mk c44
                                            clear c44
                                            obtain ⟨y267, hy267⟩ : ∃ y_ : List (S30), y_ = (y254 ++ [(⟨t257, t258, t259, t260, t261, t262, t263, t264⟩ : S30)]) := ⟨_, rfl⟩
                                            replace H : ((some (x7_1.drop (x15_4 : Int).toNat : List (S30))).bind fun y270 => (if y267.length + y270.length < 1759218604441 then (dryrotref16_Live.l0 k4 l0 a1 a2 (y267 ++ y270) l0 (l0.length : Int) (wrap64 (x18_1 + 1))) else (none))) = some r := by first | (rw [hy267]; with_reducible exact H) | (have H2_ := (Option.bind_some _ _).symm.trans H; rw [hy267]; with_reducible exact H2_) | (have H2_ := (Option.bind_some _ _).symm.trans H; with_reducible exact H2_) | with_reducible exact H | (rw [hy267]; exact H) | exact H
                                            have Ny267 := Aside0.mk hy267
                                            clear hy267
                                            have c45b0 := eq_true (of_decide_eq_true (by first | (with_reducible assumption) | assumption) : 0 ≤ x15_4)
                                            have c46b0 := eq_true (of_decide_eq_true (by first | (with_reducible assumption) | assumption) : x15_4 ≤ (x7_1.length : Int))
                                            obtain ⟨y270, hy270⟩ : ∃ y_ : List (S30), y_ = (x7_1.drop (x15_4 : Int).toNat) := ⟨_, rfl⟩
                                            replace H : (if y267.length + y270.length < 1759218604441 then (dryrotref16_Live.l0 k4 l0 a1 a2 (y267 ++ y270) l0 (l0.length : Int) (wrap64 (x18_1 + 1))) else (none)) = some r := by first | (rw [hy270]; with_reducible exact H) | (have H2_ := (Option.bind_some _ _).symm.trans H; rw [hy270]; with_reducible exact H2_) | (have H2_ := (Option.bind_some _ _).symm.trans H; with_reducible exact H2_) | with_reducible exact H | (rw [hy270]; exact H) | exact H
                                            have Ny270 := Aside0.mk hy270
                                            clear hy270
                                            by_cases c47 : y267.length + y270.length < 1759218604441
                                            · rw [if_pos c47] at H
                                              have LMc47 := Aside0.mk c47
                                              clear c47
                                              obtain ⟨y275, hy275⟩ : ∃ y_ : List (S30), y_ = (y267 ++ y270) := ⟨_, rfl⟩
                                              replace H : (dryrotref16_Live.l0 k4 l0 a1 a2 y275 l0 (l0.length : Int) (wrap64 (x18_1 + 1))) = some r := by first | (rw [hy275]; with_reducible exact H) | (have H2_ := (Option.bind_some _ _).symm.trans H; rw [hy275]; with_reducible exact H2_) | (have H2_ := (Option.bind_some _ _).symm.trans H; with_reducible exact H2_) | with_reducible exact H | (rw [hy275]; exact H) | exact H
                                              have Ny275 := Aside0.mk hy275
                                              clear hy275
                                              have H' := Aside0.mk H
                                              clear H
                                              try go_wp2
                                              have n0_ := Aside0.mk (Kd.N_drew HO_7.out)
                                              have n1_ := Aside0.mk (blk_drew BK241.out)
                                              have n2_ := Aside0.mk (below_drew1 HB.out)
                                              clear HO_7
                                              clear BK241
                                              clear HB
                                              have HO_7 := n0_
                                              have BK241 := n1_
                                              have HB := n2_
                                              clear n0_ n1_ n2_
                                              have p245 : 0 ≤ ((ji35) : Int) := of_decide_eq_true (by first | (with_reducible assumption) | assumption)
                                              have q245 : (ji35) < (x7_1.length : Int) := of_decide_eq_true (by first | (with_reducible assumption) | assumption)
                                              obtain ⟨ad245, A245_7, c245_7, e245, hx245_0, hx245_1, hx245_2, hx245_3, hx245_4, hx245_5, hx245_6, hx245_7, hl245_7, hi245_7⟩ := at_T30 (Kd.N_reads' HO_7.out).2.2 (ji35) p245 q245
                                              cases e245
                                              obtain ⟨ce245, hce245, hMe245, hcc245⟩ := Kd.N_get HO_7.out z30 (ji35) p245 (by first | exact q245 | exact of_decide_eq_true (by first | (with_reducible assumption) | assumption) | (have e_ := (Kd.N_reads' HO_7.out).1; omega))
                                              obtain ⟨ua245_7, uc245_7, rfl, ul245_7, ge245_7⟩ := k30_openF hMe245
                                              have hv245_7 := hcc245 7 _ rfl
                                              rw [add_field _ _ 7 (by omega)] at hv245_7
                                              replace hv245_7 := Option.some.inj (hv245_7.symm.trans hx245_7)
                                              injection hv245_7 with hva_ hvn_ hvc_
                                              rw [hva_] at ge245_7
                                              rw [hvc_] at ul245_7
                                              have HL245_7 := Aside0.mk (show Kd.V (Kd.int .i64) 3 _ w.heap.size _ _ ((rd_T30 x7_1 (ji35)).f7) from Kd.V_mk ul245_7 ge245_7)
                                              clear hva_ hvn_ hvc_ ge245_7 ul245_7
                                              clear hcc245 hce245
                                              have HR245_7 := Aside0.mk hi245_7
                                              have HC245_7 := Aside0.mk hl245_7
                                              clear hi245_7 hl245_7
                                              replace p245 := eq_true p245
                                              replace q245 := eq_true q245
                                              refine start_ (n := 13) (S := fun w' => w'.cell? ⟨gb241, 0, none⟩ = some (.int .i64 ((rd_T30 l0 x18_1).f0)) ∧ w'.cell? ⟨gb241, 1, none⟩ = some (.int .i64 ((rd_T30 l0 x18_1).f1)) ∧ w'.cell? ⟨gb241, 2, none⟩ = some (.int .i64 ((rd_T30 l0 x18_1).f2)) ∧ w'.cell? ⟨gb241, 3, none⟩ = some (.int .i64 ((rd_T30 l0 x18_1).f3)) ∧ w'.cell? ⟨gb241, 4, none⟩ = some (.int .i64 ((rd_T30 l0 x18_1).f4)) ∧ w'.cell? ⟨gb241, 5, none⟩ = some (.int .i64 ((rd_T30 l0 x18_1).f5)) ∧ w'.cell? ⟨gb241, 6, none⟩ = some (.int .i64 ((rd_T30 l0 x18_1).f6)) ∧ w'.cell? ⟨gb241, 7, none⟩ = some (.slice A240_7 ((rd_T30 l0 x18_1).f7).length c240_7) ∧ w'.cell? (ad245.add (((ji35)).toNat * 8)) = some (.int .i64 ((rd_T30 x7_1 (ji35)).f0)) ∧ w'.cell? ⟨(ad245.add (((ji35)).toNat * 8)).block, (ad245.add (((ji35)).toNat * 8)).off + 1, none⟩ = some (.int .i64 ((rd_T30 x7_1 (ji35)).f1)) ∧ w'.cell? ⟨(ad245.add (((ji35)).toNat * 8)).block, (ad245.add (((ji35)).toNat * 8)).off + 2, none⟩ = some (.int .i64 ((rd_T30 x7_1 (ji35)).f2)) ∧ w'.cell? ⟨(ad245.add (((ji35)).toNat * 8)).block, (ad245.add (((ji35)).toNat * 8)).off + 3, none⟩ = some (.int .i64 ((rd_T30 x7_1 (ji35)).f3)) ∧ w'.cell? ⟨(ad245.add (((ji35)).toNat * 8)).block, (ad245.add (((ji35)).toNat * 8)).off + 4, none⟩ = some (.int .i64 ((rd_T30 x7_1 (ji35)).f4)) ∧ w'.cell? ⟨(ad245.add (((ji35)).toNat * 8)).block, (ad245.add (((ji35)).toNat * 8)).off + 5, none⟩ = some (.int .i64 ((rd_T30 x7_1 (ji35)).f5)) ∧ w'.cell? ⟨(ad245.add (((ji35)).toNat * 8)).block, (ad245.add (((ji35)).toNat * 8)).off + 6, none⟩ = some (.int .i64 ((rd_T30 x7_1 (ji35)).f6)) ∧ w'.cell? ⟨(ad245.add (((ji35)).toNat * 8)).block, (ad245.add (((ji35)).toNat * 8)).off + 7, none⟩ = some (.slice A245_7 ((rd_T30 x7_1 (ji35)).f7).length c245_7)) (ds := []) #[false, false, false, false, false, false, false, false, false, false, false, false, false] (by kernel_rfl) rfl rfl ⟨(blk_cell BK241.out 0).trans rfl, (blk_cell BK241.out 1).trans rfl, (blk_cell BK241.out 2).trans rfl, (blk_cell BK241.out 3).trans rfl, (blk_cell BK241.out 4).trans rfl, (blk_cell BK241.out 5).trans rfl, (blk_cell BK241.out 6).trans rfl, (blk_cell BK241.out 7).trans rfl, hx245_0, hx245_1, hx245_2, hx245_3, hx245_4, hx245_5, hx245_6, hx245_7⟩ (fun hHeld => ?_); refine with_tabW dryrotref16_Live.tab17 dryrotref16_Live.bits17 (fun HT_ HW_ => ?_)
                                              generalize wr.drew = w48 at HO_7 BK241 HB HL245_7 HR245_7 hx245_0 hx245_1 hx245_2 hx245_3 hx245_4 hx245_5 hx245_6 hx245_7 hHeld ⊢
                                              refine pure_ (i := 0) (N := some 77) (v := ?_) (a' := ?_) #[true, false, false, false, false, false, false, false, false, false, false, false, false] rfl rfl (any_of HT_.out (by kernel_rfl)) (fun _ _ _ h => h) (Or.inl ⟨by rfl, ?_⟩) ?_ ?_
                                              rotate_left
                                              · intro w'
                                                go_simp
                                                with_reducible rfl
                                              rotate_left
                                              · simp only [Act.put, List.setIfInBounds_toArray, List.set_cons_zero, List.set_cons_succ, i64_w, i32_w]
                                                rfl
                                              refine pure_ (i := 1) (N := some 78) (v := ?_) (a' := ?_) #[true, true, false, false, false, false, false, false, false, false, false, false, false] rfl rfl (any_of HT_.out (by kernel_rfl)) (fun _ _ _ h => h) (Or.inl ⟨by rfl, ?_⟩) ?_ ?_
                                              rotate_left
                                              · intro w'
                                                go_simp
                                                with_reducible rfl
                                              rotate_left
                                              · simp only [Act.put, List.setIfInBounds_toArray, List.set_cons_zero, List.set_cons_succ, i64_w, i32_w]
                                                rfl
                                              refine pure_ (i := 2) (N := some 79) (v := ?_) (a' := ?_) #[true, true, true, false, false, false, false, false, false, false, false, false, false] rfl rfl (any_of HT_.out (by kernel_rfl)) (fun _ _ _ h => h) (Or.inl ⟨by rfl, ?_⟩) ?_ ?_
                                              rotate_left
                                              · intro w'
                                                go_simp
                                                with_reducible rfl
                                              rotate_left
                                              · simp only [Act.put, List.setIfInBounds_toArray, List.set_cons_zero, List.set_cons_succ, i64_w, i32_w]
                                                rfl
                                              refine pure_ (i := 3) (N := some 80) (v := ?_) (a' := ?_) #[true, true, true, true, false, false, false, false, false, false, false, false, false] rfl rfl (any_of HT_.out (by kernel_rfl)) (fun _ _ _ h => h) (Or.inl ⟨by rfl, ?_⟩) ?_ ?_
                                              rotate_left
                                              · intro w'
                                                go_simp
                                                with_reducible rfl
                                              rotate_left
                                              · simp only [Act.put, List.setIfInBounds_toArray, List.set_cons_zero, List.set_cons_succ, i64_w, i32_w]
                                                rfl
                                              refine pure_ (i := 4) (N := some 81) (v := ?_) (a' := ?_) #[true, true, true, true, true, false, false, false, false, false, false, false, false] rfl rfl (any_of HT_.out (by kernel_rfl)) (fun _ _ _ h => h) (Or.inl ⟨by rfl, ?_⟩) ?_ ?_
                                              rotate_left
                                              · intro w'
                                                go_simp
                                                with_reducible rfl
                                              rotate_left
                                              · simp only [Act.put, List.setIfInBounds_toArray, List.set_cons_zero, List.set_cons_succ, i64_w, i32_w]
                                                rfl
                                              refine pure_ (i := 5) (N := some 82) (v := ?_) (a' := ?_) #[true, true, true, true, true, true, false, false, false, false, false, false, false] rfl rfl (any_of HT_.out (by kernel_rfl)) (fun _ _ _ h => h) (Or.inl ⟨by rfl, ?_⟩) ?_ ?_
                                              rotate_left
                                              · intro w'
                                                go_simp
                                                with_reducible rfl
                                              rotate_left
                                              · simp only [Act.put, List.setIfInBounds_toArray, List.set_cons_zero, List.set_cons_succ, i64_w, i32_w]
                                                rfl
                                              refine pure_ (i := 6) (N := some 83) (v := ?_) (a' := ?_) #[true, true, true, true, true, true, true, false, false, false, false, false, false] rfl rfl (any_of HT_.out (by kernel_rfl)) (fun _ _ _ h => h) (Or.inl ⟨by rfl, ?_⟩) ?_ ?_
                                              rotate_left
                                              · intro w'
                                                go_simp
                                                with_reducible rfl
                                              rotate_left
                                              · simp only [Act.put, List.setIfInBounds_toArray, List.set_cons_zero, List.set_cons_succ, i64_w, i32_w]
                                                rfl
                                              refine pure_ (i := 7) (N := some 84) (v := ?_) (a' := ?_) #[true, true, true, true, true, true, true, true, false, false, false, false, false] rfl rfl (any_of HT_.out (by kernel_rfl)) (fun _ _ _ h => h) (Or.inl ⟨by rfl, ?_⟩) ?_ ?_
                                              rotate_left
                                              · intro w'
                                                go_simp
                                                with_reducible rfl
                                              rotate_left
                                              · simp only [Act.put, List.setIfInBounds_toArray, List.set_cons_zero, List.set_cons_succ, i64_w, i32_w]
                                                rfl
                                              refine pure_ (i := 9) (N := some 86) (v := ?_) (a' := ?_) #[true, true, true, true, true, true, true, true, false, true, false, false, false] rfl rfl (any_of HT_.out (by kernel_rfl)) (fun _ _ _ h => h) (Or.inl ⟨by rfl, ?_⟩) ?_ ?_
                                              rotate_left
                                              · intro w'
                                                go_simp
                                                with_reducible rfl
                                              rotate_left
                                              · simp only [Act.put, List.setIfInBounds_toArray, List.set_cons_zero, List.set_cons_succ, i64_w, i32_w]
                                                rfl
                                              refine take_ (i := 8) (N := some 85) (v := ?_) (a' := ?_) #[true, true, true, true, true, true, true, true, true, true, false, false, false] rfl rfl (take_ofW HT_.out HW_.out (by kernel_rfl)) (fun _ _ _ h => h) (Or.inl ⟨by rfl, ?_⟩) hHeld ?_ ?_
                                              rotate_left
                                              · rintro w' ⟨s0, s1, s2, s3, s4, s5, s6, s7, s8, s9, s10, s11, s12, s13, s14, s15⟩
                                                go_simp
                                                with_reducible rfl
                                              rotate_left
                                              · simp only [Act.put, List.setIfInBounds_toArray, List.set_cons_zero, List.set_cons_succ, i64_w, i32_w]
                                                rfl
                                              refine take_ (i := 10) (N := some 87) (v := ?_) (a' := ?_) #[true, true, true, true, true, true, true, true, true, true, true, false, false] rfl rfl (take_ofW HT_.out HW_.out (by kernel_rfl)) (fun _ _ _ h => h) (Or.inl ⟨by rfl, ?_⟩) hHeld ?_ ?_
                                              rotate_left
                                              · rintro w' ⟨s0, s1, s2, s3, s4, s5, s6, s7, s8, s9, s10, s11, s12, s13, s14, s15⟩
                                                go_simp
                                                with_reducible rfl
                                              rotate_left
                                              · simp only [Act.put, List.setIfInBounds_toArray, List.set_cons_zero, List.set_cons_succ, i64_w, i32_w]
                                                rfl
                                              refine pure_ (i := 11) (N := some 88) (v := ?_) (a' := ?_) #[true, true, true, true, true, true, true, true, true, true, true, true, false] rfl rfl (any_of HT_.out (by kernel_rfl)) (fun _ _ _ h => h) (Or.inl ⟨by rfl, ?_⟩) ?_ ?_
                                              rotate_left
                                              · intro w'
                                                go_simp
                                                with_reducible rfl
                                              rotate_left
                                              · simp only [Act.put, List.setIfInBounds_toArray, List.set_cons_zero, List.set_cons_succ, i64_w, i32_w]
                                                rfl
                                              refine pure_ (i := 12) (N := some 89) (v := ?_) (a' := ?_) #[true, true, true, true, true, true, true, true, true, true, true, true, true] rfl rfl (any_of HT_.out (by kernel_rfl)) (fun _ _ _ h => h) (Or.inl ⟨by rfl, ?_⟩) ?_ ?_
                                              rotate_left
                                              · intro w'
                                                go_simp
                                                with_reducible rfl
                                              rotate_left
                                              · simp only [Act.put, List.setIfInBounds_toArray, List.set_cons_zero, List.set_cons_succ, i64_w, i32_w]
                                                rfl
                                              refine done_ (done_of HT_.out (by kernel_rfl)) ?_
                                              try go_wp2
                                              have n0_ := Aside0.mk (Kd.N_drew HO_7.out)
                                              have n1_ := Aside0.mk (Kd.V_drew HL245_7.out)
                                              have n2_ := Aside0.mk (blk_drew BK241.out)
                                              have n3_ := Aside0.mk (Kd.C_drew HR245_7.out)
                                              have n4_ := Aside0.mk (below_drew1 HB.out)
                                              clear HO_7
                                              clear HL245_7
                                              clear BK241
                                              clear HR245_7
                                              clear HB
                                              have HO_7 := n0_
                                              have HL245_7 := n1_
                                              have BK241 := n2_
                                              have HR245_7 := n3_
                                              have HB := n4_
                                              clear n0_ n1_ n2_ n3_ n4_
                                              have q50 : (x15_4 : Int) ≤ ((x7_1.length : Int) : Int) := of_decide_eq_true (by first | (with_reducible assumption) | assumption)
                                              obtain ⟨i050, hi050, _, hsz50, _⟩ := info_parts info30
                                              have hroom50 : x7_1.length ≤ co33 := (Kd.N_reads' HO_7.out).2.1
                                              have hC50 : Kd.F k30 _ _ (some ad245) x7_1.length x7_1 := (Kd.V_at (base := w.heap.size) (Kd.N_V HO_7.out)).2.2
                                              have hcut50 := cut_to (P := Try.prog) 25 30 .i64 Try.underlying25 hi050 (some ad245) x7_1.length co33 x15_4 (of_decide_eq_true (by first | (with_reducible assumption) | assumption)) q50 hroom50
                                              have hr50 := Kd.F_take (m := (x15_4 : Int).toNat) hC50 (by omega)
                                              have hy50 : y249.length = (x15_4 : Int).toNat := (by rw [Ny249.out, List.length_take]; omega)
                                              rw [← Ny249.out] at hr50
                                              rw [← hy50] at hcut50
                                              have HO253 := Aside0.mk (show Kd.V k30 30 _ w.heap.size _ (.slice (some ad245) y249.length co33) y249 from Kd.V_mk (by omega) hr50)
                                              have HC253 := Aside0.mk (show y249.length ≤ co33 from by omega)
                                              clear hr50 hC50 hroom50 hi050 hsz50
                                              have KY50 := Aside0.mk hy50
                                              clear hy50
                                              replace q50 := eq_true q50
                                              have q51 : (x15_4 : Int) ≤ ((x7_1.length : Int) : Int) := of_decide_eq_true (by first | (with_reducible assumption) | assumption)
                                              obtain ⟨i051, hi051, _, hsz51, _⟩ := info_parts info30
                                              have hroom51 : x7_1.length ≤ co33 := (Kd.N_reads' HO_7.out).2.1
                                              have hC51 : Kd.F k30 _ _ (some ad245) x7_1.length x7_1 := (Kd.V_at (base := w.heap.size) (Kd.N_V HO_7.out)).2.2
                                              have q051 : (0 : Int) ≤ (x15_4 : Int) := of_decide_eq_true (by first | (with_reducible assumption) | assumption)
                                              have hcut51 := cut_from (P := Try.prog) 25 30 .i64 Try.underlying25 hi051 8 hsz51 (some ad245) x7_1.length co33 x15_4 q051 q51
                                              have hr51 := Kd.F_cut (m := (x15_4 : Int).toNat) (c := co33) hC51 (by omega) hroom51
                                              obtain ⟨A51, hA51⟩ : ∃ A1, A1 = (if co33 = (x15_4 : Int).toNat then (some ad245) else ((some ad245) : Option Addr).map (·.add ((x15_4 : Int).toNat * 8))) := ⟨_, rfl⟩
                                              obtain ⟨c51, hc51⟩ : ∃ c1, c1 = co33 - (x15_4 : Int).toNat := ⟨_, rfl⟩
                                              have hy51 : y270.length = x7_1.length - (x15_4 : Int).toNat := (by rw [Ny270.out, List.length_drop] <;> omega)
                                              rw [show (x7_1).drop (x15_4 : Int).toNat = y270 from Ny270.out.symm] at hr51
                                              replace hr51 : Kd.F k30 _ _ A51 y270.length y270 := (by rw [hA51]; exact hr51)
                                              rw [← hy51, ← hA51, ← hc51] at hcut51
                                              have HO274 := Aside0.mk (show Kd.V k30 30 _ w.heap.size _ (.slice A51 y270.length c51) y270 from Kd.V_mk (by rw [hy51, hc51]; exact Nat.sub_le_sub_right hroom51 _) hr51)
                                              have HC274 := Aside0.mk (show y270.length ≤ c51 from by rw [hy51, hc51]; exact Nat.sub_le_sub_right hroom51 _)
                                              clear hr51 hC51 hroom51 hi051 hsz51 hc51
                                              have KY51 := Aside0.mk hy51
                                              have KA51 := Aside0.mk hA51
                                              clear hy51 hA51
                                              replace q51 := eq_true q51
                                              refine start_ (n := 14) (S := fun w' => w'.cell? ⟨gb241, 0, none⟩ = some (.int .i64 ((rd_T30 l0 x18_1).f0)) ∧ w'.cell? ⟨gb241, 1, none⟩ = some (.int .i64 ((rd_T30 l0 x18_1).f1)) ∧ w'.cell? ⟨gb241, 2, none⟩ = some (.int .i64 ((rd_T30 l0 x18_1).f2)) ∧ w'.cell? ⟨gb241, 3, none⟩ = some (.int .i64 ((rd_T30 l0 x18_1).f3)) ∧ w'.cell? ⟨gb241, 4, none⟩ = some (.int .i64 ((rd_T30 l0 x18_1).f4)) ∧ w'.cell? ⟨gb241, 5, none⟩ = some (.int .i64 ((rd_T30 l0 x18_1).f5)) ∧ w'.cell? ⟨gb241, 6, none⟩ = some (.int .i64 ((rd_T30 l0 x18_1).f6)) ∧ w'.cell? ⟨gb241, 7, none⟩ = some (.slice A240_7 ((rd_T30 l0 x18_1).f7).length c240_7)) (ds := []) #[false, false, false, false, false, false, false, false, false, false, false, false, false, false] (by kernel_rfl) rfl rfl ⟨(blk_cell BK241.out 0).trans rfl, (blk_cell BK241.out 1).trans rfl, (blk_cell BK241.out 2).trans rfl, (blk_cell BK241.out 3).trans rfl, (blk_cell BK241.out 4).trans rfl, (blk_cell BK241.out 5).trans rfl, (blk_cell BK241.out 6).trans rfl, (blk_cell BK241.out 7).trans rfl⟩ (fun hHeld => ?_); refine with_tabW dryrotref16_Live.tab19 dryrotref16_Live.bits19 (fun HT_ HW_ => ?_)
                                              generalize w48.drew = w49 at HO_7 HL245_7 BK241 HR245_7 HB HO253 HO274 hHeld ⊢
                                              refine pure_ (i := 1) (N := some 93) (v := ?_) (a' := ?_) #[false, true, false, false, false, false, false, false, false, false, false, false, false, false] rfl rfl (any_of HT_.out (by kernel_rfl)) (fun _ _ _ h => h) (Or.inl ⟨by rfl, ?_⟩) ?_ ?_
                                              rotate_left
                                              · intro w'
                                                go_simp
                                                with_reducible rfl
                                              rotate_left
                                              · simp only [Act.put, List.setIfInBounds_toArray, List.set_cons_zero, List.set_cons_succ, i64_w, i32_w]
                                                rfl
                                              refine pure_ (i := 2) (N := some 94) (v := ?_) (a' := ?_) #[false, true, true, false, false, false, false, false, false, false, false, false, false, false] rfl rfl (any_of HT_.out (by kernel_rfl)) (fun _ _ _ h => h) (Or.inl ⟨by rfl, ?_⟩) ?_ ?_
                                              rotate_left
                                              · intro w'
                                                go_simp
                                                with_reducible rfl
                                              rotate_left
                                              · simp only [Act.put, List.setIfInBounds_toArray, List.set_cons_zero, List.set_cons_succ, i64_w, i32_w]
                                                rfl
                                              refine pure_ (i := 3) (N := some 95) (v := ?_) (a' := ?_) #[false, true, true, true, false, false, false, false, false, false, false, false, false, false] rfl rfl (any_of HT_.out (by kernel_rfl)) (fun _ _ _ h => h) (Or.inl ⟨by rfl, ?_⟩) ?_ ?_
                                              rotate_left
                                              · intro w'
                                                go_simp
                                                with_reducible rfl
                                              rotate_left
                                              · simp only [Act.put, List.setIfInBounds_toArray, List.set_cons_zero, List.set_cons_succ, i64_w, i32_w]
                                                rfl
                                              refine pure_ (i := 9) (N := some 101) (v := ?_) (a' := ?_) #[false, true, true, true, false, false, false, false, false, true, false, false, false, false] rfl rfl (any_of HT_.out (by kernel_rfl)) (fun _ _ _ h => h) (Or.inl ⟨by rfl, ?_⟩) ?_ ?_
                                              rotate_left
                                              · intro w'
                                                go_simp
                                                with_reducible rfl
                                              rotate_left
                                              · simp only [Act.put, List.setIfInBounds_toArray, List.set_cons_zero, List.set_cons_succ, i64_w, i32_w]
                                                rfl
                                              refine pure_ (i := 10) (N := some 102) (v := ?_) (a' := ?_) #[false, true, true, true, false, false, false, false, false, true, true, false, false, false] rfl rfl (any_of HT_.out (by kernel_rfl)) (fun _ _ _ h => h) (Or.inl ⟨by rfl, ?_⟩) ?_ ?_
                                              rotate_left
                                              · intro w'
                                                go_simp
                                                with_reducible rfl
                                              rotate_left
                                              · simp only [Act.put, List.setIfInBounds_toArray, List.set_cons_zero, List.set_cons_succ, i64_w, i32_w]
                                                rfl
                                              refine pure_ (i := 11) (N := some 103) (v := ?_) (a' := ?_) #[false, true, true, true, false, false, false, false, false, true, true, true, false, false] rfl rfl (any_of HT_.out (by kernel_rfl)) (fun _ _ _ h => h) (Or.inl ⟨by rfl, ?_⟩) ?_ ?_
                                              rotate_left
                                              · intro w'
                                                go_simp
                                                with_reducible rfl
                                              rotate_left
                                              · simp only [Act.put, List.setIfInBounds_toArray, List.set_cons_zero, List.set_cons_succ, i64_w, i32_w]
                                                rfl
                                              refine take_ (i := 5) (N := some 97) (v := ?_) (a' := ?_) #[false, true, true, true, false, true, false, false, false, true, true, true, false, false] rfl rfl (take_ofW HT_.out HW_.out (by kernel_rfl)) (fun _ _ _ h => h) (Or.inl ⟨by rfl, ?_⟩) hHeld ?_ ?_
                                              rotate_left
                                              · rintro w' ⟨s0, s1, s2, s3, s4, s5, s6, s7⟩
                                                go_simp
                                                with_reducible rfl
                                              rotate_left
                                              · simp only [Act.put, List.setIfInBounds_toArray, List.set_cons_zero, List.set_cons_succ, i64_w, i32_w]
                                                rfl
                                              refine one_ (i := 0) (N := some 92) #[true, true, true, true, false, true, false, false, false, true, true, true, false, false] rfl rfl (one_of HT_.out (by kernel_rfl)) (by decide) (fun K hK => ?_)
                                              refine Kd.N_lit_step k30 _ 30 ?hg (N' := 92) ?hd (xs := ([] : List (S30))) (inner := []) (ok := (fun k_ => (w.heap.size ≤ k_) ∧ some k_ ≠ (.slice (some ad245) x7_1.length co33 : Value).ownBlock ∧ k_ ≠ gb241)) (okp := (fun k_ => (w.heap.size ≤ k_) ∧ some k_ ≠ (.slice (some ad245) x7_1.length co33 : Value).ownBlock ∧ k_ ≠ gb241)) ?hr ?hp (fun _ hk => hk) ((show ∀ k_, w49.heap.size ≤ k_ → (fun k_ => (w.heap.size ≤ k_) ∧ some k_ ≠ (.slice (some ad245) x7_1.length co33 : Value).ownBlock ∧ k_ ≠ gb241) k_ from fun k_ hk => ⟨(Nat.le_trans (below_size (by repeat (first | (with_reducible first | exact HB.out | apply below_alloc | apply pw_below_drewN | apply below_drew1 | refine below_set ?_ GE241.out) | exact HB.out))) hk), Kd.fresh' (Kd.N_lt (by (with_reducible repeat (first | apply Kd.N_alloc | apply Kd.N_drewN | apply Kd.N_drew)); exact HO_7.out)) k_ hk, Kd.freshB (g := gb241) (o := .cells #[.int .i64 ((rd_T30 l0 x18_1).f0), .int .i64 ((rd_T30 l0 x18_1).f1), .int .i64 ((rd_T30 l0 x18_1).f2), .int .i64 ((rd_T30 l0 x18_1).f3), .int .i64 ((rd_T30 l0 x18_1).f4), .int .i64 ((rd_T30 l0 x18_1).f5), .int .i64 ((rd_T30 l0 x18_1).f6), .slice A240_7 ((rd_T30 l0 x18_1).f7).length c240_7] 30 (0, 0)) (by (with_reducible repeat (first | refine blk_drewN ?_ _ | refine blk_drew ?_ | refine blk_alloc ?_ _)); exact BK241.out) k_ hk⟩) _ (Nat.le_refl _)) (Below.refl _ _) (Nat.le_refl _) (by simp) ?_; (case hd => rfl); (case hg => rfl); (case hr => first | (go_simp; done) | (go_simp; rfl)); (case hp => exact (Reps.none _ _))
                                              intro v247 w52 ho53 hb hg_ hnew_
                                              clear hg_ hnew_
                                              (first | rw [← Ny246.out] at ho53 | (simp only [Int.reduceToNat] at ho53; rw [← Ny246.out] at ho53))
                                              have n0_ := Aside0.mk (Kd.N_elder' (by (with_reducible repeat (first | apply Kd.N_alloc | apply Kd.N_drewN | apply Kd.N_drew)); exact HO_7.out) (Kd.N_base ho53) hb)
                                              have n1_ := Aside0.mk (Kd.V_elder' (by (with_reducible repeat (first | apply Kd.V_alloc | apply Kd.V_drewN | apply Kd.V_drew)); exact HL245_7.out) (Kd.N_base ho53) hb)
                                              have n2_ := Aside0.mk (Kd.V_elder' (by (with_reducible repeat (first | apply Kd.V_alloc | apply Kd.V_drewN | apply Kd.V_drew)); exact HO253.out) (Kd.N_base ho53) hb)
                                              have n3_ := Aside0.mk (Kd.V_elder' (by (with_reducible repeat (first | apply Kd.V_alloc | apply Kd.V_drewN | apply Kd.V_drew)); exact HO274.out) (Kd.N_base ho53) hb)
                                              have n4_ := Aside0.mk (Kd.N_lower ho53 (below_size (by repeat (first | (with_reducible first | exact HB.out | apply below_alloc | apply pw_below_drewN | apply below_drew1 | refine below_set ?_ GE241.out) | exact HB.out))))
                                              have n5_ := Aside0.mk (blk_below (g := gb241) (o := .cells #[.int .i64 ((rd_T30 l0 x18_1).f0), .int .i64 ((rd_T30 l0 x18_1).f1), .int .i64 ((rd_T30 l0 x18_1).f2), .int .i64 ((rd_T30 l0 x18_1).f3), .int .i64 ((rd_T30 l0 x18_1).f4), .int .i64 ((rd_T30 l0 x18_1).f5), .int .i64 ((rd_T30 l0 x18_1).f6), .slice A240_7 ((rd_T30 l0 x18_1).f7).length c240_7] 30 (0, 0)) (by (with_reducible repeat (first | refine blk_drewN ?_ _ | refine blk_drew ?_ | refine blk_alloc ?_ _)); exact BK241.out) hb)
                                              have n6_ := Aside0.mk (Kd.C_below (by repeat (first | (with_reducible exact HR245_7.out) | (with_reducible refine Kd.C_alloc ?_ _) | (with_reducible refine Kd.C_drewN ?_ _) | (with_reducible refine Kd.C_drew ?_) | exact HR245_7.out)) hb)
                                              have n7_ := Aside0.mk (below_step (by repeat (first | (with_reducible first | exact HB.out | apply below_alloc | apply pw_below_drewN | apply below_drew1 | refine below_set ?_ GE241.out) | exact HB.out)) hb)
                                              clear HO_7
                                              clear HL245_7
                                              clear HO253
                                              clear HO274
                                              clear BK241
                                              clear HR245_7
                                              clear HB
                                              have HO_7 := n0_
                                              have HL245_7 := n1_
                                              have HO253 := n2_
                                              have HO274 := n3_
                                              have HO248 := n4_
                                              have BK241 := n5_
                                              have HR245_7 := n6_
                                              have HB := n7_
                                              clear n0_ n1_ n2_ n3_ n4_ n5_ n6_ n7_
                                              clear hb ho53
                                              refine hK.out _ _ ⟨(blk_cell BK241.out 0).trans rfl, (blk_cell BK241.out 1).trans rfl, (blk_cell BK241.out 2).trans rfl, (blk_cell BK241.out 3).trans rfl, (blk_cell BK241.out 4).trans rfl, (blk_cell BK241.out 5).trans rfl, (blk_cell BK241.out 6).trans rfl, (blk_cell BK241.out 7).trans rfl⟩ (fun hHeld => ?_)
                                              clear hK K
                                              refine norm_ (a' := ?_) ?_ ?_
                                              rotate_left
                                              · show Act.put _ (some 92) _ = _
                                                simp only [Act.put, List.setIfInBounds_toArray, List.set_cons_zero, List.set_cons_succ, i64_w, i32_w]
                                                rfl
                                              refine one_ (i := 4) (N := some 96) #[true, true, true, true, true, true, false, false, false, true, true, true, false, false] rfl rfl (one_of HT_.out (by kernel_rfl)) (by decide) (fun K hK => ?_)
                                              refine Kd.N_append_rows_step k30 (w0 := w) w.heap.size (by rfl) (.tmp 92) (.tmp 95) 25 30 (.agg #[(.int .i64 0), (.int .i64 0), (.int .i64 0), (.int .i64 0), (.int .i64 0), (.int .i64 0), (.int .i64 0), (.slice none 0 0)]) 80 rfl Try.underlying25 info30 rfl (by decide) (by omega) v247 y246 y249 _ _ _ (fun k_ => (w.heap.size ≤ k_) ∧ k_ ≠ gb241) (fun k_ => ((fun k_ => (w.heap.size ≤ k_) ∧ k_ ≠ gb241)) k_ ∧ some k_ ≠ (v247 : Value).ownBlock) rfl rfl ?aO ?aR (fun _ hk => hk) ?aF ?aB ?aS ?aL ?_
                                              (case aR => exact (by skip; exact Kd.V_F (Kd.V_mono (ok' := (fun k_ => ((fun k_ => (w.heap.size ≤ k_) ∧ k_ ≠ gb241)) k_ ∧ some k_ ≠ (v247 : Value).ownBlock)) (HO253.out) (fun k_ hk => ⟨⟨hk.1.1, hk.1.2⟩, hk.2⟩))))
                                              (case aB => exact (by repeat (first | (with_reducible first | exact HB.out | apply below_alloc | apply pw_below_drewN | apply below_drew1 | refine below_set ?_ GE241.out) | exact HB.out)))
                                              (case aF => exact (fun k_ hk => ⟨(Nat.le_trans (below_size (by repeat (first | (with_reducible first | exact HB.out | apply below_alloc | apply pw_below_drewN | apply below_drew1 | refine below_set ?_ GE241.out) | exact HB.out))) hk), Kd.freshB (g := gb241) (o := .cells #[.int .i64 ((rd_T30 l0 x18_1).f0), .int .i64 ((rd_T30 l0 x18_1).f1), .int .i64 ((rd_T30 l0 x18_1).f2), .int .i64 ((rd_T30 l0 x18_1).f3), .int .i64 ((rd_T30 l0 x18_1).f4), .int .i64 ((rd_T30 l0 x18_1).f5), .int .i64 ((rd_T30 l0 x18_1).f6), .slice A240_7 ((rd_T30 l0 x18_1).f7).length c240_7] 30 (0, 0)) (by (with_reducible repeat (first | refine blk_drewN ?_ _ | refine blk_drew ?_ | refine blk_alloc ?_ _)); exact BK241.out) k_ hk⟩))
                                              (case aO => exact (by (with_reducible repeat (first | apply Kd.N_alloc | apply Kd.N_drewN | apply Kd.N_drew)); exact Kd.N_mono HO248.out (fun _ hk => ⟨hk.1, hk.2.2⟩)))
                                              (case aS => exact (below_size (by repeat (first | (with_reducible first | exact HB.out | apply below_alloc | apply pw_below_drewN | apply below_drew1 | refine below_set ?_ GE241.out) | exact HB.out))))
                                              (case aL => have := LMc42.out; omega)
                                              intro v255 w54 ho hb hg hat
                                              rw [← Ny254.out] at ho
                                              have n0_ := Aside0.mk (Kd.N_afterv (ok := (fun k_ => (w.heap.size ≤ k_) ∧ k_ ≠ gb241)) (by (with_reducible repeat (first | apply Kd.N_alloc | apply Kd.N_drewN | apply Kd.N_drew)); exact HO_7.out) hg hat)
                                              have n1_ := Aside0.mk (blk_grown (g := gb241) (o := .cells #[.int .i64 ((rd_T30 l0 x18_1).f0), .int .i64 ((rd_T30 l0 x18_1).f1), .int .i64 ((rd_T30 l0 x18_1).f2), .int .i64 ((rd_T30 l0 x18_1).f3), .int .i64 ((rd_T30 l0 x18_1).f4), .int .i64 ((rd_T30 l0 x18_1).f5), .int .i64 ((rd_T30 l0 x18_1).f6), .slice A240_7 ((rd_T30 l0 x18_1).f7).length c240_7] 30 (0, 0)) (by (with_reducible repeat (first | refine blk_drewN ?_ _ | refine blk_drew ?_ | refine blk_alloc ?_ _)); exact BK241.out) hg (Kd.N_away HO248.out (fun _ hk => hk.2.2)))
                                              have n2_ := Aside0.mk (Kd.V_afterv (ok := (fun k_ => (w.heap.size ≤ k_) ∧ some k_ ≠ (.slice (some ad245) x7_1.length co33 : Value).ownBlock ∧ k_ ≠ gb241)) (by (with_reducible repeat (first | apply Kd.V_alloc | apply Kd.V_drewN | apply Kd.V_drew)); exact Kd.V_mono HL245_7.out (fun _ hk => ⟨⟨hk.1.1.1, ⟨hk.1.2, hk.1.1.2⟩⟩, hk.2⟩)) hg hat)
                                              have n3_ := Aside0.mk (Kd.V_afterv (ok := (fun k_ => (w.heap.size ≤ k_) ∧ k_ ≠ gb241)) (by (with_reducible repeat (first | apply Kd.V_alloc | apply Kd.V_drewN | apply Kd.V_drew)); exact HO253.out) hg hat)
                                              have n4_ := Aside0.mk (Kd.V_afterv (ok := (fun k_ => (w.heap.size ≤ k_) ∧ k_ ≠ gb241)) (by (with_reducible repeat (first | apply Kd.V_alloc | apply Kd.V_drewN | apply Kd.V_drew)); exact HO274.out) hg hat)
                                              have n5_ := Aside0.mk (hb)
                                              have n6_ := Aside0.mk (ho)
                                              clear HO_7
                                              clear BK241
                                              clear HL245_7
                                              clear HO253
                                              clear HO274
                                              clear HB
                                              clear HO248
                                              have HO_7 := n0_
                                              have BK241 := n1_
                                              have HL245_7 := n2_
                                              have HO253 := n3_
                                              have HO274 := n4_
                                              have HB := n5_
                                              have HO256 := n6_
                                              clear n0_ n1_ n2_ n3_ n4_ n5_ n6_
                                              clear ho hb hg hat
                                              refine hK.out _ _ ⟨(blk_cell BK241.out 0).trans rfl, (blk_cell BK241.out 1).trans rfl, (blk_cell BK241.out 2).trans rfl, (blk_cell BK241.out 3).trans rfl, (blk_cell BK241.out 4).trans rfl, (blk_cell BK241.out 5).trans rfl, (blk_cell BK241.out 6).trans rfl, (blk_cell BK241.out 7).trans rfl⟩ (fun hHeld => ?_)
                                              clear hK K
                                              refine norm_ (a' := ?_) ?_ ?_
                                              rotate_left
                                              · show Act.put _ (some 96) _ = _
                                                simp only [Act.put, List.setIfInBounds_toArray, List.set_cons_zero, List.set_cons_succ, i64_w, i32_w]
                                                rfl
                                              refine one_ (i := 6) (N := some 98) #[true, true, true, true, true, true, true, false, false, true, true, true, false, false] rfl rfl (one_of HT_.out (by kernel_rfl)) (by decide) (fun K hK => ?_)
                                              refine goes_ Try.func46 (by kernel_rfl) rfl #[.agg #[.int .i64 ((rd_T30 l0 x18_1).f0), .int .i64 ((rd_T30 l0 x18_1).f1), .int .i64 ((rd_T30 l0 x18_1).f2), .int .i64 ((rd_T30 l0 x18_1).f3), .int .i64 ((rd_T30 l0 x18_1).f4), .int .i64 ((rd_T30 l0 x18_1).f5), .int .i64 ((rd_T30 l0 x18_1).f6), .slice A240_7 ((rd_T30 l0 x18_1).f7).length c240_7]] (by rfl) rfl rfl (by (try simp only [List.map_toArray, List.map_cons, List.map_nil]); first | done | rfl | (simp only [List.length_drop, List.length_take]; rfl)) ?_
                                              with_reducible refine (dryrotref16_Copy.calls ((rd_T30 l0 x18_1).f0) ((rd_T30 l0 x18_1).f1) ((rd_T30 l0 x18_1).f2) ((rd_T30 l0 x18_1).f3) ((rd_T30 l0 x18_1).f4) ((rd_T30 l0 x18_1).f5) ((rd_T30 l0 x18_1).f6) _ _ ((rd_T30 l0 x18_1).f7) t257 t258 t259 t260 t261 t262 t263 t264 _ ?side1 ?side2 A43.out).mono ?_
                                              (case side1 => repeat (first | exact (Kd.C_below HR240_7.out HB.out) | (with_reducible refine Kd.C_alloc ?_ _) | (with_reducible refine Kd.C_drewN ?_ _) | (with_reducible refine Kd.C_drew ?_)))
                                              (case side2 => exact HC240_7.out)
                                              rintro e w55 ⟨v265, rfl, ho0, hb⟩
                                              refine ⟨_, rfl, ?_⟩
                                              have n0_ := Aside0.mk (Kd.N_elder' (by (with_reducible repeat (first | apply Kd.N_alloc | apply Kd.N_drewN | apply Kd.N_drew)); exact HO_7.out) (Kd.R_base ho0) hb)
                                              have n1_ := Aside0.mk (Kd.V_elder' (by (with_reducible repeat (first | apply Kd.V_alloc | apply Kd.V_drewN | apply Kd.V_drew)); exact HL245_7.out) (Kd.R_base ho0) hb)
                                              have n2_ := Aside0.mk (Kd.V_elder' (by (with_reducible repeat (first | apply Kd.V_alloc | apply Kd.V_drewN | apply Kd.V_drew)); exact HO253.out) (Kd.R_base ho0) hb)
                                              have n3_ := Aside0.mk (Kd.V_elder' (by (with_reducible repeat (first | apply Kd.V_alloc | apply Kd.V_drewN | apply Kd.V_drew)); exact HO274.out) (Kd.R_base ho0) hb)
                                              have n4_ := Aside0.mk (Kd.N_elder' (by (with_reducible repeat (first | apply Kd.N_alloc | apply Kd.N_drewN | apply Kd.N_drew)); exact HO256.out) (Kd.R_base ho0) hb)
                                              have n5_ := Aside0.mk (Kd.R_lower (Kd.R_newM (M := fun k_ => (w.heap.size ≤ k_)) ho0 (below_size (by repeat (first | (with_reducible first | exact HB.out | apply below_alloc | apply pw_below_drewN | apply below_drew1 | refine below_set ?_ GE241.out) | exact HB.out))) (fun k_ h_ => h_)) (below_size (by repeat (first | (with_reducible first | exact HB.out | apply below_alloc | apply pw_below_drewN | apply below_drew1 | refine below_set ?_ GE241.out) | exact HB.out))))
                                              have n6_ := Aside0.mk (blk_below (g := gb241) (o := .cells #[.int .i64 ((rd_T30 l0 x18_1).f0), .int .i64 ((rd_T30 l0 x18_1).f1), .int .i64 ((rd_T30 l0 x18_1).f2), .int .i64 ((rd_T30 l0 x18_1).f3), .int .i64 ((rd_T30 l0 x18_1).f4), .int .i64 ((rd_T30 l0 x18_1).f5), .int .i64 ((rd_T30 l0 x18_1).f6), .slice A240_7 ((rd_T30 l0 x18_1).f7).length c240_7] 30 (0, 0)) (by (with_reducible repeat (first | refine blk_drewN ?_ _ | refine blk_drew ?_ | refine blk_alloc ?_ _)); exact BK241.out) hb)
                                              have n7_ := Aside0.mk (below_step (by repeat (first | (with_reducible first | exact HB.out | apply below_alloc | apply pw_below_drewN | apply below_drew1 | refine below_set ?_ GE241.out) | exact HB.out)) hb)
                                              clear HO_7
                                              clear HL245_7
                                              clear HO253
                                              clear HO274
                                              clear HO256
                                              clear BK241
                                              clear HB
                                              have HO_7 := n0_
                                              have HL245_7 := n1_
                                              have HO253 := n2_
                                              have HO274 := n3_
                                              have HO256 := n4_
                                              have HO266 := n5_
                                              have BK241 := n6_
                                              have HB := n7_
                                              clear n0_ n1_ n2_ n3_ n4_ n5_ n6_ n7_
                                              (try clear hb)
                                              (try clear hb2)
                                              (try clear hk)
                                              (try clear hi)
                                              (try clear ho0)
                                              obtain ⟨Ao57, co57, eo57⟩ := Kd.R_slice HO266.out
                                              (first | subst eo57 | (injection eo57 with f1_ f2_ f3_; have f4_ := f1_.symm; have f5_ := f3_.symm; clear f1_ f2_ f3_; subst f4_; subst f5_))
                                              refine hK.out _ _ ⟨(blk_cell BK241.out 0).trans rfl, (blk_cell BK241.out 1).trans rfl, (blk_cell BK241.out 2).trans rfl, (blk_cell BK241.out 3).trans rfl, (blk_cell BK241.out 4).trans rfl, (blk_cell BK241.out 5).trans rfl, (blk_cell BK241.out 6).trans rfl, (blk_cell BK241.out 7).trans rfl⟩ (fun hHeld => ?_)
                                              clear hK K
                                              refine norm_ (a' := ?_) ?_ ?_
                                              rotate_left
                                              · show Act.put _ (some 98) _ = _
                                                simp only [Act.put, List.setIfInBounds_toArray, List.set_cons_zero, List.set_cons_succ, i64_w, i32_w]
                                                rfl
                                              refine one_ (i := 7) (N := some 99) #[true, true, true, true, true, true, true, true, false, true, true, true, false, false] rfl rfl (one_of HT_.out (by kernel_rfl)) (by decide) (fun K hK => ?_)
                                              refine value_ (w1 := ?_) (v := ?_) (by rfl) rfl ?_ ?_
                                              rotate_left 2
                                              · go_simp
                                                constructor
                                                · rfl
                                                · rfl
                                              refine hK.out _ _ ⟨(blk_cell (blk_alloc BK241.out _) 0).trans rfl, (blk_cell (blk_alloc BK241.out _) 1).trans rfl, (blk_cell (blk_alloc BK241.out _) 2).trans rfl, (blk_cell (blk_alloc BK241.out _) 3).trans rfl, (blk_cell (blk_alloc BK241.out _) 4).trans rfl, (blk_cell (blk_alloc BK241.out _) 5).trans rfl, (blk_cell (blk_alloc BK241.out _) 6).trans rfl, (blk_cell (blk_alloc BK241.out _) 7).trans rfl⟩ (fun hHeld => ?_)
                                              clear hK K
                                              refine norm_ (a' := ?_) ?_ ?_
                                              rotate_left
                                              · show Act.put _ (some 99) _ = _
                                                simp only [Act.put, List.setIfInBounds_toArray, List.set_cons_zero, List.set_cons_succ, i64_w, i32_w]
                                                rfl
                                              refine one_ (i := 8) (N := some 100) #[true, true, true, true, true, true, true, true, true, true, true, true, false, false] rfl rfl (one_of HT_.out (by kernel_rfl)) (by decide) (fun K hK => ?_)
                                              refine Kd.N_append_step k30 (w0 := w) w.heap.size (by rfl) (.tmp 96) (.tmp 99) 25 30 (.agg #[(.int .i64 0), (.int .i64 0), (.int .i64 0), (.int .i64 0), (.int .i64 0), (.int .i64 0), (.int .i64 0), (.slice none 0 0)]) 80 rfl Try.underlying25 info30 rfl (by decide) (by omega) v255 y254 (⟨t257, t258, t259, t260, t261, t262, t263, t264⟩ : S30) [.int .i64 t257, .int .i64 t258, .int .i64 t259, .int .i64 t260, .int .i64 t261, .int .i64 t262, .int .i64 t263, .slice Ao57 t264.length co57] (fun k_ => (w.heap.size ≤ k_) ∧ k_ ≠ gb241) (fun k_ => ((fun k_ => (w.heap.size ≤ k_) ∧ k_ ≠ gb241)) k_ ∧ some k_ ≠ (v255 : Value).ownBlock) rfl rfl ?aP (fun _ hk => hk) ?aF ?aO ?aB ?aS ?aL ?_
                                              (case aP => exact (k30_mkF _ _ (⟨t257, t258, t259, t260, t261, t262, t263, t264⟩ : S30) (Kd.R_reads' (Kd.R_mono (ok' := (fun k_ => ((fun k_ => (w.heap.size ≤ k_) ∧ k_ ≠ gb241)) k_ ∧ some k_ ≠ (v255 : Value).ownBlock)) (Kd.R_types (Kd.R_apart' (HO266.out) (Kd.N_typed HO256.out) (by decide)) BK241.out (by decide)) (fun k_ hk => ⟨⟨hk.1.1.1, hk.2⟩, hk.1.2⟩))).2.1 (Kd.R_F (Kd.R_mono (ok' := (fun k_ => ((fun k_ => (w.heap.size ≤ k_) ∧ k_ ≠ gb241)) k_ ∧ some k_ ≠ (v255 : Value).ownBlock)) (Kd.R_types (Kd.R_apart' (HO266.out) (Kd.N_typed HO256.out) (by decide)) BK241.out (by decide)) (fun k_ hk => ⟨⟨hk.1.1.1, hk.2⟩, hk.1.2⟩)))))
                                              (case aB => exact (by repeat (first | (with_reducible first | exact HB.out | apply below_alloc | apply pw_below_drewN | apply below_drew1 | refine below_set ?_ GE241.out) | exact HB.out)))
                                              (case aF => exact (fun k_ hk => ⟨(Nat.le_trans (below_size (by repeat (first | (with_reducible first | exact HB.out | apply below_alloc | apply pw_below_drewN | apply below_drew1 | refine below_set ?_ GE241.out) | exact HB.out))) hk), Kd.freshB (g := gb241) (o := .cells #[.int .i64 ((rd_T30 l0 x18_1).f0), .int .i64 ((rd_T30 l0 x18_1).f1), .int .i64 ((rd_T30 l0 x18_1).f2), .int .i64 ((rd_T30 l0 x18_1).f3), .int .i64 ((rd_T30 l0 x18_1).f4), .int .i64 ((rd_T30 l0 x18_1).f5), .int .i64 ((rd_T30 l0 x18_1).f6), .slice A240_7 ((rd_T30 l0 x18_1).f7).length c240_7] 30 (0, 0)) (by (with_reducible repeat (first | refine blk_drewN ?_ _ | refine blk_drew ?_ | refine blk_alloc ?_ _)); exact BK241.out) k_ hk⟩))
                                              (case aO => exact (by (with_reducible repeat (first | apply Kd.N_alloc | apply Kd.N_drewN | apply Kd.N_drew)); exact Kd.N_mono HO256.out (fun _ hk => ⟨hk.1.1, hk.1.2⟩)))
                                              (case aS => exact (below_size (by repeat (first | (with_reducible first | exact HB.out | apply below_alloc | apply pw_below_drewN | apply below_drew1 | refine below_set ?_ GE241.out) | exact HB.out))))
                                              (case aL => have := LMc44.out; omega)
                                              intro v268 w56 ho hb hg hat
                                              rw [← Ny267.out] at ho
                                              have n0_ := Aside0.mk (Kd.N_afterv (ok := (fun k_ => (w.heap.size ≤ k_) ∧ some k_ ≠ (.slice Ao57 t264.length co57 : Value).ownBlock ∧ k_ ≠ gb241)) (by (with_reducible repeat (first | apply Kd.N_alloc | apply Kd.N_drewN | apply Kd.N_drew)); exact Kd.N_mono HO_7.out (fun _ hk => ⟨⟨hk.1.1.1, ⟨hk.2, hk.1.1.2⟩⟩, hk.1.2⟩)) hg hat)
                                              have n1_ := Aside0.mk (blk_grown (g := gb241) (o := .cells #[.int .i64 ((rd_T30 l0 x18_1).f0), .int .i64 ((rd_T30 l0 x18_1).f1), .int .i64 ((rd_T30 l0 x18_1).f2), .int .i64 ((rd_T30 l0 x18_1).f3), .int .i64 ((rd_T30 l0 x18_1).f4), .int .i64 ((rd_T30 l0 x18_1).f5), .int .i64 ((rd_T30 l0 x18_1).f6), .slice A240_7 ((rd_T30 l0 x18_1).f7).length c240_7] 30 (0, 0)) (by (with_reducible repeat (first | refine blk_drewN ?_ _ | refine blk_drew ?_ | refine blk_alloc ?_ _)); exact BK241.out) hg (Kd.N_away HO256.out (fun _ hk => hk.1.2)))
                                              have n2_ := Aside0.mk (Kd.V_afterv (ok := (fun k_ => (w.heap.size ≤ k_) ∧ some k_ ≠ (.slice (some ad245) x7_1.length co33 : Value).ownBlock ∧ some k_ ≠ (.slice Ao57 t264.length co57 : Value).ownBlock ∧ k_ ≠ gb241)) (by (with_reducible repeat (first | apply Kd.V_alloc | apply Kd.V_drewN | apply Kd.V_drew)); exact Kd.V_mono HL245_7.out (fun _ hk => ⟨⟨hk.1.1.1, ⟨hk.1.1.2.1, ⟨hk.2, hk.1.1.2.2⟩⟩⟩, hk.1.2⟩)) hg hat)
                                              have n3_ := Aside0.mk (Kd.V_afterv (ok := (fun k_ => (w.heap.size ≤ k_) ∧ some k_ ≠ (.slice Ao57 t264.length co57 : Value).ownBlock ∧ k_ ≠ gb241)) (by (with_reducible repeat (first | apply Kd.V_alloc | apply Kd.V_drewN | apply Kd.V_drew)); exact Kd.V_mono HO253.out (fun _ hk => ⟨⟨hk.1.1.1, ⟨hk.2, hk.1.1.2⟩⟩, hk.1.2⟩)) hg hat)
                                              have n4_ := Aside0.mk (Kd.V_afterv (ok := (fun k_ => (w.heap.size ≤ k_) ∧ some k_ ≠ (.slice Ao57 t264.length co57 : Value).ownBlock ∧ k_ ≠ gb241)) (by (with_reducible repeat (first | apply Kd.V_alloc | apply Kd.V_drewN | apply Kd.V_drew)); exact Kd.V_mono HO274.out (fun _ hk => ⟨⟨hk.1.1.1, ⟨hk.2, hk.1.1.2⟩⟩, hk.1.2⟩)) hg hat)
                                              have n5_ := Aside0.mk (hb)
                                              have n6_ := Aside0.mk (ho)
                                              clear HO_7
                                              clear BK241
                                              clear HL245_7
                                              clear HO253
                                              clear HO274
                                              clear HB
                                              clear HO256
                                              clear HO266
                                              have HO_7 := n0_
                                              have BK241 := n1_
                                              have HL245_7 := n2_
                                              have HO253 := n3_
                                              have HO274 := n4_
                                              have HB := n5_
                                              have HO269 := n6_
                                              clear n0_ n1_ n2_ n3_ n4_ n5_ n6_
                                              clear ho hb hg hat
                                              refine hK.out _ _ ⟨(blk_cell BK241.out 0).trans rfl, (blk_cell BK241.out 1).trans rfl, (blk_cell BK241.out 2).trans rfl, (blk_cell BK241.out 3).trans rfl, (blk_cell BK241.out 4).trans rfl, (blk_cell BK241.out 5).trans rfl, (blk_cell BK241.out 6).trans rfl, (blk_cell BK241.out 7).trans rfl⟩ (fun hHeld => ?_)
                                              clear hK K
                                              refine norm_ (a' := ?_) ?_ ?_
                                              rotate_left
                                              · show Act.put _ (some 100) _ = _
                                                simp only [Act.put, List.setIfInBounds_toArray, List.set_cons_zero, List.set_cons_succ, i64_w, i32_w]
                                                rfl
                                              refine one_ (i := 12) (N := some 104) #[true, true, true, true, true, true, true, true, true, true, true, true, true, false] rfl rfl (one_of HT_.out (by kernel_rfl)) (by decide) (fun K hK => ?_)
                                              refine Kd.N_append_rows_step k30 (w0 := w) w.heap.size (by rfl) (.tmp 100) (.tmp 103) 25 30 (.agg #[(.int .i64 0), (.int .i64 0), (.int .i64 0), (.int .i64 0), (.int .i64 0), (.int .i64 0), (.int .i64 0), (.slice none 0 0)]) 80 rfl Try.underlying25 info30 rfl (by decide) (by omega) v268 y267 y270 _ _ _ (fun k_ => (w.heap.size ≤ k_) ∧ k_ ≠ gb241) (fun k_ => ((fun k_ => (w.heap.size ≤ k_) ∧ k_ ≠ gb241)) k_ ∧ some k_ ≠ (v268 : Value).ownBlock) rfl rfl ?aO ?aR (fun _ hk => hk) ?aF ?aB ?aS ?aL ?_
                                              (case aR => exact (by skip; exact Kd.V_F (Kd.V_mono (ok' := (fun k_ => ((fun k_ => (w.heap.size ≤ k_) ∧ k_ ≠ gb241)) k_ ∧ some k_ ≠ (v268 : Value).ownBlock)) (HO274.out) (fun k_ hk => ⟨⟨hk.1.1, hk.1.2.2⟩, hk.2⟩))))
                                              (case aB => exact (by repeat (first | (with_reducible first | exact HB.out | apply below_alloc | apply pw_below_drewN | apply below_drew1 | refine below_set ?_ GE241.out) | exact HB.out)))
                                              (case aF => exact (fun k_ hk => ⟨(Nat.le_trans (below_size (by repeat (first | (with_reducible first | exact HB.out | apply below_alloc | apply pw_below_drewN | apply below_drew1 | refine below_set ?_ GE241.out) | exact HB.out))) hk), Kd.freshB (g := gb241) (o := .cells #[.int .i64 ((rd_T30 l0 x18_1).f0), .int .i64 ((rd_T30 l0 x18_1).f1), .int .i64 ((rd_T30 l0 x18_1).f2), .int .i64 ((rd_T30 l0 x18_1).f3), .int .i64 ((rd_T30 l0 x18_1).f4), .int .i64 ((rd_T30 l0 x18_1).f5), .int .i64 ((rd_T30 l0 x18_1).f6), .slice A240_7 ((rd_T30 l0 x18_1).f7).length c240_7] 30 (0, 0)) (by (with_reducible repeat (first | refine blk_drewN ?_ _ | refine blk_drew ?_ | refine blk_alloc ?_ _)); exact BK241.out) k_ hk⟩))
                                              (case aO => exact (by (with_reducible repeat (first | apply Kd.N_alloc | apply Kd.N_drewN | apply Kd.N_drew)); exact HO269.out))
                                              (case aS => exact (below_size (by repeat (first | (with_reducible first | exact HB.out | apply below_alloc | apply pw_below_drewN | apply below_drew1 | refine below_set ?_ GE241.out) | exact HB.out))))
                                              (case aL => have := LMc47.out; omega)
                                              intro v276 w58 ho hb hg hat
                                              rw [← Ny275.out] at ho
                                              have n0_ := Aside0.mk (Kd.N_afterv (ok := (fun k_ => (w.heap.size ≤ k_) ∧ k_ ≠ gb241)) (by (with_reducible repeat (first | apply Kd.N_alloc | apply Kd.N_drewN | apply Kd.N_drew)); exact Kd.N_mono HO_7.out (fun _ hk => ⟨⟨hk.1.1, hk.1.2.2⟩, hk.2⟩)) hg hat)
                                              have n1_ := Aside0.mk (blk_grown (g := gb241) (o := .cells #[.int .i64 ((rd_T30 l0 x18_1).f0), .int .i64 ((rd_T30 l0 x18_1).f1), .int .i64 ((rd_T30 l0 x18_1).f2), .int .i64 ((rd_T30 l0 x18_1).f3), .int .i64 ((rd_T30 l0 x18_1).f4), .int .i64 ((rd_T30 l0 x18_1).f5), .int .i64 ((rd_T30 l0 x18_1).f6), .slice A240_7 ((rd_T30 l0 x18_1).f7).length c240_7] 30 (0, 0)) (by (with_reducible repeat (first | refine blk_drewN ?_ _ | refine blk_drew ?_ | refine blk_alloc ?_ _)); exact BK241.out) hg (Kd.N_away HO269.out (fun _ hk => hk.2)))
                                              have n2_ := Aside0.mk (Kd.V_afterv (ok := (fun k_ => (w.heap.size ≤ k_) ∧ some k_ ≠ (.slice (some ad245) x7_1.length co33 : Value).ownBlock ∧ k_ ≠ gb241)) (by (with_reducible repeat (first | apply Kd.V_alloc | apply Kd.V_drewN | apply Kd.V_drew)); exact Kd.V_mono HL245_7.out (fun _ hk => ⟨⟨hk.1.1, ⟨hk.1.2.1, hk.1.2.2.2⟩⟩, hk.2⟩)) hg hat)
                                              have n3_ := Aside0.mk (Kd.V_afterv (ok := (fun k_ => (w.heap.size ≤ k_) ∧ k_ ≠ gb241)) (by (with_reducible repeat (first | apply Kd.V_alloc | apply Kd.V_drewN | apply Kd.V_drew)); exact Kd.V_mono HO253.out (fun _ hk => ⟨⟨hk.1.1, hk.1.2.2⟩, hk.2⟩)) hg hat)
                                              have n4_ := Aside0.mk (Kd.V_afterv (ok := (fun k_ => (w.heap.size ≤ k_) ∧ k_ ≠ gb241)) (by (with_reducible repeat (first | apply Kd.V_alloc | apply Kd.V_drewN | apply Kd.V_drew)); exact Kd.V_mono HO274.out (fun _ hk => ⟨⟨hk.1.1, hk.1.2.2⟩, hk.2⟩)) hg hat)
                                              have n5_ := Aside0.mk (hb)
                                              have n6_ := Aside0.mk (ho)
                                              clear HO_7
                                              clear BK241
                                              clear HL245_7
                                              clear HO253
                                              clear HO274
                                              clear HB
                                              clear HO269
                                              have HO_7 := n0_
                                              have BK241 := n1_
                                              have HL245_7 := n2_
                                              have HO253 := n3_
                                              have HO274 := n4_
                                              have HB := n5_
                                              have HO277 := n6_
                                              clear n0_ n1_ n2_ n3_ n4_ n5_ n6_
                                              clear ho hb hg hat
                                              refine hK.out _ _ ⟨(blk_cell BK241.out 0).trans rfl, (blk_cell BK241.out 1).trans rfl, (blk_cell BK241.out 2).trans rfl, (blk_cell BK241.out 3).trans rfl, (blk_cell BK241.out 4).trans rfl, (blk_cell BK241.out 5).trans rfl, (blk_cell BK241.out 6).trans rfl, (blk_cell BK241.out 7).trans rfl⟩ (fun hHeld => ?_)
                                              clear hK K
                                              refine norm_ (a' := ?_) ?_ ?_
                                              rotate_left
                                              · show Act.put _ (some 104) _ = _
                                                simp only [Act.put, List.setIfInBounds_toArray, List.set_cons_zero, List.set_cons_succ, i64_w, i32_w]
                                                rfl
                                              refine pure_ (i := 13) (N := some 7) (v := ?_) (a' := ?_) #[true, true, true, true, true, true, true, true, true, true, true, true, true, true] rfl rfl (any_of HT_.out (by kernel_rfl)) (fun _ _ _ h => h) (Or.inl ⟨by rfl, ?_⟩) ?_ ?_
                                              rotate_left
                                              · intro w'
                                                go_simp
                                                with_reducible rfl
                                              rotate_left
                                              · simp only [Act.put, List.setIfInBounds_toArray, List.set_cons_zero, List.set_cons_succ, i64_w, i32_w]
                                                rfl
                                              refine done_ (done_of HT_.out (by kernel_rfl)) ?_
                                              try go_wp2
                                              go_roundg k4
                                              case measure => have := HK1.out; have := HJ6.out; have := HK3.out; have := HK4.out; omega
                                              case rel => exact ⟨(y275), (wrap64 (x18_1 + 1)), (by first | rfl | (simp; done) | (simp [*]; done)), H', ⟨by have := HK1.out; have := HJ6.out; have := HK3.out; have := HK4.out; omega⟩, ⟨by (with_reducible repeat (first | apply Kd.N_alloc | apply Kd.N_drewN | apply Kd.N_drew)); exact Kd.N_mono HO277.out (fun _ hk => hk.1)⟩, ⟨by repeat (first | (with_reducible first | exact HB.out | apply below_alloc | apply pw_below_drewN | apply below_drew1 | refine below_set ?_ GE241.out) | exact HB.out)⟩⟩
                                            · rw [if_neg c47] at H
                                              exact absurd H (by simp)
                                          · rw [if_neg c44] at H
                                            exact absurd H (by simp)
                                        · rw [if_neg c42] at H
                                          exact absurd H (by simp)
                                      · rw [if_neg c41] at H
                                        exact absurd H (by simp)
                                    · rw [if_neg c40] at H
                                      exact absurd H (by simp)
                                · rw [if_neg c37] at H
                                  exact absurd H (by simp)
                              · rw [if_neg c36] at H
                                exact absurd H (by simp)
                            · rw [if_neg c34] at H
                              have c34b0 : decide (0 < x15_4) = false := decide_eq_false c34
                              clear c34
                              obtain ⟨y278, hy278⟩ : ∃ y_ : List (S30), y_ = (([] : List (S30))) := ⟨_, rfl⟩
                              replace H : (if 0 ≤ x15_4 then (if x15_4 ≤ (x7_1.length : Int) then ((some (x7_1.take (x15_4 : Int).toNat : List (S30))).bind fun y281 => (if y278.length + y281.length < 1759218604441 then ((some (y278 ++ y281 : List (S30))).bind fun y286 => ((dryrotref16_Copy.f ((rd_T30 l0 x18_1).f0) ((rd_T30 l0 x18_1).f1) ((rd_T30 l0 x18_1).f2) ((rd_T30 l0 x18_1).f3) ((rd_T30 l0 x18_1).f4) ((rd_T30 l0 x18_1).f5) ((rd_T30 l0 x18_1).f6) ((rd_T30 l0 x18_1).f7)).bind fun bt289 => (if y286.length < 1759218604441 then ((some (y286 ++ [(⟨bt289.1, bt289.2.1, bt289.2.2.1, bt289.2.2.2.1, bt289.2.2.2.2.1, bt289.2.2.2.2.2.1, bt289.2.2.2.2.2.2.1, bt289.2.2.2.2.2.2.2⟩ : S30)] : List (S30))).bind fun y299 => ((some (x7_1.drop (x15_4 : Int).toNat : List (S30))).bind fun y302 => (if y299.length + y302.length < 1759218604441 then (dryrotref16_Live.l0 k4 l0 a1 a2 (y299 ++ y302) l0 (l0.length : Int) (wrap64 (x18_1 + 1))) else (none)))) else (none)))) else (none))) else (none)) else (none)) = some r := by first | (rw [hy278]; with_reducible exact H) | (have H2_ := (Option.bind_some _ _).symm.trans H; rw [hy278]; with_reducible exact H2_) | (have H2_ := (Option.bind_some _ _).symm.trans H; with_reducible exact H2_) | with_reducible exact H | (rw [hy278]; exact H) | exact H
                              have Ny278 := Aside0.mk hy278
                              clear hy278
                              by_cases c59 : 0 ≤ x15_4
                              · rw [if_pos c59] at H
                                have c59b0 := eq_true c59
                                have c59b1 : decide (0 ≤ x15_4) = true := decide_eq_true c59
                                clear c59
                                by_cases c60 : x15_4 ≤ (x7_1.length : Int)
                                · rw [if_pos c60] at H
                                  have c60b0 := eq_true c60
                                  have c60b1 : decide (x15_4 ≤ (x7_1.length : Int)) = true := decide_eq_true c60
                                  clear c60
                                  obtain ⟨y281, hy281⟩ : ∃ y_ : List (S30), y_ = (x7_1.take (x15_4 : Int).toNat) := ⟨_, rfl⟩
                                  replace H : (if y278.length + y281.length < 1759218604441 then ((some (y278 ++ y281 : List (S30))).bind fun y286 => ((dryrotref16_Copy.f ((rd_T30 l0 x18_1).f0) ((rd_T30 l0 x18_1).f1) ((rd_T30 l0 x18_1).f2) ((rd_T30 l0 x18_1).f3) ((rd_T30 l0 x18_1).f4) ((rd_T30 l0 x18_1).f5) ((rd_T30 l0 x18_1).f6) ((rd_T30 l0 x18_1).f7)).bind fun bt289 => (if y286.length < 1759218604441 then ((some (y286 ++ [(⟨bt289.1, bt289.2.1, bt289.2.2.1, bt289.2.2.2.1, bt289.2.2.2.2.1, bt289.2.2.2.2.2.1, bt289.2.2.2.2.2.2.1, bt289.2.2.2.2.2.2.2⟩ : S30)] : List (S30))).bind fun y299 => ((some (x7_1.drop (x15_4 : Int).toNat : List (S30))).bind fun y302 => (if y299.length + y302.length < 1759218604441 then (dryrotref16_Live.l0 k4 l0 a1 a2 (y299 ++ y302) l0 (l0.length : Int) (wrap64 (x18_1 + 1))) else (none)))) else (none)))) else (none)) = some r := by first | (rw [hy281]; with_reducible exact H) | (have H2_ := (Option.bind_some _ _).symm.trans H; rw [hy281]; with_reducible exact H2_) | (have H2_ := (Option.bind_some _ _).symm.trans H; with_reducible exact H2_) | with_reducible exact H | (rw [hy281]; exact H) | exact H
                                  have Ny281 := Aside0.mk hy281
                                  clear hy281
                                  by_cases c61 : y278.length + y281.length < 1759218604441
                                  · rw [if_pos c61] at H
                                    have LMc61 := Aside0.mk c61
                                    clear c61
                                    obtain ⟨y286, hy286⟩ : ∃ y_ : List (S30), y_ = (y278 ++ y281) := ⟨_, rfl⟩
                                    replace H : ((dryrotref16_Copy.f ((rd_T30 l0 x18_1).f0) ((rd_T30 l0 x18_1).f1) ((rd_T30 l0 x18_1).f2) ((rd_T30 l0 x18_1).f3) ((rd_T30 l0 x18_1).f4) ((rd_T30 l0 x18_1).f5) ((rd_T30 l0 x18_1).f6) ((rd_T30 l0 x18_1).f7)).bind fun bt289 => (if y286.length < 1759218604441 then ((some (y286 ++ [(⟨bt289.1, bt289.2.1, bt289.2.2.1, bt289.2.2.2.1, bt289.2.2.2.2.1, bt289.2.2.2.2.2.1, bt289.2.2.2.2.2.2.1, bt289.2.2.2.2.2.2.2⟩ : S30)] : List (S30))).bind fun y299 => ((some (x7_1.drop (x15_4 : Int).toNat : List (S30))).bind fun y302 => (if y299.length + y302.length < 1759218604441 then (dryrotref16_Live.l0 k4 l0 a1 a2 (y299 ++ y302) l0 (l0.length : Int) (wrap64 (x18_1 + 1))) else (none)))) else (none))) = some r := by first | (rw [hy286]; with_reducible exact H) | (have H2_ := (Option.bind_some _ _).symm.trans H; rw [hy286]; with_reducible exact H2_) | (have H2_ := (Option.bind_some _ _).symm.trans H; with_reducible exact H2_) | with_reducible exact H | (rw [hy286]; exact H) | exact H
                                    have Ny286 := Aside0.mk hy286
                                    clear hy286
                                    replace H := Option.bind_eq_some_iff.mp H
                                    obtain ⟨⟨t289, t290, t291, t292, t293, t294, t295, t296⟩, A620, H⟩ := H
                                    replace H : (if y286.length < 1759218604441 then ((some (y286 ++ [(⟨t289, t290, t291, t292, t293, t294, t295, t296⟩ : S30)] : List (S30))).bind fun y299 => ((some (x7_1.drop (x15_4 : Int).toNat : List (S30))).bind fun y302 => (if y299.length + y302.length < 1759218604441 then (dryrotref16_Live.l0 k4 l0 a1 a2 (y299 ++ y302) l0 (l0.length : Int) (wrap64 (x18_1 + 1))) else (none)))) else (none)) = some r := H
                                    have A62 := Aside0.mk A620
                                    clear A620
                                    by_cases c63 : y286.length < 1759218604441
                                    · rw [if_pos c63] at H
                                      have LMc63 := Aside0.mk c63
                                      clear c63
                                      obtain ⟨y299, hy299⟩ : ∃ y_ : List (S30), y_ = (y286 ++ [(⟨t289, t290, t291, t292, t293, t294, t295, t296⟩ : S30)]) := ⟨_, rfl⟩
                                      replace H : ((some (x7_1.drop (x15_4 : Int).toNat : List (S30))).bind fun y302 => (if y299.length + y302.length < 1759218604441 then (dryrotref16_Live.l0 k4 l0 a1 a2 (y299 ++ y302) l0 (l0.length : Int) (wrap64 (x18_1 + 1))) else (none))) = some r := by first | (rw [hy299]; with_reducible exact H) | (have H2_ := (Option.bind_some _ _).symm.trans H; rw [hy299]; with_reducible exact H2_) | (have H2_ := (Option.bind_some _ _).symm.trans H; with_reducible exact H2_) | with_reducible exact H | (rw [hy299]; exact H) | exact H
                                      have Ny299 := Aside0.mk hy299
                                      clear hy299
                                      have c64b0 := eq_true (of_decide_eq_true (by first | (with_reducible assumption) | assumption) : 0 ≤ x15_4)
                                      have c65b0 := eq_true (of_decide_eq_true (by first | (with_reducible assumption) | assumption) : x15_4 ≤ (x7_1.length : Int))
                                      obtain ⟨y302, hy302⟩ : ∃ y_ : List (S30), y_ = (x7_1.drop (x15_4 : Int).toNat) := ⟨_, rfl⟩
                                      replace H : (if y299.length + y302.length < 1759218604441 then (dryrotref16_Live.l0 k4 l0 a1 a2 (y299 ++ y302) l0 (l0.length : Int) (wrap64 (x18_1 + 1))) else (none)) = some r := by first | (rw [hy302]; with_reducible exact H) | (have H2_ := (Option.bind_some _ _).symm.trans H; rw [hy302]; with_reducible exact H2_) | (have H2_ := (Option.bind_some _ _).symm.trans H; with_reducible exact H2_) | with_reducible exact H | (rw [hy302]; exact H) | exact H
                                      have Ny302 := Aside0.mk hy302
                                      clear hy302
                                      by_cases c66 : y299.length + y302.length < 1759218604441
                                      · rw [if_pos c66] at H
                                        have LMc66 := Aside0.mk c66
                                        clear c66
                                        obtain ⟨y307, hy307⟩ : ∃ y_ : List (S30), y_ = (y299 ++ y302) := ⟨_, rfl⟩
                                        replace H : (dryrotref16_Live.l0 k4 l0 a1 a2 y307 l0 (l0.length : Int) (wrap64 (x18_1 + 1))) = some r := by first | (rw [hy307]; with_reducible exact H) | (have H2_ := (Option.bind_some _ _).symm.trans H; rw [hy307]; with_reducible exact H2_) | (have H2_ := (Option.bind_some _ _).symm.trans H; with_reducible exact H2_) | with_reducible exact H | (rw [hy307]; exact H) | exact H
                                        have Ny307 := Aside0.mk hy307
                                        clear hy307
                                        have H' := Aside0.mk H
                                        clear H
                                        try go_wp2
                                        have n0_ := Aside0.mk (Kd.N_drew HO_7.out)
                                        have n1_ := Aside0.mk (blk_drew BK241.out)
                                        have n2_ := Aside0.mk (below_drew1 HB.out)
                                        clear HO_7
                                        clear BK241
                                        clear HB
                                        have HO_7 := n0_
                                        have BK241 := n1_
                                        have HB := n2_
                                        clear n0_ n1_ n2_
                                        refine start_ (n := 13) (S := fun w' => True) (ds := []) #[false, false, false, false, false, false, false, false, false, false, false, false, false] (by kernel_rfl) rfl rfl trivial (fun hHeld => ?_); refine with_tabW dryrotref16_Live.tab17 dryrotref16_Live.bits17 (fun HT_ HW_ => ?_)
                                        generalize wr.drew = w67 at HO_7 BK241 HB hHeld ⊢
                                        refine pure_ (i := 0) (N := some 77) (v := ?_) (a' := ?_) #[true, false, false, false, false, false, false, false, false, false, false, false, false] rfl rfl (any_of HT_.out (by kernel_rfl)) (fun _ _ _ h => h) (Or.inl ⟨by rfl, ?_⟩) ?_ ?_
                                        rotate_left
                                        · intro w'
                                          go_simp
                                          with_reducible rfl
                                        rotate_left
                                        · simp only [Act.put, List.setIfInBounds_toArray, List.set_cons_zero, List.set_cons_succ, i64_w, i32_w]
                                          rfl
                                        refine pure_ (i := 1) (N := some 78) (v := ?_) (a' := ?_) #[true, true, false, false, false, false, false, false, false, false, false, false, false] rfl rfl (any_of HT_.out (by kernel_rfl)) (fun _ _ _ h => h) (Or.inl ⟨by rfl, ?_⟩) ?_ ?_
                                        rotate_left
                                        · intro w'
                                          go_simp
                                          with_reducible rfl
                                        rotate_left
                                        · simp only [Act.put, List.setIfInBounds_toArray, List.set_cons_zero, List.set_cons_succ, i64_w, i32_w]
                                          rfl
                                        refine pure_ (i := 2) (N := some 79) (v := ?_) (a' := ?_) #[true, true, true, false, false, false, false, false, false, false, false, false, false] rfl rfl (any_of HT_.out (by kernel_rfl)) (fun _ _ _ h => h) (Or.inl ⟨by rfl, ?_⟩) ?_ ?_
                                        rotate_left
                                        · intro w'
                                          go_simp
                                          with_reducible rfl
                                        rotate_left
                                        · simp only [Act.put, List.setIfInBounds_toArray, List.set_cons_zero, List.set_cons_succ, i64_w, i32_w]
                                          rfl
                                        refine pure_ (i := 3) (N := some 80) (v := undef) (a' := ?_) #[true, true, true, true, false, false, false, false, false, false, false, false, false] rfl rfl (any_of HT_.out (by kernel_rfl)) (fun _ _ _ h => h) (Or.inr ⟨by rfl, rfl⟩) ?_ ?_
                                        rotate_left
                                        · simp only [Act.put, List.setIfInBounds_toArray, List.set_cons_zero, List.set_cons_succ, i64_w, i32_w]
                                          rfl
                                        refine pure_ (i := 4) (N := some 81) (v := undef) (a' := ?_) #[true, true, true, true, true, false, false, false, false, false, false, false, false] rfl rfl (any_of HT_.out (by kernel_rfl)) (fun _ _ _ h => h) (Or.inr ⟨by rfl, rfl⟩) ?_ ?_
                                        rotate_left
                                        · simp only [Act.put, List.setIfInBounds_toArray, List.set_cons_zero, List.set_cons_succ, i64_w, i32_w]
                                          rfl
                                        refine pure_ (i := 5) (N := some 82) (v := undef) (a' := ?_) #[true, true, true, true, true, true, false, false, false, false, false, false, false] rfl rfl (any_of HT_.out (by kernel_rfl)) (fun _ _ _ h => h) (Or.inr ⟨by rfl, rfl⟩) ?_ ?_
                                        rotate_left
                                        · simp only [Act.put, List.setIfInBounds_toArray, List.set_cons_zero, List.set_cons_succ, i64_w, i32_w]
                                          rfl
                                        refine pure_ (i := 6) (N := some 83) (v := undef) (a' := ?_) #[true, true, true, true, true, true, true, false, false, false, false, false, false] rfl rfl (any_of HT_.out (by kernel_rfl)) (fun _ _ _ h => h) (Or.inr ⟨by rfl, rfl⟩) ?_ ?_
                                        rotate_left
                                        · simp only [Act.put, List.setIfInBounds_toArray, List.set_cons_zero, List.set_cons_succ, i64_w, i32_w]
                                          rfl
                                        refine pure_ (i := 7) (N := some 84) (v := undef) (a' := ?_) #[true, true, true, true, true, true, true, true, false, false, false, false, false] rfl rfl (any_of HT_.out (by kernel_rfl)) (fun _ _ _ h => h) (Or.inr ⟨by rfl, rfl⟩) ?_ ?_
                                        rotate_left
                                        · simp only [Act.put, List.setIfInBounds_toArray, List.set_cons_zero, List.set_cons_succ, i64_w, i32_w]
                                          rfl
                                        refine pure_ (i := 8) (N := some 85) (v := undef) (a' := ?_) #[true, true, true, true, true, true, true, true, true, false, false, false, false] rfl rfl (any_of HT_.out (by kernel_rfl)) (fun _ _ _ h => h) (Or.inr ⟨by rfl, rfl⟩) ?_ ?_
                                        rotate_left
                                        · simp only [Act.put, List.setIfInBounds_toArray, List.set_cons_zero, List.set_cons_succ, i64_w, i32_w]
                                          rfl
                                        refine pure_ (i := 9) (N := some 86) (v := undef) (a' := ?_) #[true, true, true, true, true, true, true, true, true, true, false, false, false] rfl rfl (any_of HT_.out (by kernel_rfl)) (fun _ _ _ h => h) (Or.inr ⟨by rfl, rfl⟩) ?_ ?_
                                        rotate_left
                                        · simp only [Act.put, List.setIfInBounds_toArray, List.set_cons_zero, List.set_cons_succ, i64_w, i32_w]
                                          rfl
                                        refine pure_ (i := 10) (N := some 87) (v := undef) (a' := ?_) #[true, true, true, true, true, true, true, true, true, true, true, false, false] rfl rfl (any_of HT_.out (by kernel_rfl)) (fun _ _ _ h => h) (Or.inr ⟨by rfl, rfl⟩) ?_ ?_
                                        rotate_left
                                        · simp only [Act.put, List.setIfInBounds_toArray, List.set_cons_zero, List.set_cons_succ, i64_w, i32_w]
                                          rfl
                                        refine pure_ (i := 11) (N := some 88) (v := undef) (a' := ?_) #[true, true, true, true, true, true, true, true, true, true, true, true, false] rfl rfl (any_of HT_.out (by kernel_rfl)) (fun _ _ _ h => h) (Or.inr ⟨by rfl, rfl⟩) ?_ ?_
                                        rotate_left
                                        · simp only [Act.put, List.setIfInBounds_toArray, List.set_cons_zero, List.set_cons_succ, i64_w, i32_w]
                                          rfl
                                        refine pure_ (i := 12) (N := some 89) (v := ?_) (a' := ?_) #[true, true, true, true, true, true, true, true, true, true, true, true, true] rfl rfl (any_of HT_.out (by kernel_rfl)) (fun _ _ _ h => h) (Or.inl ⟨by rfl, ?_⟩) ?_ ?_
                                        rotate_left
                                        · intro w'
                                          go_simp
                                          with_reducible rfl
                                        rotate_left
                                        · simp only [Act.put, List.setIfInBounds_toArray, List.set_cons_zero, List.set_cons_succ, i64_w, i32_w]
                                          rfl
                                        refine done_ (done_of HT_.out (by kernel_rfl)) ?_
                                        try go_wp2
                                        have n0_ := Aside0.mk (Kd.N_drew HO_7.out)
                                        have n1_ := Aside0.mk (blk_drew BK241.out)
                                        have n2_ := Aside0.mk (below_drew1 HB.out)
                                        clear HO_7
                                        clear BK241
                                        clear HB
                                        have HO_7 := n0_
                                        have BK241 := n1_
                                        have HB := n2_
                                        clear n0_ n1_ n2_
                                        have q69 : (x15_4 : Int) ≤ ((x7_1.length : Int) : Int) := of_decide_eq_true (by first | (with_reducible assumption) | assumption)
                                        obtain ⟨i069, hi069, _, hsz69, _⟩ := info_parts info30
                                        have hroom69 : x7_1.length ≤ co33 := (Kd.N_reads' HO_7.out).2.1
                                        have hC69 : Kd.F k30 _ _ Ao33 x7_1.length x7_1 := (Kd.V_at (base := w.heap.size) (Kd.N_V HO_7.out)).2.2
                                        have hcut69 := cut_to (P := Try.prog) 25 30 .i64 Try.underlying25 hi069 Ao33 x7_1.length co33 x15_4 (of_decide_eq_true (by first | (with_reducible assumption) | assumption)) q69 hroom69
                                        have hr69 := Kd.F_take (m := (x15_4 : Int).toNat) hC69 (by omega)
                                        have hy69 : y281.length = (x15_4 : Int).toNat := (by rw [Ny281.out, List.length_take]; omega)
                                        rw [← Ny281.out] at hr69
                                        rw [← hy69] at hcut69
                                        have HO285 := Aside0.mk (show Kd.V k30 30 _ w.heap.size _ (.slice Ao33 y281.length co33) y281 from Kd.V_mk (by omega) hr69)
                                        have HC285 := Aside0.mk (show y281.length ≤ co33 from by omega)
                                        clear hr69 hC69 hroom69 hi069 hsz69
                                        have KY69 := Aside0.mk hy69
                                        clear hy69
                                        replace q69 := eq_true q69
                                        have q70 : (x15_4 : Int) ≤ ((x7_1.length : Int) : Int) := of_decide_eq_true (by first | (with_reducible assumption) | assumption)
                                        obtain ⟨i070, hi070, _, hsz70, _⟩ := info_parts info30
                                        have hroom70 : x7_1.length ≤ co33 := (Kd.N_reads' HO_7.out).2.1
                                        have hC70 : Kd.F k30 _ _ Ao33 x7_1.length x7_1 := (Kd.V_at (base := w.heap.size) (Kd.N_V HO_7.out)).2.2
                                        have q070 : (0 : Int) ≤ (x15_4 : Int) := of_decide_eq_true (by first | (with_reducible assumption) | assumption)
                                        have hcut70 := cut_from (P := Try.prog) 25 30 .i64 Try.underlying25 hi070 8 hsz70 Ao33 x7_1.length co33 x15_4 q070 q70
                                        have hr70 := Kd.F_cut (m := (x15_4 : Int).toNat) (c := co33) hC70 (by omega) hroom70
                                        obtain ⟨A70, hA70⟩ : ∃ A1, A1 = (if co33 = (x15_4 : Int).toNat then Ao33 else (Ao33 : Option Addr).map (·.add ((x15_4 : Int).toNat * 8))) := ⟨_, rfl⟩
                                        obtain ⟨c70, hc70⟩ : ∃ c1, c1 = co33 - (x15_4 : Int).toNat := ⟨_, rfl⟩
                                        have hy70 : y302.length = x7_1.length - (x15_4 : Int).toNat := (by rw [Ny302.out, List.length_drop] <;> omega)
                                        rw [show (x7_1).drop (x15_4 : Int).toNat = y302 from Ny302.out.symm] at hr70
                                        replace hr70 : Kd.F k30 _ _ A70 y302.length y302 := (by rw [hA70]; exact hr70)
                                        rw [← hy70, ← hA70, ← hc70] at hcut70
                                        have HO306 := Aside0.mk (show Kd.V k30 30 _ w.heap.size _ (.slice A70 y302.length c70) y302 from Kd.V_mk (by rw [hy70, hc70]; exact Nat.sub_le_sub_right hroom70 _) hr70)
                                        have HC306 := Aside0.mk (show y302.length ≤ c70 from by rw [hy70, hc70]; exact Nat.sub_le_sub_right hroom70 _)
                                        clear hr70 hC70 hroom70 hi070 hsz70 hc70
                                        have KY70 := Aside0.mk hy70
                                        have KA70 := Aside0.mk hA70
                                        clear hy70 hA70
                                        replace q70 := eq_true q70
                                        refine start_ (n := 14) (S := fun w' => w'.cell? ⟨gb241, 0, none⟩ = some (.int .i64 ((rd_T30 l0 x18_1).f0)) ∧ w'.cell? ⟨gb241, 1, none⟩ = some (.int .i64 ((rd_T30 l0 x18_1).f1)) ∧ w'.cell? ⟨gb241, 2, none⟩ = some (.int .i64 ((rd_T30 l0 x18_1).f2)) ∧ w'.cell? ⟨gb241, 3, none⟩ = some (.int .i64 ((rd_T30 l0 x18_1).f3)) ∧ w'.cell? ⟨gb241, 4, none⟩ = some (.int .i64 ((rd_T30 l0 x18_1).f4)) ∧ w'.cell? ⟨gb241, 5, none⟩ = some (.int .i64 ((rd_T30 l0 x18_1).f5)) ∧ w'.cell? ⟨gb241, 6, none⟩ = some (.int .i64 ((rd_T30 l0 x18_1).f6)) ∧ w'.cell? ⟨gb241, 7, none⟩ = some (.slice A240_7 ((rd_T30 l0 x18_1).f7).length c240_7)) (ds := []) #[false, false, false, false, false, false, false, false, false, false, false, false, false, false] (by kernel_rfl) rfl rfl ⟨(blk_cell BK241.out 0).trans rfl, (blk_cell BK241.out 1).trans rfl, (blk_cell BK241.out 2).trans rfl, (blk_cell BK241.out 3).trans rfl, (blk_cell BK241.out 4).trans rfl, (blk_cell BK241.out 5).trans rfl, (blk_cell BK241.out 6).trans rfl, (blk_cell BK241.out 7).trans rfl⟩ (fun hHeld => ?_); refine with_tabW dryrotref16_Live.tab19 dryrotref16_Live.bits19 (fun HT_ HW_ => ?_)
                                        generalize w67.drew = w68 at HO_7 BK241 HB HO285 HO306 hHeld ⊢
                                        refine pure_ (i := 1) (N := some 93) (v := ?_) (a' := ?_) #[false, true, false, false, false, false, false, false, false, false, false, false, false, false] rfl rfl (any_of HT_.out (by kernel_rfl)) (fun _ _ _ h => h) (Or.inl ⟨by rfl, ?_⟩) ?_ ?_
                                        rotate_left
                                        · intro w'
                                          go_simp
                                          with_reducible rfl
                                        rotate_left
                                        · simp only [Act.put, List.setIfInBounds_toArray, List.set_cons_zero, List.set_cons_succ, i64_w, i32_w]
                                          rfl
                                        refine pure_ (i := 2) (N := some 94) (v := ?_) (a' := ?_) #[false, true, true, false, false, false, false, false, false, false, false, false, false, false] rfl rfl (any_of HT_.out (by kernel_rfl)) (fun _ _ _ h => h) (Or.inl ⟨by rfl, ?_⟩) ?_ ?_
                                        rotate_left
                                        · intro w'
                                          go_simp
                                          with_reducible rfl
                                        rotate_left
                                        · simp only [Act.put, List.setIfInBounds_toArray, List.set_cons_zero, List.set_cons_succ, i64_w, i32_w]
                                          rfl
                                        refine pure_ (i := 3) (N := some 95) (v := ?_) (a' := ?_) #[false, true, true, true, false, false, false, false, false, false, false, false, false, false] rfl rfl (any_of HT_.out (by kernel_rfl)) (fun _ _ _ h => h) (Or.inl ⟨by rfl, ?_⟩) ?_ ?_
                                        rotate_left
                                        · intro w'
                                          go_simp
                                          with_reducible rfl
                                        rotate_left
                                        · simp only [Act.put, List.setIfInBounds_toArray, List.set_cons_zero, List.set_cons_succ, i64_w, i32_w]
                                          rfl
                                        refine pure_ (i := 9) (N := some 101) (v := ?_) (a' := ?_) #[false, true, true, true, false, false, false, false, false, true, false, false, false, false] rfl rfl (any_of HT_.out (by kernel_rfl)) (fun _ _ _ h => h) (Or.inl ⟨by rfl, ?_⟩) ?_ ?_
                                        rotate_left
                                        · intro w'
                                          go_simp
                                          with_reducible rfl
                                        rotate_left
                                        · simp only [Act.put, List.setIfInBounds_toArray, List.set_cons_zero, List.set_cons_succ, i64_w, i32_w]
                                          rfl
                                        refine pure_ (i := 10) (N := some 102) (v := ?_) (a' := ?_) #[false, true, true, true, false, false, false, false, false, true, true, false, false, false] rfl rfl (any_of HT_.out (by kernel_rfl)) (fun _ _ _ h => h) (Or.inl ⟨by rfl, ?_⟩) ?_ ?_
                                        rotate_left
                                        · intro w'
                                          go_simp
                                          with_reducible rfl
                                        rotate_left
                                        · simp only [Act.put, List.setIfInBounds_toArray, List.set_cons_zero, List.set_cons_succ, i64_w, i32_w]
                                          rfl
                                        refine pure_ (i := 11) (N := some 103) (v := ?_) (a' := ?_) #[false, true, true, true, false, false, false, false, false, true, true, true, false, false] rfl rfl (any_of HT_.out (by kernel_rfl)) (fun _ _ _ h => h) (Or.inl ⟨by rfl, ?_⟩) ?_ ?_
                                        rotate_left
                                        · intro w'
                                          go_simp
                                          with_reducible rfl
                                        rotate_left
                                        · simp only [Act.put, List.setIfInBounds_toArray, List.set_cons_zero, List.set_cons_succ, i64_w, i32_w]
                                          rfl
                                        refine take_ (i := 5) (N := some 97) (v := ?_) (a' := ?_) #[false, true, true, true, false, true, false, false, false, true, true, true, false, false] rfl rfl (take_ofW HT_.out HW_.out (by kernel_rfl)) (fun _ _ _ h => h) (Or.inl ⟨by rfl, ?_⟩) hHeld ?_ ?_
                                        rotate_left
                                        · rintro w' ⟨s0, s1, s2, s3, s4, s5, s6, s7⟩
                                          go_simp
                                          with_reducible rfl
                                        rotate_left
                                        · simp only [Act.put, List.setIfInBounds_toArray, List.set_cons_zero, List.set_cons_succ, i64_w, i32_w]
                                          rfl
                                        refine one_ (i := 0) (N := some 92) #[true, true, true, true, false, true, false, false, false, true, true, true, false, false] rfl rfl (one_of HT_.out (by kernel_rfl)) (by decide) (fun K hK => ?_)
                                        refine Kd.N_lit_step k30 _ 30 ?hg (N' := 92) ?hd (xs := ([] : List (S30))) (inner := []) (ok := (fun k_ => (w.heap.size ≤ k_) ∧ some k_ ≠ (.slice Ao33 x7_1.length co33 : Value).ownBlock ∧ k_ ≠ gb241)) (okp := (fun k_ => (w.heap.size ≤ k_) ∧ some k_ ≠ (.slice Ao33 x7_1.length co33 : Value).ownBlock ∧ k_ ≠ gb241)) ?hr ?hp (fun _ hk => hk) ((show ∀ k_, w68.heap.size ≤ k_ → (fun k_ => (w.heap.size ≤ k_) ∧ some k_ ≠ (.slice Ao33 x7_1.length co33 : Value).ownBlock ∧ k_ ≠ gb241) k_ from fun k_ hk => ⟨(Nat.le_trans (below_size (by repeat (first | (with_reducible first | exact HB.out | apply below_alloc | apply pw_below_drewN | apply below_drew1 | refine below_set ?_ GE241.out) | exact HB.out))) hk), Kd.fresh' (Kd.N_lt (by (with_reducible repeat (first | apply Kd.N_alloc | apply Kd.N_drewN | apply Kd.N_drew)); exact HO_7.out)) k_ hk, Kd.freshB (g := gb241) (o := .cells #[.int .i64 ((rd_T30 l0 x18_1).f0), .int .i64 ((rd_T30 l0 x18_1).f1), .int .i64 ((rd_T30 l0 x18_1).f2), .int .i64 ((rd_T30 l0 x18_1).f3), .int .i64 ((rd_T30 l0 x18_1).f4), .int .i64 ((rd_T30 l0 x18_1).f5), .int .i64 ((rd_T30 l0 x18_1).f6), .slice A240_7 ((rd_T30 l0 x18_1).f7).length c240_7] 30 (0, 0)) (by (with_reducible repeat (first | refine blk_drewN ?_ _ | refine blk_drew ?_ | refine blk_alloc ?_ _)); exact BK241.out) k_ hk⟩) _ (Nat.le_refl _)) (Below.refl _ _) (Nat.le_refl _) (by simp) ?_; (case hd => rfl); (case hg => rfl); (case hr => first | (go_simp; done) | (go_simp; rfl)); (case hp => exact (Reps.none _ _))
                                        intro v279 w71 ho72 hb hg_ hnew_
                                        clear hg_ hnew_
                                        (first | rw [← Ny278.out] at ho72 | (simp only [Int.reduceToNat] at ho72; rw [← Ny278.out] at ho72))
                                        have n0_ := Aside0.mk (Kd.N_elder' (by (with_reducible repeat (first | apply Kd.N_alloc | apply Kd.N_drewN | apply Kd.N_drew)); exact HO_7.out) (Kd.N_base ho72) hb)
                                        have n1_ := Aside0.mk (Kd.V_elder' (by (with_reducible repeat (first | apply Kd.V_alloc | apply Kd.V_drewN | apply Kd.V_drew)); exact HO285.out) (Kd.N_base ho72) hb)
                                        have n2_ := Aside0.mk (Kd.V_elder' (by (with_reducible repeat (first | apply Kd.V_alloc | apply Kd.V_drewN | apply Kd.V_drew)); exact HO306.out) (Kd.N_base ho72) hb)
                                        have n3_ := Aside0.mk (Kd.N_lower ho72 (below_size (by repeat (first | (with_reducible first | exact HB.out | apply below_alloc | apply pw_below_drewN | apply below_drew1 | refine below_set ?_ GE241.out) | exact HB.out))))
                                        have n4_ := Aside0.mk (blk_below (g := gb241) (o := .cells #[.int .i64 ((rd_T30 l0 x18_1).f0), .int .i64 ((rd_T30 l0 x18_1).f1), .int .i64 ((rd_T30 l0 x18_1).f2), .int .i64 ((rd_T30 l0 x18_1).f3), .int .i64 ((rd_T30 l0 x18_1).f4), .int .i64 ((rd_T30 l0 x18_1).f5), .int .i64 ((rd_T30 l0 x18_1).f6), .slice A240_7 ((rd_T30 l0 x18_1).f7).length c240_7] 30 (0, 0)) (by (with_reducible repeat (first | refine blk_drewN ?_ _ | refine blk_drew ?_ | refine blk_alloc ?_ _)); exact BK241.out) hb)
                                        have n5_ := Aside0.mk (below_step (by repeat (first | (with_reducible first | exact HB.out | apply below_alloc | apply pw_below_drewN | apply below_drew1 | refine below_set ?_ GE241.out) | exact HB.out)) hb)
                                        clear HO_7
                                        clear HO285
                                        clear HO306
                                        clear BK241
                                        clear HB
                                        have HO_7 := n0_
                                        have HO285 := n1_
                                        have HO306 := n2_
                                        have HO280 := n3_
                                        have BK241 := n4_
                                        have HB := n5_
                                        clear n0_ n1_ n2_ n3_ n4_ n5_
                                        clear hb ho72
                                        refine hK.out _ _ ⟨(blk_cell BK241.out 0).trans rfl, (blk_cell BK241.out 1).trans rfl, (blk_cell BK241.out 2).trans rfl, (blk_cell BK241.out 3).trans rfl, (blk_cell BK241.out 4).trans rfl, (blk_cell BK241.out 5).trans rfl, (blk_cell BK241.out 6).trans rfl, (blk_cell BK241.out 7).trans rfl⟩ (fun hHeld => ?_)
                                        clear hK K
                                        refine norm_ (a' := ?_) ?_ ?_
                                        rotate_left
                                        · show Act.put _ (some 92) _ = _
                                          simp only [Act.put, List.setIfInBounds_toArray, List.set_cons_zero, List.set_cons_succ, i64_w, i32_w]
                                          rfl
                                        refine one_ (i := 4) (N := some 96) #[true, true, true, true, true, true, false, false, false, true, true, true, false, false] rfl rfl (one_of HT_.out (by kernel_rfl)) (by decide) (fun K hK => ?_)
                                        refine Kd.N_append_rows_step k30 (w0 := w) w.heap.size (by rfl) (.tmp 92) (.tmp 95) 25 30 (.agg #[(.int .i64 0), (.int .i64 0), (.int .i64 0), (.int .i64 0), (.int .i64 0), (.int .i64 0), (.int .i64 0), (.slice none 0 0)]) 80 rfl Try.underlying25 info30 rfl (by decide) (by omega) v279 y278 y281 _ _ _ (fun k_ => (w.heap.size ≤ k_) ∧ k_ ≠ gb241) (fun k_ => ((fun k_ => (w.heap.size ≤ k_) ∧ k_ ≠ gb241)) k_ ∧ some k_ ≠ (v279 : Value).ownBlock) rfl rfl ?aO ?aR (fun _ hk => hk) ?aF ?aB ?aS ?aL ?_
                                        (case aR => exact (by skip; exact Kd.V_F (Kd.V_mono (ok' := (fun k_ => ((fun k_ => (w.heap.size ≤ k_) ∧ k_ ≠ gb241)) k_ ∧ some k_ ≠ (v279 : Value).ownBlock)) (HO285.out) (fun k_ hk => ⟨⟨hk.1.1, hk.1.2⟩, hk.2⟩))))
                                        (case aB => exact (by repeat (first | (with_reducible first | exact HB.out | apply below_alloc | apply pw_below_drewN | apply below_drew1 | refine below_set ?_ GE241.out) | exact HB.out)))
                                        (case aF => exact (fun k_ hk => ⟨(Nat.le_trans (below_size (by repeat (first | (with_reducible first | exact HB.out | apply below_alloc | apply pw_below_drewN | apply below_drew1 | refine below_set ?_ GE241.out) | exact HB.out))) hk), Kd.freshB (g := gb241) (o := .cells #[.int .i64 ((rd_T30 l0 x18_1).f0), .int .i64 ((rd_T30 l0 x18_1).f1), .int .i64 ((rd_T30 l0 x18_1).f2), .int .i64 ((rd_T30 l0 x18_1).f3), .int .i64 ((rd_T30 l0 x18_1).f4), .int .i64 ((rd_T30 l0 x18_1).f5), .int .i64 ((rd_T30 l0 x18_1).f6), .slice A240_7 ((rd_T30 l0 x18_1).f7).length c240_7] 30 (0, 0)) (by (with_reducible repeat (first | refine blk_drewN ?_ _ | refine blk_drew ?_ | refine blk_alloc ?_ _)); exact BK241.out) k_ hk⟩))
                                        (case aO => exact (by (with_reducible repeat (first | apply Kd.N_alloc | apply Kd.N_drewN | apply Kd.N_drew)); exact Kd.N_mono HO280.out (fun _ hk => ⟨hk.1, hk.2.2⟩)))
                                        (case aS => exact (below_size (by repeat (first | (with_reducible first | exact HB.out | apply below_alloc | apply pw_below_drewN | apply below_drew1 | refine below_set ?_ GE241.out) | exact HB.out))))
                                        (case aL => have := LMc61.out; omega)
                                        intro v287 w73 ho hb hg hat
                                        rw [← Ny286.out] at ho
                                        have n0_ := Aside0.mk (Kd.N_afterv (ok := (fun k_ => (w.heap.size ≤ k_) ∧ k_ ≠ gb241)) (by (with_reducible repeat (first | apply Kd.N_alloc | apply Kd.N_drewN | apply Kd.N_drew)); exact HO_7.out) hg hat)
                                        have n1_ := Aside0.mk (blk_grown (g := gb241) (o := .cells #[.int .i64 ((rd_T30 l0 x18_1).f0), .int .i64 ((rd_T30 l0 x18_1).f1), .int .i64 ((rd_T30 l0 x18_1).f2), .int .i64 ((rd_T30 l0 x18_1).f3), .int .i64 ((rd_T30 l0 x18_1).f4), .int .i64 ((rd_T30 l0 x18_1).f5), .int .i64 ((rd_T30 l0 x18_1).f6), .slice A240_7 ((rd_T30 l0 x18_1).f7).length c240_7] 30 (0, 0)) (by (with_reducible repeat (first | refine blk_drewN ?_ _ | refine blk_drew ?_ | refine blk_alloc ?_ _)); exact BK241.out) hg (Kd.N_away HO280.out (fun _ hk => hk.2.2)))
                                        have n2_ := Aside0.mk (Kd.V_afterv (ok := (fun k_ => (w.heap.size ≤ k_) ∧ k_ ≠ gb241)) (by (with_reducible repeat (first | apply Kd.V_alloc | apply Kd.V_drewN | apply Kd.V_drew)); exact HO285.out) hg hat)
                                        have n3_ := Aside0.mk (Kd.V_afterv (ok := (fun k_ => (w.heap.size ≤ k_) ∧ k_ ≠ gb241)) (by (with_reducible repeat (first | apply Kd.V_alloc | apply Kd.V_drewN | apply Kd.V_drew)); exact HO306.out) hg hat)
                                        have n4_ := Aside0.mk (hb)
                                        have n5_ := Aside0.mk (ho)
                                        clear HO_7
                                        clear BK241
                                        clear HO285
                                        clear HO306
                                        clear HB
                                        clear HO280
                                        have HO_7 := n0_
                                        have BK241 := n1_
                                        have HO285 := n2_
                                        have HO306 := n3_
                                        have HB := n4_
                                        have HO288 := n5_
                                        clear n0_ n1_ n2_ n3_ n4_ n5_
                                        clear ho hb hg hat
                                        refine hK.out _ _ ⟨(blk_cell BK241.out 0).trans rfl, (blk_cell BK241.out 1).trans rfl, (blk_cell BK241.out 2).trans rfl, (blk_cell BK241.out 3).trans rfl, (blk_cell BK241.out 4).trans rfl, (blk_cell BK241.out 5).trans rfl, (blk_cell BK241.out 6).trans rfl, (blk_cell BK241.out 7).trans rfl⟩ (fun hHeld => ?_)
                                        clear hK K
                                        refine norm_ (a' := ?_) ?_ ?_
                                        rotate_left
                                        · show Act.put _ (some 96) _ = _
                                          simp only [Act.put, List.setIfInBounds_toArray, List.set_cons_zero, List.set_cons_succ, i64_w, i32_w]
                                          rfl
                                        refine one_ (i := 6) (N := some 98) #[true, true, true, true, true, true, true, false, false, true, true, true, false, false] rfl rfl (one_of HT_.out (by kernel_rfl)) (by decide) (fun K hK => ?_)
                                        refine goes_ Try.func46 (by kernel_rfl) rfl #[.agg #[.int .i64 ((rd_T30 l0 x18_1).f0), .int .i64 ((rd_T30 l0 x18_1).f1), .int .i64 ((rd_T30 l0 x18_1).f2), .int .i64 ((rd_T30 l0 x18_1).f3), .int .i64 ((rd_T30 l0 x18_1).f4), .int .i64 ((rd_T30 l0 x18_1).f5), .int .i64 ((rd_T30 l0 x18_1).f6), .slice A240_7 ((rd_T30 l0 x18_1).f7).length c240_7]] (by rfl) rfl rfl (by (try simp only [List.map_toArray, List.map_cons, List.map_nil]); first | done | rfl | (simp only [List.length_drop, List.length_take]; rfl)) ?_
                                        with_reducible refine (dryrotref16_Copy.calls ((rd_T30 l0 x18_1).f0) ((rd_T30 l0 x18_1).f1) ((rd_T30 l0 x18_1).f2) ((rd_T30 l0 x18_1).f3) ((rd_T30 l0 x18_1).f4) ((rd_T30 l0 x18_1).f5) ((rd_T30 l0 x18_1).f6) _ _ ((rd_T30 l0 x18_1).f7) t289 t290 t291 t292 t293 t294 t295 t296 _ ?side1 ?side2 A62.out).mono ?_
                                        (case side1 => repeat (first | exact (Kd.C_below HR240_7.out HB.out) | (with_reducible refine Kd.C_alloc ?_ _) | (with_reducible refine Kd.C_drewN ?_ _) | (with_reducible refine Kd.C_drew ?_)))
                                        (case side2 => exact HC240_7.out)
                                        rintro e w74 ⟨v297, rfl, ho0, hb⟩
                                        refine ⟨_, rfl, ?_⟩
                                        have n0_ := Aside0.mk (Kd.N_elder' (by (with_reducible repeat (first | apply Kd.N_alloc | apply Kd.N_drewN | apply Kd.N_drew)); exact HO_7.out) (Kd.R_base ho0) hb)
                                        have n1_ := Aside0.mk (Kd.V_elder' (by (with_reducible repeat (first | apply Kd.V_alloc | apply Kd.V_drewN | apply Kd.V_drew)); exact HO285.out) (Kd.R_base ho0) hb)
                                        have n2_ := Aside0.mk (Kd.V_elder' (by (with_reducible repeat (first | apply Kd.V_alloc | apply Kd.V_drewN | apply Kd.V_drew)); exact HO306.out) (Kd.R_base ho0) hb)
                                        have n3_ := Aside0.mk (Kd.N_elder' (by (with_reducible repeat (first | apply Kd.N_alloc | apply Kd.N_drewN | apply Kd.N_drew)); exact HO288.out) (Kd.R_base ho0) hb)
                                        have n4_ := Aside0.mk (Kd.R_lower (Kd.R_newM (M := fun k_ => (w.heap.size ≤ k_)) ho0 (below_size (by repeat (first | (with_reducible first | exact HB.out | apply below_alloc | apply pw_below_drewN | apply below_drew1 | refine below_set ?_ GE241.out) | exact HB.out))) (fun k_ h_ => h_)) (below_size (by repeat (first | (with_reducible first | exact HB.out | apply below_alloc | apply pw_below_drewN | apply below_drew1 | refine below_set ?_ GE241.out) | exact HB.out))))
                                        have n5_ := Aside0.mk (blk_below (g := gb241) (o := .cells #[.int .i64 ((rd_T30 l0 x18_1).f0), .int .i64 ((rd_T30 l0 x18_1).f1), .int .i64 ((rd_T30 l0 x18_1).f2), .int .i64 ((rd_T30 l0 x18_1).f3), .int .i64 ((rd_T30 l0 x18_1).f4), .int .i64 ((rd_T30 l0 x18_1).f5), .int .i64 ((rd_T30 l0 x18_1).f6), .slice A240_7 ((rd_T30 l0 x18_1).f7).length c240_7] 30 (0, 0)) (by (with_reducible repeat (first | refine blk_drewN ?_ _ | refine blk_drew ?_ | refine blk_alloc ?_ _)); exact BK241.out) hb)
                                        have n6_ := Aside0.mk (below_step (by repeat (first | (with_reducible first | exact HB.out | apply below_alloc | apply pw_below_drewN | apply below_drew1 | refine below_set ?_ GE241.out) | exact HB.out)) hb)
                                        clear HO_7
                                        clear HO285
                                        clear HO306
                                        clear HO288
                                        clear BK241
                                        clear HB
                                        have HO_7 := n0_
                                        have HO285 := n1_
                                        have HO306 := n2_
                                        have HO288 := n3_
                                        have HO298 := n4_
                                        have BK241 := n5_
                                        have HB := n6_
                                        clear n0_ n1_ n2_ n3_ n4_ n5_ n6_
                                        (try clear hb)
                                        (try clear hb2)
                                        (try clear hk)
                                        (try clear hi)
                                        (try clear ho0)
                                        obtain ⟨Ao76, co76, eo76⟩ := Kd.R_slice HO298.out
                                        (first | subst eo76 | (injection eo76 with f1_ f2_ f3_; have f4_ := f1_.symm; have f5_ := f3_.symm; clear f1_ f2_ f3_; subst f4_; subst f5_))
                                        refine hK.out _ _ ⟨(blk_cell BK241.out 0).trans rfl, (blk_cell BK241.out 1).trans rfl, (blk_cell BK241.out 2).trans rfl, (blk_cell BK241.out 3).trans rfl, (blk_cell BK241.out 4).trans rfl, (blk_cell BK241.out 5).trans rfl, (blk_cell BK241.out 6).trans rfl, (blk_cell BK241.out 7).trans rfl⟩ (fun hHeld => ?_)
                                        clear hK K
                                        refine norm_ (a' := ?_) ?_ ?_
                                        rotate_left
                                        · show Act.put _ (some 98) _ = _
                                          simp only [Act.put, List.setIfInBounds_toArray, List.set_cons_zero, List.set_cons_succ, i64_w, i32_w]
                                          rfl
                                        refine one_ (i := 7) (N := some 99) #[true, true, true, true, true, true, true, true, false, true, true, true, false, false] rfl rfl (one_of HT_.out (by kernel_rfl)) (by decide) (fun K hK => ?_)
                                        refine value_ (w1 := ?_) (v := ?_) (by rfl) rfl ?_ ?_
                                        rotate_left 2
                                        · go_simp
                                          constructor
                                          · rfl
                                          · rfl
                                        refine hK.out _ _ ⟨(blk_cell (blk_alloc BK241.out _) 0).trans rfl, (blk_cell (blk_alloc BK241.out _) 1).trans rfl, (blk_cell (blk_alloc BK241.out _) 2).trans rfl, (blk_cell (blk_alloc BK241.out _) 3).trans rfl, (blk_cell (blk_alloc BK241.out _) 4).trans rfl, (blk_cell (blk_alloc BK241.out _) 5).trans rfl, (blk_cell (blk_alloc BK241.out _) 6).trans rfl, (blk_cell (blk_alloc BK241.out _) 7).trans rfl⟩ (fun hHeld => ?_)
                                        clear hK K
                                        refine norm_ (a' := ?_) ?_ ?_
                                        rotate_left
                                        · show Act.put _ (some 99) _ = _
                                          simp only [Act.put, List.setIfInBounds_toArray, List.set_cons_zero, List.set_cons_succ, i64_w, i32_w]
                                          rfl
                                        refine one_ (i := 8) (N := some 100) #[true, true, true, true, true, true, true, true, true, true, true, true, false, false] rfl rfl (one_of HT_.out (by kernel_rfl)) (by decide) (fun K hK => ?_)
                                        refine Kd.N_append_step k30 (w0 := w) w.heap.size (by rfl) (.tmp 96) (.tmp 99) 25 30 (.agg #[(.int .i64 0), (.int .i64 0), (.int .i64 0), (.int .i64 0), (.int .i64 0), (.int .i64 0), (.int .i64 0), (.slice none 0 0)]) 80 rfl Try.underlying25 info30 rfl (by decide) (by omega) v287 y286 (⟨t289, t290, t291, t292, t293, t294, t295, t296⟩ : S30) [.int .i64 t289, .int .i64 t290, .int .i64 t291, .int .i64 t292, .int .i64 t293, .int .i64 t294, .int .i64 t295, .slice Ao76 t296.length co76] (fun k_ => (w.heap.size ≤ k_) ∧ k_ ≠ gb241) (fun k_ => ((fun k_ => (w.heap.size ≤ k_) ∧ k_ ≠ gb241)) k_ ∧ some k_ ≠ (v287 : Value).ownBlock) rfl rfl ?aP (fun _ hk => hk) ?aF ?aO ?aB ?aS ?aL ?_
                                        (case aP => exact (k30_mkF _ _ (⟨t289, t290, t291, t292, t293, t294, t295, t296⟩ : S30) (Kd.R_reads' (Kd.R_mono (ok' := (fun k_ => ((fun k_ => (w.heap.size ≤ k_) ∧ k_ ≠ gb241)) k_ ∧ some k_ ≠ (v287 : Value).ownBlock)) (Kd.R_types (Kd.R_apart' (HO298.out) (Kd.N_typed HO288.out) (by decide)) BK241.out (by decide)) (fun k_ hk => ⟨⟨hk.1.1.1, hk.2⟩, hk.1.2⟩))).2.1 (Kd.R_F (Kd.R_mono (ok' := (fun k_ => ((fun k_ => (w.heap.size ≤ k_) ∧ k_ ≠ gb241)) k_ ∧ some k_ ≠ (v287 : Value).ownBlock)) (Kd.R_types (Kd.R_apart' (HO298.out) (Kd.N_typed HO288.out) (by decide)) BK241.out (by decide)) (fun k_ hk => ⟨⟨hk.1.1.1, hk.2⟩, hk.1.2⟩)))))
                                        (case aB => exact (by repeat (first | (with_reducible first | exact HB.out | apply below_alloc | apply pw_below_drewN | apply below_drew1 | refine below_set ?_ GE241.out) | exact HB.out)))
                                        (case aF => exact (fun k_ hk => ⟨(Nat.le_trans (below_size (by repeat (first | (with_reducible first | exact HB.out | apply below_alloc | apply pw_below_drewN | apply below_drew1 | refine below_set ?_ GE241.out) | exact HB.out))) hk), Kd.freshB (g := gb241) (o := .cells #[.int .i64 ((rd_T30 l0 x18_1).f0), .int .i64 ((rd_T30 l0 x18_1).f1), .int .i64 ((rd_T30 l0 x18_1).f2), .int .i64 ((rd_T30 l0 x18_1).f3), .int .i64 ((rd_T30 l0 x18_1).f4), .int .i64 ((rd_T30 l0 x18_1).f5), .int .i64 ((rd_T30 l0 x18_1).f6), .slice A240_7 ((rd_T30 l0 x18_1).f7).length c240_7] 30 (0, 0)) (by (with_reducible repeat (first | refine blk_drewN ?_ _ | refine blk_drew ?_ | refine blk_alloc ?_ _)); exact BK241.out) k_ hk⟩))
                                        (case aO => exact (by (with_reducible repeat (first | apply Kd.N_alloc | apply Kd.N_drewN | apply Kd.N_drew)); exact Kd.N_mono HO288.out (fun _ hk => ⟨hk.1.1, hk.1.2⟩)))
                                        (case aS => exact (below_size (by repeat (first | (with_reducible first | exact HB.out | apply below_alloc | apply pw_below_drewN | apply below_drew1 | refine below_set ?_ GE241.out) | exact HB.out))))
                                        (case aL => have := LMc63.out; omega)
                                        intro v300 w75 ho hb hg hat
                                        rw [← Ny299.out] at ho
                                        have n0_ := Aside0.mk (Kd.N_afterv (ok := (fun k_ => (w.heap.size ≤ k_) ∧ some k_ ≠ (.slice Ao76 t296.length co76 : Value).ownBlock ∧ k_ ≠ gb241)) (by (with_reducible repeat (first | apply Kd.N_alloc | apply Kd.N_drewN | apply Kd.N_drew)); exact Kd.N_mono HO_7.out (fun _ hk => ⟨⟨hk.1.1.1, ⟨hk.2, hk.1.1.2⟩⟩, hk.1.2⟩)) hg hat)
                                        have n1_ := Aside0.mk (blk_grown (g := gb241) (o := .cells #[.int .i64 ((rd_T30 l0 x18_1).f0), .int .i64 ((rd_T30 l0 x18_1).f1), .int .i64 ((rd_T30 l0 x18_1).f2), .int .i64 ((rd_T30 l0 x18_1).f3), .int .i64 ((rd_T30 l0 x18_1).f4), .int .i64 ((rd_T30 l0 x18_1).f5), .int .i64 ((rd_T30 l0 x18_1).f6), .slice A240_7 ((rd_T30 l0 x18_1).f7).length c240_7] 30 (0, 0)) (by (with_reducible repeat (first | refine blk_drewN ?_ _ | refine blk_drew ?_ | refine blk_alloc ?_ _)); exact BK241.out) hg (Kd.N_away HO288.out (fun _ hk => hk.1.2)))
                                        have n2_ := Aside0.mk (Kd.V_afterv (ok := (fun k_ => (w.heap.size ≤ k_) ∧ some k_ ≠ (.slice Ao76 t296.length co76 : Value).ownBlock ∧ k_ ≠ gb241)) (by (with_reducible repeat (first | apply Kd.V_alloc | apply Kd.V_drewN | apply Kd.V_drew)); exact Kd.V_mono HO285.out (fun _ hk => ⟨⟨hk.1.1.1, ⟨hk.2, hk.1.1.2⟩⟩, hk.1.2⟩)) hg hat)
                                        have n3_ := Aside0.mk (Kd.V_afterv (ok := (fun k_ => (w.heap.size ≤ k_) ∧ some k_ ≠ (.slice Ao76 t296.length co76 : Value).ownBlock ∧ k_ ≠ gb241)) (by (with_reducible repeat (first | apply Kd.V_alloc | apply Kd.V_drewN | apply Kd.V_drew)); exact Kd.V_mono HO306.out (fun _ hk => ⟨⟨hk.1.1.1, ⟨hk.2, hk.1.1.2⟩⟩, hk.1.2⟩)) hg hat)
                                        have n4_ := Aside0.mk (hb)
                                        have n5_ := Aside0.mk (ho)
                                        clear HO_7
                                        clear BK241
                                        clear HO285
                                        clear HO306
                                        clear HB
                                        clear HO288
                                        clear HO298
                                        have HO_7 := n0_
                                        have BK241 := n1_
                                        have HO285 := n2_
                                        have HO306 := n3_
                                        have HB := n4_
                                        have HO301 := n5_
                                        clear n0_ n1_ n2_ n3_ n4_ n5_
                                        clear ho hb hg hat
                                        refine hK.out _ _ ⟨(blk_cell BK241.out 0).trans rfl, (blk_cell BK241.out 1).trans rfl, (blk_cell BK241.out 2).trans rfl, (blk_cell BK241.out 3).trans rfl, (blk_cell BK241.out 4).trans rfl, (blk_cell BK241.out 5).trans rfl, (blk_cell BK241.out 6).trans rfl, (blk_cell BK241.out 7).trans rfl⟩ (fun hHeld => ?_)
                                        clear hK K
                                        refine norm_ (a' := ?_) ?_ ?_
                                        rotate_left
                                        · show Act.put _ (some 100) _ = _
                                          simp only [Act.put, List.setIfInBounds_toArray, List.set_cons_zero, List.set_cons_succ, i64_w, i32_w]
                                          rfl
                                        refine one_ (i := 12) (N := some 104) #[true, true, true, true, true, true, true, true, true, true, true, true, true, false] rfl rfl (one_of HT_.out (by kernel_rfl)) (by decide) (fun K hK => ?_)
                                        refine Kd.N_append_rows_step k30 (w0 := w) w.heap.size (by rfl) (.tmp 100) (.tmp 103) 25 30 (.agg #[(.int .i64 0), (.int .i64 0), (.int .i64 0), (.int .i64 0), (.int .i64 0), (.int .i64 0), (.int .i64 0), (.slice none 0 0)]) 80 rfl Try.underlying25 info30 rfl (by decide) (by omega) v300 y299 y302 _ _ _ (fun k_ => (w.heap.size ≤ k_) ∧ k_ ≠ gb241) (fun k_ => ((fun k_ => (w.heap.size ≤ k_) ∧ k_ ≠ gb241)) k_ ∧ some k_ ≠ (v300 : Value).ownBlock) rfl rfl ?aO ?aR (fun _ hk => hk) ?aF ?aB ?aS ?aL ?_
                                        (case aR => exact (by skip; exact Kd.V_F (Kd.V_mono (ok' := (fun k_ => ((fun k_ => (w.heap.size ≤ k_) ∧ k_ ≠ gb241)) k_ ∧ some k_ ≠ (v300 : Value).ownBlock)) (HO306.out) (fun k_ hk => ⟨⟨hk.1.1, hk.1.2.2⟩, hk.2⟩))))
                                        (case aB => exact (by repeat (first | (with_reducible first | exact HB.out | apply below_alloc | apply pw_below_drewN | apply below_drew1 | refine below_set ?_ GE241.out) | exact HB.out)))
                                        (case aF => exact (fun k_ hk => ⟨(Nat.le_trans (below_size (by repeat (first | (with_reducible first | exact HB.out | apply below_alloc | apply pw_below_drewN | apply below_drew1 | refine below_set ?_ GE241.out) | exact HB.out))) hk), Kd.freshB (g := gb241) (o := .cells #[.int .i64 ((rd_T30 l0 x18_1).f0), .int .i64 ((rd_T30 l0 x18_1).f1), .int .i64 ((rd_T30 l0 x18_1).f2), .int .i64 ((rd_T30 l0 x18_1).f3), .int .i64 ((rd_T30 l0 x18_1).f4), .int .i64 ((rd_T30 l0 x18_1).f5), .int .i64 ((rd_T30 l0 x18_1).f6), .slice A240_7 ((rd_T30 l0 x18_1).f7).length c240_7] 30 (0, 0)) (by (with_reducible repeat (first | refine blk_drewN ?_ _ | refine blk_drew ?_ | refine blk_alloc ?_ _)); exact BK241.out) k_ hk⟩))
                                        (case aO => exact (by (with_reducible repeat (first | apply Kd.N_alloc | apply Kd.N_drewN | apply Kd.N_drew)); exact HO301.out))
                                        (case aS => exact (below_size (by repeat (first | (with_reducible first | exact HB.out | apply below_alloc | apply pw_below_drewN | apply below_drew1 | refine below_set ?_ GE241.out) | exact HB.out))))
                                        (case aL => have := LMc66.out; omega)
                                        intro v308 w77 ho hb hg hat
                                        rw [← Ny307.out] at ho
                                        have n0_ := Aside0.mk (Kd.N_afterv (ok := (fun k_ => (w.heap.size ≤ k_) ∧ k_ ≠ gb241)) (by (with_reducible repeat (first | apply Kd.N_alloc | apply Kd.N_drewN | apply Kd.N_drew)); exact Kd.N_mono HO_7.out (fun _ hk => ⟨⟨hk.1.1, hk.1.2.2⟩, hk.2⟩)) hg hat)
                                        have n1_ := Aside0.mk (blk_grown (g := gb241) (o := .cells #[.int .i64 ((rd_T30 l0 x18_1).f0), .int .i64 ((rd_T30 l0 x18_1).f1), .int .i64 ((rd_T30 l0 x18_1).f2), .int .i64 ((rd_T30 l0 x18_1).f3), .int .i64 ((rd_T30 l0 x18_1).f4), .int .i64 ((rd_T30 l0 x18_1).f5), .int .i64 ((rd_T30 l0 x18_1).f6), .slice A240_7 ((rd_T30 l0 x18_1).f7).length c240_7] 30 (0, 0)) (by (with_reducible repeat (first | refine blk_drewN ?_ _ | refine blk_drew ?_ | refine blk_alloc ?_ _)); exact BK241.out) hg (Kd.N_away HO301.out (fun _ hk => hk.2)))
                                        have n2_ := Aside0.mk (Kd.V_afterv (ok := (fun k_ => (w.heap.size ≤ k_) ∧ k_ ≠ gb241)) (by (with_reducible repeat (first | apply Kd.V_alloc | apply Kd.V_drewN | apply Kd.V_drew)); exact Kd.V_mono HO285.out (fun _ hk => ⟨⟨hk.1.1, hk.1.2.2⟩, hk.2⟩)) hg hat)
                                        have n3_ := Aside0.mk (Kd.V_afterv (ok := (fun k_ => (w.heap.size ≤ k_) ∧ k_ ≠ gb241)) (by (with_reducible repeat (first | apply Kd.V_alloc | apply Kd.V_drewN | apply Kd.V_drew)); exact Kd.V_mono HO306.out (fun _ hk => ⟨⟨hk.1.1, hk.1.2.2⟩, hk.2⟩)) hg hat)
                                        have n4_ := Aside0.mk (hb)
                                        have n5_ := Aside0.mk (ho)
                                        clear HO_7
                                        clear BK241
                                        clear HO285
                                        clear HO306
                                        clear HB
                                        clear HO301
                                        have HO_7 := n0_
                                        have BK241 := n1_
                                        have HO285 := n2_
                                        have HO306 := n3_
                                        have HB := n4_
                                        have HO309 := n5_
                                        clear n0_ n1_ n2_ n3_ n4_ n5_
                                        clear ho hb hg hat
                                        refine hK.out _ _ ⟨(blk_cell BK241.out 0).trans rfl, (blk_cell BK241.out 1).trans rfl, (blk_cell BK241.out 2).trans rfl, (blk_cell BK241.out 3).trans rfl, (blk_cell BK241.out 4).trans rfl, (blk_cell BK241.out 5).trans rfl, (blk_cell BK241.out 6).trans rfl, (blk_cell BK241.out 7).trans rfl⟩ (fun hHeld => ?_)
                                        clear hK K
                                        refine norm_ (a' := ?_) ?_ ?_
                                        rotate_left
                                        · show Act.put _ (some 104) _ = _
                                          simp only [Act.put, List.setIfInBounds_toArray, List.set_cons_zero, List.set_cons_succ, i64_w, i32_w]
                                          rfl
                                        refine pure_ (i := 13) (N := some 7) (v := ?_) (a' := ?_) #[true, true, true, true, true, true, true, true, true, true, true, true, true, true] rfl rfl (any_of HT_.out (by kernel_rfl)) (fun _ _ _ h => h) (Or.inl ⟨by rfl, ?_⟩) ?_ ?_
                                        rotate_left
                                        · intro w'
                                          go_simp
                                          with_reducible rfl
                                        rotate_left
                                        · simp only [Act.put, List.setIfInBounds_toArray, List.set_cons_zero, List.set_cons_succ, i64_w, i32_w]
                                          rfl
                                        refine done_ (done_of HT_.out (by kernel_rfl)) ?_
                                        try go_wp2
                                        go_roundg k4
                                        case measure => have := HK1.out; have := HJ6.out; have := HK3.out; have := HK4.out; omega
                                        case rel => exact ⟨(y307), (wrap64 (x18_1 + 1)), (by first | rfl | (simp; done) | (simp [*]; done)), H', ⟨by have := HK1.out; have := HJ6.out; have := HK3.out; have := HK4.out; omega⟩, ⟨by (with_reducible repeat (first | apply Kd.N_alloc | apply Kd.N_drewN | apply Kd.N_drew)); exact Kd.N_mono HO309.out (fun _ hk => hk.1)⟩, ⟨by repeat (first | (with_reducible first | exact HB.out | apply below_alloc | apply pw_below_drewN | apply below_drew1 | refine below_set ?_ GE241.out) | exact HB.out)⟩⟩
                                      · rw [if_neg c66] at H
                                        exact absurd H (by simp)
                                    · rw [if_neg c63] at H
                                      exact absurd H (by simp)
                                  · rw [if_neg c61] at H
                                    exact absurd H (by simp)
                                · rw [if_neg c60] at H
                                  exact absurd H (by simp)
                              · rw [if_neg c59] at H
                                exact absurd H (by simp)
                      · replace c32 := Bool.eq_false_iff.mpr c32
                        subst c32
                        have H1 : (dryrotref16_Live.l0 k3 l0 a1 a2 x7_1 l0 (l0.length : Int) (wrap64 (x18_1 + 1))) = some r := by rw [if_neg (show ¬ (false = true) by decide)] at H; exact H
                        clear H
                        have H := H1
                        clear H1
                        have H' := Aside0.mk H
                        clear H
                        go_wp2
                        go_roundg k3
                        case measure => have := HK1.out; have := HJ6.out; have := HK3.out; omega
                        case rel => exact ⟨(x7_1), (wrap64 (x18_1 + 1)), (by first | rfl | (simp; done) | (simp [*]; done)), H', ⟨by have := HK1.out; have := HJ6.out; have := HK3.out; omega⟩, ⟨by (with_reducible repeat (first | apply Kd.N_alloc | apply Kd.N_drewN | apply Kd.N_drew)); exact Kd.N_mono HO_7.out (fun _ hk => hk.1)⟩, ⟨by repeat (first | (with_reducible first | exact HB.out | apply below_alloc | apply pw_below_drewN | apply below_drew1 | refine below_set ?_ GE241.out) | exact HB.out)⟩⟩
          · rw [if_neg c6] at H
            exact absurd H (by simp)
        · rw [if_neg c5] at H
          exact absurd H (by simp)
      · rw [if_neg c4] at H
        have c4b0 : decide (x18_1 < (l0.length : Int)) = false := decide_eq_false c4
        clear c4
        obtain rfl := Option.some.inj H
        go_wp2
        go_ret
        exact ⟨_, by first | rfl | (simp [errW_none, errW_some] <;> rfl) | (simp [*, errW_none, errW_some] <;> rfl), by (with_reducible repeat (first | apply Kd.N_alloc | apply Kd.N_drewN | apply Kd.N_drew)); exact HO_7.out, by repeat (first | (with_reducible first | exact HB.out | apply below_alloc | apply pw_below_drewN | apply below_drew1) | exact HB.out)⟩

end Go.Proofs.Ythjfffgddegmoaa.PA
