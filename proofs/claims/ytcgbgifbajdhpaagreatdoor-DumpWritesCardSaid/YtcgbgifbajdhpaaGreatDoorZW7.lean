/- Lemmas and contracts that the law DumpWrites leans on (packed by a program of this session out of its texts and the print's words). -/
import Derived.Test.YtcgbgifbajdhpaaGreatDoorZW2
import Derived.Test.YtcgbgifbajdhpaaGreatDoorZW6
import Derived.Test.YtcgbgifbajdhpaaGreatDoorZW5
import Derived.Deep.DeepMust
import Derived.BigRegion
import Derived.Test.YtcgbgifbajdhpaaGreatDoorZW3
import Derived.WalkSpells
import Derived.ScopeJumps
import Derived.WalkMore
set_option linter.unusedVariables false
set_option linter.unusedSimpArgs false
set_option maxHeartbeats 8000000
set_option maxRecDepth 100000
namespace Go.Proofs.YtcgbgifbajdhpaaGreatDoor.PA
open Go.RowKit Go.Proofs.YtcgbgifbajdhpaaGreatDoorW.PrintWords Go.Proofs.YtcgbgifbajdhpaaGreatDoorW.PrintLast Go.Proofs.YtcgbgifbajdhpaaGreatDoorW.PrintMore
attribute [local go_sem] max2_int min2_int max_two min_two max_three min_three max_four min_four   -- for this text's walks alone
attribute [local go_sem high] eqA70
def api_Sample_42.l0:Nat→List (S70)→List (S70)→Int→Int→Option (Bool)
  | 0,_,_,_,_ => none
  | k+1,x0,x1,x12,x13 => if x13<x12 then (if 0≤x13 then (if x13<(x0.length:Int) then (if x13<(x1.length:Int) then (if (!(((rd_T70 x0 x13).f0) == ((rd_T70 x1 x13).f0)) || (!(((rd_T70 x0 x13).f1) == ((rd_T70 x1 x13).f1))))=true then (some false) else (api_Sample_42.l0 k x0 x1 x12 (wrap64 (x13+1)))) else (none)) else (none)) else (none)) else (some true)
def api_Sample_42.f (k:Nat) (l0:List (S70)) (l1:List (S70)):Option (Bool):=if (l0.length:Int)=(l1.length:Int) then (api_Sample_42.l0 k l0 l1 (l0.length:Int) 0) else (some false)
theorem api_Sample_42.mono_l:∀ k,(∀ y0 y1 y2 y3,LeO (api_Sample_42.l0 k y0 y1 y2 y3) (api_Sample_42.l0 (k+1) y0 y1 y2 y3))
  | 0 => fun _ _ _ _ r h => by simp [api_Sample_42.l0] at h
  | k + 1 => by
    have ih0:=api_Sample_42.mono_l k
    · intro y0 y1 y2 y3
      unfold api_Sample_42.l0
      repeat' first
      | (with_reducible exact ih0 _ _ _ _)
      | (with_reducible exact LeO.refl _)
      | (with_reducible exact LeO.none _)
      | (with_reducible refine LeO.ite ?_ ?_)
      | (with_reducible refine LeO.bind ?_ (fun _ => ?_))
      | exact ih0 _ _ _ _
      | exact LeO.none _
      | refine LeO.ite ?_ ?_
      | refine LeO.bind ?_ (fun _ => ?_)
theorem api_Sample_42.mono:∀ a0 a1 k,LeO (api_Sample_42.f k a0 a1) (api_Sample_42.f (k+1) a0 a1):=by
  intro a0 a1 k
  have ih0:=api_Sample_42.mono_l k
  unfold api_Sample_42.f
  repeat' first
      | (with_reducible exact ih0 _ _ _ _)
      | (with_reducible exact LeO.refl _)
      | (with_reducible exact LeO.none _)
      | (with_reducible refine LeO.ite ?_ ?_)
      | (with_reducible refine LeO.bind ?_ (fun _ => ?_))
      | exact ih0 _ _ _ _
      | exact LeO.none _
      | refine LeO.ite ?_ ?_
      | refine LeO.bind ?_ (fun _ => ?_)
theorem api_Sample_42.calls (k:Nat) (A0:Option Addr) (c0:Nat) (l0:List (S70)) (A1:Option Addr) (c1:Nat) (l1:List (S70)) (r:Bool) (w:World) (hr0:Kd.C k70 w A0 l0.length l0) (hc0:l0.length≤c0) (hr1:Kd.C k70 w A1 l1.length l1) (hc1:l1.length≤c1) (h:api_Sample_42.f k l0 l1=some r) :
    Calls Tryz.prog 42 #[.slice A0 l0.length c0,.slice A1 l1.length c1] w fun e w' => e = .returned (.bool r)∧Drawn0 w w':=by
  have hu70:=Tryz.underlying70
  have HR0:=Aside0.mk hr0
  have HC0:=Aside0.mk hc0
  clear hr0 hc0
  have HR1:=Aside0.mk hr1
  have HC1:=Aside0.mk hc1
  clear hr1 hc1
  have H:(if (l0.length:Int)=(l1.length:Int) then (api_Sample_42.l0 k l0 l1 (l0.length:Int) 0) else (some false))=some r:=h
  clear h
  by_cases c3:(l0.length:Int)=(l1.length:Int)
  · rw [if_pos c3] at H
    have c3b0:((l0.length:Int) == (l1.length:Int))=true:=beq_iff_eq.mpr c3
    have c3b1:((l0.length:Int) != (l1.length:Int))=false:=bne_eq_false_iff_eq.mpr c3
    have c3b2:(l0.length == l1.length)=true:=by first | simpa using c3 | (simp at c3 ⊢;omega)
    clear c3
    have H':=Aside0.mk H
    clear H
    go_enter Tryz.func42,Tryz.ntmps42
    go_wp2
    repeat (go_quiet (fail);try go_wp2)
    go_loopg [13] k (fun kq v13 w' => ∃ (x13_1:Int),v13 = .int .i64 x13_1∧Aside0 (api_Sample_42.l0 kq l0 l1 (l0.length:Int) x13_1=some r)∧Aside0 (kq≤k)∧Drawn0 w w')
    case atStart => exact ⟨(0),(by first | rfl | (simp;done) | (simp [*];done)),H',⟨Nat.le_refl _⟩,by repeat (first | exact Drawn0.refl _ | apply Drawn0.step)⟩
    case round =>
      clear H'
      try clear c1
      try clear p2
      try clear c3
      try clear c3b0
      try clear c3b1
      try clear c3b2
      obtain ⟨x13_1,rfl,HA,HK1,⟨m1,rfl⟩⟩:=hrel
      cases gk with
      | zero => exact absurd HA.out (by simp [api_Sample_42.l0])
      | succ k1 =>
        have H:=HA.out
        clear HA
        simp only [api_Sample_42.l0] at H
        by_cases c4:x13_1<(l0.length:Int)
        · rw [if_pos c4] at H
          have c4b0:decide (x13_1<(l0.length:Int))=true:=decide_eq_true c4
          clear c4
          by_cases c5:0≤x13_1
          · rw [if_pos c5] at H
            have c5b0:decide (0≤x13_1)=true:=decide_eq_true c5
            clear c5
            by_cases c6:x13_1<(l0.length:Int)
            · rw [if_pos c6] at H
              have c6b0:decide (x13_1<(l0.length:Int))=true:=decide_eq_true c6
              clear c6
              by_cases c7:x13_1<(l1.length:Int)
              · rw [if_pos c7] at H
                have c7b0:decide (x13_1<(l1.length:Int))=true:=decide_eq_true c7
                clear c7
                by_cases c8:(!(((rd_T70 l0 x13_1).f0) == ((rd_T70 l1 x13_1).f0)) || (!(((rd_T70 l0 x13_1).f1) == ((rd_T70 l1 x13_1).f1))))=true
                · rw [if_pos c8] at H
                  have c8b0:(!(((rd_T70 l0 x13_1).f0) == ((rd_T70 l1 x13_1).f0)) || (!(((rd_T70 l0 x13_1).f1) == ((rd_T70 l1 x13_1).f1))))=true:=c8
                  clear c8
                  obtain rfl:=Option.some.inj H
                  have p587:0≤(x13_1:Int):=of_decide_eq_true (by first | (with_reducible assumption) | assumption)
                  have q587:x13_1<(l0.length:Int):=of_decide_eq_true (by first | (with_reducible assumption) | assumption)
                  obtain ⟨ad587,e587,hx587_0,hx587_1⟩:=at_T70 HR0.out x13_1 p587 q587
                  cases e587
                  replace p587:=eq_true p587
                  replace q587:=eq_true q587
                  have p588:0≤(x13_1:Int):=of_decide_eq_true (by first | (with_reducible assumption) | assumption)
                  have q588:x13_1<(l1.length:Int):=of_decide_eq_true (by first | (with_reducible assumption) | assumption)
                  obtain ⟨ad588,e588,hx588_0,hx588_1⟩:=at_T70 HR1.out x13_1 p588 q588
                  cases e588
                  replace p588:=eq_true p588
                  replace q588:=eq_true q588
                  go_wp2
                  repeat (go_quiet (fail);try go_wp2)
                  go_ret
                  exact ⟨by first | rfl | (simp;done) | (simp [*];done) | (simp;decide +kernel),by repeat (first | exact Drawn0.refl _ | apply Drawn0.step)⟩
                · rw [if_neg c8] at H
                  have c8b0:(!(((rd_T70 l0 x13_1).f0) == ((rd_T70 l1 x13_1).f0)) || (!(((rd_T70 l0 x13_1).f1) == ((rd_T70 l1 x13_1).f1))))=false:=by simpa using c8
                  clear c8
                  have H':=Aside0.mk H
                  clear H
                  have p587:0≤(x13_1:Int):=of_decide_eq_true (by first | (with_reducible assumption) | assumption)
                  have q587:x13_1<(l0.length:Int):=of_decide_eq_true (by first | (with_reducible assumption) | assumption)
                  obtain ⟨ad587,e587,hx587_0,hx587_1⟩:=at_T70 HR0.out x13_1 p587 q587
                  cases e587
                  replace p587:=eq_true p587
                  replace q587:=eq_true q587
                  have p588:0≤(x13_1:Int):=of_decide_eq_true (by first | (with_reducible assumption) | assumption)
                  have q588:x13_1<(l1.length:Int):=of_decide_eq_true (by first | (with_reducible assumption) | assumption)
                  obtain ⟨ad588,e588,hx588_0,hx588_1⟩:=at_T70 HR1.out x13_1 p588 q588
                  cases e588
                  replace p588:=eq_true p588
                  replace q588:=eq_true q588
                  go_wp2
                  repeat (go_quiet (fail);try go_wp2)
                  go_roundg k1
                  case measure => have:=HK1.out;omega
                  case rel => exact ⟨(wrap64 (x13_1+1)),(by first | rfl | (simp;done) | (simp [*];done)),H',⟨by have:=HK1.out;omega⟩,by repeat (first | exact Drawn0.refl _ | apply Drawn0.step)⟩
              · rw [if_neg c7] at H
                exact absurd H (by simp)
            · rw [if_neg c6] at H
              exact absurd H (by simp)
          · rw [if_neg c5] at H
            exact absurd H (by simp)
        · rw [if_neg c4] at H
          have c4b0:decide (x13_1<(l0.length:Int))=false:=decide_eq_false c4
          clear c4
          obtain rfl:=Option.some.inj H
          go_wp2
          repeat (go_quiet (fail);try go_wp2)
          go_ret
          exact ⟨by first | rfl | (simp;done) | (simp [*];done) | (simp;decide +kernel),by repeat (first | exact Drawn0.refl _ | apply Drawn0.step)⟩
  · rw [if_neg c3] at H
    have c3b0:((l0.length:Int) == (l1.length:Int))=false:=beq_eq_false_iff_ne.mpr c3
    have c3b1:((l0.length:Int) != (l1.length:Int))=true:=bne_iff_ne.mpr c3
    have c3b2:(l0.length == l1.length)=false:=by first | simpa using c3 | (simp at c3 ⊢;omega)
    obtain rfl:=Option.some.inj H
    go_enter Tryz.func42,Tryz.ntmps42
    go_wp2
    repeat (go_quiet (fail);try go_wp2)
    go_ret
    exact ⟨by first | rfl | (simp;done) | (simp [*];done) | (simp;decide +kernel),by repeat (first | exact Drawn0.refl _ | apply Drawn0.step)⟩
attribute [local go_sem] max2_int min2_int max_two min_two max_three min_three max_four min_four   -- for this text's walks alone
def slices_Equal_byte_byte.l0:Nat→List Int→List Int→Int→Int→Option (Bool)
  | 0,_,_,_,_ => none
  | k+1,x0,x1,x12,x13 => if x13<x12 then (if 0≤x13 then (if x13<(x0.length:Int) then (if x13<(x1.length:Int) then (if (rd x0 x13)=(rd x1 x13) then (slices_Equal_byte_byte.l0 k x0 x1 x12 (wrap64 (x13+1))) else (some false)) else (none)) else (none)) else (none)) else (some true)
def slices_Equal_byte_byte.f (k:Nat) (l0:List Int) (l1:List Int):Option (Bool):=if (l0.length:Int)=(l1.length:Int) then (slices_Equal_byte_byte.l0 k l0 l1 (l0.length:Int) 0) else (some false)
theorem slices_Equal_byte_byte.mono_l:∀ k,(∀ y0 y1 y2 y3,LeO (slices_Equal_byte_byte.l0 k y0 y1 y2 y3) (slices_Equal_byte_byte.l0 (k+1) y0 y1 y2 y3))
  | 0 => fun _ _ _ _ r h => by simp [slices_Equal_byte_byte.l0] at h
  | k + 1 => by
    have ih0:=slices_Equal_byte_byte.mono_l k
    · intro y0 y1 y2 y3
      unfold slices_Equal_byte_byte.l0
      repeat' first
      | (with_reducible exact ih0 _ _ _ _)
      | (with_reducible exact LeO.refl _)
      | (with_reducible exact LeO.none _)
      | (with_reducible refine LeO.ite ?_ ?_)
      | (with_reducible refine LeO.bind ?_ (fun _ => ?_))
      | exact ih0 _ _ _ _
      | exact LeO.none _
      | refine LeO.ite ?_ ?_
      | refine LeO.bind ?_ (fun _ => ?_)
theorem slices_Equal_byte_byte.mono:∀ a0 a1 k,LeO (slices_Equal_byte_byte.f k a0 a1) (slices_Equal_byte_byte.f (k+1) a0 a1):=by
  intro a0 a1 k
  have ih0:=slices_Equal_byte_byte.mono_l k
  unfold slices_Equal_byte_byte.f
  repeat' first
      | (with_reducible exact ih0 _ _ _ _)
      | (with_reducible exact LeO.refl _)
      | (with_reducible exact LeO.none _)
      | (with_reducible refine LeO.ite ?_ ?_)
      | (with_reducible refine LeO.bind ?_ (fun _ => ?_))
      | exact ih0 _ _ _ _
      | exact LeO.none _
      | refine LeO.ite ?_ ?_
      | refine LeO.bind ?_ (fun _ => ?_)
theorem slices_Equal_byte_byte.calls (k:Nat) (A0:Option Addr) (c0:Nat) (l0:List Int) (A1:Option Addr) (c1:Nat) (l1:List Int) (r:Bool) (w:World) (hr0:Kd.C (Kd.int .u8) w A0 l0.length l0) (hc0:l0.length≤c0) (hr1:Kd.C (Kd.int .u8) w A1 l1.length l1) (hc1:l1.length≤c1) (h:slices_Equal_byte_byte.f k l0 l1=some r) :
    Calls Tryz.prog 11 #[.slice A0 l0.length c0,.slice A1 l1.length c1] w fun e w' => e = .returned (.bool r)∧Drawn0 w w':=by
  have HR0:=Aside0.mk hr0
  have HC0:=Aside0.mk hc0
  clear hr0 hc0
  have HR1:=Aside0.mk hr1
  have HC1:=Aside0.mk hc1
  clear hr1 hc1
  have H:(if (l0.length:Int)=(l1.length:Int) then (slices_Equal_byte_byte.l0 k l0 l1 (l0.length:Int) 0) else (some false))=some r:=h
  clear h
  by_cases c3:(l0.length:Int)=(l1.length:Int)
  · rw [if_pos c3] at H
    have c3b0:((l0.length:Int) == (l1.length:Int))=true:=beq_iff_eq.mpr c3
    have c3b1:((l0.length:Int) != (l1.length:Int))=false:=bne_eq_false_iff_eq.mpr c3
    have c3b2:(l0.length == l1.length)=true:=by first | simpa using c3 | (simp at c3 ⊢;omega)
    clear c3
    have H':=Aside0.mk H
    clear H
    go_enter Tryz.func11,Tryz.ntmps11
    go_wp2
    repeat (go_quiet (fail);try go_wp2)
    go_loopg [13] k (fun kq v13 w' => ∃ (x13_1:Int),v13 = .int .i64 x13_1∧Aside0 (slices_Equal_byte_byte.l0 kq l0 l1 (l0.length:Int) x13_1=some r)∧Aside0 (kq≤k)∧Drawn0 w w')
    case atStart => exact ⟨(0),(by first | rfl | (simp;done) | (simp [*];done)),H',⟨Nat.le_refl _⟩,by repeat (first | exact Drawn0.refl _ | apply Drawn0.step)⟩
    case round =>
      clear H'
      try clear c1
      try clear p2
      try clear c3
      try clear c3b0
      try clear c3b1
      try clear c3b2
      obtain ⟨x13_1,rfl,HA,HK1,⟨m1,rfl⟩⟩:=hrel
      cases gk with
      | zero => exact absurd HA.out (by simp [slices_Equal_byte_byte.l0])
      | succ k1 =>
        have H:=HA.out
        clear HA
        simp only [slices_Equal_byte_byte.l0] at H
        by_cases c4:x13_1<(l0.length:Int)
        · rw [if_pos c4] at H
          have c4b0:decide (x13_1<(l0.length:Int))=true:=decide_eq_true c4
          clear c4
          by_cases c5:0≤x13_1
          · rw [if_pos c5] at H
            have c5b0:decide (0≤x13_1)=true:=decide_eq_true c5
            clear c5
            by_cases c6:x13_1<(l0.length:Int)
            · rw [if_pos c6] at H
              have c6b0:decide (x13_1<(l0.length:Int))=true:=decide_eq_true c6
              clear c6
              by_cases c7:x13_1<(l1.length:Int)
              · rw [if_pos c7] at H
                have c7b0:decide (x13_1<(l1.length:Int))=true:=decide_eq_true c7
                clear c7
                by_cases c8:(rd l0 x13_1)=(rd l1 x13_1)
                · rw [if_pos c8] at H
                  have c8b0:((rd l0 x13_1) == (rd l1 x13_1))=true:=beq_iff_eq.mpr c8
                  have c8b1:((rd l0 x13_1) != (rd l1 x13_1))=false:=bne_eq_false_iff_eq.mpr c8
                  clear c8
                  have H':=Aside0.mk H
                  clear H
                  have p267:0≤(x13_1:Int):=of_decide_eq_true (by first | (with_reducible assumption) | assumption)
                  have q267:x13_1<(l0.length:Int):=of_decide_eq_true (by first | (with_reducible assumption) | assumption)
                  obtain ⟨ad267,e267,hx267_0⟩:=Kd.at_int HR0.out x13_1 p267 q267
                  cases e267
                  replace p267:=eq_true p267
                  replace q267:=eq_true q267
                  have p268:0≤(x13_1:Int):=of_decide_eq_true (by first | (with_reducible assumption) | assumption)
                  have q268:x13_1<(l1.length:Int):=of_decide_eq_true (by first | (with_reducible assumption) | assumption)
                  obtain ⟨ad268,e268,hx268_0⟩:=Kd.at_int HR1.out x13_1 p268 q268
                  cases e268
                  replace p268:=eq_true p268
                  replace q268:=eq_true q268
                  go_wp2
                  repeat (go_quiet (fail);try go_wp2)
                  go_roundg k1
                  case measure => have:=HK1.out;omega
                  case rel => exact ⟨(wrap64 (x13_1+1)),(by first | rfl | (simp;done) | (simp [*];done)),H',⟨by have:=HK1.out;omega⟩,by repeat (first | exact Drawn0.refl _ | apply Drawn0.step)⟩
                · rw [if_neg c8] at H
                  have c8b0:((rd l0 x13_1) == (rd l1 x13_1))=false:=beq_eq_false_iff_ne.mpr c8
                  have c8b1:((rd l0 x13_1) != (rd l1 x13_1))=true:=bne_iff_ne.mpr c8
                  obtain rfl:=Option.some.inj H
                  have p267:0≤(x13_1:Int):=of_decide_eq_true (by first | (with_reducible assumption) | assumption)
                  have q267:x13_1<(l0.length:Int):=of_decide_eq_true (by first | (with_reducible assumption) | assumption)
                  obtain ⟨ad267,e267,hx267_0⟩:=Kd.at_int HR0.out x13_1 p267 q267
                  cases e267
                  replace p267:=eq_true p267
                  replace q267:=eq_true q267
                  have p268:0≤(x13_1:Int):=of_decide_eq_true (by first | (with_reducible assumption) | assumption)
                  have q268:x13_1<(l1.length:Int):=of_decide_eq_true (by first | (with_reducible assumption) | assumption)
                  obtain ⟨ad268,e268,hx268_0⟩:=Kd.at_int HR1.out x13_1 p268 q268
                  cases e268
                  replace p268:=eq_true p268
                  replace q268:=eq_true q268
                  go_wp2
                  repeat (go_quiet (fail);try go_wp2)
                  go_ret
                  exact ⟨by first | rfl | (simp;done) | (simp [*];done) | (simp;decide +kernel),by repeat (first | exact Drawn0.refl _ | apply Drawn0.step)⟩
              · rw [if_neg c7] at H
                exact absurd H (by simp)
            · rw [if_neg c6] at H
              exact absurd H (by simp)
          · rw [if_neg c5] at H
            exact absurd H (by simp)
        · rw [if_neg c4] at H
          have c4b0:decide (x13_1<(l0.length:Int))=false:=decide_eq_false c4
          clear c4
          obtain rfl:=Option.some.inj H
          go_wp2
          repeat (go_quiet (fail);try go_wp2)
          go_ret
          exact ⟨by first | rfl | (simp;done) | (simp [*];done) | (simp;decide +kernel),by repeat (first | exact Drawn0.refl _ | apply Drawn0.step)⟩
  · rw [if_neg c3] at H
    have c3b0:((l0.length:Int) == (l1.length:Int))=false:=beq_eq_false_iff_ne.mpr c3
    have c3b1:((l0.length:Int) != (l1.length:Int))=true:=bne_iff_ne.mpr c3
    have c3b2:(l0.length == l1.length)=false:=by first | simpa using c3 | (simp at c3 ⊢;omega)
    obtain rfl:=Option.some.inj H
    go_enter Tryz.func11,Tryz.ntmps11
    go_wp2
    repeat (go_quiet (fail);try go_wp2)
    go_ret
    exact ⟨by first | rfl | (simp;done) | (simp [*];done) | (simp;decide +kernel),by repeat (first | exact Drawn0.refl _ | apply Drawn0.step)⟩
end Go.Proofs.YtcgbgifbajdhpaaGreatDoor.PA
namespace Go.Proofs.YtcgbgifbajdhpaaGreatDoor.PA
open Go.RowKit Go.Proofs.YtcgbgifbajdhpaaGreatDoor.G Go.Proofs.YtcgbgifbajdhpaaGreatDoorW.PrintWords Go.Proofs.YtcgbgifbajdhpaaGreatDoorW.PrintLast Go.Proofs.YtcgbgifbajdhpaaGreatDoorW.PrintMore
theorem eqS_go (l:List S70) (hl:l.length≤1000000):∀ d i,i+d=l.length→∀ k,d<k→api_Sample_42.l0 k l l (l.length:Int) (i:Int)=some true
  | 0,i,h,k+1,hk => by
    unfold api_Sample_42.l0
    rw [if_neg (by omega)]
  | d+1,i,h,k+1,hk => by
    unfold api_Sample_42.l0
    have e:wrap64 ((i:Int)+1)=((i+1:Nat):Int):=by rw [w64 (by omega) (by omega)];omega
    rw [if_pos (by omega),if_pos (by omega),if_pos (by omega),if_pos (by omega),if_neg (by simp),e]
    exact eqS_go l hl d (i+1) (by omega) k (by omega)
theorem eqB_go (l:List Int) (hl:l.length≤1000000):∀ d i,i+d=l.length→∀ k,d<k→slices_Equal_byte_byte.l0 k l l (l.length:Int) (i:Int)=some true
  | 0,i,h,k+1,hk => by
    unfold slices_Equal_byte_byte.l0
    rw [if_neg (by omega)]
  | d+1,i,h,k+1,hk => by
    unfold slices_Equal_byte_byte.l0
    have e:wrap64 ((i:Int)+1)=((i+1:Nat):Int):=by rw [w64 (by omega) (by omega)];omega
    rw [if_pos (by omega),if_pos (by omega),if_pos (by omega),if_pos (by omega),if_pos rfl,e]
    exact eqB_go l hl d (i+1) (by omega) k (by omega)
theorem EqualS (A0:Option Addr) (c0:Nat) (A1:Option Addr) (c1:Nat) (l:List S70) (w:World) (hr0:Kd.C k70 w A0 l.length l) (hc0:l.length≤c0) (hr1:Kd.C k70 w A1 l.length l) (hc1:l.length≤c1) (hl:l.length≤1000000) :
    Calls Tryz.prog 42 #[.slice A0 l.length c0,.slice A1 l.length c1] w fun e w' => e = .returned (.bool true)∧Below w.heap.size w w' :=
  (api_Sample_42.calls (l.length+1) A0 c0 l A1 c1 l true w hr0 hc0 hr1 hc1 (by
    unfold api_Sample_42.f
    rw [if_pos rfl]
    exact eqS_go l hl l.length 0 (by omega) _ (by omega))).mono fun e w' ⟨he,hd⟩ => ⟨he,hd.below⟩
theorem EqualB (A0:Option Addr) (c0:Nat) (A1:Option Addr) (c1:Nat) (l:List Int) (w:World) (hr0:Kd.C (Kd.int .u8) w A0 l.length l) (hc0:l.length≤c0) (hr1:Kd.C (Kd.int .u8) w A1 l.length l) (hc1:l.length≤c1) (hl:l.length≤1000000) :
    Calls Tryz.prog 11 #[.slice A0 l.length c0,.slice A1 l.length c1] w fun e w' => e = .returned (.bool true)∧Below w.heap.size w w' :=
  (slices_Equal_byte_byte.calls (l.length+1) A0 c0 l A1 c1 l true w hr0 hc0 hr1 hc1 (by
    unfold slices_Equal_byte_byte.f
    rw [if_pos rfl]
    exact eqB_go l hl l.length 0 (by omega) _ (by omega))).mono fun e w' ⟨he,hd⟩ => ⟨he,hd.below⟩
theorem serEq.calls (A0 A1 B0 B1:Option Addr) (a0 a1 b0 b1:Nat) (x:S51) (w:World) (hr0:Kd.C k68 w A0 x.f0.length x.f0) (hr1:Kd.C k70 w A1 x.f1.length x.f1) (hs0:Kd.C k68 w B0 x.f0.length x.f0) (hs1:Kd.C k70 w B1 x.f1.length x.f1) (h1:x.f1.length≤a1) (h2:x.f1.length≤b1) (hl:x.f0.length≤1000000) (hm:x.f1.length≤1000000) :
    Calls Tryz.prog 40 #[.agg #[.slice A0 x.f0.length a0,.slice A1 x.f1.length a1],.agg #[.slice B0 x.f0.length b0,.slice B1 x.f1.length b1]] w fun e w' => e = .returned (.bool true)∧Below w.heap.size w w':=by
  obtain ⟨o0,ho0⟩:∃ o0:Obj,Obj.cells #[.slice A0 x.f0.length a0,.slice A1 x.f1.length a1] 51=o0:=⟨_,rfl⟩
  obtain ⟨o1,ho1⟩:∃ o1:Obj,Obj.cells #[.slice B0 x.f0.length b0,.slice B1 x.f1.length b1] 51=o1:=⟨_,rfl⟩
  have HB0:=Aside0.mk (below_alloc (below_alloc (Below.refl w.heap.size w) o0) o1)
  have EQ:=Aside0.mk (equalL.calls A0 a0 B0 b0 x.f0.length x.f0 ((w.alloc o0).alloc o1) rfl (Kd.C_below hr0 HB0.out) (Kd.C_below hs0 HB0.out) hl)
  have ES:=Aside0.mk (fun W (hb:Below w.heap.size w W) => EqualS A1 a1 B1 b1 x.f1 W (Kd.C_below hr1 hb) h1 (Kd.C_below hs1 hb) h2 hm)
  have H0:Aside0 (((w.alloc o0).alloc o1).heap[w.heap.size]? = some o0):=⟨blk_alloc (blk_new w o0) o1⟩
  have H1:Aside0 (((w.alloc o0).alloc o1).heap[w.heap.size+1]? = some o1):=⟨by have:=blk_new (w.alloc o0) o1;rwa [World.size_alloc] at this⟩
  subst ho0 ho1
  clear hr0 hr1 hs0 hs1 h1 h2
  generalize x.f0.length=n0 at *
  generalize x.f1.length=n1 at *
  go_enter Tryz.func40,Tryz.ntmps40
  go_wp2_with (first | (go_at_call 41;(with_reducible refine EQ.out.mono ?_);rintro e w1 ⟨rfl,hb⟩;have HB1:=Aside0.mk (below_step HB0.out hb);have x1:=(blk_cell (blk_below H0.out hb) 1).trans rfl;have y1:=(blk_cell (blk_below H1.out hb) 1).trans rfl;clear hb) | (go_at_call 42;(with_reducible refine (ES.out _ HB1.out).mono ?_);rintro e w2 ⟨rfl,hb⟩;have HB2:=Aside0.mk (below_step HB1.out hb);clear hb))
  go_ret
  exact ⟨rfl,HB2.out⟩
def okSer (l:List S51):Prop:=∀ x ∈ l,x.f0.length≤1000000∧x.f1.length≤1000000
theorem eqSer.calls (A B:Option Addr) (c d n:Nat) (l:List S51) (w:World) (hn:l.length=n) (hr:Kd.C k51 w A n l) (hs:Kd.C k51 w B n l) (hl:n≤1000000) (hok:okSer l) :
    Calls Tryz.prog 39 #[.slice A n c,.slice B n d,.func (.func 40) #[] #[]] w fun e w' => e = .returned (.bool true)∧Below w.heap.size w w':=by
  subst hn
  have HR:=Aside0.mk hr
  have HS:=Aside0.mk hs
  have HOK:=Aside0.mk hok
  clear hr hs hok
  have hnn:((l.length:Int) != (l.length:Int))=false:=by simp
  go_enter Tryz.func39,Tryz.ntmps39
  go_wp2
  go_loopg [17] l.length (fun kx s17 wr => ∃ (k:Nat),s17 = .int .i64 k∧k≤l.length∧l.length - k≤kx∧Aside0 (Below w.heap.size w wr))
  case atStart => exact ⟨0,rfl,Nat.zero_le _,Nat.le_refl _,⟨Below.refl _ _⟩⟩
  case round =>
    obtain ⟨k,rfl,hk,hkx,HB⟩:=hrel
    by_cases hlt:k<l.length
    · obtain ⟨ad,A0,c0,A1,c1,rfl,x0,x1,l0,g0,l1,g1⟩:=at_T51 (Kd.C_below HR.out HB.out) (k:Int) (by omega) (by omega)
      obtain ⟨ae,B0,d0,B1,d1,rfl,y0,y1,m0,h0,m1,h1⟩:=at_T51 (Kd.C_below HS.out HB.out) (k:Int) (by omega) (by omega)
      rw [Int.toNat_natCast] at x0 x1 y0 y1
      have hkz:(k:Int)<(l.length:Int):=by omega
      have hx:(rd_T51 l (k:Int)).f0.length≤1000000∧(rd_T51 l (k:Int)).f1.length≤1000000:=by
        have e:rd_T51 l (k:Int)=l[k]:=by simp [rd_T51,List.getD_eq_getElem?_getD,List.getElem?_eq_getElem hlt]
        rw [e]
        exact HOK.out _ (List.getElem_mem hlt)
      generalize rd_T51 l (k:Int)=x at *
      have EE:=Aside0.mk (fun W (hb:Below wr.heap.size wr W) => serEq.calls A0 A1 B0 B1 c0 c1 d0 d1 x W (Kd.C_below g0 hb) (Kd.C_below g1 hb) (Kd.C_below h0 hb) (Kd.C_below h1 hb) l1 m1 hx.1 hx.2)
      obtain ⟨o0,ho0⟩:∃ o0:Obj,Obj.cells #[.slice A0 x.f0.length c0,.slice A1 x.f1.length c1] 51=o0:=⟨_,rfl⟩
      obtain ⟨o1,ho1⟩:∃ o1:Obj,Obj.cells #[.slice B0 x.f0.length d0,.slice B1 x.f1.length d1] 51=o1:=⟨_,rfl⟩
      have HB0:=Aside0.mk (below_alloc (below_alloc (Below.refl wr.heap.size wr) o0) o1)
      have z0:=pw_cell_below (below_alloc (Below.refl wr.heap.size wr) o0) y0
      have z1:=pw_cell_below (below_alloc (Below.refl wr.heap.size wr) o0) y1
      subst ho0 ho1
      clear g0 g1 h0 h1 l0 l1 m0 m1 y0 y1 hx
      generalize x.f0.length=n0 at *
      generalize x.f1.length=n1 at *
      go_wp2_with (first | (go_at_call 40;(with_reducible refine (EE.out _ HB0.out).mono ?_);rintro e w2 ⟨rfl,hb⟩;have HB2:=Aside0.mk (below_step HB.out (below_step HB0.out hb));clear hb))
      go_roundg (l.length - (k+1))
      case measure => omega
      case rel => exact ⟨k+1,by go_num,by omega,Nat.le_refl _,HB2⟩
    · obtain rfl:k=l.length:=by omega
      have hkz:¬ (l.length:Int)<(l.length:Int):=by omega
      go_wp2
      go_ret
      exact ⟨rfl,HB.out⟩
theorem sameSer.calls (A B:Option Addr) (c d n:Nat) (l:List S51) (w:World) (hn:l.length=n) (hr:Kd.C k51 w A n l) (hs:Kd.C k51 w B n l) (hl:n≤1000000) (hok:okSer l) :
    Calls Tryz.prog 15 #[.slice A n c,.slice B n d] w fun e w' => e = .returned (.bool true)∧Below w.heap.size w w':=by
  have EE:=Aside0.mk (eqSer.calls A B c d n l w hn hr hs hl hok)
  clear hn hr hs hok
  go_enter Tryz.func15,Tryz.ntmps15
  go_wp2_with (first | (go_at_call 39;(with_reducible refine EE.out.mono ?_);rintro e w2 ⟨rfl,hb⟩;have HB2:=Aside0.mk hb;clear hb))
  go_ret
  exact ⟨rfl,HB2.out⟩
theorem tot_le {m:Nat}:∀ {l:List S51},(∀ x ∈ l,x.f1.length≤m)→tot l≤l.length*m
  | [],_ => Nat.zero_le _
  | x :: l,h => by
    have h1:=h x (List.mem_cons_self ..)
    have h2:=tot_le (fun y hy => h y (List.mem_cons_of_mem _ hy):∀ y ∈ l,y.f1.length≤m)
    show x.f1.length+tot l≤(l.length+1)*m
    rw [Nat.add_mul,Nat.one_mul]
    omega
theorem kS_heapJ:Kd.Heap k51:=Kd.heap_iso _ (Kd.heap_pair (Kd.heap_slice _ (Kd.heap_iso _ (Kd.heap_pair Kd.heap_string Kd.heap_string))) (Kd.heap_slice _ (Kd.heap_iso _ (Kd.heap_pair (Kd.heap_int .i64) (Kd.heap_int .u64)))))
def okP (p:S51):Prop:=canL p.f0=true∧canS p.f1=true∧(∀ s ∈ p.f1,okS s)∧1≤p.f1.length∧p.f1.length≤20
theorem partS_pos {l:List S70} {j:Nat} (h:j<(l.length+19) / 20):1≤(partS l j).length∧(partS l j).length≤20:=by
  rw [partS_len]
  unfold plen
  omega
theorem partsL_ok {l:List S51} (hz:okZ l) (hc:∀ x ∈ l,canL x.f0=true∧canS x.f1=true):∀ p ∈ partsL l,okP p:=fun p hp => by
  obtain ⟨x,hx,hp⟩:=List.mem_flatMap.1 hp
  obtain ⟨j,hj,rfl⟩:=List.mem_map.1 hp
  have h2:=partS_pos (List.mem_range.1 hj)
  exact ⟨(hc x hx).1,canS_part (hc x hx).2 j,fun s hs => (hz x hx).2.2.2 s (partS_mem hs),h2.1,h2.2⟩
theorem encPj_len {p:S51} (h:okP p):1≤(encPj p).length∧(encPj p).length≤1014:=by
  refine ⟨?_,encPart_len (encLb_len h.1) h.2.2.2.2 h.2.2.1 h.2.1⟩
  rw [encPj,encPart,List.length_append,beL_length]
  omega
theorem parts_few {l:List S51} {n:Nat} (h:∀ x ∈ l,x.f1.length≤20*n):(partsL l).length≤l.length*n:=by
  induction l with
  | nil => simp [partsL]
  | cons x l ih =>
    rw [show partsL (x :: l)=partsX x++partsL l from rfl,List.length_append,List.length_cons,Nat.succ_mul]
    have h1:=ih (fun y hy => h y (List.mem_cons_of_mem _ hy))
    have h2:=h x List.mem_cons_self
    have h3:(partsX x).length=(x.f1.length+19) / 20:=by simp [partsX]
    omega
end Go.Proofs.YtcgbgifbajdhpaaGreatDoor.PA
namespace Go.Proofs.YtcgbgifbajdhpaaGreatDoor.G
namespace CrcMath
def one (r:Nat):Nat:=(r / 2) ^^^ (if r % 2=1 then 2197175160 else 0)
def quarter:Nat→Nat
  | 0 => 0 | 1 => 1098587580 | 2 => 2197175160 | _ => 3280807620
def two (r:Nat):Nat:=(r / 4) ^^^ quarter (r % 4)
theorem xor_mod2 (a b:Nat):(a ^^^ b) % 2=(a % 2+b % 2) % 2:=by
  have:=Nat.xor_mod_two_pow (a:=a) (b:=b) (n:=1)
  simp at this
  rw [this]
  rcases Nat.mod_two_eq_zero_or_one a with h | h <;> rcases Nat.mod_two_eq_zero_or_one b with h' | h' <;> simp [h,h']
theorem xor_div2 (a b:Nat):(a ^^^ b) / 2=a / 2 ^^^ b / 2:=by
  have:=Nat.xor_div_two_pow (a:=a) (b:=b) (n:=1)
  simpa using this
theorem two_eq (r:Nat):two r=one (one r):=by
  unfold two one
  have h4:r / 2 / 2=r / 4:=by omega
  rcases Nat.mod_two_eq_zero_or_one r with h | h
  · simp only [h]
    simp only [Nat.xor_zero,reduceIte,show ¬ (0=1) from by omega]
    rcases Nat.mod_two_eq_zero_or_one (r / 2) with h' | h'
    · have:r % 4=0:=by omega
      simp [h',this,h4,quarter]
    · have:r % 4=2:=by omega
      simp [h',this,h4,quarter]
  · simp only [h,reduceIte]
    rw [xor_mod2,xor_div2,h4]
    rcases Nat.mod_two_eq_zero_or_one (r / 2) with h' | h'
    · have:r % 4=1:=by omega
      simp [h',this,quarter]
    · have:r % 4=3:=by omega
      simp [h',this,quarter,Nat.xor_assoc]
def eight (r:Nat):Nat:=one (one (one (one (one (one (one (one r)))))))
theorem four_two (r:Nat):two (two (two (two r)))=eight r:=by simp [two_eq,eight]
theorem one_lt {r:Nat} (h:r<4294967296):one r<4294967296:=by
  unfold one
  have:r / 2<2 ^ 32:=by omega
  split
  · exact Nat.xor_lt_two_pow (n:=32) this (by decide)
  · simpa using this
theorem eight_lt {r:Nat} (h:r<4294967296):eight r<4294967296:=by
  unfold eight;repeat (first | exact h | apply one_lt)
def run (r:Nat):List Nat→Nat
  | [] => r
  | x :: l => run (eight (r ^^^ x)) l
theorem run_append (r:Nat) (a b:List Nat):run r (a++b)=run (run r a) b:=by
  induction a generalizing r with
  | nil => rfl
  | cons x a ih => simp [run,ih]
theorem run_lt {r:Nat} (h:r<4294967296) {l:List Nat} (hl:∀ x ∈ l,x<256):run r l<4294967296:=by
  induction l generalizing r with
  | nil => exact h
  | cons x l ih =>
    refine ih (eight_lt (Nat.xor_lt_two_pow (n:=32) h ?_)) (fun y hy => hl y (List.mem_cons_of_mem _ hy))
    have:=hl x (List.mem_cons_self ..);omega
def ones:Nat:=4294967295
theorem ones_lt:ones<2 ^ 32:=by decide
def inv (x:Nat):Nat:=ones ^^^ x
theorem inv_def (x:Nat):inv x=ones ^^^ x:=by delta inv;rfl
theorem inv_lt {x:Nat} (h:x<4294967296):inv x<4294967296:=by
  have:=Nat.xor_lt_two_pow (n:=32) (x:=ones) (y:=x) ones_lt (by omega)
  rw [inv_def]
  omega
def nat (l:List Int):List Nat:=l.map Int.toNat
def more (s:Nat) (l:List Int):Nat:=inv (run (inv s) (nat l))
theorem nat_byte {l:List Int} (hl:∀ x ∈ l,0≤x∧x<256):∀ x ∈ nat l,x<256:=by
  intro x hx
  obtain ⟨y,hy,rfl⟩:=List.mem_map.1 hx
  have:=hl y hy
  omega
theorem more_lt {s:Nat} (h:s<4294967296) {l:List Int} (hl:∀ x ∈ l,0≤x∧x<256):more s l<4294967296:=inv_lt (run_lt (inv_lt h) (nat_byte hl))
end CrcMath
end Go.Proofs.YtcgbgifbajdhpaaGreatDoor.G
namespace Go.Proofs.YtcgbgifbajdhpaaGreatDoor.PA
open Go.RowKit Go.Proofs.YtcgbgifbajdhpaaGreatDoor.G Go.Proofs.YtcgbgifbajdhpaaGreatDoorW.PrintWords Go.Proofs.YtcgbgifbajdhpaaGreatDoorW.PrintLast Go.Proofs.YtcgbgifbajdhpaaGreatDoorW.PrintMore
def crcL (b:List Int):Nat:=CrcMath.more 0 b
def frH (k n:Nat) (p:List Int):List Int:=[208,215,(k:Int)] ++ beL n 4++beL p.length 2++p
def frB (k n:Nat) (p:List Int):List Int:=frH k n p++beL (crcL (frH k n p)) 4
structure Fr where
  kind:Nat
  num:Nat
  pay:List Int
def begB (b:List Int):Option Fr :=
  if b.length<13 then none else
  if rd b 0 ≠ 208∨rd b 1 ≠ 215∨rd b 2<1∨3<rd b 2 then none else
  if 1000<beV 0 ((b.drop 7).take 2)∨b.length<13+beV 0 ((b.drop 7).take 2) then none else
  if crcL (b.take (9+beV 0 ((b.drop 7).take 2))) ≠ beV 0 ((b.drop (9+beV 0 ((b.drop 7).take 2))).take 4) then none else
  some ⟨(rd b 2).toNat,beV 0 ((b.drop 3).take 4),(b.take (9+beV 0 ((b.drop 7).take 2))).drop 9⟩
def frLen (f:Fr):Nat:=13+f.pay.length
def frsB:Nat→List Int→List Fr
  | 0,_ => []
  | k+1,b => if b.length=0 then [] else match begB b with
    | none => frsB k (b.drop 1)
    | some f => f :: frsB k (b.drop (frLen f))
def frsL (b:List Int):List Fr:=frsB b.length b
theorem begB_len {b:List Int} {f:Fr} (h:begB b=some f):frLen f≤b.length∧f.pay.length≤1000∧f.pay.length=beV 0 ((b.drop 7).take 2)∧13≤b.length:=by
  unfold begB at h
  split at h
  · cases h
  · split at h
    · cases h
    · split at h
      · cases h
      · split at h
        · cases h
        · injection h with h
          subst h
          unfold frLen
          simp only [List.length_drop,List.length_take]
          omega
theorem frsB_more:∀ (k k':Nat) (b:List Int),b.length≤k→b.length≤k'→frsB k b=frsB k' b
  | 0,0,b,_,_ => rfl
  | 0,k'+1,b,h,_ => by rw [frsB,frsB,if_pos (by omega)]
  | k+1,0,b,_,h => by rw [frsB,frsB,if_pos (by omega)]
  | k + 1, k' + 1, b, h, h' => by
    rw [frsB,frsB]
    split
    · rfl
    · split
      · exact frsB_more k k' _ (by rw [List.length_drop];omega) (by rw [List.length_drop];omega)
      · rename_i f hf
        have:=(begB_len hf).1
        unfold frLen at this
        rw [frsB_more k k' (b.drop (frLen f)) (by rw [List.length_drop];unfold frLen;omega) (by rw [List.length_drop];unfold frLen;omega)]
theorem frsL_nil:frsL [] = []:=rfl
theorem frsL_none {b:List Int} (h:b.length ≠ 0) (hb:begB b=none):frsL b=frsL (b.drop 1):=by
  unfold frsL
  obtain ⟨k,hk⟩:∃ k,b.length=k+1:=⟨b.length - 1,by omega⟩
  rw [hk,frsB,if_neg h,hb]
  exact frsB_more _ _ _ (by rw [List.length_drop];omega) (Nat.le_refl _)
theorem frsL_some {b:List Int} {f:Fr} (hb:begB b=some f):frsL b=f :: frsL (b.drop (frLen f)):=by
  have hl:=begB_len hb
  unfold frsL
  obtain ⟨k,hk⟩:∃ k,b.length=k+1:=⟨b.length - 1,by omega⟩
  rw [hk,frsB,if_neg (by omega),hb]
  simp only
  rw [frsB_more k (b.drop (frLen f)).length _ (by rw [List.length_drop];unfold frLen;omega) (Nat.le_refl _)]
theorem frH_len (k n:Nat) (p:List Int):(frH k n p).length=9+p.length:=by
  simp only [frH,List.length_append,beL_length,List.length_cons,List.length_nil]
theorem frB_len (k n:Nat) (p:List Int):(frB k n p).length=13+p.length:=by
  rw [frB,List.length_append,beL_length,frH_len]
  omega
theorem crcL_lt {b:List Int} (h:okB b=true):crcL b<4294967296:=CrcMath.more_lt (by decide) (okB_iff.1 h)
theorem frH_ok {k n:Nat} {p:List Int} (hk:k<256) (hp:okB p=true):okB (frH k n p)=true:=by
  refine okB_app (okB_app (okB_app (okB_iff.2 fun x hx => ?_) (beL_okB _ _)) (beL_okB _ _)) hp
  simp only [List.mem_cons,List.not_mem_nil,or_false] at hx
  rcases hx with rfl | rfl | rfl <;> omega
theorem frB_ok {k n:Nat} {p:List Int} (hk:k<256) (hp:okB p=true):okB (frB k n p)=true:=okB_app (frH_ok hk hp) (beL_okB _ _)
theorem beV_small {n i:Nat} (h:n<256 ^ i):beV 0 (beL n i)=n:=by
  rw [beV_beL,Nat.zero_mul,Nat.zero_add,Nat.mod_eq_of_lt h]
theorem begB_frB {k n:Nat} {p:List Int} (r:List Int) (hk1:1≤k) (hk3:k≤3) (hn:n<4294967296) (hp:okB p=true) (hl:p.length≤1000):begB (frB k n p++r)=some ⟨k,n,p⟩:=by
  have hb4:(beL n 4).length=4:=beL_length _ _
  have hb2:(beL p.length 2).length=2:=beL_length _ _
  have hc4:(beL (crcL (frH k n p)) 4).length=4:=beL_length _ _
  have hH:=frH_len k n p
  have hB:=frB_len k n p
  have hL:(frB k n p++r).length=13+p.length+r.length:=by rw [List.length_append,hB]
  have h0:rd (frB k n p++r) 0=208:=by simp [frB,frH,rd]
  have h1:rd (frB k n p++r) 1=215:=by simp [frB,frH,rd]
  have h2:rd (frB k n p++r) 2=(k:Int):=by simp [frB,frH,rd]
  have h3:((frB k n p++r).drop 3).take 4=beL n 4:=by
    have e:frB k n p++r=[208,215,(k:Int)] ++ (beL n 4++(beL p.length 2++p++beL (crcL (frH k n p)) 4++r)):=by simp only [frB,frH,List.append_assoc]
    rw [e]
    simp only [List.cons_append,List.nil_append,List.drop_succ_cons,List.drop_zero]
    exact List.take_left' hb4
  have h7:((frB k n p++r).drop 7).take 2=beL p.length 2:=by
    have e:frB k n p++r=([208,215,(k:Int)] ++ beL n 4)++(beL p.length 2++(p++beL (crcL (frH k n p)) 4++r)):=by simp only [frB,frH,List.append_assoc]
    rw [e,List.drop_left' (by rw [List.length_append,hb4];rfl),List.take_left' hb2]
  have hs:beV 0 (((frB k n p++r).drop 7).take 2)=p.length:=by rw [h7,beV_small (by omega)]
  have ht:(frB k n p++r).take (9+p.length)=frH k n p:=by rw [frB,List.append_assoc,List.take_left' hH]
  have hd:((frB k n p++r).drop (9+p.length)).take 4=beL (crcL (frH k n p)) 4:=by rw [frB,List.append_assoc,List.drop_left' hH,List.take_left' hc4]
  have hc:beV 0 (beL (crcL (frH k n p)) 4)=crcL (frH k n p):=beV_small (by have:=crcL_lt (frH_ok (n:=n) (by omega:k<256) hp);omega)
  unfold begB
  rw [if_neg (by omega),h0,h1,h2,if_neg (by omega),hs,if_neg (by omega),ht,hd,hc,if_neg (by simp),h3,beV_small (by omega),Int.toNat_natCast]
  congr 2
theorem frsL_frB {k n:Nat} {p:List Int} (r:List Int) (hk1:1≤k) (hk3:k≤3) (hn:n<4294967296) (hp:okB p=true) (hl:p.length≤1000):frsL (frB k n p++r)=⟨k,n,p⟩ :: frsL r:=by
  rw [frsL_some (begB_frB r hk1 hk3 hn hp hl)]
  congr 2
  exact List.drop_left' (by rw [frB_len,frLen])
structure Pt where
  num:Nat
  ser:S51
noncomputable def chunkD (p:List Int):Option S51 :=
  if (decLb p).2.2 ≠ 0 then none else
  if (decF (decLb p).2.1).2 ≠ 0∨(decF (decLb p).2.1).1.length=0∨20<(decF (decLb p).2.1).1.length then none else
  some ⟨(decLb p).1,(decF (decLb p).2.1).1⟩
noncomputable def partD (f:Fr):Option Pt:=if f.kind=2 then (chunkD f.pay).map (fun s => ⟨f.num,s⟩) else none
def insPt (p:Pt):List Pt→List Pt
  | [] => [p]
  | q :: l => if p.num<q.num then p :: q :: l else q :: insPt p l
def sortPt (l:List Pt):List Pt:=l.foldl (fun a p => insPt p a) []
noncomputable def ptsL (b:List Int):List Pt:=(frsL b).filterMap partD
noncomputable def foundL (b:List Int):List S51:=(sortPt (ptsL b)).map (·.ser)
noncomputable def payP (p:S51):List Int:=encLb p.f0++encL p.f1
noncomputable def chunkFrs:Nat→List S51→List Int
  | _,[] => []
  | i,p :: l => frB 2 (i+1) (payP p)++chunkFrs (i+1) l
noncomputable def writeL (l:List S51):List Int :=
  frB 1 0 (beL (partsL l).length 4)++(chunkFrs 0 (partsL l)++frB 3 ((partsL l).length+1) (beL (tot l) 8))
noncomputable def writeF (l:List S51):List Int × Int:=if canC l=true then (writeL l,0) else ([],1)
noncomputable def readF (b:List Int):List S51 × Int :=
  if writeF (joinL (foundL b))=(b,0) then (joinL (foundL b),0) else ([],5)
theorem payP_ok {p:S51} (h:okP p):okB (payP p)=true∧(payP p).length≤1000:=by
  have hu:=encLb_len h.1
  have he:=encL_len h.2.2.2.2 h.2.2.1 h.2.1
  refine ⟨okB_app (encLb_okB h.1) (encL_ok p.f1 (by have:=h.2.2.2.2;omega) h.2.2.1 h.2.1),?_⟩
  have h1:=encK_len h.1 p.f0.length (Nat.le_refl _)
  have h2:=(canL_parts h.1).2.1
  rw [encK_all] at h1
  rw [payP,List.length_append]
  omega
theorem chunkD_pay {p:S51} (h:okP p):chunkD (payP p)=some p:=by
  have hd:=(dec_enc p.f1 h.2.2.1 (by have:=h.2.2.2.2;omega) h.2.1).2.1
  have h1:=h.2.2.2.1
  have h2:=h.2.2.2.2
  rw [chunkD,payP,decLb_enc p.f0 (encL p.f1) h.1]
  simp only [ne_eq,not_true_eq_false,if_false,hd,false_or]
  rw [if_neg (by omega)]
def partFrs:Nat→List S51→List Pt
  | _,[] => []
  | i,p :: l => ⟨i+1,p⟩ :: partFrs (i+1) l
theorem frsL_chunks:∀ (l:List S51) (i:Nat) (r:List Int),(∀ p ∈ l,okP p)→i+l.length<4294967296→(frsL (chunkFrs i l++r)).filterMap partD=partFrs i l++(frsL r).filterMap partD∧(frsL (chunkFrs i l++r)).length=l.length+(frsL r).length
  | [],i,r,_,_ => by simp [chunkFrs,partFrs]
  | p :: l,i,r,h,hi => by
    have hp:=h p List.mem_cons_self
    have ho:=payP_ok hp
    rw [List.length_cons] at hi
    rw [chunkFrs,List.append_assoc,frsL_frB _ (by decide) (by decide) (by omega) ho.1 ho.2]
    obtain ⟨h1,h2⟩:=frsL_chunks l (i+1) r (fun q hq => h q (List.mem_cons_of_mem _ hq)) (by omega)
    refine ⟨?_,by rw [List.length_cons,h2,List.length_cons];omega⟩
    rw [List.filterMap_cons]
    simp only [partD,if_true,chunkD_pay hp,Option.map_some]
    rw [h1]
    rfl
theorem partFrs_ser:∀ (l:List S51) (i:Nat),(partFrs i l).map (·.ser)=l
  | [],_ => rfl
  | p :: l,i => by rw [partFrs,List.map_cons,partFrs_ser l (i+1)]
theorem insPt_last (p:Pt):∀ l:List Pt,(∀ q ∈ l,q.num≤p.num)→insPt p l=l ++ [p]
  | [],_ => rfl
  | q :: l,h => by
    have h1:=h q List.mem_cons_self
    rw [insPt,if_neg (by omega),insPt_last p l (fun x hx => h x (List.mem_cons_of_mem _ hx))]
    rfl
theorem sort_frs:∀ (l:List S51) (i:Nat) (a:List Pt),(∀ q ∈ a,q.num≤i)→(partFrs i l).foldl (fun a p => insPt p a) a=a++partFrs i l
  | [],_,a,_ => by simp [partFrs]
  | p :: l,i,a,h => by
    rw [partFrs,List.foldl_cons,insPt_last _ _ (fun q hq => by have:=h q hq;show q.num≤i+1;omega),sort_frs l (i+1) _ (fun q hq => by
      rcases List.mem_append.1 hq with h1 | h1
      · have:=h q h1;omega
      · rw [List.mem_singleton] at h1;rw [h1];exact Nat.le_refl _)]
    simp
theorem found_write {l:List S51} (h:∀ p ∈ partsL l,okP p) (hn:(partsL l).length+1<4294967296):foundL (writeL l)=partsL l∧(frsL (writeL l)).length=(partsL l).length+2:=by
  have hb:okB (beL (partsL l).length 4)=true:=beL_okB _ _
  have h4:(beL (partsL l).length 4).length=4:=beL_length _ _
  have ht:okB (beL (tot l) 8)=true:=beL_okB _ _
  have h8:(beL (tot l) 8).length=8:=beL_length _ _
  obtain ⟨h1,h2⟩:=frsL_chunks (partsL l) 0 (frB 3 ((partsL l).length+1) (beL (tot l) 8)) h (by omega)
  have h3:frsL (frB 3 ((partsL l).length+1) (beL (tot l) 8))=[⟨3,(partsL l).length+1,beL (tot l) 8⟩]:=by
    have:=frsL_frB (k:=3) (n:=(partsL l).length+1) [] (by decide) (by decide) (by omega) ht (by omega)
    rwa [List.append_nil,frsL_nil] at this
  have hw:frsL (writeL l)=⟨1,0,beL (partsL l).length 4⟩ :: frsL (chunkFrs 0 (partsL l)++frB 3 ((partsL l).length+1) (beL (tot l) 8)):=frsL_frB _ (by decide) (by decide) (by decide) hb (by omega)
  have hp:ptsL (writeL l)=partFrs 0 (partsL l):=by
    rw [ptsL,hw,List.filterMap_cons]
    simp only [partD,show ((1:Nat)=2)=False by decide,if_false]
    rw [h1,h3]
    simp [partD]
  refine ⟨?_,by rw [hw,List.length_cons,h2,h3];simp⟩
  rw [foundL,hp,sortPt,sort_frs _ _ _ (fun q hq => by cases hq),List.nil_append,partFrs_ser]
theorem read_write {l:List S51} (hc:canC l=true) (h:∀ p ∈ partsL l,okP p) (hj:joinL (partsL l)=l) (hn:(partsL l).length+1<4294967296):readF (writeL l)=(l,0):=by
  rw [readF,(found_write h hn).1,hj,writeF,if_pos hc,if_pos rfl]
theorem chunkFrs_ok:∀ (l:List S51) (i:Nat),(∀ p ∈ l,okP p)→okB (chunkFrs i l)=true∧(chunkFrs i l).length≤1013*l.length
  | [],_,_ => ⟨rfl,by simp [chunkFrs]⟩
  | p :: l,i,h => by
    have ho:=payP_ok (h p List.mem_cons_self)
    obtain ⟨h1,h2⟩:=chunkFrs_ok l (i+1) (fun q hq => h q (List.mem_cons_of_mem _ hq))
    refine ⟨okB_app (frB_ok (by decide) ho.1) h1,?_⟩
    rw [chunkFrs,List.length_append,frB_len,List.length_cons]
    omega
theorem writeL_ok {l:List S51} (h:∀ p ∈ partsL l,okP p):okB (writeL l)=true∧(writeL l).length≤1013*(partsL l).length+38:=by
  obtain ⟨h1,h2⟩:=chunkFrs_ok (partsL l) 0 h
  refine ⟨okB_app (frB_ok (by decide) (beL_okB _ _)) (okB_app h1 (frB_ok (by decide) (beL_okB _ _))),?_⟩
  rw [writeL,List.length_append,List.length_append,frB_len,frB_len,beL_length,beL_length]
  omega
theorem infoN5:∃ i,Tryz.prog.info? 5=some i∧i.size=1:=by
  obtain ⟨i,hi,hz⟩:=Option.map_eq_some_iff.1 infoU8
  simp only [Prod.mk.injEq] at hz
  exact ⟨i,hi,hz.2.1⟩
theorem cutB (A:Option Addr) (c:Nat) (xs:List Int) (m:Nat) (hm:m≤xs.length) (hc:xs.length≤c) :
    ∃ (A':Option Addr) (c':Nat) (r:List Int),Aside0 (r=xs.drop m)∧Aside0 (∀ w:World,Kd.C (Kd.int .u8) w A xs.length xs→Kd.C (Kd.int .u8) w A' r.length r)∧r.length≤c' ∧
      ∀ i:Int,i=(m:Int)→∀ W:World,(Instr.slice 24 (.slice A xs.length c) (some (.int .i64 i)) none none).run Tryz.prog W = .ok (.slice A' r.length c') W:=by
  obtain ⟨i0,hi,hsz⟩:=infoN5
  refine ⟨if c=m then A else A.map (·.add (m*(Kd.int .u8).sz)),c - m,xs.drop m,⟨rfl⟩,⟨fun w h => Kd.C_drop h hm hc⟩,by rw [List.length_drop];omega,fun i hi' W => ?_⟩
  subst hi'
  have hu:=Tryz.underlying24
  have hel:Tryz.prog.elem 24=5:=by simp [Program.elem,hu]
  have hu':Tryz.prog.underlying 24=some (.slice (Tryz.prog.elem 24)):=by rw [hel];exact hu
  rw [run_slice_l W 24 A xs.length c hu' .i64 (m:Int) (Int.natCast_nonneg _) (by omega),hel]
  have h1:(Kd.int .u8).sz=1:=rfl
  simp [sizeOf,typeInfo,hi,hsz,sliced,Result.andThen,h1]
theorem midB (A:Option Addr) (c:Nat) (xs:List Int) (lo hi:Nat) (h1:lo≤hi) (h2:hi≤xs.length) (hc:xs.length≤c) :
    ∃ (A':Option Addr) (c':Nat) (r:List Int),Aside0 (r=(xs.take hi).drop lo)∧Aside0 (∀ w:World,Kd.C (Kd.int .u8) w A xs.length xs→Kd.C (Kd.int .u8) w A' r.length r)∧r.length≤c' ∧
      ∀ i j:Int,i=(lo:Int)→j=(hi:Int)→∀ W:World,(Instr.slice 24 (.slice A xs.length c) (some (.int .i64 i)) (some (.int .i64 j)) none).run Tryz.prog W = .ok (.slice A' r.length c') W:=by
  obtain ⟨i0,hi0,hsz⟩:=infoN5
  refine ⟨if c=lo then A else A.map (·.add (lo*(Kd.int .u8).sz)),c - lo,(xs.take hi).drop lo,⟨rfl⟩,⟨fun w h => Kd.C_mid h h1 h2 hc⟩,by rw [List.length_drop,List.length_take];omega,fun i j hi' hj' W => ?_⟩
  subst hi' hj'
  have h:=cut_mid (P:=Tryz.prog) 24 5 .i64 .i64 Tryz.underlying24 hi0 1 hsz A xs.length c (lo:Int) (hi:Int) (by omega) (by omega) (by omega) hc W
  rw [h]
  have h1:(Kd.int .u8).sz=1:=rfl
  rw [h1,List.length_drop,List.length_take]
  simp only [Int.toNat_natCast]
  rw [Nat.min_eq_left h2]
theorem run_makeL (kl:IntKind) (n:Nat) (hn:n≤1000000):∀ W:World,(Instr.makeSlice 46 (.int kl (n:Int)) (.int kl (n:Int))).run Tryz.prog W = .ok (.slice (some ⟨W.heap.size,0,none⟩) n n) (W.alloc (.cells (madeCells (Value.agg #[.string ⟨#[]⟩,.string ⟨#[]⟩]).cells (n*2)) 68)):=by
  intro W
  obtain ⟨i0,hi,hz⟩:=Option.map_eq_some_iff.1 info68
  simp only [Prod.mk.injEq] at hz
  obtain ⟨hz0,hz1,hz2⟩:=hz
  have hr:=run_make (P:=Tryz.prog) W 46 68 i0 _ Tryz.underlying46 hi hz0 kl kl (n:Int) (n:Int) (by omega) (by omega)
    (by
      have h3:((i0.bytes*n:Nat):Int)≤281474976710656:=by rw [hz2];omega
      rwa [Int.natCast_mul] at h3) (by omega)
  simp only [Int.toNat_natCast] at hr
  rw [hz1] at hr
  exact hr
theorem R_madeL (W:World) (base n:Nat) (hb:base≤W.heap.size) (hn:n≤1000000):Kd.R k68 68 (W.alloc (.cells (madeCells (Value.agg #[.string ⟨#[]⟩,.string ⟨#[]⟩]).cells (n*2)) 68)) base (fun _ => True) (.slice (some ⟨W.heap.size,0,none⟩) n n) (List.replicate n z68):=by
  have hm:∀ (ok:Nat→Prop),Reps (k68.M (W.alloc (.cells (madeCells (Value.agg #[.string ⟨#[]⟩,.string ⟨#[]⟩]).cells (n*2)) 68)) base ok) 2 (List.replicate n z68) (madeCells (Value.agg #[.string ⟨#[]⟩,.string ⟨#[]⟩]).cells (n*2)).toList:=fun ok =>
    Kd.reps_made (size:=2) rfl (by decide) (k68_mkM _ _ _ z68) n
  have h2:=World.ownsRow_lit (base:=base) (e:=68) (size:=2) W (madeCells (Value.agg #[.string ⟨#[]⟩,.string ⟨#[]⟩]).cells (n*2)) n hb (by simp only [maxLen];omega) (by simp [size_madeCells])
  exact ⟨fun _ _ => trivial,_,by rw [List.length_replicate];exact h2,hm _⟩
def DecPost (w:World) (b:List Int) (e:Ending) (w':World):Prop:=∃ v1 v2:Value,e = .returned (.tuple #[v1,v2,.int .i64 (decLb b).2.2])∧Kd.R k68 68 w' w.heap.size (fun _ => True) v1 (decLb b).1∧Kd.R (Kd.int .u8) 5 w' w.heap.size (fun _ => True) v2 (decLb b).2.1∧Below w.heap.size w w'
theorem DecPost.bad {w w':World} {b:List Int} {q:Int} (h:decLb b=([],[],q)) (hb:Below w.heap.size w w'):DecPost w b (.returned (.tuple #[.slice none 0 0,.slice none 0 0,.int .i64 q])) w':=by
  refine ⟨_,_,by rw [h],?_,?_,hb⟩
  · rw [h];exact Kd.R_nil _ _ _ _ _
  · rw [h];exact Kd.R_nil _ _ _ _ _
theorem DecPost.nil {w w':World} {b:List Int} (h:b.length=0) (hb:Below w.heap.size w w'):DecPost w b (.returned (.tuple #[.slice none 0 0,.slice none 0 0,.int .i64 3])) w' :=
  DecPost.bad (by rw [List.eq_nil_of_length_eq_zero h];rfl) hb
theorem byte_nat {b:List Int} (h:∀ x ∈ b,0≤x∧x<256) (h0:0<b.length):∃ n:Nat,rd b 0=(n:Int)∧n<256:=by
  have:=h _ (rd_mem b 0 h0)
  rw [show ((0:Nat):Int)=0 from rfl] at this
  exact ⟨(rd b 0).toNat,by omega,by omega⟩
theorem cell0 {w:World} {A:Option Addr} {xs:List Int} (h:Kd.C (Kd.int .u8) w A xs.length xs) (h0:0<xs.length):∃ ad,A=some ad∧w.cell? ad=some (.int .u8 (rd xs 0)):=by
  obtain ⟨ad,cb,rfl,_,hKb,hcb⟩:=Kd.C_get h (0:Int) 0 (by omega) (by omega)
  refine ⟨ad,rfl,?_⟩
  have:=hcb 0 (.int .u8 (rd xs 0)) (by rw [show cb=[Value.int .u8 (rd xs 0)] from hKb];rfl)
  simpa [Addr.add] using this
theorem set_mid (l:List S68) (d:Nat) (x y:S68) (k:Nat) (hk:l.length=k):(l++x :: List.replicate d z68).set ((k:Int)).toNat y=l++y :: List.replicate d z68:=by
  rw [Int.toNat_natCast,← hk,List.set_append_right _ _ (Nat.le_refl _),Nat.sub_self]
  rfl
theorem rd_mid (l:List S68) (d:Nat) (x:S68) (k:Nat) (hk:l.length=k):rd_T68 (l++x :: List.replicate d z68) (k:Int)=x:=by
  subst hk
  simp [rd_T68,List.getD_eq_getElem?_getD]
theorem row_frozen {α:Type} {d:Kd α} {e base n cap g:Nat} {ok:Nat→Prop} {w:World} {xs:List α} (h:Kd.R d e w base ok (.slice (some ⟨g,0,none⟩) n cap) xs) (i:Nat):w.frozen? ⟨g,i,none⟩=false:=by
  obtain ⟨cells,hc⟩:=Kd.R_typed h g (by simp [Value.ownBlock])
  exact blk_frozen hc i
theorem seg_out {W wS:World} {base g k:Nat} {ok:Nat→Prop} {u v:Value} {xs:List S68} (j:Nat) (hs:(W.setCell ⟨g,k*2+j,none⟩ u).drew=wS) (h:Kd.R k68 68 (W.drew.setCells g ((k:Int).toNat*k68.sz+j) [u]) base ok v xs):Kd.R k68 68 wS base ok v xs:=by
  subst hs
  rw [Int.toNat_natCast] at h
  exact h
theorem R_past {α:Type} {d:Kd α} {e base:Nat} {w1 w2:World} {v:Value} {xs:List α} {o:Obj} (h:Kd.R d e w1 base (fun _ => True) v xs) (hg:(w1.alloc o).grownBy w2 (some w1.heap.size)):Kd.R d e w2 base (fun _ => True) v xs :=
  Kd.R_mono (Kd.R_grown (Kd.R_below (Kd.R_bound h) (below_alloc (Below.refl _ _) o)) hg (fun k hk he => by injection he with he;have:=hk.2.2.1;omega)) (fun _ _ => trivial)
theorem decLb.calls (A:Option Addr) (c n:Nat) (b:List Int) (w:World) (hn:b.length=n) (hr:Kd.C (Kd.int .u8) w A n b) (hc:n≤c) (hok:okB b=true) (hlen:n≤1000000) :
    Calls Tryz.prog 132 #[.slice A n c] w (DecPost w b):=by
  subst hn
  by_cases h0:b.length=0
  · have HE:=Aside0.mk (fun W => DecPost.nil (w:=w) (w':=W) (b:=b) h0)
    have h1:((b.length:Int) == 0)=true:=beq_iff_eq.2 (by omega)
    clear h0 hr hc hok hlen
    go_enter Tryz.func132,Tryz.ntmps132
    go_wp2
    refine bodyPost_ret (results_tmp3 rfl _ _ _) rfl ?_
    exact HE.out _ (Below.refl _ _)
  · have hp : 0 < b.length := by omega
    have h1:((b.length:Int) == 0)=false:=beq_eq_false_iff_ne.2 (by omega)
    obtain ⟨n,hn,hn256⟩:=byte_nat (okB_iff.1 hok) hp
    obtain ⟨A1,c1,r0,HR0,HC0,hc1,hcut⟩:=cutB A c b 1 hp hc
    have hcut1:=hcut 1 rfl
    have HRB:=Aside0.mk (HC0.out w hr)
    have HBY:Aside0 (∀ x ∈ r0,0≤x∧x<256):=⟨fun x hx => okB_iff.1 hok x (by rw [HR0.out] at hx;exact List.mem_of_mem_drop hx)⟩
    have HRL:Aside0 (r0.length≤1000000):=⟨by rw [HR0.out,List.length_drop];omega⟩
    have hml:=fun W => run_makeL .u8 n (by omega) W
    have HSH:Aside0 (decLN r0 n=none→decLb b=([],[],3)):=⟨fun h => decLb_short hp hn (by rw [← HR0.out];exact h)⟩
    have HFO:Aside0 (∀ l r',decLN r0 n=some (l,r')→canL l=false→decLb b=([],[],5)):=⟨fun l r' h hc => decLb_form hp hn (by rw [← HR0.out];exact h) hc⟩
    have HGO:Aside0 (∀ l r',decLN r0 n=some (l,r')→canL l=true→decLb b=(l,r',0)):=⟨fun l r' h hc => decLb_ok hp hn (by rw [← HR0.out];exact h) hc⟩
    have hl1:(0:Int)<(b.length:Int):=by omega
    obtain ⟨ad,rfl,hcell⟩:=cell0 hr hp
    rw [hn] at hcell
    have HCL:=Aside0.mk hc1
    clear hcut h0 hok hn hlen HC0 HR0 hr hc hc1
    go_enter Tryz.func132,Tryz.ntmps132
    go_wp2
    have HM:=Aside0.mk (R_madeL w w.heap.size n (Nat.le_refl _) (by omega))
    have HB0:=Aside0.mk (below_alloc (Below.refl w.heap.size w) (.cells (madeCells (Value.agg #[.string ⟨#[]⟩,.string ⟨#[]⟩]).cells (n*2)) 68))
    go_loopw [0,21] (fun s i wr => ∃ (k:Nat) (A':Option Addr) (c':Nat) (r:List Int) (l:List S68),k≤n∧i = .int .i64 k∧s = .slice A' r.length c'∧Aside0 (decLN r0 k=some (l,r))∧Aside0 (r.length≤c')∧Aside0 (Kd.C (Kd.int .u8) w A' r.length r)∧Aside0 (Kd.R k68 68 wr w.heap.size (fun _ => True) (.slice (some ⟨w.heap.size,0,none⟩) n n) (l++List.replicate (n - k) z68))∧Aside0 (Below w.heap.size w wr)) (fun _ i _ => n - (intOf i).toNat)
    case atStart => exact ⟨0,A1,c1,r0,[],Nat.zero_le _,rfl,rfl,⟨rfl⟩,HCL,HRB,HM,HB0⟩
    case round =>
      clear HM HB0
      obtain ⟨k,A',c',r,l,hk,rfl,rfl,HD,HCC,HCR,HV,HB⟩:=hrel
      have hlk:=(decLN_len HD.out).1
      have HRL2:Aside0 (r.length≤1000000):=⟨by have:=(decLN_len HD.out).2;have:=HRL.out;omega⟩
      by_cases hlt:k<n
      · have HLK:=Aside0.mk hlk
        have HKN:=Aside0.mk hlt
        have hki:(k:Int)<(n:Int):=by omega
        have hk0:(0:Int)≤(k:Int):=by omega
        obtain ⟨d,hd⟩:∃ d,n - k=d+1:=⟨n - k - 1,by omega⟩
        have HDD:Aside0 (n - (k+1)=d):=⟨by omega⟩
        rw [hd,List.replicate_succ] at HV
        have HBX:=Aside0.mk (fun x hx => HBY.out x (decLN_mem HD.out x hx))
        have HST:=Aside0.mk (fun (h:decLN r0 (k+1)=none) => HSH.out (decLN_none hlt h))
        clear hlk hd hlt
        go_wp2_with fail
        go_quiet (fail)
        generalize hwq:wr.drewN nq=wq
        have HVq:Aside0 (Kd.R k68 68 wq w.heap.size (fun _ => True) (.slice (some ⟨w.heap.size,0,none⟩) n n) (l++z68 :: List.replicate d z68)):=⟨hwq ▸ HV.out⟩
        have HBq:Aside0 (Below w.heap.size w wq):=⟨hwq ▸ pw_below_drewN HB.out _⟩
        clear hwq HV HB
        go_wp2_with fail
        have hi0:=fun W => idx_two (P:=Tryz.prog) 198 197 Tryz.underlying198 (fun W => by kernel_rfl) (fun W => by kernel_rfl) (.pointer (some ⟨w.heap.size,k*2,none⟩)) (.pointer (some ⟨w.heap.size,k*2+1,none⟩)) 0 _ (.inl ⟨rfl,rfl⟩) W
        have hi1:=fun W => idx_two (P:=Tryz.prog) 198 197 Tryz.underlying198 (fun W => by kernel_rfl) (fun W => by kernel_rfl) (.pointer (some ⟨w.heap.size,k*2,none⟩)) (.pointer (some ⟨w.heap.size,k*2+1,none⟩)) 1 _ (.inr ⟨rfl,rfl⟩) W
        refine wp_loop_rounds 3 ?_
        rw [rounds_succ]
        by_cases ha1:r.length=0
        · have HE:Aside0 (decLb b=([],[],3)):=⟨HST.out (decLN_bad1 HD.out (pieceD_nil ha1))⟩
          have e1:((r.length:Int) == 0)=true:=beq_iff_eq.2 (by omega)
          clear ha1
          go_wp2
          refine bodyPost_ret (results_tmp3 rfl _ _ _) rfl ?_
          exact DecPost.bad HE.out HBq.out
        · have e1:((r.length:Int) == 0)=false:=beq_eq_false_iff_ne.2 (by omega)
          have hp1:0<r.length:=by omega
          obtain ⟨m1,hm1,hm2561⟩:=byte_nat HBX.out hp1
          obtain ⟨ad1,hA1,hcl1⟩:=cell0 (Kd.C_below HCR.out HBq.out) hp1
          rw [hm1] at hcl1
          have hl1:(0:Int)<(r.length:Int):=by omega
          have hrl1:=HRL2.out
          by_cases hs1:(r.length:Int) - 1<(m1:Int)
          · have HE:Aside0 (decLb b=([],[],3)):=⟨HST.out (decLN_bad1 HD.out (pieceD_short hp1 (by rw [hm1];omega) (by rw [hm1];exact hs1)))⟩
            subst hA1
            clear ha1 hp1 hm1
            go_wp2
            refine bodyPost_ret (results_tmp3 rfl _ _ _) rfl ?_
            exact DecPost.bad HE.out HBq.out
          · have hps:=pieceD_ok hp1 hm1 (by omega)
            obtain ⟨AM1,cM1,rM1,HRM1,HCM1,hcM1,hmid1⟩:=midB A' c' r 1 (1+m1) (by omega) (by omega) HCC.out
            obtain ⟨AX1,cX1,rX1,HRX1,HCX1,hcX1,hcut1⟩:=cutB A' c' r (1+m1) (by omega) HCC.out
            rw [← HRM1.out,← HRX1.out] at hps
            have HPS1:=Aside0.mk hps
            have hmid1_:=fun W => hmid1 1 (1+(m1:Int)) rfl (by omega) W
            have hcut1_:=fun W => hcut1 (1+(m1:Int)) (by omega) W
            have HMC1:=Aside0.mk (fun W (hb:Below w.heap.size w W) => Kd.C_string (P:=Tryz.prog) (A:=AM1) (c:=cM1) Tryz.underlying24 Tryz.underlying5 Tryz.underlying9 (HCM1.out W (Kd.C_below HCR.out hb)))
            have HCRX1:=Aside0.mk (HCX1.out w HCR.out)
            have HCCX1:=Aside0.mk hcX1
            have HBXX1:Aside0 (∀ x ∈ rX1,0≤x∧x<256):=⟨fun x hx => HBX.out x (by rw [HRX1.out] at hx;exact List.mem_of_mem_drop hx)⟩
            have HRLX1:Aside0 (rX1.length≤1000000):=⟨by rw [HRX1.out,List.length_drop];omega⟩
            have hw1:IntKind.i64.wrap (1+(m1:Int))=1+(m1:Int):=by rw [IntKind.wrap_i64];omega
            have hs1_:decide ((r.length:Int) - 1<(m1:Int))=false:=decide_eq_false hs1
            clear hps hmid1 hcut1 HCM1 HRM1 HRX1 HCX1 hcX1 hcM1 ha1 hp1 hm1 hs1
            subst hA1
            go_wp2_with fail
            have hat1:=at_T68 (Kd.R_reads' HVq.out).2.2 (k:Int) (by omega) (by rw [List.length_append,List.length_cons,HLK.out];omega)
            rw [rd_mid _ _ _ _ HLK.out] at hat1
            obtain ⟨adv1,hadv1,q01,q11⟩:=hat1
            obtain rfl:=Option.some.inj hadv1
            rw [Int.toNat_natCast,add_plain] at q01 q11
            have hfz1:=row_frozen HVq.out 0
            have hfy1:=row_frozen HVq.out (k*2)
            have HQ01:=Aside0.mk q01
            have HQ11:=Aside0.mk q11
            have HSG1:=Aside0.mk (Kd.R_seg (i:=(k:Int)) (j:=0) (x':=(⟨strOfNums rM1,⟨#[]⟩⟩:S68)) (seg:=[.string (strOfNums rM1)]) (c:=[.string ⟨#[]⟩,.string ⟨#[]⟩]) (okp:=fun _ => False) (W:=wq.drew) (show Kd.R _ _ wq.drew _ _ _ _ from HVq.out) hk0 hki rfl (by intro j u hj;rw [Int.toNat_natCast];match j,hj with | 0,hj => exact (Option.some.inj hj) ▸ HQ01.out | 1,hj => exact (Option.some.inj hj) ▸ HQ11.out | z+2,hj => simp at hj) (by show 0+1≤2;decide) (k68_mkM _ _ _ (⟨strOfNums rM1,⟨#[]⟩⟩:S68)) (fun _ hk => hk.elim))
            have hcv1:=HMC1.out wq.drew (below_drew1 HBq.out)
            clear hadv1 hfz1
            go_wp2_with fail
            go_region
            go_wp2_with fail
            generalize hwS1:(World.setCell wq ⟨w.heap.size,k*2,none⟩ (.string (strOfNums rM1))).drew=wS1
            have HVs1:=Aside0.mk (seg_out 0 hwS1 HSG1.out.1)
            have HBs1:Aside0 (Below w.heap.size w wS1):=⟨hwS1 ▸ below_drew1 (HBq.out.setCell (p:=⟨w.heap.size,k*2,none⟩) (Nat.le_refl _) _)⟩
            rw [set_mid _ _ _ _ _ HLK.out] at HVs1
            clear hwS1 hcv1 q01 q11 hfy1 HSG1 hmid1_ hcut1_ hcl1
            rw [rounds_succ]
            by_cases ha2:rX1.length=0
            · have HE:Aside0 (decLb b=([],[],3)):=⟨HST.out (decLN_bad2 HD.out HPS1.out (pieceD_nil ha2))⟩
              have e1:((rX1.length:Int) == 0)=true:=beq_iff_eq.2 (by omega)
              clear ha2
              go_wp2
              refine bodyPost_ret (results_tmp3 rfl _ _ _) rfl ?_
              exact DecPost.bad HE.out HBs1.out
            · have e1:((rX1.length:Int) == 0)=false:=beq_eq_false_iff_ne.2 (by omega)
              have hp2:0<rX1.length:=by omega
              obtain ⟨m2,hm2,hm2562⟩:=byte_nat HBXX1.out hp2
              obtain ⟨ad2,hA2,hcl2⟩:=cell0 (Kd.C_below HCRX1.out HBs1.out) hp2
              rw [hm2] at hcl2
              have hl2:(0:Int)<(rX1.length:Int):=by omega
              have hrl2:=HRLX1.out
              by_cases hs2:(rX1.length:Int) - 1<(m2:Int)
              · have HE:Aside0 (decLb b=([],[],3)):=⟨HST.out (decLN_bad2 HD.out HPS1.out (pieceD_short hp2 (by rw [hm2];omega) (by rw [hm2];exact hs2)))⟩
                subst hA2
                clear ha2 hp2 hm2
                go_wp2
                refine bodyPost_ret (results_tmp3 rfl _ _ _) rfl ?_
                exact DecPost.bad HE.out HBs1.out
              · have hps:=pieceD_ok hp2 hm2 (by omega)
                obtain ⟨AM2,cM2,rM2,HRM2,HCM2,hcM2,hmid2⟩:=midB AX1 cX1 rX1 1 (1+m2) (by omega) (by omega) HCCX1.out
                obtain ⟨AX2,cX2,rX2,HRX2,HCX2,hcX2,hcut2⟩:=cutB AX1 cX1 rX1 (1+m2) (by omega) HCCX1.out
                rw [← HRM2.out,← HRX2.out] at hps
                have HPS2:=Aside0.mk hps
                have hmid2_:=fun W => hmid2 1 (1+(m2:Int)) rfl (by omega) W
                have hcut2_:=fun W => hcut2 (1+(m2:Int)) (by omega) W
                have HMC2:=Aside0.mk (fun W (hb:Below w.heap.size w W) => Kd.C_string (P:=Tryz.prog) (A:=AM2) (c:=cM2) Tryz.underlying24 Tryz.underlying5 Tryz.underlying9 (HCM2.out W (Kd.C_below HCRX1.out hb)))
                have HCRX2:=Aside0.mk (HCX2.out w HCRX1.out)
                have HCCX2:=Aside0.mk hcX2
                have HBXX2:Aside0 (∀ x ∈ rX2,0≤x∧x<256):=⟨fun x hx => HBXX1.out x (by rw [HRX2.out] at hx;exact List.mem_of_mem_drop hx)⟩
                have HRLX2:Aside0 (rX2.length≤1000000):=⟨by rw [HRX2.out,List.length_drop];omega⟩
                have hw2:IntKind.i64.wrap (1+(m2:Int))=1+(m2:Int):=by rw [IntKind.wrap_i64];omega
                have hs2_:decide ((rX1.length:Int) - 1<(m2:Int))=false:=decide_eq_false hs2
                clear hps hmid2 hcut2 HCM2 HRM2 HRX2 HCX2 hcX2 hcM2 ha2 hp2 hm2 hs2
                subst hA2
                go_wp2_with fail
                have hat2:=at_T68 (Kd.R_reads' HVs1.out).2.2 (k:Int) (by omega) (by rw [List.length_append,List.length_cons,HLK.out];omega)
                rw [rd_mid _ _ _ _ HLK.out] at hat2
                obtain ⟨adv2,hadv2,q02,q12⟩:=hat2
                obtain rfl:=Option.some.inj hadv2
                rw [Int.toNat_natCast,add_plain] at q02 q12
                have hfz2:=row_frozen HVs1.out 0
                have hfy2:=row_frozen HVs1.out (k*2+1)
                have HQ02:=Aside0.mk q02
                have HQ12:=Aside0.mk q12
                have HSG2:=Aside0.mk (Kd.R_seg (i:=(k:Int)) (j:=1) (x':=(⟨strOfNums rM1,strOfNums rM2⟩:S68)) (seg:=[.string (strOfNums rM2)]) (c:=[.string (strOfNums rM1),.string ⟨#[]⟩]) (okp:=fun _ => False) (W:=wS1.drew) (show Kd.R _ _ wS1.drew _ _ _ _ from HVs1.out) hk0 hki rfl (by intro j u hj;rw [Int.toNat_natCast];match j,hj with | 0,hj => exact (Option.some.inj hj) ▸ HQ02.out | 1,hj => exact (Option.some.inj hj) ▸ HQ12.out | z+2,hj => simp at hj) (by show 1+1≤2;decide) (k68_mkM _ _ _ (⟨strOfNums rM1,strOfNums rM2⟩:S68)) (fun _ hk => hk.elim))
                have hcv2:=HMC2.out wS1.drew (below_drew1 HBs1.out)
                clear hadv2 hfz2
                go_wp2_with fail
                go_region
                go_wp2_with fail
                generalize hwS2:(World.setCell wS1 ⟨w.heap.size,k*2+1,none⟩ (.string (strOfNums rM2))).drew=wS2
                have HVs2:=Aside0.mk (seg_out 1 hwS2 HSG2.out.1)
                have HBs2:Aside0 (Below w.heap.size w wS2):=⟨hwS2 ▸ below_drew1 (HBs1.out.setCell (p:=⟨w.heap.size,k*2+1,none⟩) (Nat.le_refl _) _)⟩
                rw [set_mid _ _ _ _ _ HLK.out] at HVs2
                clear hwS2 hcv2 q02 q12 hfy2 HSG2 hmid2_ hcut2_ hcl2
                rw [rounds_succ]
                go_wp2
                go_roundw
                case rel => exact ⟨k+1,AX2,cX2,rX2,l ++ [(⟨strOfNums rM1,strOfNums rM2⟩:S68)],by omega,by go_num,rfl,⟨decLN_step HD.out HPS1.out HPS2.out⟩,HCCX2,HCRX2,⟨by rw [HDD.out,List.append_assoc];exact HVs2.out⟩,HBs2⟩
                case measure => simp [intOf];omega
      · obtain rfl:k=n:=by omega
        rw [Nat.sub_self,List.replicate_zero,List.append_nil] at HV
        cases hcan:canL l with
        | false =>
          have HE:=Aside0.mk (HFO.out l r HD.out hcan)
          have HC:Aside0 (∀ c,l.length≤c→Calls Tryz.prog 87 #[.slice (some ⟨w.heap.size,0,none⟩) k c] wr fun e w' => e = .returned (.bool false)∧Below wr.heap.size wr w'):=⟨fun c hc => hcan ▸ canL.calls _ c k l wr hlk (hlk ▸ (Kd.R_reads' HV.out).2.2) (hlk ▸ hc)⟩
          clear hcan
          go_wp2_with (first | (go_at_call 87;(with_reducible refine (HC.out _ (Nat.le_of_eq hlk)).mono ?_);rintro e w1 ⟨rfl,hb⟩;have HB1:=Aside0.mk (below_step HB.out hb);clear hb))
          refine bodyPost_ret (results_tmp3 rfl _ _ _) rfl ?_
          exact DecPost.bad HE.out HB1.out
        | true =>
          have HE:=Aside0.mk (HGO.out l r HD.out hcan)
          have HC:Aside0 (∀ c,l.length≤c→Calls Tryz.prog 87 #[.slice (some ⟨w.heap.size,0,none⟩) k c] wr fun e w' => e = .returned (.bool true)∧Below wr.heap.size wr w'):=⟨fun c hc => hcan ▸ canL.calls _ c k l wr hlk (hlk ▸ (Kd.R_reads' HV.out).2.2) (hlk ▸ hc)⟩
          clear hcan
          go_wp2_with (first | (go_at_call 87;(with_reducible refine (HC.out _ (Nat.le_of_eq hlk)).mono ?_);rintro e w1 ⟨rfl,hb⟩;have HB1:=Aside0.mk (below_step HB.out hb);have HV1:=Aside0.mk (Kd.R_below HV.out hb);have HE1:=Aside0.mk (R_empty (Kd.int .u8) 5 w.heap.size w1 (fun _ => True) (below_step HB.out hb).size trivial);clear hb) | ((with_reducible refine gate_dst (N:=71) rfl ?_);go_must (refine Kd.R_append_row (Value.int .u8) 0 (h1:=fun _ => rfl) (w0:=w) w.heap.size rfl (.tmp 69) (.tmp 70) 24 5 (.int .u8 0) 1 rfl Tryz.underlying24 infoU8 rfl (by decide) _ [] r A' r.length c' (fun _ => True) rfl rfl (fun _ _ => trivial) HE1.out (Kd.C_below HCR.out (below_alloc HB1.out _)) (below_alloc HB1.out _) ?hb ?hl ?_;(case hb => exact (below_alloc HB1.out _).size);(case hl => (have:=HRL2.out;simp;omega));intro v1 w2 hR1 hB1 hg_ ho_;rw [List.nil_append] at hR1;have HR2:=Aside0.mk hR1;have HB2:=Aside0.mk hB1;have HV2:=Aside0.mk (R_past HV1.out hg_);clear hR1 hB1 hg_ ho_)))
          refine bodyPost_ret (results_tmp3 rfl _ _ _) rfl ?_
          refine ⟨_,_,by rw [HE.out];rfl,?_,?_,HB2.out⟩
          · rw [HE.out]
            exact HV2.out
          · rw [HE.out]
            exact HR2.out
theorem ser_res (tmps:Array Value) (W:World) (r:Nat) (x0 x1:Value) (h:W.heap[r]? = some (.cells #[x0,x1] 51 (0,0))) (h2:tmps.getD 2 undef = .pointer (some ⟨r,0,none⟩)) :
    (results Tryz.f112 tmps).run Tryz.prog W = .ok (.tuple #[.agg #[x0,x1],tmps.getD 3 undef]) W:=by
  have c0:=(blk_cell h 0).trans rfl
  have c1:=(blk_cell h 1).trans rfl
  simp at h2
  simp [results,Tryz.f112,go_sem,h2,c0,c1]
def SerPost (w:World) (f:Fr) (e:Ending) (w':World):Prop:=∃ (A1 A2:Option Addr) (n1 c1 n2 c2:Nat) (ok:Bool),e = .returned (.tuple #[.agg #[.slice A1 n1 c1,.slice A2 n2 c2],.bool ok])∧Below w.heap.size w w'∧(ok=false∧partD f=none∨ok=true∧∃ s:S51,partD f=some ⟨f.num,s⟩∧s.f1.length≤20∧s.f0.length≤8∧Kd.R k68 68 w' w.heap.size (fun _ => True) (.slice A1 n1 c1) s.f0∧Kd.R k70 70 w' w.heap.size (fun _ => True) (.slice A2 n2 c2) s.f1)
theorem SerPost.none_ {w W:World} {f:Fr} {A1 A2:Option Addr} {n1 c1 n2 c2:Nat} (h:partD f=none) (hb:Below w.heap.size w W):SerPost w f (.returned (.tuple #[.agg #[.slice A1 n1 c1,.slice A2 n2 c2],.bool false])) W :=
  ⟨A1,A2,n1,c1,n2,c2,false,rfl,hb,.inl ⟨rfl,h⟩⟩
theorem below_set2 {w W:World} {x0 x1:Value} (hb:Below w.heap.size w W):Below w.heap.size w ((W.setCell ⟨w.heap.size+1,0,none⟩ x0).setCell ⟨w.heap.size+1,1,none⟩ x1) :=
  (hb.setCell (p:=⟨w.heap.size+1,0,none⟩) (Nat.le_succ _) _).setCell (p:=⟨w.heap.size+1,1,none⟩) (Nat.le_succ _) _
theorem blk_put2 {w:World} {g t:Nat} {o0 o1:Value} (h:w.heap[g]? = some (.cells #[o0,o1] t (0,0))) (x0 x1:Value):((w.setCell ⟨g,0,none⟩ x0).setCell ⟨g,1,none⟩ x1).heap[g]? = some (.cells #[x0,x1] t (0,0)) :=
  blk_put (blk_put h 0 _ rfl) 1 _ rfl
theorem R_set2 {α:Type} {d:Kd α} {e g B:Nat} {W:World} {v x0 x1:Value} {xs:List α} (h:d.R e W B (fun _ => True) v xs) (hg:g<B):d.R e ((W.setCell ⟨g,0,none⟩ x0).setCell ⟨g,1,none⟩ x1) B (fun _ => True) v xs:=by
  have h1:=Kd.R_mono (ok':=fun k => k ≠ g) (Kd.R_bound h) (fun k hk => by have:=hk.2.1;omega)
  exact Kd.R_mono (Kd.R_far (Kd.R_far h1 (p:=⟨g,0,none⟩) (fun _ hk => hk) _) (p:=⟨g,1,none⟩) (fun _ hk => hk) _) (fun _ _ => trivial)
theorem decLb_8 (b:List Int):(decLb b).1.length≤8:=by
  cases b with
  | nil => simp [decLb]
  | cons a r =>
    simp only [decLb]
    split
    · simp
    · split
      · rename_i h
        exact (canL_parts h).2.1
      · simp
theorem series.calls (f:Fr) (A:Option Addr) (c m:Nat) (w:World) (hm:f.pay.length=m) (hr:Kd.C (Kd.int .u8) w A m f.pay) (hc:m≤c) (hok:okB f.pay=true) (hl:m≤1000) (hT:TabZ w) :
    Calls Tryz.prog 112 #[.agg #[.int .i64 f.kind,.int .i64 f.num,.slice A m c]] w (SerPost w f):=by
  have HX:=Aside0.mk (by have h1:=blk_new (w.alloc (.cells #[.int .i64 f.kind,.int .i64 f.num,.slice A m c] 80 (0,0))) (.cells #[.slice none 0 0,.slice none 0 0] 51 (0,0));rw [World.size_alloc] at h1;exact h1)
  have HX1:=Aside0.mk (blk_alloc (blk_new w (.cells #[.int .i64 f.kind,.int .i64 f.num,.slice A m c] 80 (0,0))) (.cells #[.slice none 0 0,.slice none 0 0] 51 (0,0)))
  have HBA:=Aside0.mk (below_alloc (below_alloc (Below.refl w.heap.size w) (.cells #[.int .i64 f.kind,.int .i64 f.num,.slice A m c] 80 (0,0))) (.cells #[.slice none 0 0,.slice none 0 0] 51 (0,0)))
  by_cases hk:f.kind=2
  · have hki:((f.kind:Int) != 2)=false:=by rw [hk];rfl
    have DL:Aside0 (∀ W,Below w.heap.size w W→Calls Tryz.prog 132 #[.slice A m c] W (DecPost W f.pay)):=⟨fun W hb => decLb.calls A c m f.pay W hm (Kd.C_below hr hb) hc hok (by omega)⟩
    obtain ⟨rl,rr,re,hd⟩:∃ rl rr re,decLb f.pay=(rl,rr,re):=⟨_,_,_,rfl⟩
    have HD:=Aside0.mk hd
    have HRR:Aside0 (okB rr=true∧rr.length≤2500∧rl.length≤8):=⟨by
      have h1:=decLb_rest f.pay
      have h2:=decLb_8 f.pay
      rw [hd] at h1 h2
      exact ⟨okB_sub hok h1.1,by have:=h1.2;simp only at this;omega,h2⟩⟩
    have HCB:Aside0 (partD f=(if re ≠ 0 then none else if (decF rr).2 ≠ 0∨(decF rr).1.length=0∨20<(decF rr).1.length then none else some ⟨rl,(decF rr).1⟩:Option S51).map (fun s => ⟨f.num,s⟩)):=⟨by rw [partD,if_pos hk,chunkD,hd]⟩
    clear hok hr hd hm hk
    by_cases hre:re=0
    · subst hre
      obtain ⟨sl,se,hs⟩:∃ sl se,decF rr=(sl,se):=⟨_,_,rfl⟩
      have HDE:Aside0 (∀ A' c' W,Kd.C (Kd.int .u8) W A' rr.length rr→rr.length≤c'→Below w.heap.size w W→Calls Tryz.prog 133 #[.slice A' rr.length c'] W fun e w' => ∃ v:Value,e = .returned (.tuple #[v,.int .i64 se])∧Kd.R k70 70 w' W.heap.size (fun _ => True) v sl∧Below W.heap.size W w'):=⟨fun A' c' W h1 h2 hb => codec_Decode.calls_at A' c' rr W sl se rfl h1 h2 HRR.out.1 HRR.out.2.1 (hT.below hb) hs⟩
      rw [hs] at HCB
      simp only [ne_eq,not_true_eq_false,if_false] at HCB
      clear hs hT
      by_cases hs0:se=0
      · subst hs0
        have e0:((0:Int) == 0)=true:=by decide
        by_cases hl0:sl.length=0
        · have HE:Aside0 (partD f=none):=⟨by rw [HCB.out,if_pos (.inr (.inl hl0))];rfl⟩
          have hl0i:¬ ((0:Int)<(sl.length:Int)):=by omega
          have hl0n:¬ (0<sl.length):=by omega
          clear HCB hl0
          go_enter Tryz.func112,Tryz.ntmps112
          go_wp2_with (first | (go_at_call 132;(with_reducible refine (DL.out _ HBA.out).mono ?_);rintro e w2 ⟨v1,v2,rfl,h1,h2,hb⟩;rw [HD.out] at h1 h2 ⊢;dsimp only at h1 h2 ⊢;obtain ⟨A7,c7,rfl⟩:=Kd.R_slice h1;obtain ⟨A8,c8,rfl⟩:=Kd.R_slice h2;have HV1:=Aside0.mk h1;have HV2:=Aside0.mk h2;have HB2:=Aside0.mk (below_step HBA.out hb);have HX2:=Aside0.mk (blk_below HX.out hb);have q0:=(blk_cell HX2.out 0).trans rfl;have q1:=(blk_cell HX2.out 1).trans rfl;have y0:=blk_frozen HX2.out 0;have y1:=blk_frozen HX2.out 1;clear hb h1 h2) | (go_at_call 133;(with_reducible refine (HDE.out A8 c8 _ (Kd.R_reads' HV2.out).2.2 (Kd.R_reads' HV2.out).2.1 HB2.out).mono ?_);rintro e w3 ⟨v3,rfl,h3,hb⟩;obtain ⟨A9,c9,rfl⟩:=Kd.R_slice h3;have HV3:=Aside0.mk h3;have HV13:=Aside0.mk (Kd.R_below HV1.out hb);have HB3:=Aside0.mk (below_step HB2.out hb);have HX3:=Aside0.mk (blk_below HX2.out hb);clear q0 q1 y0 y1;have q0:=(blk_cell HX3.out 0).trans rfl;have q1:=(blk_cell HX3.out 1).trans rfl;have y0:=blk_frozen HX3.out 0;have y1:=blk_frozen HX3.out 1;clear hb h3))
          refine bodyPost_ret (ser_res _ _ (w.heap.size+1) _ _ (blk_put2 HX3.out _ _) rfl) rfl ?_
          exact SerPost.none_ HE.out (below_set2 HB3.out)
        · have hl0i:(0:Int)<(sl.length:Int):=by omega
          have hl0n:0<sl.length:=by omega
          by_cases hl2:20<sl.length
          · have HE:Aside0 (partD f=none):=⟨by rw [HCB.out,if_pos (.inr (.inr hl2))];rfl⟩
            have hl2i:¬ ((sl.length:Int)≤20):=by omega
            clear HCB hl0 hl2
            go_enter Tryz.func112,Tryz.ntmps112
            go_wp2_with (first | (go_at_call 132;(with_reducible refine (DL.out _ HBA.out).mono ?_);rintro e w2 ⟨v1,v2,rfl,h1,h2,hb⟩;rw [HD.out] at h1 h2 ⊢;dsimp only at h1 h2 ⊢;obtain ⟨A7,c7,rfl⟩:=Kd.R_slice h1;obtain ⟨A8,c8,rfl⟩:=Kd.R_slice h2;have HV1:=Aside0.mk h1;have HV2:=Aside0.mk h2;have HB2:=Aside0.mk (below_step HBA.out hb);have HX2:=Aside0.mk (blk_below HX.out hb);have q0:=(blk_cell HX2.out 0).trans rfl;have q1:=(blk_cell HX2.out 1).trans rfl;have y0:=blk_frozen HX2.out 0;have y1:=blk_frozen HX2.out 1;clear hb h1 h2) | (go_at_call 133;(with_reducible refine (HDE.out A8 c8 _ (Kd.R_reads' HV2.out).2.2 (Kd.R_reads' HV2.out).2.1 HB2.out).mono ?_);rintro e w3 ⟨v3,rfl,h3,hb⟩;obtain ⟨A9,c9,rfl⟩:=Kd.R_slice h3;have HV3:=Aside0.mk h3;have HV13:=Aside0.mk (Kd.R_below HV1.out hb);have HB3:=Aside0.mk (below_step HB2.out hb);have HX3:=Aside0.mk (blk_below HX2.out hb);clear q0 q1 y0 y1;have q0:=(blk_cell HX3.out 0).trans rfl;have q1:=(blk_cell HX3.out 1).trans rfl;have y0:=blk_frozen HX3.out 0;have y1:=blk_frozen HX3.out 1;clear hb h3))
            refine bodyPost_ret (ser_res _ _ (w.heap.size+1) _ _ (blk_put2 HX3.out _ _) rfl) rfl ?_
            show SerPost w f (.returned (.tuple #[.agg #[.slice A7 rl.length c7,.slice A9 sl.length c9],.bool (decide ((sl.length:Int)≤20))])) _
            rw [decide_eq_false (show ¬ ((sl.length:Int)≤20) by omega)]
            exact SerPost.none_ HE.out (below_set2 HB3.out)
          · have HE:Aside0 (partD f=some ⟨f.num,⟨rl,sl⟩⟩):=⟨by rw [HCB.out,if_neg (by omega)];rfl⟩
            have hl2i:(sl.length:Int)≤20:=by omega
            have HL2:=Aside0.mk hl2
            clear HCB hl0 hl2
            go_enter Tryz.func112,Tryz.ntmps112
            go_wp2_with (first | (go_at_call 132;(with_reducible refine (DL.out _ HBA.out).mono ?_);rintro e w2 ⟨v1,v2,rfl,h1,h2,hb⟩;rw [HD.out] at h1 h2 ⊢;dsimp only at h1 h2 ⊢;obtain ⟨A7,c7,rfl⟩:=Kd.R_slice h1;obtain ⟨A8,c8,rfl⟩:=Kd.R_slice h2;have HV1:=Aside0.mk h1;have HV2:=Aside0.mk h2;have HB2:=Aside0.mk (below_step HBA.out hb);have HX2:=Aside0.mk (blk_below HX.out hb);have q0:=(blk_cell HX2.out 0).trans rfl;have q1:=(blk_cell HX2.out 1).trans rfl;have y0:=blk_frozen HX2.out 0;have y1:=blk_frozen HX2.out 1;clear hb h1 h2) | (go_at_call 133;(with_reducible refine (HDE.out A8 c8 _ (Kd.R_reads' HV2.out).2.2 (Kd.R_reads' HV2.out).2.1 HB2.out).mono ?_);rintro e w3 ⟨v3,rfl,h3,hb⟩;obtain ⟨A9,c9,rfl⟩:=Kd.R_slice h3;have HV3:=Aside0.mk h3;have HV13:=Aside0.mk (Kd.R_below HV1.out hb);have HB3:=Aside0.mk (below_step HB2.out hb);have HX3:=Aside0.mk (blk_below HX2.out hb);clear q0 q1 y0 y1;have q0:=(blk_cell HX3.out 0).trans rfl;have q1:=(blk_cell HX3.out 1).trans rfl;have y0:=blk_frozen HX3.out 0;have y1:=blk_frozen HX3.out 1;clear hb h3))
            refine bodyPost_ret (ser_res _ _ (w.heap.size+1) _ _ (blk_put2 HX3.out _ _) rfl) rfl ?_
            have hsz1:w.heap.size+1+1≤w3.heap.size:=blk_lt HX3.out
            have hsz2:w.heap.size+1+1≤w2.heap.size:=blk_lt HX2.out
            refine ⟨_,_,_,_,_,_,true,rfl,below_set2 HB3.out,.inr ⟨rfl,⟨rl,sl⟩,HE.out,Nat.le_of_not_lt HL2.out,HRR.out.2.2,?_,?_⟩⟩
            · exact Kd.R_lower (R_set2 (HV13.out) (by rw [World.size_alloc,World.size_alloc];omega)) (by rw [World.size_alloc,World.size_alloc];omega)
            · exact Kd.R_lower (R_set2 (HV3.out) (by omega)) (by omega)
      · have HE:Aside0 (partD f=none):=⟨by rw [HCB.out,if_pos (.inl hs0)];rfl⟩
        have hs0i:(se == 0)=false:=beq_eq_false_iff_ne.2 hs0
        clear HCB hs0
        go_enter Tryz.func112,Tryz.ntmps112
        go_wp2_with (first | (go_at_call 132;(with_reducible refine (DL.out _ HBA.out).mono ?_);rintro e w2 ⟨v1,v2,rfl,h1,h2,hb⟩;rw [HD.out] at h1 h2 ⊢;dsimp only at h1 h2 ⊢;obtain ⟨A7,c7,rfl⟩:=Kd.R_slice h1;obtain ⟨A8,c8,rfl⟩:=Kd.R_slice h2;have HV1:=Aside0.mk h1;have HV2:=Aside0.mk h2;have HB2:=Aside0.mk (below_step HBA.out hb);have HX2:=Aside0.mk (blk_below HX.out hb);have q0:=(blk_cell HX2.out 0).trans rfl;have q1:=(blk_cell HX2.out 1).trans rfl;have y0:=blk_frozen HX2.out 0;have y1:=blk_frozen HX2.out 1;clear hb h1 h2) | (go_at_call 133;(with_reducible refine (HDE.out A8 c8 _ (Kd.R_reads' HV2.out).2.2 (Kd.R_reads' HV2.out).2.1 HB2.out).mono ?_);rintro e w3 ⟨v3,rfl,h3,hb⟩;obtain ⟨A9,c9,rfl⟩:=Kd.R_slice h3;have HV3:=Aside0.mk h3;have HV13:=Aside0.mk (Kd.R_below HV1.out hb);have HB3:=Aside0.mk (below_step HB2.out hb);have HX3:=Aside0.mk (blk_below HX2.out hb);clear q0 q1 y0 y1;have q0:=(blk_cell HX3.out 0).trans rfl;have q1:=(blk_cell HX3.out 1).trans rfl;have y0:=blk_frozen HX3.out 0;have y1:=blk_frozen HX3.out 1;clear hb h3))
        refine bodyPost_ret (ser_res _ _ (w.heap.size+1) _ _ (blk_put2 HX3.out _ _) rfl) rfl ?_
        exact SerPost.none_ HE.out (below_set2 HB3.out)
    · have HE:Aside0 (partD f=none):=⟨by rw [HCB.out,if_pos hre];rfl⟩
      have hrei:(re != 0)=true:=by simpa using hre
      clear HCB hre
      go_enter Tryz.func112,Tryz.ntmps112
      go_wp2_with (first | (go_at_call 132;(with_reducible refine (DL.out _ HBA.out).mono ?_);rintro e w2 ⟨v1,v2,rfl,h1,h2,hb⟩;rw [HD.out] at h1 h2 ⊢;dsimp only at h1 h2 ⊢;obtain ⟨A7,c7,rfl⟩:=Kd.R_slice h1;obtain ⟨A8,c8,rfl⟩:=Kd.R_slice h2;have HV1:=Aside0.mk h1;have HV2:=Aside0.mk h2;have HB2:=Aside0.mk (below_step HBA.out hb);have HX2:=Aside0.mk (blk_below HX.out hb);have q0:=(blk_cell HX2.out 0).trans rfl;have q1:=(blk_cell HX2.out 1).trans rfl;have y0:=blk_frozen HX2.out 0;have y1:=blk_frozen HX2.out 1;clear hb h1 h2))
      refine bodyPost_ret (ser_res _ _ (w.heap.size+1) _ _ (blk_put2 HX2.out _ _) rfl) rfl ?_
      exact SerPost.none_ HE.out (below_set2 HB2.out)
  · have hki:((f.kind:Int) != 2)=true:=by simp;omega
    have HE:Aside0 (partD f=none):=⟨by rw [partD,if_neg hk]⟩
    clear hr hok hT hm hk
    go_enter Tryz.func112,Tryz.ntmps112
    go_wp2_with fail
    refine bodyPost_ret (ser_res _ _ (w.heap.size+1) _ _ HX.out rfl) rfl ?_
    exact SerPost.none_ HE.out HBA.out
end Go.Proofs.YtcgbgifbajdhpaaGreatDoor.PA
namespace Go
open Go.RowKit Go.Proofs.YtcgbgifbajdhpaaGreatDoorW.PrintWords
section
variable {P:Program} {ops:Array Oper} {Q:Exit→Act→World→Prop}
def putsL (a:Act):List Tmp→(Nat→Value)→Act
  | [],_ => a
  | d :: ds,y => putsL { a with tmps:=a.tmps.setIfInBounds d (y 0) } ds (fun k => y (k+1))
def blockedB (ops:Array Oper) (listed:Array Bool) (is:List Nat) (j:Nat):Bool :=
  listed.getD j true || is.contains j || ((ops[j]?).map fun o => (o.after.any fun e => Region.binds .any e && !is.contains e.on && !listed.getD e.on false) || is.all fun i => o.after.any fun e => Region.binds .any e && (e.on == i)).getD true
def manyB (ops:Array Oper) (n:Nat) (listed:Array Bool) (is:List Nat):Bool :=
  decide is.Nodup && (List.range is.length).all (fun k => match is[k]? with
    | none => true
    | some i => decide (i<n) && !listed.getD i true && (match ops[i]? with
      | none => false
      | some o => o.guard.isNone && o.after.all fun e => !Region.binds .any e || listed.getD e.on false || (is.take k).contains e.on)) && (List.range ops.size).all (blockedB ops listed is)
theorem least:∀ l:List Nat,l ≠ [] → ∃ k ∈ l,∀ j ∈ l,k≤j
  | [],h => absurd rfl h
  | [a],_ => ⟨a,List.mem_cons_self,fun j hj => by rw [List.mem_singleton] at hj;omega⟩
  | a :: b :: l,_ => by
    obtain ⟨k,hk,hm⟩:=least (b :: l) (by simp)
    by_cases h:a≤k
    · exact ⟨a,List.mem_cons_self,fun j hj => (List.mem_cons.1 hj).elim (fun e => by omega) (fun hj => Nat.le_trans h (hm j hj))⟩
    · exact ⟨k,List.mem_cons_of_mem _ hk,fun j hj => (List.mem_cons.1 hj).elim (fun e => by omega) (hm j)⟩
def listAll (listed:Array Bool) (is:List Nat):Array Bool:=is.foldl (fun l i => l.setIfInBounds i true) listed
def updV (y:Nat→Value) (k:Nat) (v:Value):Nat→Value:=fun j => if j=k then v else y j
theorem puts_set:∀ (ds:List Tmp) (a:Act) (y:Nat→Value) (d:Tmp) (v:Value),d ∉ ds→putsL { a with tmps:=a.tmps.setIfInBounds d v } ds y = { putsL a ds y with tmps:=(putsL a ds y).tmps.setIfInBounds d v }
  | [],_,_,_,_,_ => rfl
  | e :: ds,a,y,d,v,h => by
    rw [putsL,putsL,← puts_set ds _ _ d v (fun hd => h (List.mem_cons_of_mem _ hd))]
    congr 2
    exact Array.setIfInBounds_comm _ _ (fun he => h (he ▸ List.mem_cons_self))
theorem puts_upd:∀ (ds:List Tmp) (a:Act) (y:Nat→Value) (k:Nat) (d:Tmp) (v:Value),ds.Nodup→ds[k]? = some d→(putsL a ds y).put (some d) v=putsL a ds (updV y k v)
  | [],_,_,_,_,_,_,h => by simp at h
  | e :: ds,a,y,0,d,v,hn,h => by
    simp only [List.getElem?_cons_zero,Option.some.injEq] at h
    subst h
    rw [putsL,putsL]
    have h1:=puts_set ds { a with tmps:=a.tmps.setIfInBounds e (y 0) } (fun k => y (k+1)) e v (List.nodup_cons.1 hn).1
    simp only [Array.setIfInBounds_setIfInBounds] at h1
    exact h1.symm
  | e :: ds,a,y,k+1,d,v,hn,h => by
    rw [putsL,putsL]
    have h1:=puts_upd ds { a with tmps:=a.tmps.setIfInBounds e (y 0) } (fun k => y (k+1)) k d v (List.nodup_cons.1 hn).2 (by simpa using h)
    rw [h1]
    congr 1
    funext j
    simp [updV]
theorem puts_self:∀ (ds:List Tmp) (a:Act),∃ y,putsL a ds y=a
  | [],a => ⟨fun _ => undef,rfl⟩
  | d :: ds,a => by
    obtain ⟨y,hy⟩:=puts_self ds a
    refine ⟨fun k => match k with | 0 => a.tmps.getD d undef | k+1 => y k,?_⟩
    rw [putsL]
    have e:a.tmps.setIfInBounds d (a.tmps.getD d undef)=a.tmps:=by
      apply Array.ext_getElem?
      intro i
      rw [Array.getElem?_setIfInBounds]
      split
      · rename_i h
        subst h
        split
        · rename_i h2
          simp [h2]
        · rename_i h2
          exact (Array.getElem?_eq_none (by omega)).symm
      · rfl
    show putsL { a with tmps:=a.tmps.setIfInBounds d (a.tmps.getD d undef) } ds y=a
    rw [e]
    exact hy
theorem listAll_get:∀ (is:List Nat) (l:Array Bool) (j:Nat) (b:Bool),(listAll l is).getD j b=if j ∈ is∧j<l.size then true else l.getD j b
  | [],l,j,b => by simp [listAll]
  | i :: is,l,j,b => by
    have h:=listAll_get is (l.setIfInBounds i true) j b
    rw [Array.size_setIfInBounds] at h
    show (listAll (l.setIfInBounds i true) is).getD j b=_
    rw [h]
    by_cases h1:j ∈ is∧j<l.size
    · rw [if_pos h1,if_pos ⟨List.mem_cons_of_mem _ h1.1,h1.2⟩]
    · rw [if_neg h1]
      by_cases h2:j=i
      · subst h2
        by_cases h3:j<l.size
        · rw [if_pos ⟨List.mem_cons_self,h3⟩]
          simp [h3]
        · rw [if_neg (fun h => h3 h.2)]
          simp [h3]
      · rw [if_neg (fun h => (List.mem_cons.1 h.1).elim h2 (fun h4 => h1 ⟨h4,h.2⟩))]
        simp [Array.getElem?_setIfInBounds_ne (Ne.symm h2)]
theorem listAll_size:∀ (is:List Nat) (l:Array Bool),(listAll l is).size=l.size
  | [],_ => rfl
  | i :: is,l => by
    show (listAll (l.setIfInBounds i true) is).size=_
    rw [listAll_size is,Array.size_setIfInBounds]
open Classical in
theorem GHead.many {S:World→Prop} {n f:Nat} {listed:Array Bool} {a:Act} {w:World} (is:List Nat) (ds:List Tmp) (Φ:Nat→Value→World→Prop)
    (hmono:∀ k v W W',Φ k v W→Below W.heap.size W W'→Φ k v W') (hB:manyB ops n listed is=true) (hlen:ds.length=is.length) (hnd:ds.Nodup)
    (hS:S w) (hstab:∀ W W',S W→Below W.heap.size W W'→S W')
    (hops:∀ k i d o,is[k]? = some i→ds[k]? = some d→ops[i]? = some o→o.dst=some d∧∀ y W',S W'→Oper.wp P o (putsL a ds y) W' (fun a'' W'' => ∃ v,a''=(putsL a ds y).put (some d) v∧Φ k v W''∧Below W'.heap.size W' W'') Q)
    (h:∀ y W',S W'→(∀ k,k<is.length→Φ k (y k) W')→GHead P ops Q S n f (listAll listed is) (putsL a ds y) W') :
    GHead P ops Q S n (is.length+f) listed a w:=fun inv => by
  unfold manyB at hB
  rw [Bool.and_eq_true,Bool.and_eq_true,decide_eq_true_eq,List.all_eq_true,List.all_eq_true] at hB
  obtain ⟨⟨hisn,his'⟩,hblk'⟩:=hB
  have hblk:∀ j,j<ops.size→blockedB ops listed is j=true:=fun j hj => hblk' j (List.mem_range.2 hj)
  have his:∀ k i,is[k]? = some i→i<n∧listed.getD i true=false∧∃ o,ops[i]? = some o∧o.guard=none∧∀ e ∈ o.after,Region.binds .any e=true→listed.getD e.on false=true∨∃ k',k'<k∧is[k']? = some e.on:=fun k i hk => by
    have h1:=his' k (List.mem_range.2 (List.getElem?_eq_some_iff.1 hk).1)
    simp only [hk] at h1
    cases ho:ops[i]? with
    | none => simp [ho] at h1
    | some o =>
      simp only [ho,Bool.and_eq_true,decide_eq_true_eq,Bool.not_eq_true'] at h1
      refine ⟨h1.1.1,h1.1.2,o,rfl,by simpa using h1.2.1,fun e he hb => ?_⟩
      have h2:=Array.all_eq_true'.1 h1.2.2 e he
      simp only [hb,Bool.not_true,Bool.false_or,Bool.or_eq_true] at h2
      rcases h2 with h2 | h2
      · exact .inl h2
      · obtain ⟨k',hk',he'⟩:=List.mem_iff_getElem.1 (show e.on ∈ is.take k by simpa using h2)
        rw [List.length_take] at hk'
        rw [List.getElem_take] at he'
        exact .inr ⟨k',by omega,by rw [List.getElem?_eq_getElem (by omega),he']⟩
  have hlt:∀ i ∈ is,i<listed.size:=fun i hi => by
    obtain ⟨k,hk,he⟩:=List.mem_iff_getElem.1 hi
    obtain ⟨_,_,o,ho,_⟩:=his k i (by rw [List.getElem?_eq_getElem hk,he])
    rw [inv.size]
    exact (Array.getElem?_eq_some_iff.1 ho).1
  suffices key:∀ (m:Nat) (rem:List Nat) (l':Array Bool) (y:Nat→Value) (W:World),rem.length=m→rem.Nodup→(∀ k ∈ rem,k<is.length)→l'.size=listed.size →
      (∀ j b,l'.getD j b=if (∃ k,is[k]? = some j∧k ∉ rem) then true else listed.getD j b)→HeadInv .any ops n l'→S W→(∀ k,k<is.length→k ∉ rem→Φ k (y k) W) →
      wpAnyG P .any ops Q S n (GEnd P ops Q n) (m+f) l' (putsL a ds y) W by
    obtain ⟨y,hy⟩:=puts_self ds a
    have h1:=key is.length (List.range is.length) listed y w (List.length_range ..) (List.nodup_range ..) (fun k hk => List.mem_range.1 hk) rfl (fun j b => by
      rw [if_neg]
      rintro ⟨k,hk,hn⟩
      exact hn (List.mem_range.2 (List.getElem?_eq_some_iff.1 hk).1)) inv hS (fun k hk hn => absurd (List.mem_range.2 hk) hn)
    rwa [hy] at h1
  intro m
  induction m with
  | zero =>
    intro rem l' y W hm _ _ hsz hl' inv' hW hΦ
    have hr0:rem=[]:=List.eq_nil_of_length_eq_zero hm
    subst hr0
    rw [Nat.zero_add]
    have hl:l'=listAll listed is:=by
      apply Array.ext
      · rw [hsz,listAll_size]
      · intro j h1 h2
        have h3:=hl' j false
        have h4:=listAll_get is listed j false
        simp only [Array.getD_eq_getD_getElem?,Array.getElem?_eq_getElem h1,Array.getElem?_eq_getElem h2,Option.getD_some] at h3 h4
        rw [h3,h4]
        by_cases hj:j ∈ is
        · obtain ⟨k,hk,he⟩:=List.mem_iff_getElem.1 hj
          rw [if_pos ⟨k,by rw [List.getElem?_eq_getElem hk,he],List.not_mem_nil⟩,if_pos ⟨hj,hlt j hj⟩]
        · rw [if_neg (fun ⟨k,hk,_⟩ => hj (List.mem_of_getElem? hk)),if_neg (fun h => hj h.1)]
    subst hl
    exact h y W hW (fun k hk => hΦ k hk List.not_mem_nil) inv'
  | succ m ih =>
    intro rem l' y W hm hnr hrl hsz hl' inv' hW hΦ
    have hne:rem ≠ []:=fun e => by rw [e] at hm;cases hm
    obtain ⟨k0,hk0,hmin⟩:=least rem hne
    have hk0l:=hrl k0 hk0
    have hone:is[k0] ∈ Region.ready .any ops l':=by
      obtain ⟨_,hu,o,ho,_,ha⟩:=his k0 is[k0] (List.getElem?_eq_getElem hk0l)
      refine mem_ready.2 ⟨?_,o,ho,fun e he hb => ?_⟩
      · rw [hl' is[k0] true,if_neg,hu]
        rintro ⟨k',hk',hn'⟩
        have:k'=k0:=(List.getElem?_inj (List.getElem?_eq_some_iff.1 hk').1 hisn).1 (hk'.trans (List.getElem?_eq_getElem hk0l).symm)
        exact hn' (this ▸ hk0)
      · rw [hl' e.on false]
        split
        · rfl
        · rename_i hx
          rcases ha e he hb with h1 | ⟨k',hk',h1⟩
          · exact h1
          · exact absurd ⟨k',h1,fun hr => by have:=hmin k' hr;omega⟩ hx
    have honly:∀ j ∈ Region.ready .any ops l',∃ k ∈ rem,is[k]? = some j:=fun j hj => by
      obtain ⟨hu,o,ho,ha⟩:=mem_ready.1 hj
      have hjs:j<ops.size:=(Array.getElem?_eq_some_iff.1 ho).1
      have hb:=hblk j hjs
      simp only [blockedB,ho,Option.map_some,Option.getD_some,Bool.or_eq_true] at hb
      rw [hl' j true] at hu
      split at hu
      · cases hu
      · rename_i hnd'
        rcases hb with (hb | hb) | hb | hb
        · rw [hu] at hb;cases hb
        · have hj':j ∈ is:=by simpa using hb
          obtain ⟨k,hk,he⟩:=List.mem_iff_getElem.1 hj'
          have hkj:is[k]? = some j:=by rw [List.getElem?_eq_getElem hk,he]
          refine ⟨k,?_,hkj⟩
          exact Classical.byContradiction fun hn' => hnd' ⟨k,hkj,hn'⟩
        · obtain ⟨e,he,hc⟩:=Array.any_eq_true'.1 hb
          simp only [Bool.and_eq_true,Bool.not_eq_true'] at hc
          have h3:=ha e he hc.1.1
          rw [hl' e.on false] at h3
          split at h3
          · rename_i hx
            obtain ⟨k,hk,_⟩:=hx
            have:is.contains e.on=true:=by simpa using List.mem_of_getElem? hk
            rw [this] at hc
            exact absurd hc.1.2 (by decide)
          · rw [hc.2] at h3;cases h3
        · have h3:=List.all_eq_true.1 hb is[k0] (List.getElem_mem hk0l)
          obtain ⟨e,he,hc⟩:=Array.any_eq_true'.1 h3
          simp only [Bool.and_eq_true,beq_iff_eq] at hc
          have h4:=ha e he hc.1
          rw [hc.2,hl' is[k0] false] at h4
          split at h4
          · rename_i hx
            obtain ⟨k,hk,hn'⟩:=hx
            have:k=k0:=(List.getElem?_inj (List.getElem?_eq_some_iff.1 hk).1 hisn).1 (hk.trans (List.getElem?_eq_getElem hk0l).symm)
            exact absurd (this ▸ hk0) hn'
          · have h6:=getD_both (his k0 is[k0] (List.getElem?_eq_getElem hk0l)).2.1
            rw [h6] at h4;cases h4
    rw [show m+1+f=(m+f)+1 by omega]
    refine ⟨fun h0 => ?_,fun j hj => ?_⟩
    · rw [h0] at hone
      cases hone
    · obtain ⟨k,hk,hkj⟩:=honly j hj
      have hmem:=List.mem_of_getElem? hkj
      obtain ⟨hjn,_,o,ho,hg,_⟩:=his k j hkj
      obtain ⟨d,hd⟩:∃ d,ds[k]? = some d:=⟨_,List.getElem?_eq_getElem (by have:=hrl k hk;omega)⟩
      obtain ⟨hdst,hop⟩:=hops k j d o hkj hd ho
      refine ⟨hjn,?_⟩
      unfold wpOp
      simp only [ho]
      rw [if_pos (by simp [Region.wanted,hg])]
      refine .inl (Oper.wp_mono (fun a' w' hx => ?_) (hop y W hW))
      obtain ⟨v,rfl,hv,hb⟩:=hx
      rw [puts_upd ds a y k d v hnd hd]
      have hW':=hstab _ _ hW hb
      refine ⟨hW',ih (rem.erase k) _ _ w' (by rw [List.length_erase_of_mem hk];omega) (hnr.erase k) (fun k' hk' => hrl k' (List.mem_of_mem_erase hk')) (by rw [Array.size_setIfInBounds,hsz]) (fun j' b => ?_) (inv'.set hj hjn) hW' (fun k' hk' hn' => ?_)⟩
      · by_cases hjj:j'=j
        · subst hjj
          rw [if_pos ⟨k,hkj,fun hx => by rw [hnr.mem_erase_iff] at hx;exact hx.1 rfl⟩]
          have:j'<l'.size:=by rw [hsz];exact hlt j' hmem
          simp [this]
        · have h1:(l'.setIfInBounds j true).getD j' b=l'.getD j' b:=by simp [Array.getElem?_setIfInBounds_ne (Ne.symm hjj)]
          rw [h1,hl' j' b]
          by_cases h2:∃ k,is[k]? = some j'∧k ∉ rem
          · obtain ⟨k2,hk2,hn2⟩:=h2
            rw [if_pos ⟨k2,hk2,hn2⟩,if_pos ⟨k2,hk2,fun hx => hn2 (List.mem_of_mem_erase hx)⟩]
          · rw [if_neg h2,if_neg]
            rintro ⟨k2,hk2,hn2⟩
            refine h2 ⟨k2,hk2,fun hx => hn2 ?_⟩
            rw [hnr.mem_erase_iff]
            refine ⟨fun he => hjj ?_,hx⟩
            subst he
            rw [hkj] at hk2
            injection hk2 with hk2
            exact hk2.symm
      · unfold updV
        by_cases he:k'=k
        · subst he
          rw [if_pos rfl]
          exact hv
        · rw [if_neg he]
          refine hmono _ _ _ _ (hΦ k' hk' (fun hx => hn' ?_)) hb
          rw [hnr.mem_erase_iff]
          exact ⟨he,hx⟩
theorem wp_region_hd {id:Nat} {a:Act} {w:World} (hm:P.follows .mixedOrders=true)
    (h:wpAny P .any ops (fun e a w => e = .normal∧Q .normal a w) ops.size (Array.replicate ops.size false) a w.drew):(Code.region id ops true).wp P Q a w :=
  wp_mono (Q:=fun e a w => e = .normal∧Q .normal a w) (wp_region_any hm h) (fun e a w he => by obtain ⟨h1,h2⟩:=he;subst h1;exact h2)
theorem of_if' {c A B:Prop} [Decidable c] (hc:c) (h:if c then A else B):A:=by rwa [if_pos hc] at h
end
end Go
namespace Go.Proofs.YtcgbgifbajdhpaaGreatDoor.G
open Go.RowKit Go.Proofs.YtcgbgifbajdhpaaGreatDoorW.PrintWords Go.Proofs.YtcgbgifbajdhpaaGreatDoorW.PrintLast Go.Proofs.YtcgbgifbajdhpaaGreatDoorW.PrintMore
structure TabQ (w:World):Prop where mk :: (out:∀ j,j<4→w.cell? ⟨1,j,none⟩=some (.int .u32 (CrcMath.quarter j:Nat)))
theorem TabQ.below {w w1:World} (h:TabQ w) (hb:Below w.heap.size w w1):TabQ w1:=⟨fun j hj => pw_cell_below hb (h.out j hj)⟩
theorem TabQ.drewN {w:World} (h:TabQ w) (n:Nat):TabQ (w.drewN n):=⟨h.out⟩
theorem TabQ.drawn {w w1:World} (h:TabQ w) (hd:Drawn0 w w1):TabQ w1:=h.below hd.below
def crc_More.f (s:Int) (l:List Int):Option Int:=if okB l=true∧0≤s∧s<4294967296 then some ((CrcMath.more s.toNat l:Nat):Int) else none
def crc_Sum.f (l:List Int):Option Int:=if okB l=true then some ((CrcMath.more 0 l:Nat):Int) else none
theorem nat_take (l:List Int) (k:Nat) (hk:k<l.length):CrcMath.nat (l.take (k+1))=CrcMath.nat (l.take k) ++ [(rd l (k:Int)).toNat]:=by
  have e:rd l (k:Int)=l[k]:=by simp [rd,List.getD_eq_getElem?_getD,List.getElem?_eq_getElem hk]
  rw [List.take_succ_eq_append_getElem hk,e]
  unfold CrcMath.nat
  rw [List.map_append]
  rfl
theorem run_take (r:Nat) (l:List Int) (k:Nat) (hk:k<l.length):CrcMath.run r (CrcMath.nat (l.take (k+1)))=CrcMath.eight (CrcMath.run r (CrcMath.nat (l.take k)) ^^^ (rd l (k:Int)).toNat):=by
  rw [nat_take l k hk,CrcMath.run_append]
  rfl
theorem take_byte {l:List Int} (hl:okB l=true) (k:Nat):∀ x ∈ l.take k,0≤x∧x<256:=fun x hx => okB_iff.1 hl x (List.mem_of_mem_take hx)
theorem xor32 (a b:Nat) (ha:a<4294967296) (hb:b<4294967296):Go.bits .xor .u32 (a:Int) (b:Int)=((a ^^^ b:Nat):Int):=u32_xor_nat a b ha hb
theorem quarter_lt (j:Nat):CrcMath.quarter j<4294967296:=by unfold CrcMath.quarter;split <;> decide
def twos:Nat→Nat→Nat
  | 0,r => r
  | n+1,r => CrcMath.two (twos n r)
theorem two_lt {r:Nat} (h:r<4294967296):CrcMath.two r<4294967296:=by rw [CrcMath.two_eq];exact CrcMath.one_lt (CrcMath.one_lt h)
theorem twos_lt {r:Nat} (h:r<4294967296):∀ n,twos n r<4294967296
  | 0 => h
  | n+1 => two_lt (twos_lt h n)
theorem twos4 (r:Nat):twos 4 r=CrcMath.eight r:=CrcMath.four_two r
def inv32 (n:Int):Int:=Go.bits .xor .u32 4294967295 n
theorem inv32_nat (S:Nat) (h:S<4294967296):inv32 (S:Int)=((CrcMath.inv S:Nat):Int):=by
  unfold inv32
  have:=u32_xor_nat 4294967295 S (by omega) h
  rw [CrcMath.inv_def]
  exact this
theorem unary_xor_u32 (n:Int):Op.unary .xor (.int .u32 n)=pure (.int .u32 (inv32 n)):=rfl
attribute [local go_sem high] unary_xor_u32
theorem crc_More.calls (a0:Int) (A1:Option Addr) (c1:Nat) (l1:List Int) (r:Int) (w:World) (hr1:Kd.C (Kd.int .u8) w A1 l1.length l1) (hc1:l1.length≤c1) (hT:TabQ w) (h:crc_More.f a0 l1=some r) :
    Calls Tryz.prog 127 #[.int .u32 a0,.slice A1 l1.length c1] w fun e w' => e = .returned (.int .u32 r)∧Drawn0 w w':=by
  have HR:=Aside0.mk hr1
  have hlen:l1.length≤9223372036854775807:=Kd.C_max hr1
  clear hr1 hc1
  unfold crc_More.f at h
  split at h
  case isFalse => cases h
  case isTrue hok =>
  obtain rfl:=Option.some.inj h
  clear h
  obtain ⟨hb,h0,h1⟩:=hok
  obtain ⟨S,rfl⟩:=Int.eq_ofNat_of_zero_le h0
  rw [Int.toNat_natCast]
  have hi:=inv32_nat S (by omega)
  clear h0
  go_enter Tryz.func127,Tryz.ntmps127
  go_wp2
  have hl:(CrcMath.inv S)<4294967296:=CrcMath.inv_lt (by omega)
  go_loop [5,12] (fun r i => ∃ k:Nat,k≤l1.length∧i = .int .i64 k∧r = .int .u32 (CrcMath.run (CrcMath.inv S) (CrcMath.nat (l1.take k)):Nat)) (fun _ i => l1.length - (intOf i).toNat)
  case atStart => exact ⟨0,Nat.zero_le _,rfl,rfl⟩
  case round =>
    obtain ⟨k,hk,rfl,rfl⟩:=hrel
    by_cases hlt:k<l1.length
    · obtain ⟨ad,rfl,hc⟩:=Kd.at_int HR.out (k:Int) (by omega) (by omega)
      rw [Int.toNat_natCast] at hc
      have hx:=okB_iff.1 hb _ (rd_mem l1 k hlt)
      have HT:=Aside0.mk (run_take (CrcMath.inv S) l1 k hlt)
      have hR:=CrcMath.run_lt hl (CrcMath.nat_byte (take_byte hb k))
      generalize CrcMath.run (CrcMath.inv S) (CrcMath.nat (l1.take k))=R at hR HT ⊢
      obtain ⟨X,hX⟩:=Int.eq_ofNat_of_zero_le hx.1
      rw [hX] at hc hx HT
      rw [Int.toNat_natCast] at HT
      clear hX
      have hw:IntKind.u32.wrap (X:Int)=(X:Int):=by rw [IntKind.wrap_u32];omega
      have hxor:=xor32 R X hR (by omega)
      have hL:R ^^^ X<4294967296:=Nat.xor_lt_two_pow (n:=32) hR (by omega)
      go_wp2
      generalize R ^^^ X=Y at hL HT hxor ⊢
      clear hxor hw hc hx hR
      go_loop [5,20] (fun r i => ∃ j:Nat,j≤4∧i = .int .i64 j∧r = .int .u32 (twos j Y:Nat)) (fun _ i => 4 - (intOf i).toNat)
      case atStart => exact ⟨0,by omega,rfl,rfl⟩
      case round =>
        obtain ⟨j,hj,rfl,rfl⟩:=hrel
        have hT':=twos_lt hL j
        by_cases hj4:j<4
        · have HN:Aside0 (twos (j+1) Y=CrcMath.two (twos j Y)):=⟨rfl⟩
          generalize twos j Y=Z at hT' HN ⊢
          have hq:=hT.out (Z % 4) (Nat.mod_lt _ (by omega))
          have ha:Go.bits .and .u32 (Z:Int) 3=((Z % 4:Nat):Int):=by
            rw [show (3:Int)=((3:Nat):Int) from rfl,u32_and_nat Z 3 hT' (by omega),nat_mask2]
          have hxor:Go.bits .xor .u32 ((Z:Int) / 4) ((CrcMath.quarter (Z % 4):Nat):Int)=((CrcMath.two Z:Nat):Int):=by
            rw [show (Z:Int) / 4=((Z / 4:Nat):Int) from by omega]
            exact xor32 (Z / 4) (CrcMath.quarter (Z % 4)) (by omega) (quarter_lt _)
          generalize CrcMath.two Z=M at hxor HN
          have hi4:Z % 4<4:=Nat.mod_lt _ (by omega)
          have hq4:=quarter_lt (Z % 4)
          generalize CrcMath.quarter (Z % 4)=q at hq hxor hq4
          generalize Z % 4=i at hq ha hi4
          have h0:(0:Int)≤(i:Int):=by omega
          have h4:(i:Int)<4:=by omega
          have HH:=Aside0.mk hq4
          have HZ:=Aside0.mk hT'
          clear hi4 hq4 hT' hL h1 hl hi hj
          go_wp2
          go_round
          case rel => exact ⟨j+1,by omega,by go_num,by rw [HN.out]⟩
          case measure => simp [intOf];omega
        · obtain rfl:j=4:=by omega
          go_wp2
          go_round
          case rel => exact ⟨k+1,by omega,by go_num,by rw [HT.out,twos4]⟩
          case measure => simp [intOf];omega
    · obtain rfl:k=l1.length:=by omega
      have hfin:inv32 ((CrcMath.run (CrcMath.inv S) (CrcMath.nat l1):Nat):Int)=((CrcMath.more S l1:Nat):Int):=inv32_nat _ (CrcMath.run_lt hl (CrcMath.nat_byte (okB_iff.1 hb)))
      go_wp2
      go_ret
      exact ⟨rfl,Drawn0.refl _⟩
theorem crc_Sum.calls (A0:Option Addr) (c0:Nat) (l0:List Int) (r:Int) (w:World) (hr0:Kd.C (Kd.int .u8) w A0 l0.length l0) (hc0:l0.length≤c0) (hT:TabQ w) (h:crc_Sum.f l0=some r) :
    Calls Tryz.prog 96 #[.slice A0 l0.length c0] w fun e w' => e = .returned (.int .u32 r)∧Drawn0 w w':=by
  have hm:crc_More.f 0 l0=some r:=by
    unfold crc_Sum.f at h
    unfold crc_More.f
    split at h
    · rename_i hb
      rw [if_pos ⟨hb,by omega,by omega⟩]
      exact h
    · cases h
  have HR:=Aside0.mk hr0
  have HM:=Aside0.mk hm
  have HC:=Aside0.mk hc0
  clear hr0 hm hc0 h
  go_enter Tryz.func96,Tryz.ntmps96
  go_wp2_with fail
  refine (crc_More.calls _ _ _ _ _ _ HR.out HC.out hT HM.out).mono ?_
  rintro e w1 ⟨rfl,⟨n1,rfl⟩⟩
  go_wp2
  go_ret
  exact ⟨rfl,⟨n1,rfl⟩⟩
theorem crc_Sum.calls_at {n:Nat} (A0:Option Addr) (c0:Nat) (l0:List Int) (r:Int) (w:World) (hn:l0.length=n) (hr0:Kd.C (Kd.int .u8) w A0 n l0) (hc0:n≤c0) (hT:TabQ w) (h:crc_Sum.f l0=some r) :
    Calls Tryz.prog 96 #[.slice A0 n c0] w fun e w' => e = .returned (.int .u32 r)∧Drawn0 w w':=by
  subst hn
  exact crc_Sum.calls A0 c0 l0 r w hr0 hc0 hT h
end Go.Proofs.YtcgbgifbajdhpaaGreatDoor.G
namespace Go.Proofs.YtcgbgifbajdhpaaGreatDoor.PA
open Go.RowKit Go.Proofs.YtcgbgifbajdhpaaGreatDoor.G Go.Proofs.YtcgbgifbajdhpaaGreatDoorW.PrintWords Go.Proofs.YtcgbgifbajdhpaaGreatDoorW.PrintLast Go.Proofs.YtcgbgifbajdhpaaGreatDoorW.PrintMore
theorem add_block (a:Addr) (k:Nat):(a.add k).block=a.block:=by unfold Addr.add;split <;> rfl
theorem cutB2 (A:Option Addr) (c:Nat) (xs:List Int) (m:Nat) (hm:m≤xs.length) (hc:xs.length≤c) :
    ∃ (A':Option Addr) (c':Nat) (r:List Int),Aside0 (r=xs.drop m)∧Aside0 (∀ w:World,Kd.C (Kd.int .u8) w A xs.length xs→Kd.C (Kd.int .u8) w A' r.length r)∧r.length≤c'∧Aside0 (∀ a',A'=some a'→∃ a,A=some a∧a'.block=a.block) ∧
      ∀ i:Int,i=(m:Int)→∀ W:World,(Instr.slice 24 (.slice A xs.length c) (some (.int .i64 i)) none none).run Tryz.prog W = .ok (.slice A' r.length c') W:=by
  obtain ⟨i0,hi,hsz⟩:=infoN5
  refine ⟨if c=m then A else A.map (·.add (m*(Kd.int .u8).sz)),c - m,xs.drop m,⟨rfl⟩,⟨fun w h => Kd.C_drop h hm hc⟩,by rw [List.length_drop];omega,⟨fun a' h => ?_⟩,fun i hi' W => ?_⟩
  · split at h
    · exact ⟨a',h,rfl⟩
    · obtain ⟨a,ha,rfl⟩:=Option.map_eq_some_iff.1 h
      exact ⟨a,ha,add_block a _⟩
  · subst hi'
    have hu:=Tryz.underlying24
    have hel:Tryz.prog.elem 24=5:=by simp [Program.elem,hu]
    have hu':Tryz.prog.underlying 24=some (.slice (Tryz.prog.elem 24)):=by rw [hel];exact hu
    rw [run_slice_l W 24 A xs.length c hu' .i64 (m:Int) (by omega) (by omega),hel]
    simp only [sizeOf,typeInfo,Sem.run_bind,hi,sliced,Result.andThen,hsz,Int.toNat_natCast,List.length_drop]
    cases A <;> simp [go_sem,hi,hsz,Kd.int,Kd.scalar]
theorem CloneB.calls (A0:Option Addr) (c0:Nat) (l0:List Int) (n:Nat) (w:World) (hn:l0.length=n) (hr0:Kd.C (Kd.int .u8) w A0 l0.length l0) (hc0:l0.length≤c0) (hlen:l0.length≤1000000) :
    Calls Tryz.prog 16 #[.slice A0 n c0] w fun e w' => ∃ v0_:Value,e = .returned (v0_)∧Kd.R (Kd.int .u8) 5 w' w.heap.size (fun _ => True) v0_ l0∧Below w.heap.size w w':=by
  subst hn
  have HR:=Aside0.mk hr0
  have HL:=Aside0.mk hlen
  have hnil:=fun W n c => Lib.run_eql_slice_nil (P:=Tryz.prog) W 24 5 A0 n c 0 0 Tryz.underlying24
  clear hr0 hc0 hlen
  cases A0 with
  | none =>
    have h0:l0=[]:=by
      rcases Nat.eq_zero_or_pos l0.length with h0 | h0
      · exact List.eq_nil_of_length_eq_zero h0
      · obtain ⟨ad,e,_⟩:=HR.out.2.2 h0
        cases e
    subst h0
    go_enter Tryz.func16,Tryz.ntmps16
    go_wp2
    go_ret
    exact ⟨_,rfl,Kd.R_nil _ _ _ _ _,Below.refl _ _⟩
  | some ad =>
    go_enter Tryz.func16,Tryz.ntmps16
    have hE:=Aside0.mk (R_empty (Kd.int .u8) 5 w.heap.size w (fun _ => True) (Nat.le_refl _) trivial)
    go_wp2_with ((with_reducible refine gate_dst (N:=7) rfl ?_);refine Kd.R_append_row (Value.int .u8) 0 (h1:=fun _ => rfl) w.heap.size rfl (.tmp 5) (.tmp 6) 24 5 (.int .u8 0) 1 rfl Tryz.underlying24 infoU8 rfl (by decide) _ [] l0 (some ad) l0.length c0 (fun _ => True) rfl rfl (fun _ _ => trivial) hE.out (Kd.C_below HR.out (below_alloc (Below.refl _ _) _)) (below_alloc (Below.refl _ _) _) ?hb ?hl ?_;(case hb => simp);(case hl => (have:=HL.out;simp;omega));intro v1 w1 hR1 hB1 hg_ ho_;rw [List.nil_append] at hR1;have HR1:=Aside0.mk hR1;have HB1:=Aside0.mk hB1;clear hR1 hB1 hg_ ho_)
    go_ret
    exact ⟨_,rfl,HR1.out,HB1.out⟩
end Go.Proofs.YtcgbgifbajdhpaaGreatDoor.PA
namespace Go.Proofs.YtcgbgifbajdhpaaGreatDoor.PA
open Go.RowKit Go.Proofs.YtcgbgifbajdhpaaGreatDoorW.PrintWords Go.Proofs.YtcgbgifbajdhpaaGreatDoorW.PrintLast Go.Proofs.YtcgbgifbajdhpaaGreatDoorW.PrintMore
attribute [local go_sem] max2_int min2_int max_two min_two max_three min_three max_four min_four   -- for this text's walks alone
def dump_magic.f  : Option (List Int):=some (([208,215]:List Int))
theorem dump_magic.calls  (r:List Int) (w:World) (h:dump_magic.f  = some r) :
    Calls Tryz.prog 95 #[] w fun e w' => ∃ v0_:Value,e = .returned (v0_)∧Kd.R (Kd.int .u8) 5 w' w.heap.size (fun _ => True) v0_ r∧Below w.heap.size w w':=by
  have HB:=Aside0.mk (Below.refl w.heap.size w)
  have H:(some (([208,215]:List Int)))=some r:=h
  clear h
  obtain ⟨y161,hy161⟩:∃ y_:List Int,y_=(([208,215]:List Int)):=⟨_,rfl⟩
  replace H:(some y161)=some r:=by first | (rw [hy161];with_reducible exact H) | (have H2_:=(Option.bind_some _ _).symm.trans H;rw [hy161];with_reducible exact H2_) | (have H2_:=(Option.bind_some _ _).symm.trans H;with_reducible exact H2_) | with_reducible exact H | (rw [hy161];exact H) | exact H
  have Ny161:=Aside0.mk hy161
  clear hy161
  obtain rfl:=Option.some.inj H
  go_enter Tryz.func95,Tryz.ntmps95
  go_wp2_with (first | ((with_reducible refine gate_dst (N:=1) rfl ?_);refine Kd.R_lit (Kd.int .u8) _ 5 ?hg (N:=1) ?hd (xs:=([208,215]:List Int)) (inner:=[.int .u8 208,.int .u8 215]) (ok:=fun _ => True) (okp:=fun _ => True) ?hr ?hp (fun _ hk => hk) trivial (Below.refl _ _) (Nat.le_refl _) (by simp) ?_;(case hd => rfl);(case hg => rfl);(case hr => first | (go_simp;done) | (go_simp;rfl));(case hp => exact (Reps.one (show Kd.M (Kd.int .u8) _ _ _ 208 [.int .u8 208] from rfl) (Reps.one (show Kd.M (Kd.int .u8) _ _ _ 215 [.int .u8 215] from rfl) (Reps.none _ _))));intro v162 w1 ho2 hb hg_ hnew_;clear hg_ hnew_;(first | rw [← Ny161.out] at ho2 | (simp only [Int.reduceToNat] at ho2;rw [← Ny161.out] at ho2));have n0_:=Aside0.mk (Kd.R_lower ho2 (below_size (by repeat (first | (with_reducible first | exact HB.out | apply below_alloc | apply pw_below_drewN | apply below_drew1) | exact HB.out))));have n1_:=Aside0.mk (below_step (by repeat (first | (with_reducible first | exact HB.out | apply below_alloc | apply pw_below_drewN | apply below_drew1) | exact HB.out)) hb);clear HB;have HO163:=n0_;have HB:=n1_;clear n0_ n1_;clear hb ho2))
  go_ret
  exact ⟨_,by first | rfl | (simp [errW_none,errW_some] <;> rfl) | (simp [*,errW_none,errW_some] <;> rfl),by (with_reducible repeat (first | apply Kd.R_alloc | apply Kd.R_drewN | apply Kd.R_drew));exact HO163.out,by repeat (first | (with_reducible first | exact HB.out | apply below_alloc | apply pw_below_drewN | apply below_drew1) | exact HB.out)⟩
end Go.Proofs.YtcgbgifbajdhpaaGreatDoor.PA
namespace Go.Proofs.YtcgbgifbajdhpaaGreatDoor.PA
open Go.RowKit Go.Proofs.YtcgbgifbajdhpaaGreatDoor.G Go.Proofs.YtcgbgifbajdhpaaGreatDoorW.PrintWords Go.Proofs.YtcgbgifbajdhpaaGreatDoorW.PrintLast Go.Proofs.YtcgbgifbajdhpaaGreatDoorW.PrintMore
theorem cellI {w:World} {A:Option Addr} {n:Nat} {xs:List Int} (h:Kd.C (Kd.int .u8) w A n xs) (i:Nat) (hi:i<n):∃ ad,A=some ad∧w.cell? (ad.add i)=some (.int .u8 (rd xs i)):=by
  obtain ⟨ad,c,e,hl,hK,hc⟩:=Kd.C_get h (0:Int) (i:Int) (by omega) (by omega)
  refine ⟨ad,e,?_⟩
  have hK':c=[.int .u8 (xs.getD (i:Int).toNat 0)]:=hK
  have h1:=hc 0 (.int .u8 (xs.getD (i:Int).toNat 0)) (by rw [hK'];rfl)
  rw [Int.toNat_natCast,show (Kd.int .u8).sz=1 from rfl,Nat.mul_one,Nat.add_zero] at h1
  rw [h1]
  simp [rd]
def pre2 (b:List Int):Bool:=decide (rd b 0=208∧rd b 1=215)
theorem pre2_take {b:List Int} (h:2≤b.length):decide (b.take 2=[208,215])=pre2 b:=by
  match b,h with
  | x :: y :: b,_ => simp [pre2,rd]
theorem hasPrefix.calls (A:Option Addr) (c n:Nat) (b:List Int) (A1:Option Addr) (c1:Nat) (w:World) (hn:b.length=n) (hr:Kd.C (Kd.int .u8) w A n b) (hc:n≤c) (hok:okB b=true) (h2:2≤n) (hr1:Kd.C (Kd.int .u8) w A1 2 [208,215]) (hc1:2≤c1) :
    Calls Tryz.prog 115 #[.slice A n c,.slice A1 2 c1] w fun e w' => e = .returned (.bool (pre2 b))∧Below w.heap.size w w':=by
  subst hn
  have EQ:=Aside0.mk (bytes_Equal.calls A c (b.take 2) A1 c1 [208,215] (pre2 b) w (Kd.C_take hr h2) (by rw [List.length_take];omega) hr1 hc1 (by
    rw [bytes_Equal.f,if_pos ⟨okB_sub hok (fun x hx => List.mem_of_mem_take hx),by decide⟩,pre2_take h2]))
  rw [show (b.take 2).length=2 by rw [List.length_take];omega,show ([208,215]:List Int).length=2 from rfl] at EQ
  have hge:((b.length:Int) ≥ 2):=by omega
  clear hr hok hr1
  go_enter Tryz.func115,Tryz.ntmps115
  go_wp2_with (first | (go_at_call 38;(with_reducible refine EQ.out.mono ?_);rintro e w1 ⟨rfl,hb⟩;have HB1:=Aside0.mk hb.below;clear hb))
  go_ret
  exact ⟨rfl,HB1.out⟩
theorem fieldB.calls (A:Option Addr) (c n:Nat) (b:List Int) (p k:Nat) (w:World) (hn:b.length=n) (hr:Kd.C (Kd.int .u8) w A n b) (hc:n≤c) (hok:okB b=true) (hk:1≤k∧k≤4) (hp:p+k≤n) (hlen:n≤1000000000) :
    Calls Tryz.prog 116 #[.slice A n c,.int .i64 p,.int .i64 k] w fun e w' => e = .returned (.int .i64 (beV 0 ((b.drop p).take k):Nat))∧Below w.heap.size w w':=by
  subst hn
  obtain ⟨A2,c2,r,hr2,HC2,hc2,hmid'⟩:=midB A c b p (p+k) (by omega) hp hc
  have hmid:=hmid' (p:Int) ((p:Int)+(k:Int)) rfl (by omega)
  have hrr:r=(b.drop p).take k:=by rw [hr2.out,List.drop_take];congr 1;omega
  have hrl:r.length=k:=by rw [hrr,List.length_take,List.length_drop];omega
  have hro:okB r=true:=okB_sub hok (fun x hx => by rw [hrr] at hx;exact List.mem_of_mem_drop (List.mem_of_mem_take hx))
  have hlt:beV 0 r<4294967296:=by
    have h1:=beV_lt r (okB_iff.1 hro) 0 0 (by decide)
    rw [Nat.zero_add,hrl] at h1
    exact Nat.lt_of_lt_of_le h1 (by have:=Nat.pow_le_pow_right (show 0<256 by decide) hk.2;simpa using this)
  have GET:Aside0 (Calls Tryz.prog 63 #[.slice A2 r.length c2] w fun e w' => e = .returned (.tuple #[.int .u64 ((beV 0 r:Nat):Int),.bool true])∧Drawn0 w w'):=⟨crc_Get.calls A2 c2 r ((beV 0 r:Nat):Int) true w (HC2.out w hr) hc2 (by rw [crc_Get.f,if_pos hro,if_pos (by omega)])⟩
  have hsum:IntKind.i64.wrap ((p:Int)+(k:Int))=(p:Int)+(k:Int):=by rw [IntKind.wrap_i64];omega
  have hwv:IntKind.i64.wrap ((beV 0 r:Nat):Int)=((beV 0 r:Nat):Int):=by rw [IntKind.wrap_i64];omega
  rw [← hrr]
  clear hr hok hmid' HC2 hr2 hrr hro
  generalize beV 0 r=V at *
  go_enter Tryz.func116,Tryz.ntmps116
  rw [hrl] at GET
  go_wp2_with (first | (go_at_call 63;(with_reducible refine GET.out.mono ?_);rintro e w1 ⟨rfl,hb⟩;have HB1:=Aside0.mk hb.below;clear hb))
  go_ret
  exact ⟨rfl,HB1.out⟩
theorem beg_res (tmps:Array Value) (W:World) (r:Nat) (x0 x1 x2:Value) (h:W.heap[r]? = some (.cells #[x0,x1,x2] 80 (0,0))) (h2:tmps.getD 2 undef = .pointer (some ⟨r,0,none⟩)) :
    (results Tryz.f79 tmps).run Tryz.prog W = .ok (.tuple #[.agg #[x0,x1,x2],tmps.getD 3 undef]) W:=by
  have c0:=(blk_cell h 0).trans rfl
  have c1:=(blk_cell h 1).trans rfl
  have c2:=(blk_cell h 2).trans rfl
  simp at h2
  simp [results,Tryz.f79,go_sem,h2,c0,c1,c2]
def BegPost (w:World) (b:List Int) (e:Ending) (w':World):Prop:=∃ (k n:Nat) (v:Value) (p:List Int) (m:Nat),e = .returned (.tuple #[.agg #[.int .i64 k,.int .i64 n,v],.int .i64 m])∧Kd.R (Kd.int .u8) 5 w' w.heap.size (fun _ => True) v p∧Below w.heap.size w w'∧(begB b=none∧m=0∨begB b=some ⟨k,n,p⟩∧m=13+p.length)
theorem BegPost.none_ {w W:World} {b:List Int} (h:begB b=none) (hb:Below w.heap.size w W):BegPost w b (.returned (.tuple #[.agg #[.int .i64 0,.int .i64 0,.slice none 0 0],.int .i64 0])) W :=
  ⟨0,0,_,[],0,rfl,Kd.R_nil _ _ _ _ _,hb,.inl ⟨h,rfl⟩⟩
theorem below_set3 {w W:World} {x0 x1 x2:Value} (hb:Below w.heap.size w W):Below w.heap.size w (((W.setCell ⟨w.heap.size,0,none⟩ x0).setCell ⟨w.heap.size,1,none⟩ x1).setCell ⟨w.heap.size,2,none⟩ x2) :=
  ((hb.setCell (p:=⟨w.heap.size,0,none⟩) (Nat.le_refl _) _).setCell (p:=⟨w.heap.size,1,none⟩) (Nat.le_refl _) _).setCell (p:=⟨w.heap.size,2,none⟩) (Nat.le_refl _) _
theorem blk_put3 {w:World} {g t:Nat} {o0 o1 o2:Value} (h:w.heap[g]? = some (.cells #[o0,o1,o2] t (0,0))) (x0 x1 x2:Value):(((w.setCell ⟨g,0,none⟩ x0).setCell ⟨g,1,none⟩ x1).setCell ⟨g,2,none⟩ x2).heap[g]? = some (.cells #[x0,x1,x2] t (0,0)) :=
  blk_put (blk_put (blk_put h 0 _ rfl) 1 _ rfl) 2 _ rfl
def BS (w W:World):Prop:=Below w.heap.size w W∧∃ x0 x1 x2:Value,W.heap[w.heap.size]? = some (.cells #[x0,x1,x2] 80 (0,0))
theorem BS.stab {w:World} (W W':World) (h:BS w W) (hb:Below W.heap.size W W'):BS w W':=by
  obtain ⟨h1,x0,x1,x2,h2⟩:=h
  exact ⟨below_step h1 hb,x0,x1,x2,blk_below h2 hb⟩
theorem BS.lt {w W:World} (h:BS w W):w.heap.size+1≤W.heap.size:=by
  obtain ⟨h1,x0,x1,x2,h2⟩:=h
  exact blk_lt h2
theorem R_set3 {w W:World} {v x0 x1 x2:Value} {xs:List Int} (h:Kd.R (Kd.int .u8) 5 W (w.heap.size+1) (fun _ => True) v xs):Kd.R (Kd.int .u8) 5 (((W.setCell ⟨w.heap.size,0,none⟩ x0).setCell ⟨w.heap.size,1,none⟩ x1).setCell ⟨w.heap.size,2,none⟩ x2) (w.heap.size+1) (fun k => True∧w.heap.size+1≤k∧k<W.heap.size∧True) v xs:=by
  have h1:=Kd.R_mono (ok':=fun k => True∧w.heap.size+1≤k∧k<W.heap.size∧True) (Kd.R_bound h) (fun k hk => ⟨trivial,hk.2.1,hk.2.2.1,trivial⟩)
  have hok:∀ k,(True∧w.heap.size+1≤k∧k<W.heap.size∧True)→k ≠ w.heap.size:=fun k hk => by have:=hk.2.1;omega
  exact Kd.R_far (Kd.R_far (Kd.R_far h1 (p:=⟨w.heap.size,0,none⟩) hok _) (p:=⟨w.heap.size,1,none⟩) hok _) (p:=⟨w.heap.size,2,none⟩) hok _
def begVal (B nm:Nat) (p:List Int):Nat→Value→World→Prop
  | 0,v,_ => v = .int .i64 nm
  | _+1,v,W => Kd.R (Kd.int .u8) 5 W B (fun _ => True) v p
theorem begVal_mono {B nm:Nat} {p:List Int}:∀ (i:Nat) (v:Value) (W W':World),begVal B nm p i v W→Below W.heap.size W W'→begVal B nm p i v W'
  | 0,_,_,_,h,_ => h
  | _+1,_,_,_,h,hb => Kd.R_below h hb
theorem begins.calls (A:Option Addr) (c n:Nat) (b:List Int) (w:World) (hn:b.length=n) (hr:Kd.C (Kd.int .u8) w A n b) (hc:n≤c) (hok:okB b=true) (hlen:n≤1000000000) (hT:TabQ w) :
    Calls Tryz.prog 79 #[.slice A n c] w (BegPost w b):=by
  have HN:=Aside0.mk hn
  have HR:=Aside0.mk hr
  have HOK:=Aside0.mk hok
  have HT:=Aside0.mk hT
  have HX:=Aside0.mk (blk_new w (.cells #[.int .i64 0,.int .i64 0,.slice none 0 0] 80 (0,0)))
  have HBA:=Aside0.mk (below_alloc (Below.refl w.heap.size w) (.cells #[.int .i64 0,.int .i64 0,.slice none 0 0] 80 (0,0)))
  by_cases h13:n<13
  · have HE:Aside0 (begB b=none):=⟨by rw [begB,if_pos (by omega)]⟩
    have h13i:((n:Int)<13):=by omega
    clear hr hok hT h13 hn
    go_enter Tryz.func79,Tryz.ntmps79
    go_wp2_with fail
    refine bodyPost_ret (beg_res _ _ w.heap.size _ _ _ HX.out rfl) rfl ?_
    exact BegPost.none_ HE.out HBA.out
  · have h13i : ¬ ((n : Int) < 13) := by omega
    obtain ⟨ad,hA,hc2⟩:=cellI hr 2 (by omega)
    subst hA
    have HC2:=Aside0.mk (show w.cell? ⟨ad.block,ad.off+2,none⟩=some (.int .u8 (rd b 2)) from hc2)
    have hb2:0≤rd b 2∧rd b 2<256:=okB_iff.1 hok _ (rd_mem b 2 (by omega))
    have hbi:=hb2.1
    have hbj:=hb2.2
    obtain ⟨pr,hpr⟩:∃ pr,pre2 b=pr:=⟨_,rfl⟩
    have HPRE:=Aside0.mk hpr
    have hn2:(2:Int)<(n:Int):=by omega
    cases pr with
    | false =>
      have HE:Aside0 (begB b=none):=⟨by
        rw [begB,if_neg (by omega),if_pos]
        have:=of_decide_eq_false hpr
        omega⟩
      clear hr hok hT hn hb2 hpr hc2
      go_enter Tryz.func79,Tryz.ntmps79
      go_wp2_with (first | (go_at_call 95;(with_reducible refine (dump_magic.calls [208,215] _ rfl).mono ?_);rintro e w2 ⟨v2,rfl,hr2,hb⟩;obtain ⟨A2,c2,hv2⟩:=Kd.R_slice hr2;replace hv2:v2 = .slice A2 2 c2:=hv2;subst hv2;have HM2:Aside0 (2≤c2∧Kd.C (Kd.int .u8) w2 A2 2 [208,215]):=⟨⟨(Kd.R_reads' hr2).2.1,(Kd.R_reads' hr2).2.2⟩⟩;have HB2:=Aside0.mk (below_step HBA.out hb);have HX2:=Aside0.mk (blk_below HX.out hb);clear hr2 hb) | (go_at_call 115;(with_reducible refine (hasPrefix.calls _ c n b A2 c2 _ HN.out (Kd.C_below HR.out HB2.out) hc HOK.out (by omega) HM2.out.2 HM2.out.1).mono ?_);rintro e w3 ⟨rfl,hb⟩;rw [HPRE.out];have HB3:=Aside0.mk (below_step HB2.out hb);have HX3:=Aside0.mk (blk_below HX2.out hb);have e2:=pw_cell_below HB3.out HC2.out;have q0:=(blk_cell HX3.out 0).trans rfl;have q1:=(blk_cell HX3.out 1).trans rfl;have q2:=(blk_cell HX3.out 2).trans rfl;have y0:=blk_frozen HX3.out 0;have y1:=blk_frozen HX3.out 1;have y2:=blk_frozen HX3.out 2;clear hb))
      refine bodyPost_ret (beg_res _ _ w.heap.size _ _ _ (blk_put3 HX3.out _ _ _) rfl) rfl ?_
      exact BegPost.none_ HE.out (below_set3 HB3.out)
    | true =>
      have hp01:rd b 0=208∧rd b 1=215:=of_decide_eq_true hpr
      by_cases hk1:rd b 2<1
      · have HE:Aside0 (begB b=none):=⟨by
          rw [begB,if_neg (by omega),if_pos (by omega)]⟩
        clear hr hok hT hn hb2 hpr hc2 hp01
        generalize rd b 2=k2 at *
        go_enter Tryz.func79,Tryz.ntmps79
        go_wp2_with (first | (go_at_call 95;(with_reducible refine (dump_magic.calls [208,215] _ rfl).mono ?_);rintro e w2 ⟨v2,rfl,hr2,hb⟩;obtain ⟨A2,c2,hv2⟩:=Kd.R_slice hr2;replace hv2:v2 = .slice A2 2 c2:=hv2;subst hv2;have HM2:Aside0 (2≤c2∧Kd.C (Kd.int .u8) w2 A2 2 [208,215]):=⟨⟨(Kd.R_reads' hr2).2.1,(Kd.R_reads' hr2).2.2⟩⟩;have HB2:=Aside0.mk (below_step HBA.out hb);have HX2:=Aside0.mk (blk_below HX.out hb);clear hr2 hb) | (go_at_call 115;(with_reducible refine (hasPrefix.calls _ c n b A2 c2 _ HN.out (Kd.C_below HR.out HB2.out) hc HOK.out (by omega) HM2.out.2 HM2.out.1).mono ?_);rintro e w3 ⟨rfl,hb⟩;rw [HPRE.out];have HB3:=Aside0.mk (below_step HB2.out hb);have HX3:=Aside0.mk (blk_below HX2.out hb);have e2:=pw_cell_below HB3.out HC2.out;have q0:=(blk_cell HX3.out 0).trans rfl;have q1:=(blk_cell HX3.out 1).trans rfl;have q2:=(blk_cell HX3.out 2).trans rfl;have y0:=blk_frozen HX3.out 0;have y1:=blk_frozen HX3.out 1;have y2:=blk_frozen HX3.out 2;clear hb))
        refine bodyPost_ret (beg_res _ _ w.heap.size _ _ _ (blk_put3 HX3.out _ _ _) rfl) rfl ?_
        exact BegPost.none_ HE.out (below_set3 HB3.out)
      · by_cases hk3:3<rd b 2
        · have HE:Aside0 (begB b=none):=⟨by
            rw [begB,if_neg (by omega),if_pos (by omega)]⟩
          have hk1':¬ (rd b 2<1):=hk1
          clear hr hok hT hn hb2 hpr hc2 hp01
          generalize rd b 2=k2 at *
          go_enter Tryz.func79,Tryz.ntmps79
          go_wp2_with (first | (go_at_call 95;(with_reducible refine (dump_magic.calls [208,215] _ rfl).mono ?_);rintro e w2 ⟨v2,rfl,hr2,hb⟩;obtain ⟨A2,c2,hv2⟩:=Kd.R_slice hr2;replace hv2:v2 = .slice A2 2 c2:=hv2;subst hv2;have HM2:Aside0 (2≤c2∧Kd.C (Kd.int .u8) w2 A2 2 [208,215]):=⟨⟨(Kd.R_reads' hr2).2.1,(Kd.R_reads' hr2).2.2⟩⟩;have HB2:=Aside0.mk (below_step HBA.out hb);have HX2:=Aside0.mk (blk_below HX.out hb);clear hr2 hb) | (go_at_call 115;(with_reducible refine (hasPrefix.calls _ c n b A2 c2 _ HN.out (Kd.C_below HR.out HB2.out) hc HOK.out (by omega) HM2.out.2 HM2.out.1).mono ?_);rintro e w3 ⟨rfl,hb⟩;rw [HPRE.out];have HB3:=Aside0.mk (below_step HB2.out hb);have HX3:=Aside0.mk (blk_below HX2.out hb);have e2:=pw_cell_below HB3.out HC2.out;have q0:=(blk_cell HX3.out 0).trans rfl;have q1:=(blk_cell HX3.out 1).trans rfl;have q2:=(blk_cell HX3.out 2).trans rfl;have y0:=blk_frozen HX3.out 0;have y1:=blk_frozen HX3.out 1;have y2:=blk_frozen HX3.out 2;clear hb))
          refine bodyPost_ret (beg_res _ _ w.heap.size _ _ _ (blk_put3 HX3.out _ _ _) rfl) rfl ?_
          exact BegPost.none_ HE.out (below_set3 HB3.out)
        · have hk13 : ¬ (rd b 2 < 1) ∧ ¬ (rd b 2 > 3) := ⟨hk1, by omega⟩
          obtain ⟨kd,hkd⟩:∃ kd:Nat,rd b 2=(kd:Int):=⟨(rd b 2).toNat,by omega⟩
          obtain ⟨s,hs⟩:∃ s,beV 0 ((b.drop 7).take 2)=s:=⟨_,rfl⟩
          have hs16:s<65536:=by
            have h1:=beV_lt ((b.drop 7).take 2) (fun x hx => okB_iff.1 hok x (List.mem_of_mem_drop (List.mem_of_mem_take hx))) 0 0 (by decide)
            rw [hs,Nat.zero_add,show ((b.drop 7).take 2).length=2 by rw [List.length_take,List.length_drop];omega] at h1
            exact h1
          have F7:Aside0 (∀ W,Below w.heap.size w W→Calls Tryz.prog 116 #[.slice (some ad) n c,.int .i64 7,.int .i64 2] W fun e w' => e = .returned (.int .i64 (s:Nat))∧Below W.heap.size W w'):=⟨fun W hb => by
            have h1:=fieldB.calls (some ad) c n b 7 2 W hn (Kd.C_below hr hb) hc hok (by decide) (by omega) hlen
            rw [hs] at h1
            exact h1⟩
          have h3a:=hk13.1
          have h3b:=hk13.2
          have hend:IntKind.i64.wrap (9+(s:Int))=9+(s:Int):=by rw [IntKind.wrap_i64];omega
          have hend4:IntKind.i64.wrap (9+(s:Int)+4)=9+(s:Int)+4:=by rw [IntKind.wrap_i64];omega
          by_cases hs1:1000<s
          · have HE:Aside0 (begB b=none):=⟨by rw [begB,if_neg (by omega),if_neg (by omega),hs,if_pos (.inl hs1)]⟩
            have hsi:((s:Int) > 1000):=by omega
            rw [hkd] at HC2 h3a h3b hbi hbj
            clear hr hok hT hn hb2 hpr hc2 hp01 hk1 hk3 hk13 hkd hs
            go_enter Tryz.func79,Tryz.ntmps79
            go_wp2_with (first | (go_at_call 95;(with_reducible refine (dump_magic.calls [208,215] _ rfl).mono ?_);rintro e w2 ⟨v2,rfl,hr2,hb⟩;obtain ⟨A2,c2,hv2⟩:=Kd.R_slice hr2;replace hv2:v2 = .slice A2 2 c2:=hv2;subst hv2;have HM2:Aside0 (2≤c2∧Kd.C (Kd.int .u8) w2 A2 2 [208,215]):=⟨⟨(Kd.R_reads' hr2).2.1,(Kd.R_reads' hr2).2.2⟩⟩;have HB2:=Aside0.mk (below_step HBA.out hb);have HX2:=Aside0.mk (blk_below HX.out hb);clear hr2 hb) | (go_at_call 115;(with_reducible refine (hasPrefix.calls _ c n b A2 c2 _ HN.out (Kd.C_below HR.out HB2.out) hc HOK.out (by omega) HM2.out.2 HM2.out.1).mono ?_);rintro e w3 ⟨rfl,hb⟩;rw [HPRE.out];have HB3:=Aside0.mk (below_step HB2.out hb);have HX3:=Aside0.mk (blk_below HX2.out hb);have e2:=pw_cell_below HB3.out HC2.out;clear hb) | (go_at_call 116;(with_reducible refine (F7.out _ HB3.out).mono ?_);rintro e w5 ⟨rfl,hb⟩;have HB5:=Aside0.mk (below_step HB3.out hb);have HX5:=Aside0.mk (blk_below HX3.out hb);have q0:=(blk_cell HX5.out 0).trans rfl;have q1:=(blk_cell HX5.out 1).trans rfl;have q2:=(blk_cell HX5.out 2).trans rfl;have y0:=blk_frozen HX5.out 0;have y1:=blk_frozen HX5.out 1;have y2:=blk_frozen HX5.out 2;clear hb))
            refine bodyPost_ret (beg_res _ _ w.heap.size _ _ _ (blk_put3 HX5.out _ _ _) rfl) rfl ?_
            exact BegPost.none_ HE.out (below_set3 HB5.out)
          · have hsi:¬ ((s:Int) > 1000):=by omega
            by_cases hln:n<13+s
            · have HE:Aside0 (begB b=none):=⟨by rw [begB,if_neg (by omega),if_neg (by omega),hs,if_pos (.inr (by omega))]⟩
              have hli:((n:Int)<9+(s:Int)+4):=by omega
              rw [hkd] at HC2 h3a h3b hbi hbj
              clear hr hok hT hn hb2 hpr hc2 hp01 hk1 hk3 hk13 hkd hs
              go_enter Tryz.func79,Tryz.ntmps79
              go_wp2_with (first | (go_at_call 95;(with_reducible refine (dump_magic.calls [208,215] _ rfl).mono ?_);rintro e w2 ⟨v2,rfl,hr2,hb⟩;obtain ⟨A2,c2,hv2⟩:=Kd.R_slice hr2;replace hv2:v2 = .slice A2 2 c2:=hv2;subst hv2;have HM2:Aside0 (2≤c2∧Kd.C (Kd.int .u8) w2 A2 2 [208,215]):=⟨⟨(Kd.R_reads' hr2).2.1,(Kd.R_reads' hr2).2.2⟩⟩;have HB2:=Aside0.mk (below_step HBA.out hb);have HX2:=Aside0.mk (blk_below HX.out hb);clear hr2 hb) | (go_at_call 115;(with_reducible refine (hasPrefix.calls _ c n b A2 c2 _ HN.out (Kd.C_below HR.out HB2.out) hc HOK.out (by omega) HM2.out.2 HM2.out.1).mono ?_);rintro e w3 ⟨rfl,hb⟩;rw [HPRE.out];have HB3:=Aside0.mk (below_step HB2.out hb);have HX3:=Aside0.mk (blk_below HX2.out hb);have e2:=pw_cell_below HB3.out HC2.out;clear hb) | (go_at_call 116;(with_reducible refine (F7.out _ HB3.out).mono ?_);rintro e w5 ⟨rfl,hb⟩;have HB5:=Aside0.mk (below_step HB3.out hb);have HX5:=Aside0.mk (blk_below HX3.out hb);have q0:=(blk_cell HX5.out 0).trans rfl;have q1:=(blk_cell HX5.out 1).trans rfl;have q2:=(blk_cell HX5.out 2).trans rfl;have y0:=blk_frozen HX5.out 0;have y1:=blk_frozen HX5.out 1;have y2:=blk_frozen HX5.out 2;clear hb))
              refine bodyPost_ret (beg_res _ _ w.heap.size _ _ _ (blk_put3 HX5.out _ _ _) rfl) rfl ?_
              exact BegPost.none_ HE.out (below_set3 HB5.out)
            · have hli:¬ ((n:Int)<9+(s:Int)+4):=by omega
              obtain ⟨V,hV⟩:∃ V,beV 0 ((b.drop (9+s)).take 4)=V:=⟨_,rfl⟩
              have hV32:V<4294967296:=by
                have h1:=beV_lt ((b.drop (9+s)).take 4) (fun x hx => okB_iff.1 hok x (List.mem_of_mem_drop (List.mem_of_mem_take hx))) 0 0 (by decide)
                rw [hV,Nat.zero_add,show ((b.drop (9+s)).take 4).length=4 by rw [List.length_take,List.length_drop];omega] at h1
                exact h1
              have FE:Aside0 (∀ W,Below w.heap.size w W→Calls Tryz.prog 116 #[.slice (some ad) n c,.int .i64 (9+(s:Int)),.int .i64 4] W fun e w' => e = .returned (.int .i64 (V:Nat))∧Below W.heap.size W w'):=⟨fun W hb => by
                have h1:=fieldB.calls (some ad) c n b (9+s) 4 W hn (Kd.C_below hr hb) hc hok (by decide) (by omega) hlen
                rw [hV,show ((9+s:Nat):Int)=9+(s:Int) by omega] at h1
                exact h1⟩
              obtain ⟨S,hS⟩:∃ S,crcL (b.take (9+s))=S:=⟨_,rfl⟩
              have hto:okB (b.take (9+s))=true:=okB_sub hok (fun x hx => List.mem_of_mem_take hx)
              have htl:(b.take (9+s)).length=9+s:=by rw [List.length_take];omega
              have SUM:Aside0 (∀ W,Below w.heap.size w W→Calls Tryz.prog 96 #[.slice (some ad) (9+s) c] W fun e w' => e = .returned (.int .u32 (S:Nat))∧Below W.heap.size W w'):=⟨fun W hb => by
                have h1:=crc_Sum.calls_at (some ad) c (b.take (9+s)) (S:Nat) W htl (by have h2:=Kd.C_take (m:=9+s) (xs:=b) (by rw [hn];exact Kd.C_below hr hb) (by omega);rwa [htl] at h2) (by omega) (hT.below hb) (by rw [crc_Sum.f,if_pos hto,← hS];rfl)
                exact h1.mono fun e w' ⟨he,hd⟩ => ⟨he,hd.below⟩⟩
              obtain ⟨i05,hi05,_,hsz5,_⟩:=info_parts infoU8
              have hcutE:∀ W:World,(Instr.slice 24 (.slice (some ad) n c) none (some (.int .i64 (9+(s:Int)))) none).run Tryz.prog W = .ok (.slice (some ad) (9+s) c) W:=fun W => by
                have h1:=cut_to (P:=Tryz.prog) 24 5 .i64 Tryz.underlying24 hi05 (some ad) n c (9+(s:Int)) (by omega) (by omega) hc W
                rwa [show (9+(s:Int)).toNat=9+s by omega] at h1
              have hu32:IntKind.u32.wrap (V:Int)=(V:Int):=by simp [IntKind.wrap,IntKind.bits,IntKind.signed];omega
              by_cases hSV:S=V
              · obtain ⟨nm,hnm⟩:∃ nm,beV 0 ((b.drop 3).take 4)=nm:=⟨_,rfl⟩
                obtain ⟨pay,hpay⟩:∃ pay,(b.take (9+s)).drop 9=pay:=⟨_,rfl⟩
                have hpl:pay.length=s:=by rw [← hpay,List.length_drop,htl];omega
                have HE:Aside0 (begB b=some ⟨kd,nm,pay⟩):=⟨by rw [begB,if_neg (by omega),if_neg (by omega),hs,if_neg (by omega),hS,hV,if_neg (by omega),hnm,hpay,hkd,Int.toNat_natCast]⟩
                have F3:Aside0 (∀ W,Below w.heap.size w W→Calls Tryz.prog 116 #[.slice (some ad) n c,.int .i64 3,.int .i64 4] W fun e w' => e = .returned (.int .i64 (nm:Nat))∧Below W.heap.size W w'):=⟨fun W hb => by
                  have h1:=fieldB.calls (some ad) c n b 3 4 W hn (Kd.C_below hr hb) hc hok (by decide) (by omega) hlen
                  rw [hnm] at h1
                  exact h1⟩
                obtain ⟨A3,c3,r3,hr3,HC3,hc3,hmid'⟩:=midB (some ad) c b 9 (9+s) (by omega) (by omega) (by omega)
                have hmid:=hmid' 9 (9+(s:Int)) rfl (by omega)
                rw [hn] at hmid
                have hr3':r3=pay:=by rw [hr3.out,hpay]
                subst hr3'
                have CLO:Aside0 (∀ W,Below w.heap.size w W→Calls Tryz.prog 16 #[.slice A3 r3.length c3] W fun e w' => ∃ v:Value,e = .returned v∧Kd.R (Kd.int .u8) 5 w' W.heap.size (fun _ => True) v r3∧Below W.heap.size W w'):=⟨fun W hb => (CloneB.calls A3 c3 r3 r3.length W rfl (HC3.out W (by rw [hn];exact Kd.C_below hr hb)) hc3 (by omega))⟩
                rw [hpl] at CLO
                have heq:((S:Int) != (V:Int))=false:=by simp;omega
                have hki:IntKind.i64.wrap (kd:Int)=(kd:Int):=by rw [IntKind.wrap_i64];omega
                rw [hkd] at HC2 h3a h3b hbi hbj
                clear hr hok hT hn hb2 hpr hc2 hp01 hk1 hk3 hk13 hkd hs hS hV hto htl hSV hi05 hsz5 hmid' hr3 HC3 hpay hnm
                go_enter Tryz.func79,Tryz.ntmps79
                go_wp2_with (first | (go_at_call 95;(with_reducible refine (dump_magic.calls [208,215] _ rfl).mono ?_);rintro e w2 ⟨v2,rfl,hr2,hb⟩;obtain ⟨A2,c2,hv2⟩:=Kd.R_slice hr2;replace hv2:v2 = .slice A2 2 c2:=hv2;subst hv2;have HM2:Aside0 (2≤c2∧Kd.C (Kd.int .u8) w2 A2 2 [208,215]):=⟨⟨(Kd.R_reads' hr2).2.1,(Kd.R_reads' hr2).2.2⟩⟩;have HB2:=Aside0.mk (below_step HBA.out hb);have HX2:=Aside0.mk (blk_below HX.out hb);clear hr2 hb) | (go_at_call 115;(with_reducible refine (hasPrefix.calls _ c n b A2 c2 _ HN.out (Kd.C_below HR.out HB2.out) hc HOK.out (by omega) HM2.out.2 HM2.out.1).mono ?_);rintro e w3 ⟨rfl,hb⟩;rw [HPRE.out];have HB3:=Aside0.mk (below_step HB2.out hb);have HX3:=Aside0.mk (blk_below HX2.out hb);have e2:=pw_cell_below HB3.out HC2.out;clear hb) | (go_at_call 116;(with_reducible refine (F7.out _ HB3.out).mono ?_);rintro e w5 ⟨rfl,hb⟩;have HB5:=Aside0.mk (below_step HB3.out hb);have HX5:=Aside0.mk (blk_below HX3.out hb);have q0:=(blk_cell HX5.out 0).trans rfl;have q1:=(blk_cell HX5.out 1).trans rfl;have q2:=(blk_cell HX5.out 2).trans rfl;have y0:=blk_frozen HX5.out 0;have y1:=blk_frozen HX5.out 1;have y2:=blk_frozen HX5.out 2;clear hb) | (go_at_call 96;(with_reducible refine (SUM.out _ HB5.out).mono ?_);rintro e w6 ⟨rfl,hb⟩;have HB6:=Aside0.mk (below_step HB5.out hb);have HX6:=Aside0.mk (blk_below HX5.out hb);clear hb q0 q1 q2 y0 y1 y2) | (go_at_call 116;(with_reducible refine (FE.out _ HB6.out).mono ?_);rintro e w7 ⟨rfl,hb⟩;have HB7:=Aside0.mk (below_step HB6.out hb);have HX7:=Aside0.mk (blk_below HX6.out hb);have q0:=(blk_cell HX7.out 0).trans rfl;have q1:=(blk_cell HX7.out 1).trans rfl;have q2:=(blk_cell HX7.out 2).trans rfl;have y0:=blk_frozen HX7.out 0;have y1:=blk_frozen HX7.out 1;have y2:=blk_frozen HX7.out 2;clear hb))
                clear q0 q1 q2 y0 y1 y2 HX3 HX5 HX6 HB3 HB5 HB6 SUM FE F7 hcutE
                have HC7:Aside0 (∀ W',BS w W'→W'.cell? ⟨ad.block,ad.off+2,none⟩=some (.int .u8 kd)):=⟨fun W' hb => pw_cell_below hb.1 HC2.out⟩
                have HS:Aside0 (BS w w7.drew):=⟨below_drew HB7.out,_,_,_,blk_drew HX7.out⟩
                refine wp_region_hd (by kernel_rfl) (GHead.start (n:=14) (S:=BS w) (by decide) ?_)
                refine GHead.take' (i:=0) (v:=?_) rfl rfl (by kernel_rfl) (fun _ _ _ h => by cases h.1) (Or.inl ⟨by rfl,?_⟩) HS.out ?_
                rotate_left
                · (intro W' hW';have c2_:=HC7.out W' hW';go_simp;try (with_reducible rfl))
                try simp only [List.setIfInBounds_toArray,List.set_cons_zero,List.set_cons_succ]
                refine GHead.take' (i:=1) (v:=?_) rfl rfl (by kernel_rfl) (fun _ _ _ h => by cases h.1) (Or.inl ⟨by rfl,?_⟩) HS.out ?_
                rotate_left
                · (intro W' hW';have c2_:=HC7.out W' hW';go_simp;try (with_reducible rfl))
                try simp only [List.setIfInBounds_toArray,List.set_cons_zero,List.set_cons_succ]
                refine GHead.take' (i:=2) (v:=?_) rfl rfl (by kernel_rfl) (fun _ _ _ h => by cases h.1) (Or.inl ⟨by rfl,?_⟩) HS.out ?_
                rotate_left
                · (intro W' hW';have c2_:=HC7.out W' hW';go_simp;try (with_reducible rfl))
                try simp only [List.setIfInBounds_toArray,List.set_cons_zero,List.set_cons_succ]
                refine GHead.take' (i:=3) (v:=?_) rfl rfl (by kernel_rfl) (fun _ _ _ h => by cases h.1) (Or.inl ⟨by rfl,?_⟩) HS.out ?_
                rotate_left
                · (intro W' hW';have c2_:=HC7.out W' hW';go_simp;try (with_reducible rfl))
                try simp only [List.setIfInBounds_toArray,List.set_cons_zero,List.set_cons_succ]
                refine GHead.take' (i:=4) (v:=?_) rfl rfl (by kernel_rfl) (fun _ _ _ h => by cases h.1) (Or.inl ⟨by rfl,?_⟩) HS.out ?_
                rotate_left
                · (intro W' hW';have c2_:=HC7.out W' hW';go_simp;try (with_reducible rfl))
                try simp only [List.setIfInBounds_toArray,List.set_cons_zero,List.set_cons_succ]
                refine GHead.take' (i:=6) (v:=?_) rfl rfl (by kernel_rfl) (fun _ _ _ h => by cases h.1) (Or.inl ⟨by rfl,?_⟩) HS.out ?_
                rotate_left
                · (intro W' hW';have c2_:=HC7.out W' hW';go_simp;try (with_reducible rfl))
                try simp only [List.setIfInBounds_toArray,List.set_cons_zero,List.set_cons_succ]
                refine GHead.take' (i:=7) (v:=?_) rfl rfl (by kernel_rfl) (fun _ _ _ h => by cases h.1) (Or.inl ⟨by rfl,?_⟩) HS.out ?_
                rotate_left
                · (intro W' hW';have c2_:=HC7.out W' hW';go_simp;try (with_reducible rfl))
                try simp only [List.setIfInBounds_toArray,List.set_cons_zero,List.set_cons_succ]
                refine GHead.take' (i:=8) (v:=?_) rfl rfl (by kernel_rfl) (fun _ _ _ h => by cases h.1) (Or.inl ⟨by rfl,?_⟩) HS.out ?_
                rotate_left
                · (intro W' hW';have c2_:=HC7.out W' hW';go_simp;try (with_reducible rfl))
                try simp only [List.setIfInBounds_toArray,List.set_cons_zero,List.set_cons_succ]
                refine GHead.take' (i:=11) (v:=?_) rfl rfl (by kernel_rfl) (fun _ _ _ h => by cases h.1) (Or.inl ⟨by rfl,?_⟩) HS.out ?_
                rotate_left
                · (intro W' hW';have c2_:=HC7.out W' hW';go_simp;try (with_reducible rfl))
                try simp only [List.setIfInBounds_toArray,List.set_cons_zero,List.set_cons_succ]
                refine GHead.take' (i:=12) (v:=?_) rfl rfl (by kernel_rfl) (fun _ _ _ h => by cases h.1) (Or.inl ⟨by rfl,?_⟩) HS.out ?_
                rotate_left
                · (intro W' hW';have c2_:=HC7.out W' hW';go_simp;try (with_reducible rfl))
                try simp only [List.setIfInBounds_toArray,List.set_cons_zero,List.set_cons_succ]
                refine GHead.many (f:=2) [5,9] [58,62] (begVal (w.heap.size+1) nm r3) begVal_mono (by kernel_rfl) rfl (by decide) HS.out BS.stab ?many ?rest
                case many =>
                  intro j i d o h1 h2 h3
                  rcases j with _ | _ | j
                  · cases h1;cases h2;cases h3
                    refine ⟨rfl,fun y W' hW' => ?_⟩
                    simp only [putsL,List.setIfInBounds_toArray,List.set_cons_zero,List.set_cons_succ]
                    go_simp
                    refine (F3.out W' hW'.1).mono ?_
                    rintro e w8 ⟨rfl,hb8⟩
                    exact ⟨rfl,hb8⟩
                  · cases h1;cases h2;cases h3
                    refine ⟨rfl,fun y W' hW' => ?_⟩
                    simp only [putsL,List.setIfInBounds_toArray,List.set_cons_zero,List.set_cons_succ]
                    go_simp
                    refine (CLO.out W' hW'.1).mono ?_
                    rintro e w8 ⟨v8,rfl,hr8,hb8⟩
                    exact ⟨Kd.R_lower hr8 hW'.lt,hb8⟩
                  · simp at h1
                case rest =>
                  intro y W2 hW2 hΦ
                  have r0:=hΦ 0 (by decide)
                  have r1:=hΦ 1 (by decide)
                  simp only [putsL,List.setIfInBounds_toArray,List.set_cons_zero,List.set_cons_succ]
                  clear hΦ
                  generalize y 0=v0 at *
                  generalize y (0+1)=v1 at *
                  replace r0:v0 = .int .i64 nm:=r0
                  replace r1:Kd.R (Kd.int .u8) 5 W2 (w.heap.size+1) (fun _ => True) v1 r3:=r1
                  subst r0
                  obtain ⟨A5,c5,hv1⟩:=Kd.R_slice r1
                  rw [hpl] at hv1
                  subst hv1
                  have HR5:=Aside0.mk r1
                  have HS2:=Aside0.mk hW2
                  obtain ⟨o0,o1,o2,hx8⟩:=hW2.2
                  have HX8:=Aside0.mk hx8
                  clear r1 hW2 hx8
                  refine GHead.one (i:=10) rfl (by kernel_rfl) (by rfl) (fun K1 hK1 => ?_)
                  go_simp
                  refine hK1 _ _ HS2.out ?_
                  clear hK1
                  have q0:=(blk_cell HX8.out 0).trans rfl
                  have q1:=(blk_cell HX8.out 1).trans rfl
                  have q2:=(blk_cell HX8.out 2).trans rfl
                  have y0:=blk_frozen HX8.out 0
                  have y1:=blk_frozen HX8.out 1
                  have y2:=blk_frozen HX8.out 2
                  refine GHead.one (i:=13) rfl (by kernel_rfl) (by rfl) (fun K2 hK2 => ?_)
                  go_simp
                  have HS3:Aside0 (BS w (((W2.setCell ⟨w.heap.size,0,none⟩ (.int .i64 kd)).setCell ⟨w.heap.size,1,none⟩ (.int .i64 nm)).setCell ⟨w.heap.size,2,none⟩ (.slice A5 s c5))):=⟨below_set3 HS2.out.1,_,_,_,blk_put3 HX8.out _ _ _⟩
                  have HX9:=Aside0.mk (blk_put3 HX8.out (.int .i64 kd) (.int .i64 nm) (.slice A5 s c5))
                  refine hK2 _ _ HS3.out ?_
                  clear hK2 q0 q1 q2 y0 y1 y2
                  refine GHead.last rfl (by kernel_rfl) (by rfl) (fun K3 hK3 => ?_)
                  go_simp
                  refine hK3 _ _ ⟨rfl,?_⟩
                  clear hK3
                  go_wp2_with fail
                  refine bodyPost_ret (beg_res _ _ w.heap.size _ _ _ HX9.out rfl) rfl ?_
                  refine ⟨kd,nm,_,r3,13+s,?_,Kd.R_mono (Kd.R_lower (R_set3 HR5.out) (Nat.le_succ _)) (fun _ _ => trivial),HS3.out.1,.inr ⟨HE.out,by rw [hpl]⟩⟩
                  show Ending.returned (.tuple #[.agg #[.int .i64 kd,.int .i64 nm,.slice A5 s c5],.int .i64 (9+(s:Int)+4)])=_
                  rw [show 9+(s:Int)+4=((13+s:Nat):Int) by omega]
              · have HE:Aside0 (begB b=none):=⟨by rw [begB,if_neg (by omega),if_neg (by omega),hs,if_neg (by omega),hS,hV,if_pos hSV]⟩
                have hne:((S:Int) != (V:Int))=true:=by simp;omega
                rw [hkd] at HC2 h3a h3b hbi hbj
                clear hr hok hT hn hb2 hpr hc2 hp01 hk1 hk3 hk13 hkd hs hS hV hto htl hSV hi05 hsz5
                go_enter Tryz.func79,Tryz.ntmps79
                go_wp2_with (first | (go_at_call 95;(with_reducible refine (dump_magic.calls [208,215] _ rfl).mono ?_);rintro e w2 ⟨v2,rfl,hr2,hb⟩;obtain ⟨A2,c2,hv2⟩:=Kd.R_slice hr2;replace hv2:v2 = .slice A2 2 c2:=hv2;subst hv2;have HM2:Aside0 (2≤c2∧Kd.C (Kd.int .u8) w2 A2 2 [208,215]):=⟨⟨(Kd.R_reads' hr2).2.1,(Kd.R_reads' hr2).2.2⟩⟩;have HB2:=Aside0.mk (below_step HBA.out hb);have HX2:=Aside0.mk (blk_below HX.out hb);clear hr2 hb) | (go_at_call 115;(with_reducible refine (hasPrefix.calls _ c n b A2 c2 _ HN.out (Kd.C_below HR.out HB2.out) hc HOK.out (by omega) HM2.out.2 HM2.out.1).mono ?_);rintro e w3 ⟨rfl,hb⟩;rw [HPRE.out];have HB3:=Aside0.mk (below_step HB2.out hb);have HX3:=Aside0.mk (blk_below HX2.out hb);have e2:=pw_cell_below HB3.out HC2.out;clear hb) | (go_at_call 116;(with_reducible refine (F7.out _ HB3.out).mono ?_);rintro e w5 ⟨rfl,hb⟩;have HB5:=Aside0.mk (below_step HB3.out hb);have HX5:=Aside0.mk (blk_below HX3.out hb);have q0:=(blk_cell HX5.out 0).trans rfl;have q1:=(blk_cell HX5.out 1).trans rfl;have q2:=(blk_cell HX5.out 2).trans rfl;have y0:=blk_frozen HX5.out 0;have y1:=blk_frozen HX5.out 1;have y2:=blk_frozen HX5.out 2;clear hb) | (go_at_call 96;(with_reducible refine (SUM.out _ HB5.out).mono ?_);rintro e w6 ⟨rfl,hb⟩;have HB6:=Aside0.mk (below_step HB5.out hb);have HX6:=Aside0.mk (blk_below HX5.out hb);clear hb q0 q1 q2 y0 y1 y2) | (go_at_call 116;(with_reducible refine (FE.out _ HB6.out).mono ?_);rintro e w7 ⟨rfl,hb⟩;have HB7:=Aside0.mk (below_step HB6.out hb);have HX7:=Aside0.mk (blk_below HX6.out hb);have q0:=(blk_cell HX7.out 0).trans rfl;have q1:=(blk_cell HX7.out 1).trans rfl;have q2:=(blk_cell HX7.out 2).trans rfl;have y0:=blk_frozen HX7.out 0;have y1:=blk_frozen HX7.out 1;have y2:=blk_frozen HX7.out 2;clear hb))
                refine bodyPost_ret (beg_res _ _ w.heap.size _ _ _ (blk_put3 HX7.out _ _ _) rfl) rfl ?_
                exact BegPost.none_ HE.out (below_set3 HB7.out)
theorem wp_scope_again {P:Program} {a:Act} {w:World} {Q:Exit→Act→World→Prop} {c rest:Code} (l:Nat) (J:Act→World→Prop) (μ:Act→World→Nat) (hf:findLabel c l=some (.seq .skip rest))
    (pass:∀ a w,J a w→rest.wp P (Exit.jump l (fun a' w' => J a' w'∧μ a' w'<μ a w) Q) a w)
    (first:(∀ a w,J a w→rest.wp P (Exit.jump l J Q) a w)→c.wp P (Exit.jump l J Q) a w):(Code.scope c).wp P Q a w :=
  wp_scope_jumps l J μ hf (first fun a w h => wp_mono (pass a w h) (fun e a' w' hq => by
    cases e <;> first | exact hq | exact ⟨hq.1,hq.2.1⟩)) fun a w h => wp_seq (wp_skip (pass a w h))
theorem begB_ok {b:List Int} {f:Fr} (hok:okB b=true) (h:begB b=some f):okB f.pay=true:=by
  simp only [begB] at h
  repeat' split at h
  all_goals first | cases h | skip
  exact okB_sub hok (fun x hx => List.mem_of_mem_take (List.mem_of_mem_drop hx))
theorem thrTake.calls (p:Nat) (A:Option Addr) (c n:Nat) (b:List Int) (w:World) (Inv:List Fr→World→Prop) (hn:b.length=n) (hc:n≤c) (hok:okB b=true) (hlen:n≤1000000000)
    (hC:∀ fs W,Inv fs W→Kd.C (Kd.int .u8) W A n b) (hT:∀ fs W,Inv fs W→TabQ W) (hst:∀ fs W W',Inv fs W→Below W.heap.size W W'→Inv fs W')
    (htell:∀ fs (f:Fr) W (A':Option Addr) (c':Nat),Inv fs W→(f :: fs).length≤n→f.pay.length≤1000→okB f.pay=true→Kd.C (Kd.int .u8) W A' f.pay.length f.pay→f.pay.length≤c'→Calls Tryz.prog 74 #[.pointer (some ⟨p,0,none⟩),.agg #[.int .i64 f.kind,.int .i64 f.num,.slice A' f.pay.length c']] W fun e W' => e = .returned (.tuple #[])∧Inv (fs ++ [f]) W')
    (h0:Inv [] w) :
    Calls Tryz.prog 44 #[.slice A n c,.func (.func 74) #[.pointer (some ⟨p,0,none⟩)] #[]] w fun e w' => e = .returned (.tuple #[])∧Inv (frsL b) w':=by
  go_enter Tryz.func44,Tryz.ntmps44
  refine wp_scope_again 0 (fun a' w' => ∃ (at_:Nat) (fs:List Fr) (u5 u6 u7 u8 u9 u10 u11 u12 u13 u14 u15 u16 u17 u18 u19 u20 u21 u22 u23 u24 u25 u26 u27:Value),a' = { tmps:=#[.slice A n c,.func (.func 74) #[.pointer (some ⟨p,0,none⟩)] #[],undef,undef,.int .i64 at_,u5,u6,u7,u8,u9,u10,u11,u12,u13,u14,u15,u16,u17,u18,u19,u20,u21,u22,u23,u24,u25,u26,u27],defers:=[] }∧at_≤n∧fs.length≤at_∧fs++frsL (b.drop at_)=frsL b∧Inv fs w') (fun a' _ => n - (intOf (a'.tmps.getD 4 undef)).toNat) rfl ?_ ?_
  · rintro a' wr ⟨at_,fs,u5,u6,u7,u8,u9,u10,u11,u12,u13,u14,u15,u16,u17,u18,u19,u20,u21,u22,u23,u24,u25,u26,u27,rfl,hat,hfl,hfs,hi⟩
    have HI:=Aside0.mk hi
    have HFS:=Aside0.mk hfs
    have HFL:=Aside0.mk hfl
    clear hfs hfl hi
    by_cases hge:n≤at_
    · have hgei:((at_:Int) ≥ (n:Int)):=by omega
      have HE:Aside0 (fs=frsL b):=⟨by rw [← HFS.out,List.drop_eq_nil_of_le (by omega),frsL_nil,List.append_nil]⟩
      go_wp2_with fail
      simp only [Exit.jump]
      refine bodyPost_ret (results_none rfl _ _ _) rfl ?_
      exact ⟨rfl,by rw [← HE.out];exact HI.out⟩
    · have hgei:¬ ((at_:Int) ≥ (n:Int)):=by omega
      have hlti:((at_:Int)<(n:Int)):=by omega
      obtain ⟨A1,c1,r,hr,HCR,hc1,_,hcut⟩:=cutB2 A c b at_ (by omega) (by omega)
      have hr':=hr.out
      have hrl:r.length=n - at_:=by rw [hr',List.length_drop,hn]
      have hcut1:=hcut (at_:Int) rfl
      rw [hn] at hcut1 HCR
      have HB0:=Aside0.mk (begins.calls A1 c1 r.length r wr rfl (HCR.out _ (hC _ _ HI.out)) hc1 (okB_sub hok (by rw [hr'];exact List.drop_subset _ _)) (by omega) (hT _ _ HI.out))
      have hat1:IntKind.i64.wrap ((at_:Int)+1)=(at_:Int)+1:=by rw [IntKind.wrap_i64];omega
      cases hbg:begB r with
      | none =>
        have BEG:Aside0 (Calls Tryz.prog 79 #[.slice A1 r.length c1] wr fun e w' => ∃ (k nm:Nat) (A2:Option Addr) (n2 c2:Nat),e = .returned (.tuple #[.agg #[.int .i64 k,.int .i64 nm,.slice A2 n2 c2],.int .i64 0])∧Below wr.heap.size wr w'∧True):=⟨HB0.out.mono fun e w' ⟨k,nm,v,q,m,he,hR,hb,h⟩ => by
          rcases h with ⟨_,rfl⟩ | ⟨h,_⟩
          · obtain ⟨A2,c2,rfl⟩:=Kd.R_slice hR
            exact ⟨k,nm,A2,_,c2,he,hb,trivial⟩
          · rw [hbg] at h;cases h⟩
        have HE:Aside0 (fs++frsL (b.drop (at_+1))=frsL b):=⟨by rw [← HFS.out,← hr',frsL_none (b:=r) (by omega) hbg,hr',List.drop_drop]⟩
        clear hr hr' HCR hcut HB0 hbg
        rw [hrl] at *
        go_wp2_with (first | (go_at_call 79;(with_reducible refine BEG.out.mono ?_);rintro e w2 ⟨k2,m2,A2,n2,c2,rfl,hb,hx⟩;have HB2:=Aside0.mk hb;have HX2:=Aside0.mk hx;clear hb hx) | (go_at_call 74;(with_reducible refine (TELL.out _ (hst _ _ _ (hst _ _ _ HI.out HB2.out) (below_alloc (Below.refl _ _) _)) _ _ ⟨Kd.C_below HX2.out.1 (below_alloc (Below.refl _ _) _),HX2.out.2⟩).mono ?_);rintro e w3 ⟨rfl,hi⟩;have HI3:=Aside0.mk hi;clear hi))
        go_step3
        refine ⟨rfl,⟨at_+1,fs,_,_,_,_,_,_,_,_,_,_,_,_,_,_,_,_,_,_,_,_,_,_,_,rfl,by omega,by have:=HFL.out;omega,HE.out,hst _ _ _ (hst _ _ _ HI.out HB2.out) (below_alloc (Below.refl _ _) _)⟩,?_⟩
        simp [intOf]
        omega
      | some f =>
        have hbl:=begB_len hbg
        have hpo:okB f.pay=true:=begB_ok (okB_sub hok (by rw [hr'];exact List.drop_subset _ _)) hbg
        have hpl:f.pay.length≤1000:=hbl.2.1
        have hfr:frLen f≤r.length:=hbl.1
        have hf13:frLen f=13+f.pay.length:=rfl
        have BEG:Aside0 (Calls Tryz.prog 79 #[.slice A1 r.length c1] wr fun e w' => ∃ (k nm:Nat) (A2:Option Addr) (n2 c2:Nat),e = .returned (.tuple #[.agg #[.int .i64 f.kind,.int .i64 f.num,.slice A2 f.pay.length c2],.int .i64 (13+f.pay.length:Nat)])∧Below wr.heap.size wr w'∧Kd.C (Kd.int .u8) w' A2 f.pay.length f.pay∧f.pay.length≤c2):=⟨HB0.out.mono fun e w' ⟨k,nm,v,q,m,he,hR,hb,h⟩ => by
          rcases h with ⟨h,_⟩ | ⟨h,rfl⟩
          · rw [hbg] at h;cases h
          · rw [hbg] at h
            cases h
            obtain ⟨A2,c2,rfl⟩:=Kd.R_slice hR
            exact ⟨0,0,A2,0,c2,he,hb,(Kd.R_reads' hR).2.2,(Kd.R_reads' hR).2.1⟩⟩
        have hfr13:at_+(13+f.pay.length)≤n:=by omega
        clear hbl hfr hf13
        have HE:Aside0 ((fs ++ [f])++frsL (b.drop (at_+(13+f.pay.length)))=frsL b):=⟨by rw [← HFS.out,← hr',frsL_some (b:=r) hbg,hr',List.drop_drop,List.append_assoc];rfl⟩
        have TELL:Aside0 (∀ W,Inv fs W→∀ A2 c2,Kd.C (Kd.int .u8) W A2 f.pay.length f.pay∧f.pay.length≤c2→Calls Tryz.prog 74 #[.pointer (some ⟨p,0,none⟩),.agg #[.int .i64 f.kind,.int .i64 f.num,.slice A2 f.pay.length c2]] W fun e W' => e = .returned (.tuple #[])∧Inv (fs ++ [f]) W'):=⟨fun W hW A2 c2 h => htell fs f W A2 c2 hW (by simp only [List.length_cons];have:=HFL.out;omega) hpl hpo h.1 h.2⟩
        have hmi:IntKind.i64.wrap ((at_:Int)+((13+f.pay.length:Nat):Int))=((at_+(13+f.pay.length):Nat):Int):=by rw [IntKind.wrap_i64];omega
        have hm0:(((13+f.pay.length:Nat):Int) == 0)=false:=by simp;omega
        clear hr hr' HCR hcut HB0 hbg
        rw [hrl] at *
        go_wp2_with (first | (go_at_call 79;(with_reducible refine BEG.out.mono ?_);rintro e w2 ⟨k2,m2,A2,n2,c2,rfl,hb,hx⟩;have HB2:=Aside0.mk hb;have HX2:=Aside0.mk hx;clear hb hx) | (go_at_call 74;(with_reducible refine (TELL.out _ (hst _ _ _ (hst _ _ _ HI.out HB2.out) (below_alloc (Below.refl _ _) _)) _ _ ⟨Kd.C_below HX2.out.1 (below_alloc (Below.refl _ _) _),HX2.out.2⟩).mono ?_);rintro e w3 ⟨rfl,hi⟩;have HI3:=Aside0.mk hi;clear hi))
        go_step3
        refine ⟨rfl,⟨at_+(13+f.pay.length),fs ++ [f],_,_,_,_,_,_,_,_,_,_,_,_,_,_,_,_,_,_,_,_,_,_,_,rfl,by omega,by have:=HFL.out;simp only [List.length_append,List.length_cons,List.length_nil];omega,HE.out,HI3.out⟩,?_⟩
        simp [intOf]
        omega
  · intro H
    go_wp2_with fail
    go_step3
    simp only [Exit.then]
    rename_i hK
    refine hK _ _ ?_
    exact H _ _ ⟨0,[],_,_,_,_,_,_,_,_,_,_,_,_,_,_,_,_,_,_,_,_,_,_,_,rfl,Nat.zero_le _,Nat.zero_le _,rfl,h0⟩
theorem thrCount.calls (p:Nat) (A:Option Addr) (c n:Nat) (b:List Int) (w:World) (Inv:List Fr→World→Prop) (hn:b.length=n) (hc:n≤c) (hok:okB b=true) (hlen:n≤1000000000)
    (hC:∀ fs W,Inv fs W→Kd.C (Kd.int .u8) W A n b) (hT:∀ fs W,Inv fs W→TabQ W) (hst:∀ fs W W',Inv fs W→Below W.heap.size W W'→Inv fs W')
    (htell:∀ fs (f:Fr) W (A':Option Addr) (c':Nat),Inv fs W→(f :: fs).length≤n→f.pay.length≤1000→okB f.pay=true→Kd.C (Kd.int .u8) W A' f.pay.length f.pay→f.pay.length≤c'→Calls Tryz.prog 45 #[.agg #[.int .i64 f.kind,.int .i64 f.num,.slice A' f.pay.length c'],.pointer (some ⟨p,0,none⟩)] W fun e W' => e = .returned (.tuple #[])∧Inv (fs ++ [f]) W')
    (h0:Inv [] w) :
    Calls Tryz.prog 44 #[.slice A n c,.func (.func 45) #[] #[.pointer (some ⟨p,0,none⟩)]] w fun e w' => e = .returned (.tuple #[])∧Inv (frsL b) w':=by
  go_enter Tryz.func44,Tryz.ntmps44
  refine wp_scope_again 0 (fun a' w' => ∃ (at_:Nat) (fs:List Fr) (u5 u6 u7 u8 u9 u10 u11 u12 u13 u14 u15 u16 u17 u18 u19 u20 u21 u22 u23 u24 u25 u26 u27:Value),a' = { tmps:=#[.slice A n c,.func (.func 45) #[] #[.pointer (some ⟨p,0,none⟩)],undef,undef,.int .i64 at_,u5,u6,u7,u8,u9,u10,u11,u12,u13,u14,u15,u16,u17,u18,u19,u20,u21,u22,u23,u24,u25,u26,u27],defers:=[] }∧at_≤n∧fs.length≤at_∧fs++frsL (b.drop at_)=frsL b∧Inv fs w') (fun a' _ => n - (intOf (a'.tmps.getD 4 undef)).toNat) rfl ?_ ?_
  · rintro a' wr ⟨at_,fs,u5,u6,u7,u8,u9,u10,u11,u12,u13,u14,u15,u16,u17,u18,u19,u20,u21,u22,u23,u24,u25,u26,u27,rfl,hat,hfl,hfs,hi⟩
    have HI:=Aside0.mk hi
    have HFS:=Aside0.mk hfs
    have HFL:=Aside0.mk hfl
    clear hfs hfl hi
    by_cases hge:n≤at_
    · have hgei:((at_:Int) ≥ (n:Int)):=by omega
      have HE:Aside0 (fs=frsL b):=⟨by rw [← HFS.out,List.drop_eq_nil_of_le (by omega),frsL_nil,List.append_nil]⟩
      go_wp2_with fail
      simp only [Exit.jump]
      refine bodyPost_ret (results_none rfl _ _ _) rfl ?_
      exact ⟨rfl,by rw [← HE.out];exact HI.out⟩
    · have hgei:¬ ((at_:Int) ≥ (n:Int)):=by omega
      have hlti:((at_:Int)<(n:Int)):=by omega
      obtain ⟨A1,c1,r,hr,HCR,hc1,_,hcut⟩:=cutB2 A c b at_ (by omega) (by omega)
      have hr':=hr.out
      have hrl:r.length=n - at_:=by rw [hr',List.length_drop,hn]
      have hcut1:=hcut (at_:Int) rfl
      rw [hn] at hcut1 HCR
      have HB0:=Aside0.mk (begins.calls A1 c1 r.length r wr rfl (HCR.out _ (hC _ _ HI.out)) hc1 (okB_sub hok (by rw [hr'];exact List.drop_subset _ _)) (by omega) (hT _ _ HI.out))
      have hat1:IntKind.i64.wrap ((at_:Int)+1)=(at_:Int)+1:=by rw [IntKind.wrap_i64];omega
      cases hbg:begB r with
      | none =>
        have BEG:Aside0 (Calls Tryz.prog 79 #[.slice A1 r.length c1] wr fun e w' => ∃ (k nm:Nat) (A2:Option Addr) (n2 c2:Nat),e = .returned (.tuple #[.agg #[.int .i64 k,.int .i64 nm,.slice A2 n2 c2],.int .i64 0])∧Below wr.heap.size wr w'∧True):=⟨HB0.out.mono fun e w' ⟨k,nm,v,q,m,he,hR,hb,h⟩ => by
          rcases h with ⟨_,rfl⟩ | ⟨h,_⟩
          · obtain ⟨A2,c2,rfl⟩:=Kd.R_slice hR
            exact ⟨k,nm,A2,_,c2,he,hb,trivial⟩
          · rw [hbg] at h;cases h⟩
        have HE:Aside0 (fs++frsL (b.drop (at_+1))=frsL b):=⟨by rw [← HFS.out,← hr',frsL_none (b:=r) (by omega) hbg,hr',List.drop_drop]⟩
        clear hr hr' HCR hcut HB0 hbg
        rw [hrl] at *
        go_wp2_with (first | (go_at_call 79;(with_reducible refine BEG.out.mono ?_);rintro e w2 ⟨k2,m2,A2,n2,c2,rfl,hb,hx⟩;have HB2:=Aside0.mk hb;have HX2:=Aside0.mk hx;clear hb hx) | (go_at_call 45;(with_reducible refine (TELL.out _ (hst _ _ _ (hst _ _ _ HI.out HB2.out) (below_alloc (Below.refl _ _) _)) _ _ ⟨Kd.C_below HX2.out.1 (below_alloc (Below.refl _ _) _),HX2.out.2⟩).mono ?_);rintro e w3 ⟨rfl,hi⟩;have HI3:=Aside0.mk hi;clear hi))
        go_step3
        refine ⟨rfl,⟨at_+1,fs,_,_,_,_,_,_,_,_,_,_,_,_,_,_,_,_,_,_,_,_,_,_,_,rfl,by omega,by have:=HFL.out;omega,HE.out,hst _ _ _ (hst _ _ _ HI.out HB2.out) (below_alloc (Below.refl _ _) _)⟩,?_⟩
        simp [intOf]
        omega
      | some f =>
        have hbl:=begB_len hbg
        have hpo:okB f.pay=true:=begB_ok (okB_sub hok (by rw [hr'];exact List.drop_subset _ _)) hbg
        have hpl:f.pay.length≤1000:=hbl.2.1
        have hfr:frLen f≤r.length:=hbl.1
        have hf13:frLen f=13+f.pay.length:=rfl
        have BEG:Aside0 (Calls Tryz.prog 79 #[.slice A1 r.length c1] wr fun e w' => ∃ (k nm:Nat) (A2:Option Addr) (n2 c2:Nat),e = .returned (.tuple #[.agg #[.int .i64 f.kind,.int .i64 f.num,.slice A2 f.pay.length c2],.int .i64 (13+f.pay.length:Nat)])∧Below wr.heap.size wr w'∧Kd.C (Kd.int .u8) w' A2 f.pay.length f.pay∧f.pay.length≤c2):=⟨HB0.out.mono fun e w' ⟨k,nm,v,q,m,he,hR,hb,h⟩ => by
          rcases h with ⟨h,_⟩ | ⟨h,rfl⟩
          · rw [hbg] at h;cases h
          · rw [hbg] at h
            cases h
            obtain ⟨A2,c2,rfl⟩:=Kd.R_slice hR
            exact ⟨0,0,A2,0,c2,he,hb,(Kd.R_reads' hR).2.2,(Kd.R_reads' hR).2.1⟩⟩
        have hfr13:at_+(13+f.pay.length)≤n:=by omega
        clear hbl hfr hf13
        have HE:Aside0 ((fs ++ [f])++frsL (b.drop (at_+(13+f.pay.length)))=frsL b):=⟨by rw [← HFS.out,← hr',frsL_some (b:=r) hbg,hr',List.drop_drop,List.append_assoc];rfl⟩
        have TELL:Aside0 (∀ W,Inv fs W→∀ A2 c2,Kd.C (Kd.int .u8) W A2 f.pay.length f.pay∧f.pay.length≤c2→Calls Tryz.prog 45 #[.agg #[.int .i64 f.kind,.int .i64 f.num,.slice A2 f.pay.length c2],.pointer (some ⟨p,0,none⟩)] W fun e W' => e = .returned (.tuple #[])∧Inv (fs ++ [f]) W'):=⟨fun W hW A2 c2 h => htell fs f W A2 c2 hW (by simp only [List.length_cons];have:=HFL.out;omega) hpl hpo h.1 h.2⟩
        have hmi:IntKind.i64.wrap ((at_:Int)+((13+f.pay.length:Nat):Int))=((at_+(13+f.pay.length):Nat):Int):=by rw [IntKind.wrap_i64];omega
        have hm0:(((13+f.pay.length:Nat):Int) == 0)=false:=by simp;omega
        clear hr hr' HCR hcut HB0 hbg
        rw [hrl] at *
        go_wp2_with (first | (go_at_call 79;(with_reducible refine BEG.out.mono ?_);rintro e w2 ⟨k2,m2,A2,n2,c2,rfl,hb,hx⟩;have HB2:=Aside0.mk hb;have HX2:=Aside0.mk hx;clear hb hx) | (go_at_call 45;(with_reducible refine (TELL.out _ (hst _ _ _ (hst _ _ _ HI.out HB2.out) (below_alloc (Below.refl _ _) _)) _ _ ⟨Kd.C_below HX2.out.1 (below_alloc (Below.refl _ _) _),HX2.out.2⟩).mono ?_);rintro e w3 ⟨rfl,hi⟩;have HI3:=Aside0.mk hi;clear hi))
        go_step3
        refine ⟨rfl,⟨at_+(13+f.pay.length),fs ++ [f],_,_,_,_,_,_,_,_,_,_,_,_,_,_,_,_,_,_,_,_,_,_,_,rfl,by omega,by have:=HFL.out;simp only [List.length_append,List.length_cons,List.length_nil];omega,HE.out,HI3.out⟩,?_⟩
        simp [intOf]
        omega
  · intro H
    go_wp2_with fail
    go_step3
    simp only [Exit.then]
    rename_i hK
    refine hK _ _ ?_
    exact H _ _ ⟨0,[],_,_,_,_,_,_,_,_,_,_,_,_,_,_,_,_,_,_,_,_,_,_,_,rfl,Nat.zero_le _,Nat.zero_le _,rfl,h0⟩
theorem five_C (W:World) (g:Nat) (A1 A2 A3 A4 A5:Option Addr) (c1 c2 c3 c4 c5 n1 n2 n3 n4 n5:Nat) (l1 l2 l3 l4 l5:List Int) (t:Nat) (fr:Nat × Nat) (e1:l1.length=n1) (e2:l2.length=n2) (e3:l3.length=n3) (e4:l4.length=n4) (e5:l5.length=n5) (hb:W.heap[g]? = some (.cells #[.slice A1 n1 c1,.slice A2 n2 c2,.slice A3 n3 c3,.slice A4 n4 c4,.slice A5 n5 c5] t fr))
    (h1:Kd.C (Kd.int .u8) W A1 l1.length l1) (k1:l1.length≤c1) (h2:Kd.C (Kd.int .u8) W A2 l2.length l2) (k2:l2.length≤c2) (h3:Kd.C (Kd.int .u8) W A3 l3.length l3) (k3:l3.length≤c3) (h4:Kd.C (Kd.int .u8) W A4 l4.length l4) (k4:l4.length≤c4) (h5:Kd.C (Kd.int .u8) W A5 l5.length l5) (k5:l5.length≤c5) :
    Kd.C (Kd.slice 5 (Kd.int .u8)) W (some ⟨g,0,none⟩) 5 [l1,l2,l3,l4,l5]:=by
  subst e1 e2 e3 e4 e5
  have key:∀ (j:Nat) (u:Value),#[Value.slice A1 l1.length c1,.slice A2 l2.length c2,.slice A3 l3.length c3,.slice A4 l4.length c4,.slice A5 l5.length c5][j]? = some u→W.cell? (Addr.add ⟨g,0,none⟩ j)=some u:=fun j u hu => by
    rw [add_plain]
    exact (cell_of_row W g j _ t fr hb).trans hu
  have one:∀ (j:Nat) (u:Value),#[Value.slice A1 l1.length c1,.slice A2 l2.length c2,.slice A3 l3.length c3,.slice A4 l4.length c4,.slice A5 l5.length c5][j]? = some u→∀ i v,[u][i]? = some v→W.cell? (Addr.add ⟨g,0,none⟩ (j*1+i))=some v:=fun j u hu i v hv => by
    match i,hv with
    | 0,hv =>
      injection hv with hv
      subst hv
      rw [Nat.mul_one,Nat.add_zero]
      exact key j u hu
    | n+1,hv => simp at hv
  refine ⟨rfl,by decide,fun _ => ⟨_,rfl,fun j p hj => ?_⟩⟩
  match j,hj with
  | 0,hj => injection hj with hj;subst hj;exact ⟨_,rfl,⟨A1,c1,rfl,k1,h1⟩,one 0 _ rfl⟩
  | 1,hj => injection hj with hj;subst hj;exact ⟨_,rfl,⟨A2,c2,rfl,k2,h2⟩,one 1 _ rfl⟩
  | 2,hj => injection hj with hj;subst hj;exact ⟨_,rfl,⟨A3,c3,rfl,k3,h3⟩,one 2 _ rfl⟩
  | 3,hj => injection hj with hj;subst hj;exact ⟨_,rfl,⟨A4,c4,rfl,k4,h4⟩,one 3 _ rfl⟩
  | 4,hj => injection hj with hj;subst hj;exact ⟨_,rfl,⟨A5,c5,rfl,k5,h5⟩,one 4 _ rfl⟩
  | n+5,hj => simp at hj
theorem put_at (n i:Nat) (hn:n<18446744073709551616) (hi:i≤8) (W:World):Calls Tryz.prog 31 #[.int .u64 n,.int .i64 i] W fun e w' => ∃ v0_:Value,e = .returned v0_∧Kd.R (Kd.int .u8) 5 w' W.heap.size (fun _ => True) v0_ (beL n i)∧Below W.heap.size W w' :=
  crc_Put.calls _ _ _ W (by rw [crc_Put.f,if_pos (by omega),Int.toNat_natCast];congr 2;unfold wid;omega)
def frVal (B k n m:Nat):Nat→Value→World→Prop
  | 0,v,W => Kd.R (Kd.int .u8) 5 W B (fun _ => True) v [208,215]
  | 1,v,W => Kd.R (Kd.int .u8) 5 W B (fun _ => True) v [(k:Int)]
  | 2,v,W => Kd.R (Kd.int .u8) 5 W B (fun _ => True) v (beL n 4)
  | _+3,v,W => Kd.R (Kd.int .u8) 5 W B (fun _ => True) v (beL m 2)
theorem frVal_mono {B k n m:Nat}:∀ (i:Nat) (v:Value) (W W':World),frVal B k n m i v W→Below W.heap.size W W'→frVal B k n m i v W'
  | 0,_,_,_,h,hb => Kd.R_below h hb
  | 1,_,_,_,h,hb => Kd.R_below h hb
  | 2,_,_,_,h,hb => Kd.R_below h hb
  | _+3,_,_,_,h,hb => Kd.R_below h hb
theorem frameB.calls (k n m:Nat) (p:List Int) (A:Option Addr) (c:Nat) (w:World) (hk:k<256) (hn:n<4294967296) (hm:p.length=m) (hr:Kd.C (Kd.int .u8) w A m p) (hc:m≤c) (hl:m≤1000000) (hok:okB p=true) (hT:TabQ w) :
    Calls Tryz.prog 64 #[.agg #[.int .i64 k,.int .i64 n,.slice A m c]] w fun e w' => ∃ v:Value,e = .returned v∧Kd.R (Kd.int .u8) 5 w' w.heap.size (fun _ => True) v (frB k n p)∧Below w.heap.size w w':=by
  have HM:=Aside0.mk hm
  have HR:=Aside0.mk hr
  have HT:=Aside0.mk hT
  have HOK:=Aside0.mk hok
  clear hr hok hT hm
  have hku:IntKind.u8.wrap (k:Int)=(k:Int):=by simp [IntKind.wrap,IntKind.bits,IntKind.signed];omega
  have hnu:IntKind.u64.wrap (n:Int)=(n:Int):=by simp [IntKind.wrap,IntKind.bits,IntKind.signed];omega
  have hmu:IntKind.u64.wrap (m:Int)=(m:Int):=by simp [IntKind.wrap,IntKind.bits,IntKind.signed];omega
  go_enter Tryz.func64,Tryz.ntmps64
  go_wp2_with fail
  have HB0:=Aside0.mk (below_alloc (Below.refl w.heap.size w) (.cells #[.int .i64 k,.int .i64 n,.slice A m c] 80 (0,0)))
  have HX0:=Aside0.mk (blk_new w (.cells #[.int .i64 k,.int .i64 n,.slice A m c] 80 (0,0)))
  generalize w.alloc (.cells #[.int .i64 k,.int .i64 n,.slice A m c] 80)=w1 at *
  have HC0:Aside0 (∀ W',Below w1.heap.size w1 W'→W'.cell? ⟨w.heap.size,0,none⟩=some (.int .i64 k)):=⟨fun W' hb => pw_cell_below hb ((blk_cell HX0.out 0).trans rfl)⟩
  have HC1:Aside0 (∀ W',Below w1.heap.size w1 W'→W'.cell? ⟨w.heap.size,1,none⟩=some (.int .i64 n)):=⟨fun W' hb => pw_cell_below hb ((blk_cell HX0.out 1).trans rfl)⟩
  have HC2:Aside0 (∀ W',Below w1.heap.size w1 W'→W'.cell? ⟨w.heap.size,2,none⟩=some (.slice A m c)):=⟨fun W' hb => pw_cell_below hb ((blk_cell HX0.out 2).trans rfl)⟩
  have HS:=Aside0.mk (below_drew (Below.refl w1.heap.size w1))
  refine wp_region_hd (by kernel_rfl) (GHead.start (n:=18) (S:=fun W' => Below w1.heap.size w1 W') (by decide) ?_)
  refine GHead.take' (i:=1) (v:=?_) rfl rfl (by kernel_rfl) (fun _ _ _ h => by cases h.1) (Or.inl ⟨by rfl,?_⟩) HS.out ?_
  rotate_left
  · (intro W' hW';have c0:=HC0.out W' hW';have c1:=HC1.out W' hW';have c2:=HC2.out W' hW';go_simp;try (with_reducible rfl))
  try simp only [List.setIfInBounds_toArray,List.set_cons_zero,List.set_cons_succ]
  refine GHead.take' (i:=2) (v:=?_) rfl rfl (by kernel_rfl) (fun _ _ _ h => by cases h.1) (Or.inl ⟨by rfl,?_⟩) HS.out ?_
  rotate_left
  · (intro W' hW';have c0:=HC0.out W' hW';have c1:=HC1.out W' hW';have c2:=HC2.out W' hW';go_simp;try (with_reducible rfl))
  try simp only [List.setIfInBounds_toArray,List.set_cons_zero,List.set_cons_succ]
  refine GHead.take' (i:=3) (v:=?_) rfl rfl (by kernel_rfl) (fun _ _ _ h => by cases h.1) (Or.inl ⟨by rfl,?_⟩) HS.out ?_
  rotate_left
  · (intro W' hW';have c0:=HC0.out W' hW';have c1:=HC1.out W' hW';have c2:=HC2.out W' hW';go_simp;try (with_reducible rfl))
  try simp only [List.setIfInBounds_toArray,List.set_cons_zero,List.set_cons_succ]
  refine GHead.take' (i:=5) (v:=?_) rfl rfl (by kernel_rfl) (fun _ _ _ h => by cases h.1) (Or.inl ⟨by rfl,?_⟩) HS.out ?_
  rotate_left
  · (intro W' hW';have c0:=HC0.out W' hW';have c1:=HC1.out W' hW';have c2:=HC2.out W' hW';go_simp;try (with_reducible rfl))
  try simp only [List.setIfInBounds_toArray,List.set_cons_zero,List.set_cons_succ]
  refine GHead.take' (i:=6) (v:=?_) rfl rfl (by kernel_rfl) (fun _ _ _ h => by cases h.1) (Or.inl ⟨by rfl,?_⟩) HS.out ?_
  rotate_left
  · (intro W' hW';have c0:=HC0.out W' hW';have c1:=HC1.out W' hW';have c2:=HC2.out W' hW';go_simp;try (with_reducible rfl))
  try simp only [List.setIfInBounds_toArray,List.set_cons_zero,List.set_cons_succ]
  refine GHead.take' (i:=7) (v:=?_) rfl rfl (by kernel_rfl) (fun _ _ _ h => by cases h.1) (Or.inl ⟨by rfl,?_⟩) HS.out ?_
  rotate_left
  · (intro W' hW';have c0:=HC0.out W' hW';have c1:=HC1.out W' hW';have c2:=HC2.out W' hW';go_simp;try (with_reducible rfl))
  try simp only [List.setIfInBounds_toArray,List.set_cons_zero,List.set_cons_succ]
  refine GHead.take' (i:=9) (v:=?_) rfl rfl (by kernel_rfl) (fun _ _ _ h => by cases h.1) (Or.inl ⟨by rfl,?_⟩) HS.out ?_
  rotate_left
  · (intro W' hW';have c0:=HC0.out W' hW';have c1:=HC1.out W' hW';have c2:=HC2.out W' hW';go_simp;try (with_reducible rfl))
  try simp only [List.setIfInBounds_toArray,List.set_cons_zero,List.set_cons_succ]
  refine GHead.take' (i:=10) (v:=?_) rfl rfl (by kernel_rfl) (fun _ _ _ h => by cases h.1) (Or.inl ⟨by rfl,?_⟩) HS.out ?_
  rotate_left
  · (intro W' hW';have c0:=HC0.out W' hW';have c1:=HC1.out W' hW';have c2:=HC2.out W' hW';go_simp;try (with_reducible rfl))
  try simp only [List.setIfInBounds_toArray,List.set_cons_zero,List.set_cons_succ]
  refine GHead.take' (i:=11) (v:=?_) rfl rfl (by kernel_rfl) (fun _ _ _ h => by cases h.1) (Or.inl ⟨by rfl,?_⟩) HS.out ?_
  rotate_left
  · (intro W' hW';have c0:=HC0.out W' hW';have c1:=HC1.out W' hW';have c2:=HC2.out W' hW';go_simp;try (with_reducible rfl))
  try simp only [List.setIfInBounds_toArray,List.set_cons_zero,List.set_cons_succ]
  refine GHead.take' (i:=12) (v:=?_) rfl rfl (by kernel_rfl) (fun _ _ _ h => by cases h.1) (Or.inl ⟨by rfl,?_⟩) HS.out ?_
  rotate_left
  · (intro W' hW';have c0:=HC0.out W' hW';have c1:=HC1.out W' hW';have c2:=HC2.out W' hW';go_simp;try (with_reducible rfl))
  try simp only [List.setIfInBounds_toArray,List.set_cons_zero,List.set_cons_succ]
  refine GHead.take' (i:=14) (v:=?_) rfl rfl (by kernel_rfl) (fun _ _ _ h => by cases h.1) (Or.inl ⟨by rfl,?_⟩) HS.out ?_
  rotate_left
  · (intro W' hW';have c0:=HC0.out W' hW';have c1:=HC1.out W' hW';have c2:=HC2.out W' hW';go_simp;try (with_reducible rfl))
  try simp only [List.setIfInBounds_toArray,List.set_cons_zero,List.set_cons_succ]
  refine GHead.take' (i:=15) (v:=?_) rfl rfl (by kernel_rfl) (fun _ _ _ h => by cases h.1) (Or.inl ⟨by rfl,?_⟩) HS.out ?_
  rotate_left
  · (intro W' hW';have c0:=HC0.out W' hW';have c1:=HC1.out W' hW';have c2:=HC2.out W' hW';go_simp;try (with_reducible rfl))
  try simp only [List.setIfInBounds_toArray,List.set_cons_zero,List.set_cons_succ]
  refine GHead.many (f:=2) [0,4,8,13] [4,8,12,17] (frVal w1.heap.size k n m) frVal_mono (by kernel_rfl) rfl (by decide) HS.out (fun _ _ h hb => below_step h hb) ?many ?rest
  case many =>
    intro j i d o h1 h2 h3
    rcases j with _ | _ | _ | _ | j
    · cases h1;cases h2;cases h3
      refine ⟨rfl,fun y W' hW' => ?_⟩
      simp only [putsL,List.setIfInBounds_toArray,List.set_cons_zero,List.set_cons_succ]
      go_simp
      refine (dump_magic.calls [208,215] W' rfl).mono ?_
      rintro e w2 ⟨v2,rfl,hr2,hb2⟩
      exact ⟨Kd.R_lower hr2 hW'.size,hb2⟩
    · cases h1;cases h2;cases h3
      refine ⟨rfl,fun y W' hW' => ?_⟩
      simp only [putsL,List.setIfInBounds_toArray,List.set_cons_zero,List.set_cons_succ]
      go_simp
      exact ⟨Kd.R_of_own (own_lit W' w1.heap.size 5 .u8 [(k:Int)] hW'.size (by simp)) (fun _ _ => trivial),below_alloc (Below.refl _ _) _⟩
    · cases h1;cases h2;cases h3
      refine ⟨rfl,fun y W' hW' => ?_⟩
      simp only [putsL,List.setIfInBounds_toArray,List.set_cons_zero,List.set_cons_succ]
      go_simp
      refine (put_at n 4 (by omega) (by decide) W').mono ?_
      rintro e w2 ⟨v2,rfl,hr2,hb2⟩
      exact ⟨Kd.R_lower hr2 hW'.size,hb2⟩
    · cases h1;cases h2;cases h3
      refine ⟨rfl,fun y W' hW' => ?_⟩
      simp only [putsL,List.setIfInBounds_toArray,List.set_cons_zero,List.set_cons_succ]
      go_simp
      refine (put_at m 2 (by omega) (by decide) W').mono ?_
      rintro e w2 ⟨v2,rfl,hr2,hb2⟩
      exact ⟨Kd.R_lower hr2 hW'.size,hb2⟩
    · simp at h1
  case rest =>
    intro y W2 hW2 hΦ
    have r0:=hΦ 0 (by decide)
    have r1:=hΦ 1 (by decide)
    have r2:=hΦ 2 (by decide)
    have r3:=hΦ 3 (by decide)
    simp only [putsL,List.setIfInBounds_toArray,List.set_cons_zero,List.set_cons_succ]
    clear hΦ
    generalize y 0=v0 at *
    generalize y (0+1)=v1 at *
    generalize y (0+1+1)=v2 at *
    generalize y (0+1+1+1)=v3 at *
    obtain ⟨a0,c0,rfl⟩:=Kd.R_slice1 r0 (by decide)
    obtain ⟨a1,c1,rfl⟩:=Kd.R_slice1 r1 (by simp)
    obtain ⟨a2,c2,rfl⟩:=Kd.R_slice1 r2 (by rw [beL_length];decide)
    obtain ⟨a3,c3,rfl⟩:=Kd.R_slice1 r3 (by rw [beL_length];decide)
    have R0:=Aside0.mk (show Kd.R (Kd.int .u8) 5 W2 _ (fun _ => True) _ [208,215] from r0)
    have R1:=Aside0.mk (show Kd.R (Kd.int .u8) 5 W2 _ (fun _ => True) _ [(k:Int)] from r1)
    have R2:=Aside0.mk (show Kd.R (Kd.int .u8) 5 W2 _ (fun _ => True) _ (beL n 4) from r2)
    have R3:=Aside0.mk (show Kd.R (Kd.int .u8) 5 W2 _ (fun _ => True) _ (beL m 2) from r3)
    have HP:=Aside0.mk (Kd.C_below HR.out (HB0.out.trans (hW2.mono HB0.out.size)))
    clear r0 r1 r2 r3
    refine GHead.one (i:=16) rfl (by kernel_rfl) (by rfl) (fun K1 hK1 => ?_)
    go_simp
    obtain ⟨oS,hoS⟩:∃ oS:Obj,Obj.cells #[.slice (some a0) 2 c0,.slice (some a1) 1 c1,.slice (some a2) (beL n 4).length c2,.slice (some a3) (beL m 2).length c3,.slice A m c] 24 (0,0)=oS:=⟨_,rfl⟩
    have HB3:=Aside0.mk (below_alloc hW2 oS)
    have HB23:=Aside0.mk (below_alloc (Below.refl W2.heap.size W2) oS)
    have HN:=Aside0.mk (blk_new W2 oS)
    rw [hoS]
    refine hK1 _ _ HB3.out ?_
    subst hoS
    clear hK1
    generalize (W2.alloc (.cells #[.slice (some a0) 2 c0,.slice (some a1) 1 c1,.slice (some a2) (beL n 4).length c2,.slice (some a3) (beL m 2).length c3,.slice A m c] 24 (0,0)))=W3 at *
    have q0:=Kd.R_reads' (Kd.R_below R0.out HB23.out)
    have q1:=Kd.R_reads' (Kd.R_below R1.out HB23.out)
    have q2:=Kd.R_reads' (Kd.R_below R2.out HB23.out)
    have q3:=Kd.R_reads' (Kd.R_below R3.out HB23.out)
    have q4:=Kd.C_below HP.out HB23.out
    have CON:=Aside0.mk (concatB.calls (some ⟨W2.heap.size,0,none⟩) 5 5 [[208,215],[(k:Int)],beL n 4,beL m 2,p] W3 rfl
      (five_C W3 W2.heap.size (some a0) (some a1) (some a2) (some a3) A c0 c1 c2 c3 c 2 1 _ _ m [208,215] [(k:Int)] (beL n 4) (beL m 2) p _ _ rfl rfl rfl rfl HM.out HN.out q0.2.2 q0.2.1 q1.2.2 q1.2.1 q2.2.2 q2.2.1 q3.2.2 q3.2.1 (by rw [HM.out];exact q4) (by rw [HM.out];exact hc)) (by decide) (by
        simp only [List.flatten_cons,List.flatten_nil,List.length_append,List.length_nil,beL_length,List.length_cons]
        have:=HM.out
        omega))
    clear q0 q1 q2 q3 q4
    refine GHead.one (i:=17) rfl (by kernel_rfl) (by rfl) (fun K2 hK2 => ?_)
    go_simp
    refine CON.out.mono ?_
    rintro e W4 ⟨v4,rfl,hr4,hb4⟩
    have hfl:[[208,215],[(k:Int)],beL n 4,beL m 2,p].flatten=frH k n p:=by
      simp only [List.flatten_cons,List.flatten_nil,List.append_nil,frH,HM.out,List.append_assoc,List.cons_append,List.nil_append]
    rw [hfl] at hr4
    obtain ⟨a4,c4,rfl⟩:=Kd.R_slice1 hr4 (by rw [frH_len];omega)
    have HB4:=Aside0.mk (below_step HB3.out hb4)
    have HR4:=Aside0.mk hr4
    clear hr4 hb4
    refine hK2 _ _ HB4.out ?_
    clear hK2
    refine GHead.last rfl (by kernel_rfl) (by rfl) (fun K3 hK3 => ?_)
    go_simp
    refine hK3 _ _ ⟨rfl,?_⟩
    clear hK3
    have HFO:Aside0 (okB (frH k n p)=true):=⟨frH_ok hk HOK.out⟩
    have HFL:Aside0 ((frH k n p).length=9+m):=⟨by rw [frH_len,HM.out]⟩
    have HCL:Aside0 (crcL (frH k n p)<4294967296):=⟨crcL_lt HFO.out⟩
    have SUM:=Aside0.mk (crc_Sum.calls_at (some a4) c4 (frH k n p) (crcL (frH k n p)) W4 rfl (Kd.R_reads' HR4.out).2.2 (Kd.R_reads' HR4.out).2.1 (HT.out.below (HB0.out.trans (HB4.out.mono HB0.out.size))) (by rw [crc_Sum.f,if_pos HFO.out];rfl))
    generalize hS:crcL (frH k n p)=s at *
    have HSE:=Aside0.mk hS
    have hcl:=HCL.out
    have hsu:IntKind.u64.wrap (s:Int)=(s:Int):=by simp [IntKind.wrap,IntKind.bits,IntKind.signed];omega
    generalize hF:frH k n p=F at *
    have HFE:=Aside0.mk hF
    clear hS hF CON
    go_wp2_with (first | (go_at_call 96;(with_reducible refine SUM.out.mono ?_);rintro e w5 ⟨rfl,hb⟩;have HB5:=Aside0.mk (below_step (HB0.out.trans (HB4.out.mono HB0.out.size)) hb.below);have HR5:=Aside0.mk (Kd.R_below HR4.out hb.below);clear hb) | (go_at_call 31;(refine (put_at s 4 (by omega) (by decide) _).mono ?_);rintro e w6 ⟨v6,rfl,hr6,hb6⟩;obtain ⟨a6,c6,rfl⟩:=Kd.R_slice1 hr6 (by rw [beL_length];decide);have HB6:=Aside0.mk (below_step HB5.out hb6);have HR56:=Aside0.mk (Kd.R_lower (Kd.R_below HR5.out hb6) (Nat.le_trans HB0.out.size HB3.out.size));have HR6:=Aside0.mk (Kd.R_reads' hr6).2.2;clear hr6 hb6) | ((with_reducible refine gate_dst (N:=27) rfl ?_);go_must (refine Kd.R_append_rows (Kd.int .u8) (Rr:=(Kd.int .u8).K w6) (w0:=w) w.heap.size rfl (.tmp 22) (.tmp 26) 24 5 (.int .u8 0) 1 rfl Tryz.underlying24 infoU8 rfl (by decide) (by decide) (.slice (some a4) F.length c4) F (beL s 4) (some a6) (beL s 4).length c6 (fun _ => True) (fun _ => False) rfl rfl HR56.out HR6.out (fun _ _ h => h) (fun _ h => h.elim) (fun _ _ => trivial) HB6.out HB6.out.size ?h6 ?_);(case h6 => (rw [beL_length,HFL.out];omega));intro v7 w7 hr7 hb7 hg7 hat7;obtain ⟨A7,c7,hv7⟩:=Kd.R_slice hr7;rw [List.length_append] at hv7;subst hv7;have HR7:=Aside0.mk hr7;have HB7:=Aside0.mk hb7;clear hr7 hb7 hg7 hat7))
    go_ret
    exact ⟨_,rfl,by rw [frB,HFE.out,HSE.out];exact HR7.out,HB7.out⟩
def WU (W:World) (g:Nat) (v:Value) (q:Int):Prop:=W.heap[g]? = some (.cells #[v,.int .i64 q] 62 (0,0))
def WS (g:Nat) (v:Value) (q:Int) (W:World):Prop:=W.cell? ⟨g,0,none⟩=some v∧W.cell? ⟨g,1,none⟩=some (.int .i64 q)
theorem writerF.calls (g k q m:Nat) (b p:List Int) (v:Value) (A:Option Addr) (c base:Nat) (w0 w:World) (hk:k<256) (hq:q<4294967295) (hm:p.length=m) (hr:Kd.C (Kd.int .u8) w A m p) (hc:m≤c) (hl:m≤1000000) (hok:okB p=true) (hT:TabQ w)
    (hW:WU w g v q) (hv:Kd.R (Kd.int .u8) 5 w base (fun _ => True) v b) (hbl:b.length≤1000000000) (hB:Below base w0 w) (hbase:base≤g) :
    Calls Tryz.prog 30 #[.pointer (some ⟨g,0,none⟩),.int .i64 k,.slice A m c] w fun e w' => e = .returned (.tuple #[])∧∃ v':Value,WU w' g v' ((q+1:Nat):Int)∧Kd.R (Kd.int .u8) 5 w' base (fun _ => True) v' (b++frB k q p)∧Below base w0 w'∧KeepBut w w' g v.ownBlock∧(v'.ownBlock=v.ownBlock∨∃ x,v'.ownBlock=some x∧w.heap.size≤x):=by
  have HM:=Aside0.mk hm
  have HR:=Aside0.mk hr
  have HT:=Aside0.mk hT
  have HOK:=Aside0.mk hok
  have HW:=Aside0.mk hW
  have HV:=Aside0.mk hv
  have HB:=Aside0.mk hB
  have HC:=Aside0.mk hc
  have hgl:g<w.heap.size:=blk_lt hW
  obtain ⟨A1,c1,rfl⟩:=Kd.R_slice hv
  have HNE:=Aside0.mk (Kd.R_ne hv hW (by decide))
  clear hr hok hT hm hW hv hB hc
  go_enter Tryz.func30,Tryz.ntmps30
  go_wp2_with fail
  have HS:Aside0 (WS g (.slice A1 b.length c1) q w.drew):=⟨(blk_cell HW.out 0).trans rfl,(blk_cell HW.out 1).trans rfl⟩
  refine wp_region_hd (by kernel_rfl) (GHead.start (n:=16) (S:=WS g (.slice A1 b.length c1) q) (by decide) ?_)
  refine GHead.take' (i:=0) (v:=?_) rfl rfl (by kernel_rfl) (fun _ _ _ h => by cases h.1) (Or.inl ⟨by rfl,?_⟩) HS.out ?_
  rotate_left
  · (intro W' hW';have c0:=hW'.1;have c1:=hW'.2;go_simp;try (with_reducible rfl))
  try simp only [List.setIfInBounds_toArray,List.set_cons_zero,List.set_cons_succ]
  refine GHead.take' (i:=1) (v:=?_) rfl rfl (by kernel_rfl) (fun _ _ _ h => by cases h.1) (Or.inl ⟨by rfl,?_⟩) HS.out ?_
  rotate_left
  · (intro W' hW';have c0:=hW'.1;have c1:=hW'.2;go_simp;try (with_reducible rfl))
  try simp only [List.setIfInBounds_toArray,List.set_cons_zero,List.set_cons_succ]
  refine GHead.take' (i:=2) (v:=?_) rfl rfl (by kernel_rfl) (fun _ _ _ h => by cases h.1) (Or.inl ⟨by rfl,?_⟩) HS.out ?_
  rotate_left
  · (intro W' hW';have c0:=hW'.1;have c1:=hW'.2;go_simp;try (with_reducible rfl))
  try simp only [List.setIfInBounds_toArray,List.set_cons_zero,List.set_cons_succ]
  refine GHead.take' (i:=3) (v:=?_) rfl rfl (by kernel_rfl) (fun _ _ _ h => by cases h.1) (Or.inl ⟨by rfl,?_⟩) HS.out ?_
  rotate_left
  · (intro W' hW';have c0:=hW'.1;have c1:=hW'.2;go_simp;try (with_reducible rfl))
  try simp only [List.setIfInBounds_toArray,List.set_cons_zero,List.set_cons_succ]
  refine GHead.take' (i:=4) (v:=?_) rfl rfl (by kernel_rfl) (fun _ _ _ h => by cases h.1) (Or.inl ⟨by rfl,?_⟩) HS.out ?_
  rotate_left
  · (intro W' hW';have c0:=hW'.1;have c1:=hW'.2;go_simp;try (with_reducible rfl))
  try simp only [List.setIfInBounds_toArray,List.set_cons_zero,List.set_cons_succ]
  refine GHead.take' (i:=5) (v:=?_) rfl rfl (by kernel_rfl) (fun _ _ _ h => by cases h.1) (Or.inl ⟨by rfl,?_⟩) HS.out ?_
  rotate_left
  · (intro W' hW';have c0:=hW'.1;have c1:=hW'.2;go_simp;try (with_reducible rfl))
  try simp only [List.setIfInBounds_toArray,List.set_cons_zero,List.set_cons_succ]
  refine GHead.take' (i:=6) (v:=?_) rfl rfl (by kernel_rfl) (fun _ _ _ h => by cases h.1) (Or.inl ⟨by rfl,?_⟩) HS.out ?_
  rotate_left
  · (intro W' hW';have c0:=hW'.1;have c1:=hW'.2;go_simp;try (with_reducible rfl))
  try simp only [List.setIfInBounds_toArray,List.set_cons_zero,List.set_cons_succ]
  refine GHead.take' (i:=7) (v:=?_) rfl rfl (by kernel_rfl) (fun _ _ _ h => by cases h.1) (Or.inl ⟨by rfl,?_⟩) HS.out ?_
  rotate_left
  · (intro W' hW';have c0:=hW'.1;have c1:=hW'.2;go_simp;try (with_reducible rfl))
  try simp only [List.setIfInBounds_toArray,List.set_cons_zero,List.set_cons_succ]
  refine GHead.take' (i:=8) (v:=?_) rfl rfl (by kernel_rfl) (fun _ _ _ h => by cases h.1) (Or.inl ⟨by rfl,?_⟩) HS.out ?_
  rotate_left
  · (intro W' hW';have c0:=hW'.1;have c1:=hW'.2;go_simp;try (with_reducible rfl))
  try simp only [List.setIfInBounds_toArray,List.set_cons_zero,List.set_cons_succ]
  refine GHead.take' (i:=9) (v:=?_) rfl rfl (by kernel_rfl) (fun _ _ _ h => by cases h.1) (Or.inl ⟨by rfl,?_⟩) HS.out ?_
  rotate_left
  · (intro W' hW';have c0:=hW'.1;have c1:=hW'.2;go_simp;try (with_reducible rfl))
  try simp only [List.setIfInBounds_toArray,List.set_cons_zero,List.set_cons_succ]
  refine GHead.take' (i:=10) (v:=?_) rfl rfl (by kernel_rfl) (fun _ _ _ h => by cases h.1) (Or.inl ⟨by rfl,?_⟩) HS.out ?_
  rotate_left
  · (intro W' hW';have c0:=hW'.1;have c1:=hW'.2;go_simp;try (with_reducible rfl))
  try simp only [List.setIfInBounds_toArray,List.set_cons_zero,List.set_cons_succ]
  refine GHead.take' (i:=11) (v:=?_) rfl rfl (by kernel_rfl) (fun _ _ _ h => by cases h.1) (Or.inl ⟨by rfl,?_⟩) HS.out ?_
  rotate_left
  · (intro W' hW';have c0:=hW'.1;have c1:=hW'.2;go_simp;try (with_reducible rfl))
  try simp only [List.setIfInBounds_toArray,List.set_cons_zero,List.set_cons_succ]
  have FB:=Aside0.mk (frameB.calls k q m p A c w.drew hk (by omega) HM.out (Kd.C_below HR.out (below_drew (Below.refl _ _))) HC.out hl HOK.out (HT.out.below (below_drew (Below.refl _ _))))
  refine GHead.one (i:=12) rfl (by kernel_rfl) (by rfl) (fun K1 hK1 => ?_)
  go_simp
  refine FB.out.mono ?_
  rintro e w1 ⟨v1,rfl,hr1,hb1⟩
  have HB1:=Aside0.mk (below_step (below_drew (Below.refl w.heap.size w)) hb1)
  have HL1:Aside0 ((frB k q p).length=13+m):=⟨by rw [frB_len,HM.out]⟩
  obtain ⟨a1,d1,rfl⟩:=Kd.R_slice1 hr1 (by rw [HL1.out];omega)
  have HR1:=Aside0.mk (Kd.R_reads' hr1)
  have HW1:=Aside0.mk (show WU w1 g (.slice A1 b.length c1) q from blk_below HW.out HB1.out)
  have HS1:Aside0 (WS g (.slice A1 b.length c1) q w1):=⟨(blk_cell HW1.out 0).trans rfl,(blk_cell HW1.out 1).trans rfl⟩
  have HBb1:=Aside0.mk (HB.out.trans (HB1.out.mono (by omega)))
  refine hK1 _ _ HS1.out ?_
  clear hK1 hr1 hb1 FB
  generalize hF:frB k q p=F at *
  refine GHead.one (i:=13) rfl (by kernel_rfl) (by rfl) (fun K2 hK2 => ?_)
  refine of_if' (c:=Region.wanted _ _=true) (by rfl) (Kd.R_append_rows_step (ops:=#[]) (Kd.int .u8) (Rr:=(Kd.int .u8).K w1) (w0:=w0) base (by rfl) (.tmp 10) (.tmp 18) 24 5 (.int .u8 0) 1 rfl Tryz.underlying24 infoU8 rfl (by decide) (by decide) (.slice A1 b.length c1) b F (some a1) F.length d1 (fun _ => True) (fun _ => False) rfl rfl (Kd.R_below HV.out HB1.out) HR1.out.2.2 (fun _ _ h => h) (fun _ hk => hk.elim) (fun _ _ => trivial) HBb1.out (by have:=HB1.out.size;omega) (by rw [HL1.out];omega) ?ap)
  case ap =>
    intro v2 w2 hr2 hb2 hg2 hat2
    have HW2:=Aside0.mk (show WU w2 g (.slice A1 b.length c1) q from blk_grown HW1.out hg2 HNE.out)
    have HS2:Aside0 (WS g (.slice A1 b.length c1) q w2):=⟨(blk_cell HW2.out 0).trans rfl,(blk_cell HW2.out 1).trans rfl⟩
    have HR2:=Aside0.mk hr2
    have HB2:=Aside0.mk hb2
    have HK2:Aside0 (KeepBut w w2 g (Value.slice A1 b.length c1).ownBlock):=⟨(KeepBut.of_below HB1.out g _).trans (KeepBut.of_grown hg2 g) (.inl rfl)⟩
    have HAT:Aside0 (v2.ownBlock=(Value.slice A1 b.length c1).ownBlock∨∃ x,v2.ownBlock=some x∧w.heap.size≤x):=⟨by
      rcases hat2 with h | ⟨x,h,h2⟩
      · exact .inl h
      · exact .inr ⟨x,h,Nat.le_trans HB1.out.size h2⟩⟩
    obtain ⟨A2,c2,hv2⟩:=Kd.R_slice hr2
    rw [List.length_append] at hv2
    subst hv2
    refine hK2 _ _ HS2.out ?_
    clear hr2 hb2 hg2 hat2 hK2
    simp only [Act.put,List.setIfInBounds_toArray,List.set_cons_zero,List.set_cons_succ]
    refine GHead.take' (i:=14) (v:=?_) rfl rfl (by kernel_rfl) (fun _ _ _ h => by cases h.1) (Or.inl ⟨by rfl,?_⟩) HS2.out ?_
    rotate_left
    · (intro W' hW';have c0:=hW'.1;have c1:=hW'.2;go_simp;try (with_reducible rfl))
    try simp only [List.setIfInBounds_toArray,List.set_cons_zero,List.set_cons_succ]
    refine GHead.take' (i:=15) (v:=?_) rfl rfl (by kernel_rfl) (fun _ _ _ h => by cases h.1) (Or.inl ⟨by rfl,?_⟩) HS2.out ?_
    rotate_left
    · (intro W' hW';have c0:=hW'.1;have c1:=hW'.2;go_simp;try (with_reducible rfl))
    try simp only [List.setIfInBounds_toArray,List.set_cons_zero,List.set_cons_succ]
    refine GHead.last rfl (by kernel_rfl) (by rfl) (fun K3 hK3 => ?_)
    have b0:=HS2.out.1
    have f0:=blk_frozen HW2.out 0
    go_simp
    refine hK3 _ _ ⟨rfl,?_⟩
    clear b0 f0
    have HW3:Aside0 (WU (w2.setCell ⟨g,0,none⟩ (.slice A2 (b.length+F.length) c2)) g (.slice A2 (b.length+F.length) c2) q):=⟨blk_put HW2.out 0 _ rfl⟩
    have HB3:Aside0 (Below base w0 (w2.setCell ⟨g,0,none⟩ (.slice A2 (b.length+F.length) c2))):=⟨HB2.out.setCell (p:=⟨g,0,none⟩) hbase _⟩
    have HK3:=Aside0.mk (HK2.out.set_ 0 (.slice A2 (b.length+F.length) c2))
    have HNE2:=Aside0.mk (Kd.R_ne HR2.out HW2.out (by decide))
    have HR3:=Aside0.mk (Kd.R_far (Kd.R_tight rfl HR2.out) (p:=⟨g,0,none⟩) (fun k hk e => HNE2.out (by have e':k=g:=e;rw [← e'];exact hk)) (.slice A2 (b.length+F.length) c2))
    generalize w2.setCell ⟨g,0,none⟩ (.slice A2 (b.length+F.length) c2)=w3 at *
    have b1:=(blk_cell HW3.out 1).trans rfl
    have f1:=blk_frozen HW3.out 1
    have hqq:IntKind.i64.wrap ((q:Int)+1)=((q+1:Nat):Int):=by rw [IntKind.wrap_i64];omega
    go_wp2_with fail
    refine bodyPost_end (results_none rfl _ _ _) rfl ?_
    refine ⟨rfl,_,?_,Kd.R_mono (Kd.R_far HR3.out (p:=⟨g,1,none⟩) (fun k hk e => HNE2.out (by have e':k=g:=e;rw [← e'];exact hk)) _) (fun _ _ => trivial),HB3.out.setCell (p:=⟨g,1,none⟩) hbase _,HK3.out.set_ 1 _,HAT.out⟩
    exact blk_put HW3.out 1 _ (by rfl)
end Go.Proofs.YtcgbgifbajdhpaaGreatDoor.PA
