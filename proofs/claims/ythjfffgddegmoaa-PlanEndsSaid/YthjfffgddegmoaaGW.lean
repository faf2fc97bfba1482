/- Words that the contracts of this seat share. -/
import Derived.Test.YthjfffgddegmoaaProg
import Derived.Below
import Derived.Deep.Draws
import Derived.Deep.AppendLies
import Derived.Maps.AppendAt
import Derived.OwnWalk
import Derived.Laws.BytesArg
import Derived.Laws.MakeOwn
import Derived.Laws.OwnMore
import Derived.Deep.OwnRows
import Derived.Tactics
import Derived.Lib.ConvBytes
import Derived.Laws.Slices
import Derived.WalkKit
import Derived.KernelRfl
import Derived.RowKit3
import Derived.Deep.LoopGhost
import Derived.Deep.QuietTactic
import Derived.BigQuiet
import Derived.WideLaws
import Derived.Deep.DeepCutAuto
import Derived.Deep.CutBlock
import Derived.Deep.RegionHeld3
import Derived.Laws.Rows
import Derived.Lib.AppendStr
import Derived.ArgAppend
import Derived.Laws.IdiomCopy
import Derived.Laws.BitsLemmas
import Derived.Laws.BitsAllLaws
import Derived.RowKit
import Derived.Lib.Hide
import Derived.Test.YthjfffgddegmoaaWWords
import Derived.Test.YthjfffgddegmoaaWLast
import Derived.Test.YthjfffgddegmoaaWMore
namespace Go.Proofs.Ythjfffgddegmoaa.G
open Go.RowKit Go.Proofs.YthjfffgddegmoaaW.PrintWords Go.Proofs.YthjfffgddegmoaaW.PrintLast Go.Proofs.YthjfffgddegmoaaW.PrintMore
set_option linter.unusedVariables false
set_option linter.unusedSimpArgs false

theorem ret_bool {a b : Bool} (h : a = b) : Ending.returned (.bool a) = .returned (.bool b) := by rw [h]
/-- a row that was made: where it begins -/
theorem made_form {α : Type} {d : Kd α} {e base B : Nat} {ok : Nat → Prop} {w : World} {v : Value} {xs : List α} (h : d.R e w base ok v xs) (hb : ∃ b, v.ownBlock = some b ∧ B ≤ b) :
    ∃ g cap, v = .slice (some ⟨g, 0, none⟩) xs.length cap ∧ B ≤ g := by
  obtain ⟨inner, ho⟩ := Kd.R_own h
  obtain ⟨b, hb, hB⟩ := hb
  rcases ho.2 with ⟨rfl, _⟩ | ⟨g, cap, cur, rfl, _⟩
  · simp [Value.ownBlock] at hb
  · have : g = b := by simpa [Value.ownBlock] using hb
    exact ⟨g, cap, rfl, by omega⟩
/-- a new block reads as the row that was laid -/
theorem C_lit {α : Type} (enc : α → Value) (d : α) {h1 : ∀ x, (enc x).oneCell' = true} (w : World) (e : Nat) (cs : Array Value) (fr : Nat × Nat) (xs : List α) (hcs : cs.toList = xs.map enc) (hl : xs.length ≤ 9223372036854775807) :
    (Kd.scalar enc h1).C (w.alloc (.cells cs e fr)) (some ⟨w.heap.size, 0, none⟩) xs.length xs := by
  refine Kd.C_of_reads (d := d) ⟨rfl, hl, fun _ => ⟨_, rfl, fun j hj => ?_⟩⟩
  rw [add_plain]
  refine (cell_of_row _ _ j cs e fr (heap_alloc_new w _)).trans ?_
  rw [← Array.getElem?_toList, hcs, List.getElem?_map, List.getElem?_eq_getElem hj]
  simp [List.getD_eq_getElem?_getD, List.getElem?_eq_getElem hj]
theorem C_lit_at {α : Type} (enc : α → Value) (d : α) {h1 : ∀ x, (enc x).oneCell' = true} (w : World) (e : Nat) (cs : Array Value) (fr : Nat × Nat) (xs : List α) (g n : Nat) (hcs : cs.toList = xs.map enc) (hl : xs.length ≤ 9223372036854775807) (hg : g = w.heap.size) (hn : xs.length = n) :
    (Kd.scalar enc h1).C (w.alloc (.cells cs e fr)) (some ⟨g, 0, none⟩) n xs := by
  subst hg hn
  exact C_lit enc d w e cs fr xs hcs hl
/-- a row of no element, made by a literal -/
theorem R_empty {α : Type} (d : Kd α) (e base : Nat) (w : World) (ok : Nat → Prop) (hb : base ≤ w.heap.size) (hok : ok w.heap.size) :
    d.R e (w.alloc (.cells #[] e)) base ok (.slice (some ⟨w.heap.size, 0, none⟩) 0 0) [] := by
  refine ⟨fun k hk => ?_, [], ⟨by simp, .inr ⟨w.heap.size, 0, #[], rfl, hb, heap_alloc_new w _, Nat.le_refl _, by simp [maxLen], by simp, by simp⟩⟩, Reps.none _ _⟩
  simp only [Value.ownBlock, Option.some.injEq] at hk
  rw [← hk]
  exact hok
theorem i64_bd {n : Int} (h : (Lit.int .i64 n).wf = true) : -9223372036854775808 ≤ n ∧ n ≤ 9223372036854775807 := by
  simpa [Lit.wf, IntKind.min, IntKind.max, IntKind.signed, IntKind.bits] using h
theorem w64 {x : Int} (h : -9223372036854775808 ≤ x) (h' : x ≤ 9223372036854775807) : wrap64 x = x := by unfold wrap64; omega
end Go.Proofs.Ythjfffgddegmoaa.G
