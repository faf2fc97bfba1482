/- Numbers and their bytes: plain facts, and the words that the contracts of this seat share. -/
import Derived.Test.YtpeekkpdglfbbaaDoorProg
import Derived.Below
import Derived.Deep.Draws
import Derived.Deep.AppendLies
import Derived.Maps.AppendAt
import Derived.OwnWalk
import Derived.Laws.BytesArg
import Derived.Laws.MakeOwn
import Derived.Laws.OwnMore
import Derived.Deep.OwnRows
import Derived.Tactics
import Derived.Lib.ConvBytes
import Derived.Laws.Slices
import Derived.WalkKit
import Derived.KernelRfl
import Derived.RowKit3
import Derived.Deep.LoopGhost
import Derived.Deep.QuietTactic
import Derived.BigQuiet
import Derived.WideLaws
import Derived.Deep.DeepCutAuto
import Derived.Deep.CutBlock
import Derived.Deep.RegionHeld3
import Derived.Laws.Rows
import Derived.Lib.AppendStr
import Derived.ArgAppend
import Derived.Laws.IdiomCopy
import Derived.Laws.BitsLemmas
import Derived.Laws.BitsAllLaws
import Derived.RowKit
import Derived.Lib.Hide
import Derived.Test.YtpeekkpdglfbbaaDoorWWords
import Derived.Test.YtpeekkpdglfbbaaDoorWLast
import Derived.Test.YtpeekkpdglfbbaaDoorWMore
namespace Go.Proofs.YtpeekkpdglfbbaaDoor.G
open Go.RowKit Go.Proofs.YtpeekkpdglfbbaaDoorW.PrintWords Go.Proofs.YtpeekkpdglfbbaaDoorW.PrintLast Go.Proofs.YtpeekkpdglfbbaaDoorW.PrintMore
set_option linter.unusedVariables false
set_option linter.unusedSimpArgs false

/-- the lowest i bytes of a number, the highest first -/
def beL (N : Nat) : Nat → List Int
  | 0 => []
  | i + 1 => ((N / 256 ^ i % 256 : Nat) : Int) :: beL N i
theorem beL_length (N i : Nat) : (beL N i).length = i := by induction i with
  | zero => rfl
  | succ i ih => simp [beL, ih]
theorem beL_byte (N i : Nat) : ∀ x ∈ beL N i, 0 ≤ x ∧ x < 256 := by induction i with
  | zero => intro x hx; cases hx
  | succ i ih =>
    intro x hx
    rcases List.mem_cons.1 hx with rfl | hx
    · have : N / 256 ^ i % 256 < 256 := Nat.mod_lt _ (by decide)
      omega
    · exact ih x hx
/-- what bytes say, behind a number -/
def beV (V : Nat) (l : List Int) : Nat := l.foldl (fun v x => v * 256 + x.toNat) V
theorem beV_cons (V : Nat) (x : Int) (l : List Int) : beV V (x :: l) = beV (V * 256 + x.toNat) l := rfl
theorem beV_beL (N i : Nat) : ∀ V, beV V (beL N i) = V * 256 ^ i + N % 256 ^ i := by
  induction i with
  | zero => intro V; simp [beV, beL, Nat.mod_one]
  | succ i ih =>
    intro V
    rw [beL, beV_cons, ih, Int.toNat_natCast, Nat.pow_succ, Nat.mod_mul, Nat.add_mul, Nat.mul_assoc, Nat.mul_comm 256 (256 ^ i), Nat.mul_comm (N / 256 ^ i % 256)]
    omega
theorem pow_pos' (i : Nat) : 0 < 256 ^ i := Nat.pow_pos (by decide)
theorem beV_lt (l : List Int) (hl : ∀ x ∈ l, 0 ≤ x ∧ x < 256) : ∀ V m, V < 256 ^ m → beV V l < 256 ^ (m + l.length) := by
  induction l with
  | nil => intro V m h; simpa [beV] using h
  | cons x l ih =>
    intro V m h
    have hx := hl x (List.mem_cons_self ..)
    have := ih (fun y hy => hl y (List.mem_cons_of_mem _ hy)) (V * 256 + x.toNat) (m + 1) (by rw [Nat.pow_succ]; omega)
    rw [beV_cons, List.length_cons]
    rwa [show m + (l.length + 1) = m + 1 + l.length from by omega]
theorem set_at (d : Nat) (L : List Int) (v : Int) : (List.replicate (d + 1) (0 : Int) ++ L).set d v = List.replicate d 0 ++ (v :: L) := by
  rw [List.replicate_succ', List.append_assoc, List.set_append_right _ _ (by simp)]
  simp
theorem w64 {x : Int} (h : -9223372036854775808 ≤ x) (h' : x ≤ 9223372036854775807) : wrap64 x = x := by unfold wrap64; omega
theorem or8 (V : Nat) (x : Int) (hV : V < 256 ^ 7) (h0 : 0 ≤ x) (h1 : x < 256) : Go.bits .or .u64 (IntKind.u64.wrap ((V : Int) * 256)) (IntKind.u64.wrap x) = ((V * 256 + x.toNat : Nat) : Int) := by
  have e1 : IntKind.u64.wrap ((V : Int) * 256) = ((V * 256 : Nat) : Int) := by
    simp [IntKind.wrap, IntKind.bits, IntKind.signed]; omega
  have e2 : IntKind.u64.wrap x = (x.toNat : Int) := by
    simp [IntKind.wrap, IntKind.bits, IntKind.signed]; omega
  rw [e1, e2, u64_or_nat _ _ (by omega) (by omega), nat_join 8 (V * 256) x.toNat (by simp) (by omega)]
theorem rd_drop (l : List Int) (i : Nat) (h : i < l.length) : l.drop i = rd l (i : Int) :: l.drop (i + 1) := by
  rw [List.drop_eq_getElem_cons h]
  simp [rd, List.getD_eq_getElem?_getD, List.getElem?_eq_getElem h]
theorem rd_mem (l : List Int) (i : Nat) (h : i < l.length) : rd l (i : Int) ∈ l := by
  simp [rd, List.getD_eq_getElem?_getD, List.getElem?_eq_getElem h]

/-- how many bytes a width is -/
def wid (a : Int) : Nat := min (max a 0).toNat 8
theorem wid_le (a : Int) : wid a ≤ 8 := by unfold wid; omega
/-- bytes -/
def okB (l : List Int) : Bool := l.all fun x => decide (0 ≤ x ∧ x < 256)
theorem okB_iff {l : List Int} : okB l = true ↔ ∀ x ∈ l, 0 ≤ x ∧ x < 256 := by simp [okB]
theorem okB_wf {l : List Int} (h : ∀ x ∈ l, (Lit.int .u8 x).wf = true) : okB l = true := okB_iff.2 fun x hx => by
  have := h x hx
  simp [Lit.wf, IntKind.min, IntKind.max, IntKind.signed, IntKind.bits] at this
  omega
theorem u64_bd {n : Int} (h : (Lit.int .u64 n).wf = true) : 0 ≤ n ∧ n < 18446744073709551616 := by
  have : 0 ≤ n ∧ n ≤ 18446744073709551615 := by simpa [Lit.wf, IntKind.min, IntKind.max, IntKind.signed, IntKind.bits] using h
  omega
theorem u32_bd {n : Int} (h : (Lit.int .u32 n).wf = true) : 0 ≤ n ∧ n < 4294967296 := by
  have : 0 ≤ n ∧ n ≤ 4294967295 := by simpa [Lit.wf, IntKind.min, IntKind.max, IntKind.signed, IntKind.bits] using h
  omega
theorem i64_bd {n : Int} (h : (Lit.int .i64 n).wf = true) : -9223372036854775808 ≤ n ∧ n ≤ 9223372036854775807 := by
  simpa [Lit.wf, IntKind.min, IntKind.max, IntKind.signed, IntKind.bits] using h
theorem okB_beL (N i : Nat) : okB (beL N i) = true := okB_iff.2 (beL_byte N i)
/-- a row that was made: where it begins -/
theorem made_form {α : Type} {d : Kd α} {e base B : Nat} {ok : Nat → Prop} {w : World} {v : Value} {xs : List α} (h : d.R e w base ok v xs) (hb : ∃ b, v.ownBlock = some b ∧ B ≤ b) :
    ∃ g cap, v = .slice (some ⟨g, 0, none⟩) xs.length cap ∧ B ≤ g := by
  obtain ⟨inner, ho⟩ := Kd.R_own h
  obtain ⟨b, hb, hB⟩ := hb
  rcases ho.2 with ⟨rfl, _⟩ | ⟨g, cap, cur, rfl, _⟩
  · simp [Value.ownBlock] at hb
  · have : g = b := by simpa [Value.ownBlock] using hb
    exact ⟨g, cap, rfl, by omega⟩
theorem ret_bool {a b : Bool} (h : a = b) : Ending.returned (.bool a) = .returned (.bool b) := by rw [h]
/-- a new block reads as the row that was laid -/
theorem C_lit {α : Type} (enc : α → Value) (d : α) {h1 : ∀ x, (enc x).oneCell' = true} (w : World) (e : Nat) (cs : Array Value) (fr : Nat × Nat) (xs : List α) (hcs : cs.toList = xs.map enc) (hl : xs.length ≤ 9223372036854775807) :
    (Kd.scalar enc h1).C (w.alloc (.cells cs e fr)) (some ⟨w.heap.size, 0, none⟩) xs.length xs := by
  refine Kd.C_of_reads (d := d) ⟨rfl, hl, fun _ => ⟨_, rfl, fun j hj => ?_⟩⟩
  rw [add_plain]
  refine (cell_of_row _ _ j cs e fr (heap_alloc_new w _)).trans ?_
  rw [← Array.getElem?_toList, hcs, List.getElem?_map, List.getElem?_eq_getElem hj]
  simp [List.getD_eq_getElem?_getD, List.getElem?_eq_getElem hj]
theorem C_lit_at {α : Type} (enc : α → Value) (d : α) {h1 : ∀ x, (enc x).oneCell' = true} (w : World) (e : Nat) (cs : Array Value) (fr : Nat × Nat) (xs : List α) (g n : Nat) (hcs : cs.toList = xs.map enc) (hl : xs.length ≤ 9223372036854775807) (hg : g = w.heap.size) (hn : xs.length = n) :
    (Kd.scalar enc h1).C (w.alloc (.cells cs e fr)) (some ⟨g, 0, none⟩) n xs := by
  subst hg hn
  exact C_lit enc d w e cs fr xs hcs hl
/-- a row of no element, made by a literal -/
theorem R_empty {α : Type} (d : Kd α) (e base : Nat) (w : World) (ok : Nat → Prop) (hb : base ≤ w.heap.size) (hok : ok w.heap.size) :
    d.R e (w.alloc (.cells #[] e)) base ok (.slice (some ⟨w.heap.size, 0, none⟩) 0 0) [] := by
  refine ⟨fun k hk => ?_, [], ⟨by simp, .inr ⟨w.heap.size, 0, #[], rfl, hb, heap_alloc_new w _, Nat.le_refl _, by simp [maxLen], by simp, by simp⟩⟩, Reps.none _ _⟩
  simp only [Value.ownBlock, Option.some.injEq] at hk
  rw [← hk]
  exact hok
theorem infoU8 : (Tryd.prog.info? 5).map (fun i => (i.zero, i.size, i.bytes)) = some (some (.int .u8 0), 1, 1) := by kernel_rfl
end Go.Proofs.YtpeekkpdglfbbaaDoor.G
