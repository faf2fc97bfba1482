/- Lemmas and contracts that the law ChunkTwice leans on (packed by a program of this session out of its texts and the print's words). -/
import Derived.Test.YtbgmnmjokdfmlaaDoorZJ1
import Derived.Test.YtbgmnmjokdfmlaaDoorZJ2
import Derived.Test.YtbgmnmjokdfmlaaDoorZJ3
import Derived.Test.YtbgmnmjokdfmlaaDoorZJ4
import Derived.Test.YtbgmnmjokdfmlaaDoorZJ5
import Derived.Test.YtbgmnmjokdfmlaaDoorZJ6
import Derived.Test.YtbgmnmjokdfmlaaDoorZJ7
import Derived.Test.YtbgmnmjokdfmlaaDoorZJ8
import Derived.Test.YtbgmnmjokdfmlaaDoorProg
import Derived.Below
import Derived.Deep.Draws
import Derived.Deep.AppendLies
import Derived.Maps.AppendAt
import Derived.OwnWalk
import Derived.Laws.BytesArg
import Derived.Laws.MakeOwn
import Derived.Laws.OwnMore
import Derived.Deep.OwnRows
import Derived.Tactics
import Derived.Lib.ConvBytes
import Derived.Laws.Slices
import Derived.WalkKit
import Derived.KernelRfl
import Derived.RowKit3
import Derived.Deep.LoopGhost
import Derived.Deep.QuietTactic
import Derived.BigQuiet
import Derived.WideLaws
import Derived.Deep.DeepCutAuto
import Derived.Deep.CutBlock
import Derived.Deep.RegionHeld3
import Derived.Laws.Rows
import Derived.Lib.AppendStr
import Derived.ArgAppend
import Derived.Laws.IdiomCopy
import Derived.OrdersHeld
import Derived.Laws.BitsLemmas
import Derived.RowKit
import Derived.Test.YtbgmnmjokdfmlaaDoorZT1
import Derived.Laws.StructEq
import Derived.Laws.BitsAllLaws
import Derived.Lib.Hide
import Derived.Sort.LotA
import Derived.Sort.WalkA
import Derived.Deep.DeepMust
import Derived.Shelf.SlSortCmp.KitK
import Derived.Sort.WalkB2
import Derived.Sort.WalkB12
import Derived.Shelf.SlSortCmp.InsertionK
import Derived.Shelf.Lay
import Derived.Ground.SlsfProg
import Derived.Shelf.SlicesQ.Reverse
import Derived.Shelf.SlGeneric
import Derived.Ground.SlgnProg
import Derived.Laws.Cover1
import Derived.StillTailTactics
import Derived.WalkSpells
import Derived.Deep.RegionWith
import Derived.Shelf.Spec.TrailingZeros
import Derived.Lib.Strings
import Derived.Lib.Slices
import Derived.Lib.Small
import Derived.Lib.Walk
import Derived.Lib.BitFns
import Derived.Shelf.Spec.SlicesInsert
import Derived.Lib.AppendZerosOnto
import Derived.Laws.RangeAny
import Derived.WalkMore
import Derived.RangeFuncNested
import Derived.RangeFuncBound
import Derived.RangeFuncCalls
import Derived.RangeFuncLeaves
import Derived.Shelf.Abstract
import Derived.Shelf.RegionOpen
import Derived.OwnWalkIn
import Derived.TacticsInMore
import Derived.LoopNIn
import Derived.LoopIn
import Derived.Lib.QuietBelowIn
import Derived.OrdersIn
import Derived.RangeFuncKeeps
import Derived.Tactics2
import Derived.RegionTactic
import Derived.Deep.RegionLaw
import Derived.RangeFuncFrom
import Derived.BigRegion
namespace Go.Proofs.YtbgmnmjokdfmlaaDoor.PA
open Go.Sort
set_option linter.unusedVariables false
set_option linter.unusedSimpArgs false
theorem at_one {l : List S54} (h : Rs l) (v : Int) : (at_ v l).length ≤ 1 := by
  have hp : (at_ v l).Pairwise (fun x y => x.f0 < y.f0) := List.Pairwise.filter _ h
  match hm : at_ v l with
  | [] => exact Nat.zero_le _
  | [x] => exact Nat.le_refl _
  | x :: y :: r =>
    rw [hm] at hp
    have h1 := (List.pairwise_cons.1 hp).1 y (List.mem_cons_self ..)
    have hx : x ∈ at_ v l := by rw [hm]; exact List.mem_cons_self ..
    have hy : y ∈ at_ v l := by rw [hm]; exact List.mem_cons_of_mem _ (List.mem_cons_self ..)
    have ex := (List.mem_filter.1 hx).2
    have ey := (List.mem_filter.1 hy).2
    simp at ex ey
    omega
theorem risenL_self {l : List S54} (h : Rs l) : risenL l = l := Rs_ext _ _ (risenL_Rs l) h (fun v => by
  rw [risenL_at]
  have := at_one h v
  match hm : at_ v l with
  | [] => rfl
  | [x] => rfl
  | x :: y :: r => rw [hm] at this; simp at this)
theorem risenL_append (a b : List S54) : risenL (risenL a ++ risenL b) = risenL (a ++ b) := Rs_ext _ _ (risenL_Rs _) (risenL_Rs _) (fun v => by
  rw [risenL_at, risenL_at, at_append, at_append, risenL_at, risenL_at]
  rw [List.getLast?_append, List.getLast?_append]
  cases (at_ v a).getLast? <;> cases (at_ v b).getLast? <;> rfl)
theorem setAll_pos : ∀ (xs l : List S54), (l ≠ [] ∨ xs ≠ []) → setAll l xs ≠ []
  | [], l, h => by
    rcases h with h | h
    · exact h
    · exact absurd rfl h
  | x :: xs, l, h => setAll_pos xs (setL l x) (.inl (fun e => by have := (setL_len l x).1; rw [e] at this; simp at this))
end Go.Proofs.YtbgmnmjokdfmlaaDoor.PA
namespace Go.Proofs.YtbgmnmjokdfmlaaDoor.PA
open Go.RowKit Go.Proofs.YtbgmnmjokdfmlaaDoor.G Go.Proofs.YtbgmnmjokdfmlaaDoorW.PrintWords Go.Proofs.YtbgmnmjokdfmlaaDoorW.PrintLast Go.Proofs.YtbgmnmjokdfmlaaDoorW.PrintMore
set_option linter.unusedVariables false
set_option linter.unusedSimpArgs false
theorem SrtL_join (l : List S60) : SrtL (joinL l) := SrtL_map (SrtL_groups l) (by unfold joinL; rw [List.map_map]; rfl)
end Go.Proofs.YtbgmnmjokdfmlaaDoor.PA
namespace Go.Proofs.YtbgmnmjokdfmlaaDoor.PA
set_option linter.unusedVariables false
set_option linter.unusedSimpArgs false
theorem SrtL_ris {G : List S60} (h : SrtL G) : SrtL (G.map ris) := SrtL_map h (by rw [List.map_map]; rfl)
end Go.Proofs.YtbgmnmjokdfmlaaDoor.PA
namespace Go.Proofs.YtbgmnmjokdfmlaaDoor.PA
open Go.RowKit Go.Proofs.YtbgmnmjokdfmlaaDoor.G Go.Proofs.YtbgmnmjokdfmlaaDoorW.PrintWords Go.Proofs.YtbgmnmjokdfmlaaDoorW.PrintLast Go.Proofs.YtbgmnmjokdfmlaaDoorW.PrintMore
set_option linter.unusedVariables false
set_option linter.unusedSimpArgs false
theorem raw_nilN {w : World} {base : Nat} {v : Value} (h : (Kd.raw 2).R 60 w base (fun _ => True) v []) : Kd.N k60 60 w base (fun _ => True) v [] :=
  ⟨fun _ _ => trivial, [], rfl, Kd.raw_tight h, fun j x c hx _ => by simp at hx⟩
set_option maxHeartbeats 2000000 in
set_option maxRecDepth 100000 in
theorem growS.calls (n : Int) (w : World) (h0 : 0 ≤ n) (h1 : n ≤ 1000000) :
    Calls Tryd.prog 56 #[.slice none 0 0, .int .i64 n] w fun e w' => ∃ v : Value, e = .returned v ∧ Kd.N k60 60 w' w.heap.size (fun _ => True) v [] ∧ Below w.heap.size w w' := by
  have hneg : decide (n < 0) = false := decide_eq_false (by omega)
  have hw : IntKind.i64.wrap n = n := by rw [IntKind.wrap_i64]; omega
  obtain ⟨i05, hi05, _, hsz5, _⟩ := info_parts info60
  have hcut0 := cut_to (P := Tryd.prog) 38 60 .i64 Tryd.underlying38 hi05 none 0 0 0 (by omega) (by omega) (by omega)
  have HN0 : Aside0 (0 ≤ n ∧ n ≤ 1000000) := ⟨h0, h1⟩
  clear h0 h1
  go_enter Tryd.func56, Tryd.ntmps56
  by_cases hp : 0 < n
  · have hd : decide (0 < n) = true := decide_eq_true hp
    have HP := Aside0.mk hp
    clear hp
    go_wp2_with (first | ((with_reducible refine gate_dst (N := 22) rfl ?_); go_must (refine Kd.R_append_zeros (Kd.raw 2) (w0 := w) w.heap.size rfl (.tmp 20) (.tmp 21) 38 3 60 (.agg #[.slice none 0 0, .slice none 0 0]) 48 rfl Tryd.underlying38 Tryd.underlying3 info60 rfl (by decide) (by omega) (.slice none 0 0) [] [.slice none 0 0, .slice none 0 0] n (fun _ => True) rfl rfl ⟨rfl, rfl, fun u hu => by have hu2 : u ∈ [Value.slice none 0 0, Value.slice none 0 0] := hu; simp only [List.mem_cons, List.not_mem_nil, or_false, or_self] at hu2; subst hu2; rfl⟩ (fun _ _ => trivial) (Kd.R_nil _ _ _ _ _) HN0.out.1 (Below.refl _ _) (Nat.le_refl _) ?h6 ?_); (case h6 => (have := HN0.out; simp only [List.length_nil]; omega)); intro v4 w4 hR4 hB4 hg4 ho4; obtain ⟨g4, c4, rfl, hb4, hl4, _⟩ := Kd.R_form hR4 (by have := HP.out; simp only [List.nil_append, List.length_replicate]; omega); have hcc := (Kd.R_reads' hR4).2.1; have hcut4 := cut_to (P := Tryd.prog) 38 60 .i64 Tryd.underlying38 hi05 (some ⟨g4, 0, none⟩) _ c4 0 (by omega) (by omega) hcc; have HR4 := Aside0.mk (Kd.R_take hR4 (Nat.zero_le _)); have HB4 := Aside0.mk hB4; clear hR4 hB4 hg4 ho4))
    go_ret
    exact ⟨_, rfl, raw_nilN HR4.out, HB4.out⟩
  · obtain rfl : n = 0 := by have := HN0.out; omega
    go_wp2
    go_ret
    exact ⟨_, rfl, Kd.R_N (Kd.R_nil _ _ _ _ _), Below.refl _ _⟩
set_option maxHeartbeats 4000000 in
set_option maxRecDepth 100000 in
theorem concatS.calls (g : Nat) (A1 A2 : Option Addr) (n1 n2 c1 c2 : Nat) (a b : List S60) (w : World) (ha : a.length = n1) (hb : b.length = n2) (hr1 : Kd.C k60 w A1 n1 a) (hr2 : Kd.C k60 w A2 n2 b) (hx : w.heap[g]? = some (.cells #[.slice A1 n1 c1, .slice A2 n2 c2] 38 (0, 0))) (h1 : n1 ≤ 100000) (h2 : n2 ≤ 100000) :
    Calls Tryd.prog 27 #[.slice (some ⟨g, 0, none⟩) 2 2] w fun e w' => ∃ (A' : Option Addr) (c' : Nat), e = .returned (.slice A' (n1 + n2) c') ∧ n1 + n2 ≤ c' ∧ Kd.C k60 w' A' (n1 + n2) (a ++ b) ∧ Below w.heap.size w w' := by
  have HX := Aside0.mk hx
  have HA := Aside0.mk ha
  have HB1 := Aside0.mk hb
  have F1 : Aside0 (Kd.F k60 w (fun k => k < w.heap.size) A1 n1 a) := ⟨by subst ha; exact Kd.C_F kS_heapJ hr1⟩
  have F2 : Aside0 (Kd.F k60 w (fun k => k < w.heap.size) A2 n2 b) := ⟨by subst hb; exact Kd.C_F kS_heapJ hr2⟩
  have x0 := blk_cell hx 0
  have x1 := blk_cell hx 1
  clear hx ha hb hr1 hr2
  have hs1 : IntKind.i64.wrap ((n1 : Int) + (n2 : Int)) = (n1 : Int) + (n2 : Int) := by rw [IntKind.wrap_i64]; omega
  have hs0 : IntKind.i64.wrap ((0 : Int) + (n1 : Int)) = (n1 : Int) := by rw [IntKind.wrap_i64]; omega
  have hn1 : decide ((n1 : Int) < 0) = false := decide_eq_false (by omega)
  have hn2 : decide ((n1 : Int) + (n2 : Int) < 0) = false := decide_eq_false (by omega)
  go_enter Tryd.func27, Tryd.ntmps27
  go_wp2
  go_loopg [3, 11] 2 (fun kx s3 s11 wr => w = wr ∧ ((kx = 2 ∧ s11 = .int .i64 0 ∧ s3 = .int .i64 0) ∨ (kx = 1 ∧ s11 = .int .i64 1 ∧ s3 = .int .i64 n1) ∨ (kx = 0 ∧ s11 = .int .i64 2 ∧ s3 = .int .i64 ((n1 : Int) + (n2 : Int)))))
  case atStart => exact ⟨rfl, .inl ⟨rfl, rfl, rfl⟩⟩
  case round =>
    obtain ⟨rfl, ⟨rfl, rfl, rfl⟩ | ⟨rfl, rfl, rfl⟩ | ⟨rfl, rfl, rfl⟩⟩ := hrel
    · go_wp2
      go_roundg 1
      case measure => omega
      case rel => exact ⟨rfl, .inr (.inl ⟨rfl, by go_num, by go_num⟩)⟩
    · go_wp2
      go_roundg 0
      case measure => omega
      case rel => exact ⟨rfl, .inr (.inr ⟨rfl, by go_num, by go_num⟩)⟩
    · have HGR := Aside0.mk (fun W => growS.calls ((n1 : Int) + (n2 : Int)) W (by omega) (by omega))
      go_wp2_with (first | (go_at_call 56; (with_reducible refine (HGR.out _).mono ?_); rintro e w2 ⟨v2, rfl, hr2, hb2⟩; have HR2 := Aside0.mk hr2; have HB2 := Aside0.mk hb2; clear hr2 hb2))
      go_loopg [6, 27] 2 (fun kx s6 s27 wq => Aside0 (Below w.heap.size w wq) ∧ ((kx = 2 ∧ s27 = .int .i64 0 ∧ Aside0 (Kd.N k60 60 wq w.heap.size (fun _ => True) s6 [])) ∨ (kx = 1 ∧ s27 = .int .i64 1 ∧ Aside0 (Kd.N k60 60 wq w.heap.size (fun _ => True) s6 a)) ∨ (kx = 0 ∧ s27 = .int .i64 2 ∧ Aside0 (Kd.N k60 60 wq w.heap.size (fun _ => True) s6 (a ++ b)))))
      case atStart => exact ⟨HB2, .inl ⟨rfl, rfl, HR2⟩⟩
      case round =>
        clear HR2 HB2
        obtain ⟨HB, ⟨rfl, rfl, HN⟩ | ⟨rfl, rfl, HN⟩ | ⟨rfl, rfl, HN⟩⟩ := hrel
        · replace x0 := pw_cell_below HB.out x0
          replace x1 := pw_cell_below HB.out x1
          have HF := Aside0.mk (Kd.F_below F1.out HB.out)
          have HBS := Aside0.mk (Kd.N_base HN.out)
          go_wp2_with (first | ((with_reducible refine gate_dst (N := 33) rfl ?_); go_must (refine Kd.N_append_rows k60 (w0 := w) w.heap.size rfl (.tmp 31) (.tmp 32) 38 60 (.agg #[.slice none 0 0, .slice none 0 0]) 48 rfl Tryd.underlying38 info60 rfl (by decide) (by omega) _ [] a A1 n1 c1 (fun _ => True) (fun k => k < w.heap.size) rfl rfl HN.out HF.out (fun k hk => ⟨trivial, fun e => by have := HBS.out k e.symm; omega⟩) (fun _ _ => trivial) HB.out HB.out.size ?h6 ?_); (case h6 => (simp; omega)); intro v4 w4 hR4 hB4 hg4 ho4; rw [List.nil_append] at hR4; have HR4 := Aside0.mk hR4; have HB4 := Aside0.mk hB4; clear hR4 hB4 hg4 ho4))
          go_roundg 1
          case measure => omega
          case rel => exact ⟨HB4, .inr (.inl ⟨rfl, by go_num, HR4⟩)⟩
        · replace x0 := pw_cell_below HB.out x0
          replace x1 := pw_cell_below HB.out x1
          have HF := Aside0.mk (Kd.F_below F2.out HB.out)
          have HBS := Aside0.mk (Kd.N_base HN.out)
          go_wp2_with (first | ((with_reducible refine gate_dst (N := 33) rfl ?_); go_must (refine Kd.N_append_rows k60 (w0 := w) w.heap.size rfl (.tmp 31) (.tmp 32) 38 60 (.agg #[.slice none 0 0, .slice none 0 0]) 48 rfl Tryd.underlying38 info60 rfl (by decide) (by omega) _ a b A2 n2 c2 (fun _ => True) (fun k => k < w.heap.size) rfl rfl HN.out HF.out (fun k hk => ⟨trivial, fun e => by have := HBS.out k e.symm; omega⟩) (fun _ _ => trivial) HB.out HB.out.size ?h6 ?_); (case h6 => (rw [HA.out]; omega)); intro v4 w4 hR4 hB4 hg4 ho4; have HR4 := Aside0.mk hR4; have HB4 := Aside0.mk hB4; clear hR4 hB4 hg4 ho4))
          go_roundg 0
          case measure => omega
          case rel => exact ⟨HB4, .inr (.inr ⟨rfl, by go_num, HR4⟩)⟩
        · go_wp2
          go_ret
          obtain ⟨A', c', he, hc', hC⟩ := Kd.N_reads HN.out
          rw [List.length_append, HA.out, HB1.out] at he hc' hC
          subst he
          exact ⟨A', c', rfl, hc', hC, HB.out⟩
end Go.Proofs.YtbgmnmjokdfmlaaDoor.PA
namespace Go.Proofs.YtbgmnmjokdfmlaaDoor.PA
set_option linter.unusedVariables false
set_option linter.unusedSimpArgs false
def catL (t : List S65) : List S60 → List S54
  | [] => []
  | x :: l => (if cmpL x.f0 t = 0 then x.f1 else []) ++ catL t l
theorem catL_append (t : List S65) : ∀ a b : List S60, catL t (a ++ b) = catL t a ++ catL t b
  | [], b => rfl
  | x :: a, b => by rw [List.cons_append, catL, catL, catL_append t a b, List.append_assoc]
theorem catL_none {t : List S65} : ∀ {l : List S60}, (∀ x ∈ l, ¬ cmpL x.f0 t = 0) → catL t l = []
  | [], _ => rfl
  | x :: l, h => by rw [catL, if_neg (h x (List.mem_cons_self ..)), catL_none (fun y hy => h y (List.mem_cons_of_mem _ hy))]; rfl
theorem catL_some {t : List S65} : ∀ {l : List S60}, catL t l ≠ [] → ∃ x ∈ l, x.f0 = t
  | [], h => absurd rfl h
  | x :: l, h => by
    by_cases hx : cmpL x.f0 t = 0
    · exact ⟨x, List.mem_cons_self .., (cmpL_eq0 _ _).1 hx⟩
    · rw [catL, if_neg hx] at h
      obtain ⟨y, hy, e⟩ := catL_some h
      exact ⟨y, List.mem_cons_of_mem _ hy, e⟩
theorem cmpL_self (t : List S65) : cmpL t t = 0 := (cmpL_eq0 t t).2 rfl
theorem catL_one : ∀ {l : List S60} {x : S60}, SrtL l → x ∈ l → catL x.f0 l = x.f1
  | y :: l, x, h, hx => by
    obtain ⟨h1, h2⟩ := List.pairwise_cons.1 h
    rcases List.mem_cons.1 hx with rfl | hx
    · rw [catL, if_pos (cmpL_self _), catL_none (fun z hz => ?_), List.append_nil]
      have := h1 z hz
      rw [cmpL_swap]
      omega
    · rw [catL, if_neg (by have := h1 x hx; omega), catL_one h2 hx]
      rfl
theorem SrtL_ext : ∀ {a b : List S60}, SrtL a → SrtL b → (∀ x, x ∈ a ↔ x ∈ b) → a = b
  | [], [], _, _, _ => rfl
  | [], y :: b, _, _, h => by cases (h y).2 (List.mem_cons_self ..)
  | x :: a, [], _, _, h => by cases (h x).1 (List.mem_cons_self ..)
  | x :: a, y :: b, ha, hb, h => by
    obtain ⟨a1, a2⟩ := List.pairwise_cons.1 ha
    obtain ⟨b1, b2⟩ := List.pairwise_cons.1 hb
    have hxy : x = y := by
      rcases List.mem_cons.1 ((h x).1 (List.mem_cons_self ..)) with e | hx
      · exact e
      · rcases List.mem_cons.1 ((h y).2 (List.mem_cons_self ..)) with e | hy
        · exact e.symm
        · have h1 := b1 x hx
          have h2 := a1 y hy
          rw [cmpL_swap] at h1
          omega
    subst hxy
    have hself := cmpL_self x.f0
    rw [SrtL_ext a2 b2 (fun z => ⟨fun hz => by
      rcases List.mem_cons.1 ((h z).1 (List.mem_cons_of_mem _ hz)) with rfl | h1
      · have := a1 z hz; omega
      · exact h1, fun hz => by
      rcases List.mem_cons.1 ((h z).2 (List.mem_cons_of_mem _ hz)) with rfl | h1
      · have := b1 z hz; omega
      · exact h1⟩)]
theorem series_eq {x y : S60} (h0 : x.f0 = y.f0) (h1 : x.f1 = y.f1) : x = y := by
  cases x; cases y; simp only at h0 h1; subst h0 h1; rfl
theorem catL_ext {a b : List S60} (ha : SrtL a) (hb : SrtL b) (na : ∀ x ∈ a, x.f1 ≠ []) (nb : ∀ x ∈ b, x.f1 ≠ []) (h : ∀ t, catL t a = catL t b) : a = b := by
  have key : ∀ {a b : List S60}, SrtL a → SrtL b → (∀ x ∈ a, x.f1 ≠ []) → (∀ t, catL t a = catL t b) → ∀ x, x ∈ a → x ∈ b := fun {a b} ha hb na h x hx => by
    have h1 := catL_one ha hx
    have h2 : catL x.f0 b ≠ [] := by rw [← h, h1]; exact na x hx
    obtain ⟨y, hy, e⟩ := catL_some h2
    have h3 := catL_one hb hy
    rw [e, ← h, h1] at h3
    rw [series_eq e.symm h3]
    exact hy
  exact SrtL_ext ha hb (fun x => ⟨key ha hb na h x, key hb ha nb (fun t => (h t).symm) x⟩)
theorem catL_putG (t u : List S65) (G : List S60) : catL t (putG G u) = catL t G := by
  unfold putG
  split
  · rfl
  · unfold insG
    rw [catL_append, catL_append]
    conv => rhs; rw [← List.take_append_drop (posB G u) G, catL_append]
    rw [show catL t [⟨u, []⟩] = [] from by rw [catL]; split <;> rfl, List.append_nil]
theorem catL_addG {t : List S65} {G : List S60} (h : SrtL G) {i : Nat} (hi : i < G.length) (ss : List S54) : catL t (addG G i ss) = catL t G ++ (if cmpL G[i].f0 t = 0 then ss else []) := by
  unfold addG
  rw [rd_getElem hi, List.set_eq_take_append_cons_drop, if_pos hi, catL_append, catL]
  have hG : catL t G = catL t (G.take i) ++ ((if cmpL G[i].f0 t = 0 then G[i].f1 else []) ++ catL t (G.drop (i + 1))) := by
    conv => lhs; rw [← List.take_append_drop i G, List.drop_eq_getElem_cons hi, catL_append, catL]
  rw [hG]
  show _ ++ ((if cmpL G[i].f0 t = 0 then G[i].f1 ++ ss else []) ++ _) = _
  split
  · rename_i he
    have hd : catL t (G.drop (i + 1)) = [] := catL_none (fun x hx => by
      obtain ⟨j, hj, rfl⟩ := List.mem_iff_getElem.1 hx
      rw [List.getElem_drop]
      have hj2 : i + 1 + j < G.length := by rw [List.length_drop] at hj; omega
      have h1 := List.pairwise_iff_getElem.1 h i (i + 1 + j) hi hj2 (by omega)
      have e := (cmpL_eq0 _ _).1 he
      rw [e] at h1
      rw [cmpL_swap]
      omega)
    rw [hd]
    simp
  · simp
theorem catL_stepG {t : List S65} {G : List S60} (h : SrtL G) (s : S60) : catL t (stepG G s) = catL t G ++ (if cmpL s.f0 t = 0 then s.f1 else []) := by
  unfold stepG
  split
  · rename_i h0
    have : s.f1 = [] := List.eq_nil_of_length_eq_zero h0
    rw [this]
    simp
  · obtain ⟨hp, hf⟩ := putG_lt G s.f0
    rw [catL_addG (SrtL_putG h _) hp, catL_putG]
    rw [rd_getElem hp] at hf
    rw [hf]
theorem catL_fold (t : List S65) : ∀ (l G : List S60), SrtL G → catL t (l.foldl stepG G) = catL t G ++ catL t l
  | [], G, _ => by rw [List.foldl_nil, catL, List.append_nil]
  | s :: l, G, h => by rw [List.foldl_cons, catL_fold t l _ (SrtL_stepG h s), catL_stepG h, catL, List.append_assoc]
theorem catL_groups (t : List S65) (l : List S60) : catL t (groupsL l) = catL t l := by
  rw [groupsL, catL_fold t l [] SrtL_nil]
  rfl
theorem catL_ris {t : List S65} {G : List S60} (h : SrtL G) : catL t (G.map ris) = risenL (catL t G) := by
  by_cases hn : ∃ x ∈ G, x.f0 = t
  · obtain ⟨x, hx, rfl⟩ := hn
    rw [catL_one h hx]
    have := catL_one (SrtL_ris h) (List.mem_map_of_mem (f := ris) hx)
    exact this
  · have h1 : ∀ x ∈ G, ¬ cmpL x.f0 t = 0 := fun x hx e => hn ⟨x, hx, (cmpL_eq0 _ _).1 e⟩
    rw [catL_none h1, catL_none (fun x hx => by
      obtain ⟨y, hy, rfl⟩ := List.mem_map.1 hx
      exact h1 y hy)]
    rfl
theorem catL_join (t : List S65) (l : List S60) : catL t (joinL l) = risenL (catL t l) := by
  rw [show joinL l = (groupsL l).map ris from rfl, catL_ris (SrtL_groups l), catL_groups]
theorem join_ne (l : List S60) : ∀ x ∈ joinL l, x.f1 ≠ [] := fun x hx => by
  obtain ⟨y, hy, rfl⟩ := List.mem_map.1 (show x ∈ (groupsL l).map ris from hx)
  have h1 := groups_pos l y hy
  exact setAll_pos _ _ (.inr (fun e => h1 (by rw [e]; rfl)))
theorem join_join (a b : List S60) : joinL (joinL a ++ joinL b) = joinL (a ++ b) :=
  catL_ext (SrtL_join _) (SrtL_join _) (join_ne _) (join_ne _) (fun t => by
    rw [catL_join, catL_join, catL_append, catL_append, catL_join, catL_join, risenL_append])
theorem join_done {l : List S60} (h : SrtL l) (hn : ∀ x ∈ l, x.f1 ≠ []) (hs : ∀ x ∈ l, Rs x.f1) : joinL l = l :=
  catL_ext (SrtL_join _) h (join_ne _) hn (fun t => by
    rw [catL_join]
    by_cases he : ∃ x ∈ l, x.f0 = t
    · obtain ⟨x, hx, rfl⟩ := he
      rw [catL_one h hx, risenL_self (hs x hx)]
    · rw [catL_none (fun x hx e => he ⟨x, hx, (cmpL_eq0 _ _).1 e⟩)]
      rfl)
theorem join_Rs (l : List S60) : ∀ x ∈ joinL l, Rs x.f1 := fun x hx => by
  obtain ⟨y, hy, rfl⟩ := List.mem_map.1 (show x ∈ (groupsL l).map ris from hx)
  exact risenL_Rs y.f1
theorem join_again (l : List S60) : joinL (joinL l) = joinL l := join_done (SrtL_join l) (join_ne l) (join_Rs l)
end Go.Proofs.YtbgmnmjokdfmlaaDoor.PA
