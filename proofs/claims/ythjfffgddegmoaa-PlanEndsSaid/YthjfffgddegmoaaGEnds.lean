/- Plain facts for PlanEnds: the list that merges work on. -/
import Derived.Test.YthjfffgddegmoaaPMerged
import Derived.Test.YthjfffgddegmoaaPIdx
import Derived.Test.YthjfffgddegmoaaPCat
import Derived.Test.YthjfffgddegmoaaGPlanM
namespace Go.Proofs.Ythjfffgddegmoaa.PA
open Go.RowKit Go.Proofs.Ythjfffgddegmoaa.G Go.Proofs.YthjfffgddegmoaaW.PrintWords
set_option linter.unusedVariables false
set_option linter.unusedSimpArgs false
/-- what every list of PlanEnds is -/
structure Inv (l : List S30) (next : Int) : Prop where
  can : ∀ x ∈ l, canB x = true
  low : ∀ x ∈ l, x.f0 < next
  rk : l.Pairwise (fun x y => x.f3 < y.f3)
  num : l.Pairwise (fun x y => x.f0 ≠ y.f0)
theorem numB_iff (n : Int) : numB n = true ↔ 1 ≤ n ∧ n ≤ 4611686018427387904 := by simp [numB]
theorem canB_iff (x : S30) : canB x = true ↔ (1 ≤ x.f0 ∧ x.f0 ≤ 4611686018427387904) ∧ (1 ≤ x.f3 ∧ x.f3 ≤ 4611686018427387904) ∧ (1 ≤ x.f1 ∧ x.f1 ≤ 4611686018427387904) ∧ 1 ≤ x.f2 ∧ x.f2 ≤ 3 ∧ 0 ≤ x.f6 ∧ x.f6 ≤ 2147483647 ∧ x.f4 ≤ x.f5 := by
  simp only [canB, Bool.and_eq_true, numB_iff, decide_eq_true_eq]
  constructor <;> (intro h; omega)
theorem canGo_of : ∀ (l : List S30) (rank : Int) (met : List Int), (∀ x ∈ l, canB x = true) → (∀ x ∈ l, rank < x.f3) → l.Pairwise (fun x y => x.f3 < y.f3) → (∀ x ∈ l, x.f0 ∉ met) → l.Pairwise (fun x y => x.f0 ≠ y.f0) → canGo l rank met = true
  | [], _, _, _, _, _, _, _ => rfl
  | x :: r, rank, met, h1, h2, h3, h4, h5 => by
    rw [canGo, h1 x (List.mem_cons_self ..), decide_eq_true (h2 x (List.mem_cons_self ..)), canGo_of r x.f3 (met ++ [x.f0]) (fun y hy => h1 y (List.mem_cons_of_mem _ hy)) (fun y hy => (List.pairwise_cons.1 h3).1 y hy) (List.pairwise_cons.1 h3).2 (fun y hy hm => by
      rcases List.mem_append.1 hm with q | q
      · exact h4 y (List.mem_cons_of_mem _ hy) q
      · exact (List.pairwise_cons.1 h5).1 y hy (List.mem_singleton.1 q).symm) (List.pairwise_cons.1 h5).2]
    have := h4 x (List.mem_cons_self ..)
    simp [this]
theorem Inv.canAll {l : List S30} {next : Int} (h : Inv l next) : canAll l = true :=
  canGo_of l 0 [] h.can (fun x hx => by have := (canB_iff x).1 (h.can x hx); omega) h.rk (fun _ _ hm => by cases hm) h.num
theorem Inv.sub {l m : List S30} {next : Int} (h : Inv l next) (hs : List.Sublist m l) : Inv m next :=
  ⟨fun x hx => h.can x (hs.subset hx), fun x hx => h.low x (hs.subset hx), h.rk.sublist hs, h.num.sublist hs⟩
theorem mergeL_split : ∀ l : List S30, mergeL l ≠ [] → ∃ p a b c q, l = p ++ a :: b :: c :: q ∧ three a b c = true ∧ mergeL l = [a.f0, b.f0, c.f0]
  | [], h => absurd rfl h
  | [_], h => absurd rfl h
  | [_, _], h => absurd rfl h
  | a :: b :: c :: r, h => by
    rw [mergeL] at h ⊢
    by_cases ht : three a b c = true
    · rw [if_pos ht]
      exact ⟨[], a, b, c, r, rfl, ht, rfl⟩
    · rw [if_neg ht] at h ⊢
      obtain ⟨p, a1, b1, c1, q, e, h1, h2⟩ := mergeL_split (b :: c :: r) h
      exact ⟨a :: p, a1, b1, c1, q, by rw [e]; rfl, h1, h2⟩
theorem idxF_at (x : Int) (a : S30) (q : List S30) : ∀ (p : List S30) (k : Nat), (∀ y ∈ p, y.f0 ≠ x) → a.f0 = x → idxF x (p ++ a :: q) k = ((k + p.length : Nat) : Int)
  | [], k, _, h => by rw [List.nil_append, idxF, if_pos h]; rfl
  | y :: p, k, hp, h => by
    rw [List.cons_append, idxF, if_neg (hp y (List.mem_cons_self ..)), idxF_at x a q p (k + 1) (fun z hz => hp z (List.mem_cons_of_mem _ hz)) h, List.length_cons]
    omega
theorem Inv.merged {p q : List S30} {a b c : S30} {next : Int} (h : Inv (p ++ a :: b :: c :: q) next) (ht : three a b c = true) (h1 : 1 ≤ next) (h2 : next ≤ 1000) :
    Inv (p ++ ⟨next, 2, a.f2 + 1, c.f3, 0, 0, 0, [a.f0, b.f0, c.f0]⟩ :: q) (next + 1) := by
  have ha := (canB_iff a).1 (h.can a (by simp))
  have hc := (canB_iff c).1 (h.can c (by simp))
  have ht3 : a.f2 < 3 := by
    simp only [three, Bool.and_eq_true, decide_eq_true_eq] at ht
    omega
  have hr := h.rk
  have hn := h.num
  simp only [List.pairwise_append, List.pairwise_cons, List.mem_cons, forall_eq_or_imp] at hr hn
  refine ⟨fun x hx => ?_, fun x hx => ?_, ?_, ?_⟩
  · rcases List.mem_append.1 hx with q1 | q1
    · exact h.can x (by simp [q1])
    · rcases List.mem_cons.1 q1 with q1 | q1
      · subst q1
        rw [canB_iff]
        dsimp only
        omega
      · exact h.can x (by simp [q1])
  · rcases List.mem_append.1 hx with q1 | q1
    · have := h.low x (by simp [q1]); omega
    · rcases List.mem_cons.1 q1 with q1 | q1
      · subst q1
        dsimp only
        omega
      · have := h.low x (by simp [q1]); omega
  · simp only [List.pairwise_append, List.pairwise_cons, List.mem_cons, forall_eq_or_imp]
    exact ⟨hr.1, ⟨hr.2.1.2.2.1, hr.2.1.2.2.2⟩, fun x hx => ⟨(hr.2.2 x hx).2.2.1, (hr.2.2 x hx).2.2.2⟩⟩
  · simp only [List.pairwise_append, List.pairwise_cons, List.mem_cons, forall_eq_or_imp]
    refine ⟨hn.1, ⟨fun y hy => ?_, hn.2.1.2.2.2⟩, fun x hx => ⟨?_, (hn.2.2 x hx).2.2.2⟩⟩
    · have := h.low y (by simp [hy]); omega
    · have := h.low x (by simp [hx]); omega
/-- a level out of any number -/
def lvl (k : Int) : Int := wrap64 (1 + wrap64 ((IntKind.u64.wrap k).tmod 3))
theorem lvl_bd (k : Int) : 1 ≤ lvl k ∧ lvl k ≤ 3 := by
  have h0 : 0 ≤ IntKind.u64.wrap k := by
    rw [show IntKind.u64.wrap k = k % 18446744073709551616 from by simp [IntKind.wrap, IntKind.signed, IntKind.bits]]
    omega
  unfold lvl
  rw [Int.tmod_eq_emod_of_nonneg h0]
  unfold wrap64
  omega
def el (i : Nat) (k : Int) : S30 := ⟨(i : Int) + 1, 1, lvl k, (i : Int) + 1, 0, 0, 0, []⟩
def ini : List Int → Nat → List S30
  | [], _ => []
  | k :: r, i => el i k :: ini r (i + 1)
theorem ini_append : ∀ (xs ys : List Int) (i : Nat), ini (xs ++ ys) i = ini xs i ++ ini ys (i + xs.length)
  | [], ys, i => rfl
  | x :: xs, ys, i => by rw [List.cons_append, ini, ini, ini_append xs ys (i + 1), List.length_cons, List.cons_append, Nat.add_right_comm, Nat.add_assoc]
theorem ini_length : ∀ (xs : List Int) (i : Nat), (ini xs i).length = xs.length
  | [], _ => rfl
  | x :: xs, i => by rw [ini, List.length_cons, List.length_cons, ini_length xs]
theorem ini_take (ks : List Int) (k : Nat) (hk : k < ks.length) : ini (ks.take (k + 1)) 0 = ini (ks.take k) 0 ++ [el k ks[k]] := by
  rw [List.take_succ_eq_append_getElem hk, ini_append, List.length_take, Nat.min_eq_left (by omega), Nat.zero_add]
  rfl
theorem ini_inv : ∀ (xs : List Int) (i : Nat), i + xs.length ≤ 1000 → Inv (ini xs i) ((i : Int) + xs.length + 1) ∧ ∀ x ∈ ini xs i, (i : Int) < x.f0 ∧ (i : Int) < x.f3
  | [], i, _ => ⟨⟨fun x hx => (by cases hx), fun x hx => (by cases hx), List.Pairwise.nil, List.Pairwise.nil⟩, fun x hx => (by cases hx)⟩
  | k :: xs, i, h => by
    rw [List.length_cons] at h ⊢
    obtain ⟨h1, h2⟩ := ini_inv xs (i + 1) (by omega)
    have hb := lvl_bd k
    refine ⟨⟨fun x hx => ?_, fun x hx => ?_, ?_, ?_⟩, fun x hx => ?_⟩
    · rcases List.mem_cons.1 hx with q | q
      · subst q
        rw [canB_iff]
        dsimp only [el]
        omega
      · exact h1.can x q
    · rcases List.mem_cons.1 hx with q | q
      · subst q
        dsimp only [el]
        omega
      · have := h1.low x q; omega
    · exact List.pairwise_cons.2 ⟨fun y hy => by have := (h2 y hy).2; dsimp only [el]; omega, h1.rk⟩
    · exact List.pairwise_cons.2 ⟨fun y hy => by have := (h2 y hy).1; dsimp only [el]; omega, h1.num⟩
    · rcases List.mem_cons.1 hx with q | q
      · subst q
        dsimp only [el]
        omega
      · have := h2 x q; omega
theorem C_oneF (w : World) (g : Nat) (x : S30) (e : TypeId) {A7 : Option Addr} {c7 : Nat} (hg : w.heap[g]? = some (.cells #[.int .i64 x.f0, .int .i64 x.f1, .int .i64 x.f2, .int .i64 x.f3, .int .i64 x.f4, .int .i64 x.f5, .int .i64 x.f6, .slice A7 x.f7.length c7] e (0, 0))) (l7 : x.f7.length ≤ c7) (g7 : (Kd.int .i64).C w A7 x.f7.length x.f7) : Kd.C k30 w (some ⟨g, 0, none⟩) 1 [x] := by
  refine ⟨rfl, by omega, fun _ => ⟨_, rfl, fun j y hj => ?_⟩⟩
  have hj0 : j = 0 := by
    rcases j with _ | j
    · rfl
    · simp at hj
  subst hj0
  obtain rfl : x = y := by simpa using hj
  refine ⟨_, rfl, k30_mk w x l7 g7, fun i u hu => ?_⟩
  have hi : i < 8 := by
    rcases Nat.lt_or_ge i 8 with q | q
    · exact q
    · rw [List.getElem?_eq_none (by simpa using q)] at hu; cases hu
  have h2 := blk_cell hg i
  match i, hi with
  | 0, _ => rw [← hu]; exact h2
  | 1, _ => rw [← hu]; exact h2
  | 2, _ => rw [← hu]; exact h2
  | 3, _ => rw [← hu]; exact h2
  | 4, _ => rw [← hu]; exact h2
  | 5, _ => rw [← hu]; exact h2
  | 6, _ => rw [← hu]; exact h2
  | 7, _ => rw [← hu]; exact h2
theorem C_three (w : World) (g : Nat) (e : TypeId) (p m q : List S30) {A1 A2 A3 : Option Addr} {n1 n2 n3 c1 c2 c3 : Nat} (hg : w.heap[g]? = some (.cells #[.slice A1 n1 c1, .slice A2 n2 c2, .slice A3 n3 c3] e (0, 0))) (e1 : n1 = p.length) (e2 : n2 = m.length) (e3 : n3 = q.length)
    (l1 : p.length ≤ c1) (l2 : m.length ≤ c2) (l3 : q.length ≤ c3) (h1 : Kd.C k30 w A1 p.length p) (h2 : Kd.C k30 w A2 m.length m) (h3 : Kd.C k30 w A3 q.length q) : Kd.C (Kd.slice 30 k30) w (some ⟨g, 0, none⟩) 3 [p, m, q] := by
  subst e1 e2 e3
  refine ⟨rfl, by omega, fun _ => ⟨_, rfl, fun j y hj => ?_⟩⟩
  have hj3 : j < 3 := by
    rcases Nat.lt_or_ge j 3 with q | q
    · exact q
    · rw [List.getElem?_eq_none (by simpa using q)] at hj; cases hj
  have hcell := blk_cell hg j
  have one : ∀ {v : Value} {i : Nat} {u : Value}, [v][i]? = some u → i = 0 ∧ u = v := by
    intro v i u hu
    rcases i with _ | i
    · exact ⟨rfl, by simpa using hu.symm⟩
    · simp at hu
  match j, hj3 with
  | 0, _ =>
    obtain rfl : p = y := by simpa using hj
    exact ⟨[.slice A1 p.length c1], rfl, ⟨A1, c1, rfl, l1, h1⟩, fun i u hu => by obtain ⟨rfl, rfl⟩ := one hu; exact hcell⟩
  | 1, _ =>
    obtain rfl : m = y := by simpa using hj
    exact ⟨[.slice A2 m.length c2], rfl, ⟨A2, c2, rfl, l2, h2⟩, fun i u hu => by obtain ⟨rfl, rfl⟩ := one hu; exact hcell⟩
  | 2, _ =>
    obtain rfl : q = y := by simpa using hj
    exact ⟨[.slice A3 q.length c3], rfl, ⟨A3, c3, rfl, l3, h3⟩, fun i u hu => by obtain ⟨rfl, rfl⟩ := one hu; exact hcell⟩
theorem laid3 (W6 W2 : World) (p q : List S30) (f : S30) {A1 A3 A7 : Option Addr} {n3 c1 c3 c7 : Nat} (hb : Below W6.heap.size W6 W2) (e3 : n3 = q.length) (l1 : p.length ≤ c1) (l3 : q.length ≤ c3) (l7 : f.f7.length ≤ c7) (h1 : Kd.C k30 W6 A1 p.length p) (h3 : Kd.C k30 W6 A3 q.length q) (h7 : (Kd.int .i64).C W6 A7 f.f7.length f.f7) (a b d : Nat) :
    Kd.C (Kd.slice 30 k30) ((W2.alloc (.cells #[.int .i64 f.f0, .int .i64 f.f1, .int .i64 f.f2, .int .i64 f.f3, .int .i64 f.f4, .int .i64 f.f5, .int .i64 f.f6, .slice A7 f.f7.length c7] a (0, 0))).alloc (.cells #[.slice A1 p.length c1, .slice (some ⟨W2.heap.size, 0, none⟩) 1 1, .slice A3 n3 c3] b (0, 0))) (some ⟨W2.heap.size + 1, 0, none⟩) 3 [p, [f], q] := by
  rw [show W2.heap.size + 1 = (W2.alloc (.cells #[.int .i64 f.f0, .int .i64 f.f1, .int .i64 f.f2, .int .i64 f.f3, .int .i64 f.f4, .int .i64 f.f5, .int .i64 f.f6, .slice A7 f.f7.length c7] a (0, 0))).heap.size from by simp]
  have hb2 := below_alloc (below_alloc hb (.cells #[.int .i64 f.f0, .int .i64 f.f1, .int .i64 f.f2, .int .i64 f.f3, .int .i64 f.f4, .int .i64 f.f5, .int .i64 f.f6, .slice A7 f.f7.length c7] a (0, 0))) (.cells #[.slice A1 p.length c1, .slice (some ⟨W2.heap.size, 0, none⟩) 1 1, .slice A3 n3 c3] b (0, 0))
  exact C_three _ _ b p [f] q (blk_new _ _) rfl rfl e3 l1 (Nat.le_refl 1) l3 (Kd.C_below h1 hb2) (C_oneF _ _ f a ((below_heap_old _ _ (by simp)).trans (blk_new _ _)) l7 (Kd.C_below h7 hb2)) (Kd.C_below h3 hb2)
theorem merged3.calls (A0 : Option Addr) (c0 : Nat) (a b d : S30) (n : Int) (next : Int) (w : World) (hr0 : Kd.C k30 w A0 3 [a, b, d]) (hc0 : 3 ≤ c0) (hi : Inv [a, b, d] next) (ht : three a b d = true) (h1 : 1 ≤ n) (h2 : n ≤ 1000) :
    Calls Try.prog 22 #[.slice A0 3 c0, .int .i64 n, .int .i64 2] w fun e w' => ∃ v7_ : Value, e = .returned (.tuple #[.agg #[.int .i64 n, .int .i64 2, .int .i64 (a.f2 + 1), .int .i64 d.f3, .int .i64 0, .int .i64 0, .int .i64 0, v7_], .int .i64 0]) ∧ Kd.R (Kd.int .i64) 3 w' w.heap.size (fun _ => True) v7_ [a.f0, b.f0, d.f0] ∧ Below w.heap.size w w' := by
  refine plan_Merged.calls A0 c0 [a, b, d] n 2 n 2 (a.f2 + 1) d.f3 0 0 0 [a.f0, b.f0, d.f0] 0 w hr0 hc0 ?_
  have ha := (canB_iff a).1 (hi.can a (by simp))
  have hmg : mergeL [a, b, d] = [a.f0, b.f0, d.f0] := by rw [mergeL, if_pos ht]
  have hn : numB n = true := (numB_iff n).2 (by omega)
  have hw : wrap64 (a.f2 + 1) = a.f2 + 1 := w64 (by omega) (by omega)
  rw [plan_Merged.f, if_pos (by simp), if_pos (by simp [mayMerge, hi.canAll, hn, hmg]; decide), hmg]
  show some (n, (2 : Int), wrap64 (a.f2 + 1), d.f3, (0 : Int), (0 : Int), (0 : Int), [a.f0, b.f0, d.f0], (0 : Int)) = _
  rw [hw]
theorem equal3.calls (A0 A1 : Option Addr) (c0 c1 : Nat) (x y z : Int) (w : World) (h0 : Kd.C (Kd.int .i64) w A0 3 [x, y, z]) (l0 : 3 ≤ c0) (h1 : Kd.C (Kd.int .i64) w A1 3 [x, y, z]) (l1 : 3 ≤ c1) :
    Calls Try.prog 18 #[.slice A0 3 c0, .slice A1 3 c1] w fun e w' => e = .returned (.bool true) ∧ ∃ m, w' = w.drewN m := by
  refine (slices_Equal_int_int.calls 100 A0 c0 [x, y, z] A1 c1 [x, y, z] true w h0 l0 h1 l1 (equal_f _ (by simp) _ (by simp))).mono ?_
  rintro e w' ⟨he, m, rfl⟩
  exact ⟨he, m, rfl⟩
theorem concat3.calls (A0 : Option Addr) (c0 : Nat) (p m q l : List S30) (w : World) (hr0 : Kd.C (Kd.slice 30 k30) w A0 3 [p, m, q]) (hl : p ++ (m ++ q) = l) (hlen : l.length ≤ 1000) :
    Calls Try.prog 27 #[.slice A0 3 c0] w fun e w' => ∃ (A : Option Addr) (c : Nat), e = .returned (.slice A l.length c) ∧ l.length ≤ c ∧ Kd.C k30 w' A l.length l ∧ Below w.heap.size w w' := by
  have hf : [p, m, q].flatten = l := by rw [← hl]; simp
  refine (concat.calls A0 c0 [p, m, q] w hr0 (by simp) (by rw [hf]; omega)).mono ?_
  rintro e w2 ⟨v, rfl, hr, hb⟩
  rw [hf] at hr
  obtain ⟨A, c, rfl, h1, h2⟩ := Kd.N_reads hr
  exact ⟨A, c, rfl, h1, h2, hb⟩
end Go.Proofs.Ythjfffgddegmoaa.PA
