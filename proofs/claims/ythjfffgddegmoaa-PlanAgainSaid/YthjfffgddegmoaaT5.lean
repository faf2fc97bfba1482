/- Lemmas and contracts: Live of what is live, plain. -/
import Derived.Test.YthjfffgddegmoaaT3
import Derived.Test.YthjfffgddegmoaaQPlanLive
namespace Go.Proofs.Ythjfffgddegmoaa.PA
open Go.Proofs.Ythjfffgddegmoaa.G.PlanLive
set_option linter.unusedVariables false
set_option linter.unusedSimpArgs false
/-- neither is a parent of the other -/
def Apart (x y : S30) : Prop := y.f7.contains x.f0 = false ∧ x.f7.contains y.f0 = false
theorem Apart.symm {x y : S30} (h : Apart x y) : Apart y x := ⟨h.2, h.1⟩
theorem kid_false (gen num : Int) (i : Nat) : ∀ (l : List S30) (b : Nat), kid gen num i l b = false → ∀ (k : Nat) (o : S30), l[k]? = some o → b + k ≠ i → o.f1 ≤ gen → o.f7.contains num = false
  | x :: r, b, h, 0, o, ho, hk, hg => by
    obtain rfl : x = o := by simpa using ho
    rw [kid, Bool.or_eq_false_iff] at h
    have h1 := h.1
    rw [decide_eq_true (show b ≠ i from hk), decide_eq_true hg, Bool.true_and, Bool.true_and] at h1
    exact h1
  | x :: r, b, h, k + 1, o, ho, hk, hg => by
    rw [kid, Bool.or_eq_false_iff] at h
    exact kid_false gen num i r (b + 1) h.2 k o (by simpa using ho) (by omega) hg
theorem kid_of (gen num : Int) (i : Nat) : ∀ (l : List S30) (b : Nat), (∀ (k : Nat) (o : S30), l[k]? = some o → b + k ≠ i → o.f7.contains num = false) → kid gen num i l b = false
  | [], _, _ => rfl
  | x :: r, b, h => by
    rw [kid, kid_of gen num i r (b + 1) (fun k o ho hk => h (k + 1) o (by simpa using ho) (by omega)), Bool.or_false]
    by_cases e : b = i
    · simp [e]
    · rw [h 0 x rfl (by omega), Bool.and_false]
theorem keepG_idx (l : List S30) (gen floor : Int) (y : S30) : ∀ (xs : List S30) (i : Nat), y ∈ keepG l gen floor xs i → ∃ j, xs[j]? = some y ∧ keepB l gen floor (i + j) y = true
  | [], _, h => by cases h
  | x :: r, i, h => by
    rw [keepG] at h
    split at h
    case isTrue hk =>
      rcases List.mem_cons.1 h with q | q
      · subst q
        exact ⟨0, rfl, hk⟩
      · obtain ⟨j, h1, h2⟩ := keepG_idx l gen floor y r (i + 1) q
        exact ⟨j + 1, by simpa using h1, by rw [show i + (j + 1) = i + 1 + j from by omega]; exact h2⟩
    case isFalse hk =>
      obtain ⟨j, h1, h2⟩ := keepG_idx l gen floor y r (i + 1) h
      exact ⟨j + 1, by simpa using h1, by rw [show i + (j + 1) = i + 1 + j from by omega]; exact h2⟩
theorem keepB_parts {l : List S30} {gen floor : Int} {i : Nat} {x : S30} (h : keepB l gen floor i x = true) : x.f1 ≤ gen ∧ (floor ≤ x.f5 ∨ x.f6 = 0) ∧ kid gen x.f0 i l 0 = false := by
  simpa [keepB, and_assoc] using h
theorem keepG_pair (l : List S30) (gen floor : Int) : ∀ (xs : List S30) (i : Nat), (∀ j y, xs[j]? = some y → l[i + j]? = some y) → (keepG l gen floor xs i).Pairwise Apart
  | [], _, _ => List.Pairwise.nil
  | x :: r, i, h => by
    have ih := keepG_pair l gen floor r (i + 1) (fun j y hy => by rw [show i + 1 + j = i + (j + 1) from by omega]; exact h (j + 1) y (by simpa using hy))
    rw [keepG]
    split
    case isFalse => exact ih
    case isTrue hk =>
      refine List.pairwise_cons.2 ⟨fun y hy => ?_, ih⟩
      obtain ⟨j, h1, h2⟩ := keepG_idx l gen floor y r (i + 1) hy
      have hx := keepB_parts hk
      have hy2 := keepB_parts h2
      have e1 : l[i]? = some x := by have := h 0 x rfl; simpa using this
      have e2 : l[i + 1 + j]? = some y := by rw [show i + 1 + j = i + (j + 1) from by omega]; exact h (j + 1) y (by simpa using h1)
      exact ⟨kid_false gen x.f0 i l 0 hx.2.2 (i + 1 + j) y e2 (by omega) hy2.1, kid_false gen y.f0 (i + 1 + j) l 0 hy2.2.2 i x e1 (by omega) hx.1⟩
theorem insS_perm (l : List S30) (x : S30) : (insS l x).Perm (x :: l) := by
  have h := List.perm_middle (a := x) (l₁ := l.take (posE l x l.length)) (l₂ := l.drop (posE l x l.length))
  rwa [List.take_append_drop] at h
theorem sortS_perm : ∀ (r acc : List S30), (sortS acc r).Perm (acc ++ r)
  | [], acc => by rw [List.append_nil]; exact List.Perm.refl _
  | x :: r, acc => by
    rw [sortS]
    refine (sortS_perm r (insS acc x)).trans ?_
    refine ((insS_perm acc x).append_right r).trans ?_
    exact (List.perm_middle (a := x) (l₁ := acc) (l₂ := r)).symm
theorem live_apart (l : List S30) (gen floor : Int) : (liveL l gen floor).Pairwise Apart := by
  have h := sortS_perm (keepG l gen floor l 0) []
  rw [List.nil_append] at h
  exact (h.pairwise_iff (fun {x y} hxy => Apart.symm hxy)).2 (keepG_pair l gen floor l 0 (fun j y hy => by rw [Nat.zero_add]; exact hy))
def Up (l : List S30) : Prop := l.Pairwise fun x y => x.f3 ≤ y.f3
theorem posE_spec (l : List S30) (x : S30) : ∀ j, (∀ m, posE l x j ≤ m → m < j → x.f3 < (l.getD m z30).f3) ∧ (0 < posE l x j → (l.getD (posE l x j - 1) z30).f3 ≤ x.f3)
  | 0 => ⟨fun m h1 h2 => by omega, fun h => by simp [posE] at h⟩
  | j + 1 => by
    rw [posE]
    split
    case isTrue hlt =>
      obtain ⟨h1, h2⟩ := posE_spec l x j
      refine ⟨fun m hm hj => ?_, h2⟩
      rcases Nat.lt_or_ge m j with q | q
      · exact h1 m hm q
      · obtain rfl : m = j := by omega
        exact hlt
    case isFalse hlt =>
      refine ⟨fun m hm hj => by omega, fun _ => ?_⟩
      rw [Nat.add_sub_cancel]
      omega
theorem insS_up (l : List S30) (x : S30) (h : Up l) : Up (insS l x) := by
  obtain ⟨h1, h2⟩ := posE_spec l x l.length
  have hp := posE_le l x l.length
  unfold insS
  generalize posE l x l.length = p at h1 h2 hp
  have hl : Up (l.take p ++ l.drop p) := by rw [List.take_append_drop]; exact h
  obtain ⟨a1, a2, a3⟩ := List.pairwise_append.1 hl
  have hd : ∀ y ∈ l.drop p, x.f3 < y.f3 := fun y hy => by
    obtain ⟨m, hm⟩ := List.getElem?_of_mem hy
    rw [List.getElem?_drop] at hm
    have hlt := (List.getElem?_eq_some_iff.1 hm).1
    have := h1 (p + m) (by omega) hlt
    rwa [List.getD_eq_getElem?_getD, hm] at this
  have ht : ∀ y ∈ l.take p, y.f3 ≤ x.f3 := fun y hy => by
    obtain ⟨m, hm⟩ := List.getElem?_of_mem hy
    rw [List.getElem?_take] at hm
    split at hm
    case isFalse => cases hm
    case isTrue hmp =>
      have hlast := h2 (by omega)
      have hpl : p - 1 < l.length := by omega
      rw [List.getD_eq_getElem?_getD, List.getElem?_eq_getElem hpl] at hlast
      obtain ⟨hml, rfl⟩ := List.getElem?_eq_some_iff.1 hm
      rcases Nat.lt_or_ge m (p - 1) with q | q
      · have := List.pairwise_iff_getElem.1 h m (p - 1) hml hpl q
        exact Int.le_trans this hlast
      · have : m = p - 1 := by omega
        subst this
        exact hlast
  refine List.pairwise_append.2 ⟨a1, List.pairwise_cons.2 ⟨fun y hy => Int.le_of_lt (hd y hy), a2⟩, fun y hy z hz => ?_⟩
  rcases List.mem_cons.1 hz with q | q
  · subst q; exact ht y hy
  · exact a3 y hy z q
theorem sortS_up : ∀ (r acc : List S30), Up acc → Up (sortS acc r)
  | [], acc, h => h
  | x :: r, acc, h => by rw [sortS]; exact sortS_up r _ (insS_up acc x h)
theorem live_up (l : List S30) (gen floor : Int) : Up (liveL l gen floor) := sortS_up _ [] List.Pairwise.nil
theorem sortS_id : ∀ (r acc : List S30), Up (acc ++ r) → sortS acc r = acc ++ r
  | [], acc, _ => by rw [List.append_nil]; rfl
  | x :: r, acc, h => by
    have hi : insS acc x = acc ++ [x] := by
      have hp : posE acc x acc.length = acc.length := by
        rcases hq : acc.length with _ | n
        · rfl
        · rw [posE, if_neg]
          have hn : n < acc.length := by omega
          have h3 := (List.pairwise_append.1 h).2.2 acc[n] (List.getElem_mem hn) x (List.mem_cons_self ..)
          rw [List.getD_eq_getElem?_getD, List.getElem?_eq_getElem hn]
          show ¬ x.f3 < acc[n].f3
          omega
      unfold insS
      rw [hp, List.take_length, List.drop_length]
    rw [sortS, hi, sortS_id r (acc ++ [x]) (by rw [List.append_assoc]; exact h), List.append_assoc]
    rfl
theorem keepG_all (l : List S30) (gen floor : Int) : ∀ (xs : List S30) (i : Nat), (∀ j x, xs[j]? = some x → keepB l gen floor (i + j) x = true) → keepG l gen floor xs i = xs
  | [], _, _ => rfl
  | x :: r, i, h => by
    rw [keepG, if_pos (show keepB l gen floor i x = true from h 0 x rfl), keepG_all l gen floor r (i + 1) (fun j y hy => by rw [show i + 1 + j = i + (j + 1) from by omega]; exact h (j + 1) y (by simpa using hy))]
theorem live_parts (l : List S30) (gen floor : Int) (x : S30) (h : x ∈ liveL l gen floor) : x.f1 ≤ gen ∧ (floor ≤ x.f5 ∨ x.f6 = 0) := by
  rw [liveL, sortS_mem] at h
  rcases h with h | h
  · cases h
  · obtain ⟨j, _, h2⟩ := keepG_idx l gen floor x l 0 h
    have := keepB_parts h2
    exact ⟨this.1, this.2.1⟩
theorem live_not (l : List S30) (gen floor : Int) (i k : Nat) (x o : S30) (hx : (liveL l gen floor)[i]? = some x) (ho : (liveL l gen floor)[k]? = some o) (hne : k ≠ i) : o.f7.contains x.f0 = false := by
  have h := List.pairwise_iff_getElem.1 (live_apart l gen floor)
  obtain ⟨hi, rfl⟩ := List.getElem?_eq_some_iff.1 hx
  obtain ⟨hk, rfl⟩ := List.getElem?_eq_some_iff.1 ho
  rcases Nat.lt_or_ge i k with q | q
  · exact (h i k hi hk q).1
  · exact (h k i hk hi (by omega)).2
theorem live_live (l : List S30) (gen floor : Int) : liveL (liveL l gen floor) gen floor = liveL l gen floor := by
  have h : keepG (liveL l gen floor) gen floor (liveL l gen floor) 0 = liveL l gen floor := keepG_all _ gen floor _ 0 (fun j x hx => by
    have hp := live_parts l gen floor x (List.mem_of_getElem? hx)
    have hk : kid gen x.f0 j (liveL l gen floor) 0 = false := kid_of gen x.f0 j _ 0 (fun k o ho hne => live_not l gen floor j k x o hx ho (by omega))
    rw [Nat.zero_add]
    simp [keepB, hp.1, hp.2, hk])
  show sortS [] (keepG (liveL l gen floor) gen floor (liveL l gen floor) 0) = _
  rw [h]
  have := sortS_id (liveL l gen floor) [] (by rw [List.nil_append]; exact live_up l gen floor)
  rw [this, List.nil_append]
theorem live_rise (l : List S30) (gen floor : Int) (i : Nat) (hi : i + 1 < (liveL l gen floor).length) : ¬ (rd_T30 (liveL l gen floor) ((i + 1 : Nat) : Int)).f3 < (rd_T30 (liveL l gen floor) (i : Int)).f3 := by
  have h := List.pairwise_iff_getElem.1 (live_up l gen floor) i (i + 1) (by omega) hi (by omega)
  rw [rd_nat _ i (by omega), rd_nat _ (i + 1) hi]
  omega
end Go.Proofs.Ythjfffgddegmoaa.PA
