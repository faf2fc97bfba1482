/- The sum of bytes, plainly: a bit's step, two bits' step by a table, a byte's step; that texts of one length that part in one byte have unlike sums. -/
namespace Go.Proofs.YtmaoleabfmokpaaDoor.G
namespace CrcMath
theorem xor_rc {a b c : Nat} (h : a ^^^ c = b ^^^ c) : a = b := by
  have := congrArg (· ^^^ c) h
  simpa [Nat.xor_assoc, Nat.xor_self] using this
theorem xor_lc {a b c : Nat} (h : c ^^^ a = c ^^^ b) : a = b := by
  rw [Nat.xor_comm c a, Nat.xor_comm c b] at h; exact xor_rc h
/-- one bit -/
def one (r : Nat) : Nat := (r / 2) ^^^ (if r % 2 = 1 then 2197175160 else 0)
def quarter : Nat → Nat
  | 0 => 0 | 1 => 1098587580 | 2 => 2197175160 | _ => 3280807620
def two (r : Nat) : Nat := (r / 4) ^^^ quarter (r % 4)

theorem xor_mod2 (a b : Nat) : (a ^^^ b) % 2 = (a % 2 + b % 2) % 2 := by
  have := Nat.xor_mod_two_pow (a := a) (b := b) (n := 1)
  simp at this
  rw [this]
  rcases Nat.mod_two_eq_zero_or_one a with h | h <;> rcases Nat.mod_two_eq_zero_or_one b with h' | h' <;> simp [h, h']
theorem xor_div2 (a b : Nat) : (a ^^^ b) / 2 = a / 2 ^^^ b / 2 := by
  have := Nat.xor_div_two_pow (a := a) (b := b) (n := 1)
  simpa using this

theorem two_eq (r : Nat) : two r = one (one r) := by
  unfold two one
  have h4 : r / 2 / 2 = r / 4 := by omega
  rcases Nat.mod_two_eq_zero_or_one r with h | h
  · simp only [h]
    simp only [Nat.xor_zero, reduceIte, show ¬ (0 = 1) from by omega]
    rcases Nat.mod_two_eq_zero_or_one (r / 2) with h' | h'
    · have : r % 4 = 0 := by omega
      simp [h', this, h4, quarter]
    · have : r % 4 = 2 := by omega
      simp [h', this, h4, quarter]
  · simp only [h, reduceIte]
    rw [xor_mod2, xor_div2, h4]
    rcases Nat.mod_two_eq_zero_or_one (r / 2) with h' | h'
    · have : r % 4 = 1 := by omega
      simp [h', this, quarter]
    · have : r % 4 = 3 := by omega
      simp [h', this, quarter, Nat.xor_assoc]

def eight (r : Nat) : Nat := one (one (one (one (one (one (one (one r)))))))
theorem four_two (r : Nat) : two (two (two (two r))) = eight r := by simp [two_eq, eight]

theorem one_lt {r : Nat} (h : r < 4294967296) : one r < 4294967296 := by
  unfold one
  have : r / 2 < 2 ^ 32 := by omega
  split
  · exact Nat.xor_lt_two_pow (n := 32) this (by decide)
  · simpa using this
theorem eight_lt {r : Nat} (h : r < 4294967296) : eight r < 4294967296 := by
  unfold eight; repeat (first | exact h | apply one_lt)

theorem one_inj {r s : Nat} (hr : r < 4294967296) (hs : s < 4294967296) (h : one r = one s) : r = s := by
  unfold one at h
  have tb : ∀ x : Nat, x < 4294967296 → (x / 2).testBit 31 = false := fun x hx => Nat.testBit_lt_two_pow (by omega)
  have hp : (2197175160 : Nat).testBit 31 = true := by decide
  have h31 := congrArg (Nat.testBit · 31) h
  simp only [Nat.testBit_xor, tb r hr, tb s hs, Bool.false_xor] at h31
  rcases Nat.mod_two_eq_zero_or_one r with a | a <;> rcases Nat.mod_two_eq_zero_or_one s with b | b
  · simp [a, b] at h; omega
  · simp [a, b, hp] at h31
  · simp [a, b, hp] at h31
  · simp only [a, b, reduceIte] at h
    have := xor_rc h  
    omega
theorem eight_inj {r s : Nat} (hr : r < 4294967296) (hs : s < 4294967296) (h : eight r = eight s) : r = s := by
  unfold eight at h
  have l1 := one_lt hr; have l2 := one_lt l1; have l3 := one_lt l2; have l4 := one_lt l3; have l5 := one_lt l4; have l6 := one_lt l5; have l7 := one_lt l6
  have m1 := one_lt hs; have m2 := one_lt m1; have m3 := one_lt m2; have m4 := one_lt m3; have m5 := one_lt m4; have m6 := one_lt m5; have m7 := one_lt m6
  exact one_inj hr hs (one_inj l1 m1 (one_inj l2 m2 (one_inj l3 m3 (one_inj l4 m4 (one_inj l5 m5 (one_inj l6 m6 (one_inj l7 m7 h)))))))

/-- the register behind bytes -/
def run (r : Nat) : List Nat → Nat
  | [] => r
  | x :: l => run (eight (r ^^^ x)) l
theorem run_append (r : Nat) (a b : List Nat) : run r (a ++ b) = run (run r a) b := by
  induction a generalizing r with
  | nil => rfl
  | cons x a ih => simp [run, ih]
theorem run_lt {r : Nat} (h : r < 4294967296) {l : List Nat} (hl : ∀ x ∈ l, x < 256) : run r l < 4294967296 := by
  induction l generalizing r with
  | nil => exact h
  | cons x l ih =>
    refine ih (eight_lt (Nat.xor_lt_two_pow (n := 32) h ?_)) (fun y hy => hl y (List.mem_cons_of_mem _ hy))
    have := hl x (List.mem_cons_self ..); omega
theorem run_inj {r s : Nat} (hr : r < 4294967296) (hs : s < 4294967296) {l : List Nat} (hl : ∀ x ∈ l, x < 256) (h : run r l = run s l) : r = s := by
  induction l generalizing r s with
  | nil => exact h
  | cons x l ih =>
    have hx : x < 2 ^ 32 := by have := hl x (List.mem_cons_self ..); omega
    have := ih (eight_lt (Nat.xor_lt_two_pow (n := 32) hr hx)) (eight_lt (Nat.xor_lt_two_pow (n := 32) hs hx)) (fun y hy => hl y (List.mem_cons_of_mem _ hy)) h
    have := eight_inj (Nat.xor_lt_two_pow (n := 32) hr hx) (Nat.xor_lt_two_pow (n := 32) hs hx) this
    exact xor_rc this
/-- sums of texts that part in one byte alone part -/
theorem run_tells {r : Nat} (hr : r < 4294967296) {a b : List Nat} {x y : Nat} (ha : ∀ x ∈ a, x < 256) (hb : ∀ x ∈ b, x < 256) (hx : x < 256) (hy : y < 256) (hne : x ≠ y) :
    run r (a ++ x :: b) ≠ run r (a ++ y :: b) := by
  intro h
  rw [run_append, run_append] at h
  have hra := run_lt hr ha
  have hx' : run r a ^^^ x < 2 ^ 32 := Nat.xor_lt_two_pow (n := 32) hra (by omega)
  have hy' : run r a ^^^ y < 2 ^ 32 := Nat.xor_lt_two_pow (n := 32) hra (by omega)
  have h1 := run_inj (eight_lt hx') (eight_lt hy') hb h
  have h2 := eight_inj hx' hy' h1
  exact hne (xor_lc h2)
end CrcMath

namespace CrcMath
/-- all bits of 32 turned -/
def ones : Nat := 4294967295
theorem ones_lt : ones < 2 ^ 32 := by decide
def inv (x : Nat) : Nat := ones ^^^ x
theorem xor_xor (c x : Nat) : c ^^^ (c ^^^ x) = x := by rw [← Nat.xor_assoc, Nat.xor_self, Nat.zero_xor]
theorem inv_def (x : Nat) : inv x = ones ^^^ x := by delta inv; rfl
theorem inv_inv (x : Nat) : inv (inv x) = x := by rw [inv_def, inv_def, xor_xor]
theorem inv_lt {x : Nat} (h : x < 4294967296) : inv x < 4294967296 := by
  have := Nat.xor_lt_two_pow (n := 32) (x := ones) (y := x) ones_lt (by omega)
  rw [inv_def]
  omega
theorem inv_inj {x y : Nat} (h : inv x = inv y) : x = y := by have := congrArg inv h; rwa [inv_inv, inv_inv] at this
/-- the bytes of a list of whole numbers -/
def nat (l : List Int) : List Nat := l.map Int.toNat
/-- the sum of bytes that have a sum, and more behind them -/
def more (s : Nat) (l : List Int) : Nat := inv (run (inv s) (nat l))
theorem nat_byte {l : List Int} (hl : ∀ x ∈ l, 0 ≤ x ∧ x < 256) : ∀ x ∈ nat l, x < 256 := by
  intro x hx
  obtain ⟨y, hy, rfl⟩ := List.mem_map.1 hx
  have := hl y hy
  omega
theorem more_lt {s : Nat} (h : s < 4294967296) {l : List Int} (hl : ∀ x ∈ l, 0 ≤ x ∧ x < 256) : more s l < 4294967296 := inv_lt (run_lt (inv_lt h) (nat_byte hl))
theorem more_append (s : Nat) (a b : List Int) : more s (a ++ b) = more (more s a) b := by
  unfold more nat
  rw [List.map_append, run_append, inv_inv]
end CrcMath
end Go.Proofs.YtmaoleabfmokpaaDoor.G
