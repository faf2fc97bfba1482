/- Lemmas and contracts that the law ChunkBack leans on (packed by a program of this session out of its texts and the print's words). -/
import Derived.Test.YtbgmnmjokdfmlaaDoorProg
import Derived.Below
import Derived.Deep.Draws
import Derived.Deep.AppendLies
import Derived.Maps.AppendAt
import Derived.OwnWalk
import Derived.Laws.BytesArg
import Derived.Laws.MakeOwn
import Derived.Laws.OwnMore
import Derived.Deep.OwnRows
import Derived.Tactics
import Derived.Lib.ConvBytes
import Derived.Laws.Slices
import Derived.WalkKit
import Derived.KernelRfl
import Derived.RowKit3
import Derived.Deep.LoopGhost
import Derived.Deep.QuietTactic
import Derived.BigQuiet
import Derived.WideLaws
import Derived.Deep.DeepCutAuto
import Derived.Deep.CutBlock
import Derived.Deep.RegionHeld3
import Derived.Laws.Rows
import Derived.Lib.AppendStr
import Derived.ArgAppend
import Derived.Laws.IdiomCopy
import Derived.OrdersHeld
import Derived.Laws.BitsLemmas
import Derived.RowKit
import Derived.Test.YtbgmnmjokdfmlaaDoorZB1
import Derived.Laws.BitsAllLaws
import Derived.Lib.Hide
import Derived.Deep.DeepMust
import Derived.Laws.RangeAny
import Derived.Laws.Cover1
import Derived.StillTailTactics
import Derived.WalkSpells
namespace Go.Proofs.YtbgmnmjokdfmlaaDoor.PA
open Go.RowKit Go.Proofs.YtbgmnmjokdfmlaaDoorW.PrintWords Go.Proofs.YtbgmnmjokdfmlaaDoorW.PrintLast Go.Proofs.YtbgmnmjokdfmlaaDoorW.PrintMore
attribute [local go_sem] max2_int min2_int max_two min_two max_three min_three max_four min_four   -- for this text's walks alone
set_option linter.unusedVariables false
set_option linter.unusedSimpArgs false
def errW : Option Int → Value
  | none => .nilIface
  | some c => .iface 0 (.int .i64 c)
theorem errW_none : errW none = .nilIface := rfl
theorem errW_some (c : Int) : errW (some c) = .iface 0 (.int .i64 c) := rfl
theorem info54 : (Tryd.prog.info? 54).map (fun i => (i.zero, i.size, i.bytes)) = some (some (.agg #[(.int .i64 0), (.int .u64 0)]), 2, 16) := by kernel_rfl
theorem info60 : (Tryd.prog.info? 60).map (fun i => (i.zero, i.size, i.bytes)) = some (some (.agg #[(.slice none 0 0), (.slice none 0 0)]), 2, 48) := by kernel_rfl
theorem info65 : (Tryd.prog.info? 65).map (fun i => (i.zero, i.size, i.bytes)) = some (some (.agg #[(.string ⟨#[]⟩), (.string ⟨#[]⟩)]), 2, 32) := by kernel_rfl
structure S65 where
  f0 : ByteArray
  f1 : ByteArray
def z65 : S65 := ⟨(⟨#[]⟩ : ByteArray), (⟨#[]⟩ : ByteArray)⟩
def k65 : Kd S65 := Kd.iso (Kd.pair Kd.string Kd.string) (fun x : S65 => (x.f0, x.f1))
theorem k65_open {w : World} {x : S65} {cs : List Value} (h : k65.K w x cs) : cs = [.string x.f0, .string x.f1] := by
  obtain ⟨_, _, rfl, rfl, rfl⟩ := h
  exact rfl
theorem k65_mk (w : World) (x : S65)  : k65.K w x [.string x.f0, .string x.f1] := ⟨[.string x.f0], [.string x.f1], rfl, rfl, rfl⟩
theorem k65_mkM (w : World) (base : Nat) (ok : Nat → Prop) (x : S65)  : k65.M w base ok x [.string x.f0, .string x.f1] := ⟨[.string x.f0], [.string x.f1], rfl, rfl, rfl⟩
def rd_T65 (xs : List S65) (i : Int) : S65 := xs.getD i.toNat z65
theorem at_T65 {w : World} {A : Option Addr} {n : Nat} {xs : List S65} (h : Kd.C k65 w A n xs) (i : Int) (h0 : 0 ≤ i) (h1 : i < n) : ∃ ad , A = some ad ∧ w.cell? (ad.add (i.toNat * 2)) = some (.string (rd_T65 xs i).f0) ∧ w.cell? ⟨(ad.add (i.toNat * 2)).block, (ad.add (i.toNat * 2)).off + 1, none⟩ = some (.string (rd_T65 xs i).f1) := by
  obtain ⟨ad, c, e, _, hK, hc0⟩ := Kd.C_get h z65 i h0 h1
  have hc : ∀ j u, c[j]? = some u → w.cell? (ad.add (i.toNat * 2 + j)) = some u := hc0
  obtain rfl := k65_open hK
  exact ⟨ad, e, hc 0 _ rfl, by rw [← add_field _ _ 1 (by omega)]; exact hc 1 _ rfl⟩
structure S54 where
  f0 : Int
  f1 : Int
def z54 : S54 := ⟨(0 : Int), (0 : Int)⟩
def k54 : Kd S54 := Kd.iso (Kd.pair (Kd.int .i64) (Kd.int .u64)) (fun x : S54 => (x.f0, x.f1))
theorem k54_open {w : World} {x : S54} {cs : List Value} (h : k54.K w x cs) : cs = [.int .i64 x.f0, .int .u64 x.f1] := by
  obtain ⟨_, _, rfl, rfl, rfl⟩ := h
  exact rfl
theorem k54_openM {w : World} {base : Nat} {ok : Nat → Prop} {x : S54} {cs : List Value} (h : k54.M w base ok x cs) : cs = [.int .i64 x.f0, .int .u64 x.f1] := by
  obtain ⟨_, _, rfl, rfl, rfl⟩ := h
  exact rfl
theorem k54_mk (w : World) (x : S54)  : k54.K w x [.int .i64 x.f0, .int .u64 x.f1] := ⟨[.int .i64 x.f0], [.int .u64 x.f1], rfl, rfl, rfl⟩
theorem k54_mkM (w : World) (base : Nat) (ok : Nat → Prop) (x : S54)  : k54.M w base ok x [.int .i64 x.f0, .int .u64 x.f1] := ⟨[.int .i64 x.f0], [.int .u64 x.f1], rfl, rfl, rfl⟩
def rd_T54 (xs : List S54) (i : Int) : S54 := xs.getD i.toNat z54
theorem at_T54 {w : World} {A : Option Addr} {n : Nat} {xs : List S54} (h : Kd.C k54 w A n xs) (i : Int) (h0 : 0 ≤ i) (h1 : i < n) : ∃ ad , A = some ad ∧ w.cell? (ad.add (i.toNat * 2)) = some (.int .i64 (rd_T54 xs i).f0) ∧ w.cell? ⟨(ad.add (i.toNat * 2)).block, (ad.add (i.toNat * 2)).off + 1, none⟩ = some (.int .u64 (rd_T54 xs i).f1) := by
  obtain ⟨ad, c, e, _, hK, hc0⟩ := Kd.C_get h z54 i h0 h1
  have hc : ∀ j u, c[j]? = some u → w.cell? (ad.add (i.toNat * 2 + j)) = some u := hc0
  obtain rfl := k54_open hK
  exact ⟨ad, e, hc 0 _ rfl, by rw [← add_field _ _ 1 (by omega)]; exact hc 1 _ rfl⟩
def rd_L6 (xs : List (List Int)) (i : Int) : (List Int) := xs.getD i.toNat ([] : List Int)
theorem at_L6 {w : World} {A : Option Addr} {n : Nat} {xs : List (List Int)} (h : Kd.C (Kd.slice 5 (Kd.int .u8)) w A n xs) (i : Int) (h0 : 0 ≤ i) (h1 : i < n) : ∃ ad A0 c0, A = some ad ∧ w.cell? (ad.add i.toNat) = some (.slice A0 (rd_L6 xs i).length c0) ∧ (rd_L6 xs i).length ≤ c0 ∧ (Kd.int .u8).C w A0 (rd_L6 xs i).length (rd_L6 xs i) := by
  obtain ⟨ad, c, e, _, hK, hc0⟩ := Kd.C_get h ([] : List Int) i h0 h1
  have hc : ∀ j u, c[j]? = some u → w.cell? (ad.add (i.toNat * 1 + j)) = some u := hc0
  obtain ⟨A0, c0, rfl, l0, g0⟩ := hK
  exact ⟨ad, A0, c0, e, by have hq := hc 0 _ rfl; rwa [Nat.mul_one, Nat.add_zero] at hq, l0, g0⟩
structure S60 where
  f0 : (List S65)
  f1 : (List S54)
def z60 : S60 := ⟨([] : List S65), ([] : List S54)⟩
def k60 : Kd S60 := Kd.iso (Kd.pair (Kd.slice 65 k65) (Kd.slice 54 k54)) (fun x : S60 => (x.f0, x.f1))
theorem k60_open {w : World} {x : S60} {cs : List Value} (h : k60.K w x cs) : ∃ A0 c0 A1 c1, cs = [.slice A0 x.f0.length c0, .slice A1 x.f1.length c1] ∧ x.f0.length ≤ c0 ∧ k65.C w A0 x.f0.length x.f0 ∧ x.f1.length ≤ c1 ∧ k54.C w A1 x.f1.length x.f1 := by
  obtain ⟨_, _, rfl, ⟨A0, c0, rfl, l0, g0⟩, ⟨A1, c1, rfl, l1, g1⟩⟩ := h
  exact ⟨A0, c0, A1, c1, rfl, l0, g0, l1, g1⟩
theorem k60_mk (w : World) (x : S60) {A0 : Option Addr} {c0 : Nat} (l0 : x.f0.length ≤ c0) (g0 : k65.C w A0 x.f0.length x.f0) {A1 : Option Addr} {c1 : Nat} (l1 : x.f1.length ≤ c1) (g1 : k54.C w A1 x.f1.length x.f1) : k60.K w x [.slice A0 x.f0.length c0, .slice A1 x.f1.length c1] := ⟨[.slice A0 x.f0.length c0], [.slice A1 x.f1.length c1], rfl, ⟨A0, c0, rfl, l0, g0⟩, ⟨A1, c1, rfl, l1, g1⟩⟩
theorem k60_openF {W : World} {ok : Nat → Prop} {x : S60} {cs : List Value} (h : Kd.FK k60 W ok x cs) : ∃ A0 c0 A1 c1, cs = [.slice A0 x.f0.length c0, .slice A1 x.f1.length c1] ∧ x.f0.length ≤ c0 ∧ Kd.F k65 W ok A0 x.f0.length x.f0 ∧ x.f1.length ≤ c1 ∧ Kd.F k54 W ok A1 x.f1.length x.f1 := by
  obtain ⟨A0, c0, A1, c1, rfl, l0, _, l1, _⟩ := k60_open (Kd.FK_now h)
  exact ⟨A0, c0, A1, c1, rfl, l0, (fun W' hW => by obtain ⟨A0_, c0_, A1_, c1_, he, l0_, g0_, l1_, g1_⟩ := k60_open (h W' hW); injection (Option.some.inj (show some (Value.slice A0 x.f0.length c0) = some (Value.slice A0_ x.f0.length c0_) from congrArg (fun l => l[0]?) he)) with ha_ _ _; rw [ha_]; exact g0_), l1, (fun W' hW => by obtain ⟨A0_, c0_, A1_, c1_, he, l0_, g0_, l1_, g1_⟩ := k60_open (h W' hW); injection (Option.some.inj (show some (Value.slice A1 x.f1.length c1) = some (Value.slice A1_ x.f1.length c1_) from congrArg (fun l => l[1]?) he)) with ha_ _ _; rw [ha_]; exact g1_)⟩
theorem k60_mkF (W : World) (ok : Nat → Prop) (x : S60) {A0 : Option Addr} {c0 : Nat} (l0 : x.f0.length ≤ c0) (g0 : Kd.F k65 W ok A0 x.f0.length x.f0) {A1 : Option Addr} {c1 : Nat} (l1 : x.f1.length ≤ c1) (g1 : Kd.F k54 W ok A1 x.f1.length x.f1) : Kd.FK k60 W ok x [.slice A0 x.f0.length c0, .slice A1 x.f1.length c1] := fun W2 hW => k60_mk W2 x l0 (g0 W2 hW) l1 (g1 W2 hW)
def rd_T60 (xs : List S60) (i : Int) : S60 := xs.getD i.toNat z60
theorem at_T60 {w : World} {A : Option Addr} {n : Nat} {xs : List S60} (h : Kd.C k60 w A n xs) (i : Int) (h0 : 0 ≤ i) (h1 : i < n) : ∃ ad A0 c0 A1 c1, A = some ad ∧ w.cell? (ad.add (i.toNat * 2)) = some (.slice A0 (rd_T60 xs i).f0.length c0) ∧ w.cell? ⟨(ad.add (i.toNat * 2)).block, (ad.add (i.toNat * 2)).off + 1, none⟩ = some (.slice A1 (rd_T60 xs i).f1.length c1) ∧ (rd_T60 xs i).f0.length ≤ c0 ∧ k65.C w A0 (rd_T60 xs i).f0.length (rd_T60 xs i).f0 ∧ (rd_T60 xs i).f1.length ≤ c1 ∧ k54.C w A1 (rd_T60 xs i).f1.length (rd_T60 xs i).f1 := by
  obtain ⟨ad, c, e, _, hK, hc0⟩ := Kd.C_get h z60 i h0 h1
  have hc : ∀ j u, c[j]? = some u → w.cell? (ad.add (i.toNat * 2 + j)) = some u := hc0
  obtain ⟨A0, c0, A1, c1, rfl, l0, g0, l1, g1⟩ := k60_open hK
  exact ⟨ad, A0, c0, A1, c1, e, hc 0 _ rfl, by rw [← add_field _ _ 1 (by omega)]; exact hc 1 _ rfl, l0, g0, l1, g1⟩
end Go.Proofs.YtbgmnmjokdfmlaaDoor.PA
namespace Go.Proofs.YtbgmnmjokdfmlaaDoor.G
open Go.RowKit Go.Proofs.YtbgmnmjokdfmlaaDoorW.PrintWords Go.Proofs.YtbgmnmjokdfmlaaDoorW.PrintLast Go.Proofs.YtbgmnmjokdfmlaaDoorW.PrintMore
set_option linter.unusedVariables false
set_option linter.unusedSimpArgs false
def beL (N : Nat) : Nat → List Int
  | 0 => []
  | i + 1 => ((N / 256 ^ i % 256 : Nat) : Int) :: beL N i
theorem beL_length (N i : Nat) : (beL N i).length = i := by induction i with
  | zero => rfl
  | succ i ih => simp [beL, ih]
theorem beL_byte (N i : Nat) : ∀ x ∈ beL N i, 0 ≤ x ∧ x < 256 := by induction i with
  | zero => intro x hx; cases hx
  | succ i ih =>
    intro x hx
    rcases List.mem_cons.1 hx with rfl | hx
    · have : N / 256 ^ i % 256 < 256 := Nat.mod_lt _ (by decide)
      omega
    · exact ih x hx
def beV (V : Nat) (l : List Int) : Nat := l.foldl (fun v x => v * 256 + x.toNat) V
theorem beV_cons (V : Nat) (x : Int) (l : List Int) : beV V (x :: l) = beV (V * 256 + x.toNat) l := rfl
theorem beV_beL (N i : Nat) : ∀ V, beV V (beL N i) = V * 256 ^ i + N % 256 ^ i := by
  induction i with
  | zero => intro V; simp [beV, beL, Nat.mod_one]
  | succ i ih =>
    intro V
    rw [beL, beV_cons, ih, Int.toNat_natCast, Nat.pow_succ, Nat.mod_mul, Nat.add_mul, Nat.mul_assoc, Nat.mul_comm 256 (256 ^ i), Nat.mul_comm (N / 256 ^ i % 256)]
    omega
theorem beV_lt (l : List Int) (hl : ∀ x ∈ l, 0 ≤ x ∧ x < 256) : ∀ V m, V < 256 ^ m → beV V l < 256 ^ (m + l.length) := by
  induction l with
  | nil => intro V m h; simpa [beV] using h
  | cons x l ih =>
    intro V m h
    have hx := hl x (List.mem_cons_self ..)
    have := ih (fun y hy => hl y (List.mem_cons_of_mem _ hy)) (V * 256 + x.toNat) (m + 1) (by rw [Nat.pow_succ]; omega)
    rw [beV_cons, List.length_cons]
    rwa [show m + (l.length + 1) = m + 1 + l.length from by omega]
theorem set_at (d : Nat) (L : List Int) (v : Int) : (List.replicate (d + 1) (0 : Int) ++ L).set d v = List.replicate d 0 ++ (v :: L) := by
  rw [List.replicate_succ', List.append_assoc, List.set_append_right _ _ (by simp)]
  simp
theorem w64 {x : Int} (h : -9223372036854775808 ≤ x) (h' : x ≤ 9223372036854775807) : wrap64 x = x := by unfold wrap64; omega
theorem or8 (V : Nat) (x : Int) (hV : V < 256 ^ 7) (h0 : 0 ≤ x) (h1 : x < 256) : Go.bits .or .u64 (IntKind.u64.wrap ((V : Int) * 256)) (IntKind.u64.wrap x) = ((V * 256 + x.toNat : Nat) : Int) := by
  have e1 : IntKind.u64.wrap ((V : Int) * 256) = ((V * 256 : Nat) : Int) := by
    simp [IntKind.wrap, IntKind.bits, IntKind.signed]; omega
  have e2 : IntKind.u64.wrap x = (x.toNat : Int) := by
    simp [IntKind.wrap, IntKind.bits, IntKind.signed]; omega
  rw [e1, e2, u64_or_nat _ _ (by omega) (by omega), nat_join 8 (V * 256) x.toNat (by simp) (by omega)]
theorem rd_drop (l : List Int) (i : Nat) (h : i < l.length) : l.drop i = rd l (i : Int) :: l.drop (i + 1) := by
  rw [List.drop_eq_getElem_cons h]
  simp [rd, List.getD_eq_getElem?_getD, List.getElem?_eq_getElem h]
theorem rd_mem (l : List Int) (i : Nat) (h : i < l.length) : rd l (i : Int) ∈ l := by
  simp [rd, List.getD_eq_getElem?_getD, List.getElem?_eq_getElem h]
def wid (a : Int) : Nat := min (max a 0).toNat 8
theorem wid_le (a : Int) : wid a ≤ 8 := by unfold wid; omega
def okB (l : List Int) : Bool := l.all fun x => decide (0 ≤ x ∧ x < 256)
theorem okB_iff {l : List Int} : okB l = true ↔ ∀ x ∈ l, 0 ≤ x ∧ x < 256 := by simp [okB]
theorem u64_bd {n : Int} (h : (Lit.int .u64 n).wf = true) : 0 ≤ n ∧ n < 18446744073709551616 := by
  have : 0 ≤ n ∧ n ≤ 18446744073709551615 := by simpa [Lit.wf, IntKind.min, IntKind.max, IntKind.signed, IntKind.bits] using h
  omega
theorem i64_bd {n : Int} (h : (Lit.int .i64 n).wf = true) : -9223372036854775808 ≤ n ∧ n ≤ 9223372036854775807 := by
  simpa [Lit.wf, IntKind.min, IntKind.max, IntKind.signed, IntKind.bits] using h
theorem okB_beL (N i : Nat) : okB (beL N i) = true := okB_iff.2 (beL_byte N i)
theorem made_form {α : Type} {d : Kd α} {e base B : Nat} {ok : Nat → Prop} {w : World} {v : Value} {xs : List α} (h : d.R e w base ok v xs) (hb : ∃ b, v.ownBlock = some b ∧ B ≤ b) :
    ∃ g cap, v = .slice (some ⟨g, 0, none⟩) xs.length cap ∧ B ≤ g := by
  obtain ⟨inner, ho⟩ := Kd.R_own h
  obtain ⟨b, hb, hB⟩ := hb
  rcases ho.2 with ⟨rfl, _⟩ | ⟨g, cap, cur, rfl, _⟩
  · simp [Value.ownBlock] at hb
  · have : g = b := by simpa [Value.ownBlock] using hb
    exact ⟨g, cap, rfl, by omega⟩
theorem ret_bool {a b : Bool} (h : a = b) : Ending.returned (.bool a) = .returned (.bool b) := by rw [h]
theorem R_empty {α : Type} (d : Kd α) (e base : Nat) (w : World) (ok : Nat → Prop) (hb : base ≤ w.heap.size) (hok : ok w.heap.size) :
    d.R e (w.alloc (.cells #[] e)) base ok (.slice (some ⟨w.heap.size, 0, none⟩) 0 0) [] := by
  refine ⟨fun k hk => ?_, [], ⟨by simp, .inr ⟨w.heap.size, 0, #[], rfl, hb, heap_alloc_new w _, Nat.le_refl _, by simp [maxLen], by simp, by simp⟩⟩, Reps.none _ _⟩
  simp only [Value.ownBlock, Option.some.injEq] at hk
  rw [← hk]
  exact hok
theorem infoU8 : (Tryd.prog.info? 5).map (fun i => (i.zero, i.size, i.bytes)) = some (some (.int .u8 0), 1, 1) := by kernel_rfl
end Go.Proofs.YtbgmnmjokdfmlaaDoor.G
namespace Go.Proofs.YtbgmnmjokdfmlaaDoor.PA
open Go.RowKit Go.Proofs.YtbgmnmjokdfmlaaDoor.G Go.Proofs.YtbgmnmjokdfmlaaDoorW.PrintWords Go.Proofs.YtbgmnmjokdfmlaaDoorW.PrintLast Go.Proofs.YtbgmnmjokdfmlaaDoorW.PrintMore
set_option linter.unusedVariables false
set_option linter.unusedSimpArgs false
def letB (c : Int) : Bool := decide (c = 95) || (decide (97 ≤ Go.bits .or .u8 c 32) && decide (Go.bits .or .u8 c 32 ≤ 122))
def digB (c : Int) : Bool := decide (48 ≤ c) && decide (c ≤ 57)
def badB (c : Int) : Bool := !letB c && !digB c
theorem letB.calls (c : Int) (w : World) : Calls Tryd.prog 97 #[.int .u8 c] w fun e w' => e = .returned (.bool (letB c)) ∧ w' = w := by
  by_cases h1 : c = 95
  · have HV : Aside0 (letB c = true) := ⟨by rw [letB, decide_eq_true h1]; rfl⟩
    have d1 : (c == 95) = true := beq_iff_eq.2 h1
    clear h1
    go_enter Tryd.func97, Tryd.ntmps97
    go_wp2
    go_ret
    exact ⟨by rw [HV.out]; rfl, rfl⟩
  · have d1 : (c == 95) = false := beq_eq_false_iff_ne.2 h1
    have HV : Aside0 (letB c = (decide (97 ≤ Go.bits .or .u8 c 32) && decide (Go.bits .or .u8 c 32 ≤ 122))) := ⟨by rw [letB, decide_eq_false h1]; rfl⟩
    clear h1
    by_cases h2 : 97 ≤ Go.bits .or .u8 c 32
    · have HW : Aside0 (letB c = decide (Go.bits .or .u8 c 32 ≤ 122)) := ⟨by rw [HV.out, decide_eq_true h2]; rfl⟩
      go_enter Tryd.func97, Tryd.ntmps97
      go_wp2
      go_ret
      exact ⟨by rw [HW.out]; rfl, rfl⟩
    · have HW : Aside0 (letB c = false) := ⟨by rw [HV.out, decide_eq_false h2]; rfl⟩
      go_enter Tryd.func97, Tryd.ntmps97
      go_wp2
      go_ret
      exact ⟨by rw [HW.out]; rfl, rfl⟩
theorem digB.calls (c : Int) (w : World) : Calls Tryd.prog 100 #[.int .u8 c] w fun e w' => e = .returned (.bool (digB c)) ∧ w' = w := by
  by_cases h2 : 48 ≤ c
  · have HW : Aside0 (digB c = decide (c ≤ 57)) := ⟨by rw [digB, decide_eq_true h2]; rfl⟩
    go_enter Tryd.func100, Tryd.ntmps100
    go_wp2
    go_ret
    exact ⟨by rw [HW.out]; rfl, rfl⟩
  · have HW : Aside0 (digB c = false) := ⟨by rw [digB, decide_eq_false h2]; rfl⟩
    go_enter Tryd.func100, Tryd.ntmps100
    go_wp2
    go_ret
    exact ⟨by rw [HW.out]; rfl, rfl⟩
theorem badB.calls (c : Int) (w : World) : Calls Tryd.prog 99 #[.int .u8 c] w fun e w' => e = .returned (.bool (badB c)) ∧ w' = w := by
  cases h1 : letB c with
  | true =>
    have HL : Aside0 (∀ W, Calls Tryd.prog 97 #[.int .u8 c] W fun e w' => e = .returned (.bool true) ∧ w' = W) := ⟨fun W => h1 ▸ letB.calls c W⟩
    have HV : Aside0 (badB c = false) := ⟨by rw [badB, h1]; rfl⟩
    clear h1
    go_enter Tryd.func99, Tryd.ntmps99
    go_wp2_with (first | (go_at_call 97; (with_reducible refine (HL.out _).mono ?_); rintro e w1 ⟨rfl, rfl⟩))
    go_ret
    exact ⟨by rw [HV.out]; rfl, rfl⟩
  | false =>
    have HL : Aside0 (∀ W, Calls Tryd.prog 97 #[.int .u8 c] W fun e w' => e = .returned (.bool false) ∧ w' = W) := ⟨fun W => h1 ▸ letB.calls c W⟩
    have HD : Aside0 (∀ W, Calls Tryd.prog 100 #[.int .u8 c] W fun e w' => e = .returned (.bool (digB c)) ∧ w' = W) := ⟨digB.calls c⟩
    have HV : Aside0 (badB c = !digB c) := ⟨by rw [badB, h1]; rfl⟩
    clear h1
    go_enter Tryd.func99, Tryd.ntmps99
    go_wp2_with (first | (go_at_call 97; (with_reducible refine (HL.out _).mono ?_); rintro e w1 ⟨rfl, rfl⟩) | (go_at_call 100; (with_reducible refine (HD.out _).mono ?_); rintro e w1 ⟨rfl, rfl⟩))
    go_ret
    exact ⟨by rw [HV.out]; rfl, rfl⟩
def idxBad : List Int → Nat → Int
  | [], _ => -1
  | a :: r, k => if badB a = true then (k : Int) else idxBad r (k + 1)
theorem idxBad_step (l : List Int) (k : Nat) (hk : k < l.length) : idxBad (l.drop k) k = if badB (rd l (k : Int)) = true then (k : Int) else idxBad (l.drop (k + 1)) (k + 1) := by
  rw [rd_drop l k hk]
  rfl
theorem idxBad_any : ∀ (l : List Int) (k : Nat), decide (0 ≤ idxBad l k) = l.any badB
  | [], _ => rfl
  | a :: r, k => by
    rw [idxBad, List.any_cons]
    cases h : badB a with
    | true => rw [if_pos rfl]; simp
    | false => rw [if_neg (by simp), idxBad_any r (k + 1)]; rfl
set_option maxHeartbeats 2000000 in
theorem idxBad.calls (A0 : Option Addr) (c0 n : Nat) (l : List Int) (w : World) (hn : l.length = n) (hr : Kd.C (Kd.int .u8) w A0 n l) (hlen : n ≤ 1000000) :
    Calls Tryd.prog 119 #[.slice A0 n c0, .func (.func 99) #[] #[]] w fun e w' => e = .returned (.int .i64 (idxBad l 0)) ∧ Below w.heap.size w w' := by
  subst hn
  have HR := Aside0.mk hr
  clear hr
  go_enter Tryd.func119, Tryd.ntmps119
  go_wp2
  go_loopw [8] (fun i wr => ∃ k : Nat, k ≤ l.length ∧ i = .int .i64 k ∧ Aside0 (idxBad l 0 = idxBad (l.drop k) k) ∧ Aside0 (Below w.heap.size w wr)) (fun i _ => l.length - (intOf i).toNat)
  case atStart => exact ⟨0, Nat.zero_le _, rfl, ⟨rfl⟩, ⟨Below.refl _ _⟩⟩
  case round =>
    obtain ⟨k, hk, rfl, HE, HB⟩ := hrel
    by_cases hlt : k < l.length
    · have hC := Kd.C_below HR.out HB.out
      obtain ⟨bd, cb, rfl, _, hKb, hcb⟩ := Kd.C_get hC (0 : Int) (k : Int) (by omega) (by omega)
      have hb0 : wr.cell? (bd.add k) = some (.int .u8 (rd l (k : Int))) := by
        have := hcb 0 (.int .u8 (rd l (k : Int))) (by rw [show cb = [Value.int .u8 (rd l (k : Int))] from hKb]; rfl)
        simpa [show (Kd.int .u8).sz = 1 from rfl] using this
      have HST := Aside0.mk (idxBad_step l k hlt)
      clear hcb hKb hC
      generalize rd l (k : Int) = y at hb0 HST
      cases hq : badB y with
      | true =>
        have HN : Aside0 (idxBad l 0 = (k : Int)) := ⟨by rw [HE.out, HST.out, if_pos hq]⟩
        have HC : Aside0 (∀ W, Calls Tryd.prog 99 #[.int .u8 y] W fun e w' => e = .returned (.bool true) ∧ w' = W) := ⟨fun W => hq ▸ badB.calls y W⟩
        clear hq
        go_wp2_with (first | (go_at_call 99; (with_reducible refine (HC.out _).mono ?_); rintro e w1 ⟨rfl, rfl⟩))
        go_ret
        exact ⟨by rw [HN.out]; rfl, HB.out⟩
      | false =>
        have HN : Aside0 (idxBad l 0 = idxBad (l.drop (k + 1)) (k + 1)) := ⟨by rw [HE.out, HST.out, if_neg (by rw [hq]; simp)]⟩
        have HC : Aside0 (∀ W, Calls Tryd.prog 99 #[.int .u8 y] W fun e w' => e = .returned (.bool false) ∧ w' = W) := ⟨fun W => hq ▸ badB.calls y W⟩
        clear hq
        go_wp2_with (first | (go_at_call 99; (with_reducible refine (HC.out _).mono ?_); rintro e w1 ⟨rfl, rfl⟩))
        go_roundw
        case rel => exact ⟨k + 1, by omega, by go_num, HN, HB⟩
        case measure => simp [intOf]; omega
    · obtain rfl : k = l.length := by omega
      go_wp2
      go_ret
      exact ⟨by rw [HE.out, List.drop_length]; rfl, HB.out⟩
theorem anyBad.calls (A0 : Option Addr) (c0 n : Nat) (l : List Int) (w : World) (hn : l.length = n) (hr : Kd.C (Kd.int .u8) w A0 n l) (hlen : n ≤ 1000000) :
    Calls Tryd.prog 98 #[.slice A0 n c0, .func (.func 99) #[] #[]] w fun e w' => e = .returned (.bool (l.any badB)) ∧ Below w.heap.size w w' := by
  have HI := Aside0.mk (idxBad.calls A0 c0 n l w hn hr hlen)
  have HV := Aside0.mk (idxBad_any l 0)
  clear hr hlen hn
  go_enter Tryd.func98, Tryd.ntmps98
  go_wp2_with (first | (go_at_call 119; (with_reducible refine HI.out.mono ?_); rintro e w1 ⟨rfl, hb⟩; have HB := Aside0.mk hb; clear hb))
  go_ret
  exact ⟨ret_bool HV.out, HB.out⟩
def nameB (s : ByteArray) : Bool := decide (1 ≤ s.size) && decide (s.size ≤ 24) && letB (bt s 0) && !(bytesOf s).any badB
theorem size_ne' (s : ByteArray) : s.toList.isEmpty = decide (s.size = 0) := by
  have h : s.toList.length = s.size := by rw [ByteArray.toList_eq]; simp
  generalize s.toList = l at h
  rw [← h]
  cases l with
  | nil => rfl
  | cons a l => rw [decide_eq_false (by simp)]; rfl
set_option maxHeartbeats 2000000 in
theorem nameB.calls (s : ByteArray) (w : World) : Calls Tryd.prog 70 #[.string s] w fun e w' => e = .returned (.bool (nameB s)) ∧ Below w.heap.size w w' := by
  have he := size_ne' s
  have kb := fun W => print_bytes (P := Tryd.prog) 9 22 5 Tryd.underlying9 Tryd.underlying22 Tryd.underlying5 s W
  by_cases h0 : s.size = 0
  · rw [decide_eq_true h0] at he
    have HV : Aside0 (nameB s = false) := ⟨by rw [nameB, decide_eq_false (by omega)]; rfl⟩
    clear h0
    go_enter Tryd.func70, Tryd.ntmps70
    go_wp2
    go_ret
    exact ⟨by rw [HV.out]; rfl, Below.refl _ _⟩
  · rw [decide_eq_false h0] at he
    by_cases h1 : s.size ≤ 24
    · have hp : 0 < s.size := by omega
      have hb : ((s[0]'hp).toNat : Int) = bt s 0 := bt_at s 0 hp
      cases h2 : letB (bt s 0) with
      | false =>
        have HV : Aside0 (nameB s = false) := ⟨by rw [nameB, h2]; simp⟩
        have HL : Aside0 (∀ W, Calls Tryd.prog 97 #[.int .u8 (bt s 0)] W fun e w' => e = .returned (.bool false) ∧ w' = W) := ⟨fun W => h2 ▸ letB.calls _ W⟩
        clear h2
        go_enter Tryd.func70, Tryd.ntmps70
        go_wp2_with (first | (go_at_call 97; (with_reducible refine (HL.out _).mono ?_); rintro e w1 ⟨rfl, rfl⟩))
        go_ret
        exact ⟨by rw [HV.out]; rfl, Below.refl _ _⟩
      | true =>
        have HV : Aside0 (nameB s = !(bytesOf s).any badB) := ⟨by rw [nameB, h2, decide_eq_true (by omega), decide_eq_true h1]; rfl⟩
        have HL : Aside0 (∀ W, Calls Tryd.prog 97 #[.int .u8 (bt s 0)] W fun e w' => e = .returned (.bool true) ∧ w' = W) := ⟨fun W => h2 ▸ letB.calls _ W⟩
        have HC : Aside0 (∀ c, Calls Tryd.prog 98 #[.slice (some ⟨w.heap.size, 0, none⟩) s.size c, .func (.func 99) #[] #[]] (Lib.bytesWorld w 5 s) fun e w' => e = .returned (.bool ((bytesOf s).any badB)) ∧ Below (Lib.bytesWorld w 5 s).heap.size (Lib.bytesWorld w 5 s) w') := ⟨fun c => anyBad.calls _ c _ (bytesOf s) _ (bytesOf_length s) (Kd.C_of_reads (d := (0 : Int)) (h1 := fun _ => rfl) (bytes_reads w 5 s (by omega))) (by omega)⟩
        have HB0 := Aside0.mk (bytes_below (Below.refl w.heap.size w) (Nat.le_refl _) 5 s)
        clear h2
        go_enter Tryd.func70, Tryd.ntmps70
        go_wp2_with (first | (go_at_call 97; (with_reducible refine (HL.out _).mono ?_); rintro e w1 ⟨rfl, rfl⟩) | (go_at_call 98; (with_reducible refine (HC.out _).mono ?_); rintro e w1 ⟨rfl, hb⟩; have HB := Aside0.mk (below_step HB0.out hb); clear hb))
        go_ret
        exact ⟨by rw [HV.out]; rfl, HB.out⟩
    · have HV : Aside0 (nameB s = false) := ⟨by rw [nameB, decide_eq_false h1]; simp⟩
      go_enter Tryd.func70, Tryd.ntmps70
      go_wp2
      go_ret
      exact ⟨by rw [HV.out]; rfl, Below.refl _ _⟩
def labels_Name.f (a : ByteArray) : Option Bool := some (nameB a)
theorem labels_Name.calls (a0 : ByteArray) (r : Bool) (w : World) (h : labels_Name.f a0 = some r) :
    Calls Tryd.prog 70 #[.string a0] w fun e w' => e = .returned (.bool r) ∧ Below w.heap.size w w' := by
  obtain rfl := Option.some.inj h
  exact nameB.calls a0 w
end Go.Proofs.YtbgmnmjokdfmlaaDoor.PA
namespace Go.Proofs.YtbgmnmjokdfmlaaDoor.PA
open Go.RowKit Go.Proofs.YtbgmnmjokdfmlaaDoor.G Go.Proofs.YtbgmnmjokdfmlaaDoorW.PrintWords Go.Proofs.YtbgmnmjokdfmlaaDoorW.PrintLast Go.Proofs.YtbgmnmjokdfmlaaDoorW.PrintMore
set_option linter.unusedVariables false
set_option linter.unusedSimpArgs false
def ptB (r : Int) : Bool := decide (32 ≤ r) && !decide (r = 127) && !decide (r = 65533)
def ptsB (s : ByteArray) : Nat → Nat → Bool
  | 0, _ => true
  | b + 1, pos => if pos < s.size then ptB (Utf8.decode s pos).1 && ptsB s b (pos + (Utf8.decode s pos).2) else true
def plainB (s : ByteArray) : Bool := ptsB s s.size 0
theorem width_pos (s : ByteArray) (pos : Nat) (h : pos < s.size) : 1 ≤ (Utf8.decode s pos).2 := by
  by_cases ha : (s[pos]'h).toNat < 128
  · rw [decode_ascii s pos h ha]
    exact Nat.le_refl _
  · exact (decode_high s pos h (by omega)).2
theorem ptsB_end (s : ByteArray) (b pos : Nat) (h : ¬ pos < s.size) : ptsB s b pos = true := by
  cases b with
  | zero => rfl
  | succ b => rw [ptsB, if_neg h]
theorem below_iter (w : World) (s : ByteArray) (pos : Nat) : Below w.heap.size w (w.iter s pos) := below_alloc (Below.refl _ _) _
theorem plainB.calls (s : ByteArray) (w : World) : Calls Tryd.prog 88 #[.string s] w fun e w' => e = .returned (.bool (plainB s)) ∧ Below w.heap.size w w' := by
  go_enter Tryd.func88, Tryd.ntmps88
  go_wp2
  go_loopw [] (fun w' => ∃ (pos b : Nat), w' = w.iter s pos ∧ Aside0 (plainB s = ptsB s b pos) ∧ s.size ≤ pos + b) (fun w' => s.size - w'.iterPos w.heap.size)
  case atStart => exact ⟨0, s.size, rfl, ⟨rfl⟩, by omega⟩
  case round =>
    obtain ⟨pos, b, rfl, HC, hb⟩ := hrel
    by_cases hp : pos < s.size
    · have hnx : ∀ ty, (Instr.next (.pointer (some ⟨w.heap.size, 0, none⟩)) true ty).run Tryd.prog (w.iter s pos) = _ := fun ty => run_next_any w s pos ty hp
      have hwd := width_pos s pos hp
      cases b with
      | zero => omega
      | succ b =>
        have HS : Aside0 (plainB s = (ptB ((Utf8.decode s pos).1 : Int) && ptsB s b (pos + (Utf8.decode s pos).2))) := ⟨by rw [HC.out, ptsB, if_pos hp]⟩
        generalize (((Utf8.decode s pos).1 : Nat) : Int) = r at hnx HS
        by_cases h1 : r < 32
        · have HF : Aside0 (plainB s = false) := ⟨by rw [HS.out, ptB, decide_eq_false (by omega)]; rfl⟩
          go_wp2
          go_ret
          exact ⟨by rw [HF.out]; rfl, below_iter _ _ _⟩
        · by_cases h2 : r = 127
          · have HF : Aside0 (plainB s = false) := ⟨by rw [HS.out, ptB, decide_eq_true h2]; simp⟩
            go_wp2
            go_ret
            exact ⟨by rw [HF.out]; rfl, below_iter _ _ _⟩
          · by_cases h3 : r = 65533
            · have HF : Aside0 (plainB s = false) := ⟨by rw [HS.out, ptB, decide_eq_true h3]; simp⟩
              go_wp2
              go_ret
              exact ⟨by rw [HF.out]; rfl, below_iter _ _ _⟩
            · have HF : Aside0 (plainB s = ptsB s b (pos + (Utf8.decode s pos).2)) := ⟨by rw [HS.out, ptB, decide_eq_true (by omega), decide_eq_false h2, decide_eq_false h3]; rfl⟩
              have d1 : decide (r < 32) = false := decide_eq_false h1
              have d2 : (r == 127) = false := beq_eq_false_iff_ne.2 h2
              have d3 : (r == 65533) = false := beq_eq_false_iff_ne.2 h3
              clear h1 h2 h3
              go_wp2
              refine ⟨⟨pos + (Utf8.decode s pos).2, b, rfl, HF, by omega⟩, ?_⟩
              simp
              omega
    · have hnx : ∀ ty, (Instr.next (.pointer (some ⟨w.heap.size, 0, none⟩)) true ty).run Tryd.prog (w.iter s pos) = _ := fun ty => run_next_end w s pos ty hp
      go_wp2
      go_ret
      exact ⟨by rw [HC.out, ptsB_end s b pos hp]; rfl, below_iter _ _ _⟩
def dryrotref07_Plain.f (a : ByteArray) : Option Bool := some (plainB a)
theorem dryrotref07_Plain.calls (a0 : ByteArray) (r : Bool) (w : World) (h : dryrotref07_Plain.f a0 = some r) :
    Calls Tryd.prog 88 #[.string a0] w fun e w' => e = .returned (.bool r) ∧ Below w.heap.size w w' := by
  obtain rfl := Option.some.inj h
  exact plainB.calls a0 w
end Go.Proofs.YtbgmnmjokdfmlaaDoor.PA
namespace Go.Proofs.YtbgmnmjokdfmlaaDoor.PA
open Go.RowKit Go.Proofs.YtbgmnmjokdfmlaaDoor.G Go.Proofs.YtbgmnmjokdfmlaaDoorW.PrintWords Go.Proofs.YtbgmnmjokdfmlaaDoorW.PrintLast Go.Proofs.YtbgmnmjokdfmlaaDoorW.PrintMore
set_option linter.unusedVariables false
set_option linter.unusedSimpArgs false
theorem ptB.calls (r : Int) (w : World) : Calls Tryd.prog 101 #[.int .i32 r] w fun e w' => e = .returned (.bool (ptB r)) ∧ w' = w := by
  by_cases h1 : 32 ≤ r
  · cases h2 : (r == 127) with
    | true =>
      have HV : Aside0 (ptB r = false) := ⟨by rw [ptB, decide_eq_true (beq_iff_eq.1 h2)]; simp⟩
      have h2' : (r != 127) = false := bne_eq_false_iff_eq.2 (beq_iff_eq.1 h2)
      go_enter Tryd.func101, Tryd.ntmps101
      go_wp2
      go_ret
      exact ⟨by rw [HV.out]; rfl, rfl⟩
    | false =>
      have h2' : (r != 127) = true := bne_iff_ne.2 (beq_eq_false_iff_ne.1 h2)
      have HV : Aside0 (ptB r = (r != 65533)) := ⟨by
        rw [ptB, decide_eq_true h1, decide_eq_false (beq_eq_false_iff_ne.1 h2)]
        by_cases h3 : r = 65533
        · rw [decide_eq_true h3, bne_eq_false_iff_eq.2 h3]; rfl
        · rw [decide_eq_false h3, bne_iff_ne.2 h3]; rfl⟩
      go_enter Tryd.func101, Tryd.ntmps101
      go_wp2
      go_ret
      exact ⟨by rw [HV.out]; rfl, rfl⟩
  · have HV : Aside0 (ptB r = false) := ⟨by rw [ptB, decide_eq_false h1]; rfl⟩
    go_enter Tryd.func101, Tryd.ntmps101
    go_wp2
    go_ret
    exact ⟨by rw [HV.out]; rfl, rfl⟩
theorem size_ne (s : ByteArray) : (!s.toList.isEmpty) = decide (1 ≤ s.size) := by
  have h : s.toList.length = s.size := by rw [ByteArray.toList_eq]; simp
  generalize s.toList = l at h
  rw [← h]
  cases l with
  | nil => rfl
  | cons a l => rw [decide_eq_true (by simp)]; rfl
def valueB (s : ByteArray) : Bool := decide (1 ≤ s.size) && decide (s.size ≤ 40) && plainB s
theorem valueB.calls (s : ByteArray) (w : World) : Calls Tryd.prog 71 #[.string s] w fun e w' => e = .returned (.bool (valueB s)) ∧ Below w.heap.size w w' := by
  go_enter Tryd.func71, Tryd.ntmps71
  go_wp2
  go_loopw [] (fun w' => ∃ (pos b : Nat), w' = w.iter s pos ∧ Aside0 (plainB s = ptsB s b pos) ∧ s.size ≤ pos + b) (fun w' => s.size - w'.iterPos w.heap.size)
  case atStart => exact ⟨0, s.size, rfl, ⟨rfl⟩, by omega⟩
  case round =>
    obtain ⟨pos, b, rfl, HC, hb⟩ := hrel
    by_cases hp : pos < s.size
    · have hnx : ∀ ty, (Instr.next (.pointer (some ⟨w.heap.size, 0, none⟩)) true ty).run Tryd.prog (w.iter s pos) = _ := fun ty => run_next_any w s pos ty hp
      have hwd := width_pos s pos hp
      cases b with
      | zero => omega
      | succ b =>
        have HS : Aside0 (plainB s = (ptB ((Utf8.decode s pos).1 : Int) && ptsB s b (pos + (Utf8.decode s pos).2))) := ⟨by rw [HC.out, ptsB, if_pos hp]⟩
        generalize (((Utf8.decode s pos).1 : Nat) : Int) = r at hnx HS
        have HB := Aside0.mk (below_iter w s (pos + (Utf8.decode s pos).2))
        cases hr : ptB r with
        | false =>
          have PTfalse : Aside0 (∀ W, Calls Tryd.prog 101 #[.int .i32 r] W fun e w' => e = .returned (.bool false) ∧ w' = W) := ⟨fun W => hr ▸ ptB.calls r W⟩
          have HF : Aside0 (plainB s = false) := ⟨by rw [HS.out, hr]; rfl⟩
          clear hr
          go_wp2_with (first | (go_at_call 101; (with_reducible refine (PTfalse.out _).mono ?_); rintro e w1 ⟨rfl, rfl⟩))
          go_ret
          exact ⟨by rw [valueB, HF.out, Bool.and_false]; rfl, HB.out⟩
        | true =>
          have PTtrue : Aside0 (∀ W, Calls Tryd.prog 101 #[.int .i32 r] W fun e w' => e = .returned (.bool true) ∧ w' = W) := ⟨fun W => hr ▸ ptB.calls r W⟩
          have HF : Aside0 (plainB s = ptsB s b (pos + (Utf8.decode s pos).2)) := ⟨by rw [HS.out, hr]; rfl⟩
          clear hr
          go_wp2_with (first | (go_at_call 101; (with_reducible refine (PTtrue.out _).mono ?_); rintro e w1 ⟨rfl, rfl⟩))
          refine ⟨⟨pos + (Utf8.decode s pos).2, b, rfl, HF, by omega⟩, ?_⟩
          simp
          omega
    · have hnx : ∀ ty, (Instr.next (.pointer (some ⟨w.heap.size, 0, none⟩)) true ty).run Tryd.prog (w.iter s pos) = _ := fun ty => run_next_end w s pos ty hp
      have HV : Aside0 (plainB s = true) := ⟨by rw [HC.out, ptsB_end s b pos hp]⟩
      have he := size_ne s
      by_cases h1 : 1 ≤ s.size
      · rw [decide_eq_true h1] at he
        go_wp2
        go_ret
        exact ⟨by rw [valueB, HV.out, decide_eq_true h1]; simp; omega, below_iter _ _ _⟩
      · rw [decide_eq_false h1] at he
        go_wp2
        go_ret
        exact ⟨by rw [valueB, decide_eq_false h1]; rfl, below_iter _ _ _⟩
def labels_Value.f (a : ByteArray) : Option Bool := some (valueB a)
theorem labels_Value.calls (a0 : ByteArray) (r : Bool) (w : World) (h : labels_Value.f a0 = some r) :
    Calls Tryd.prog 71 #[.string a0] w fun e w' => e = .returned (.bool r) ∧ Below w.heap.size w w' := by
  obtain rfl := Option.some.inj h
  exact valueB.calls a0 w
end Go.Proofs.YtbgmnmjokdfmlaaDoor.PA
namespace Go.Proofs.YtbgmnmjokdfmlaaDoor.PA
open Go.RowKit Go.Proofs.YtbgmnmjokdfmlaaDoor.G Go.Proofs.YtbgmnmjokdfmlaaDoorW.PrintWords Go.Proofs.YtbgmnmjokdfmlaaDoorW.PrintLast Go.Proofs.YtbgmnmjokdfmlaaDoorW.PrintMore
set_option linter.unusedVariables false
set_option linter.unusedSimpArgs false
def txt (a b : ByteArray) : Int := if (Op.bytesLess a.toList b.toList) = true then -1 else if (a.toList == b.toList) = true then 0 else 1
def dryrotref07_texts.f (a b : ByteArray) : Option Int := some (txt a b)
theorem texts.calls (a b : ByteArray) (w : World) : Calls Tryd.prog 76 #[.string a, .string b] w fun e w' => e = .returned (.int .i64 (txt a b)) ∧ w' = w := by
  cases h1 : Op.bytesLess a.toList b.toList with
  | true =>
    have HV : Aside0 (txt a b = -1) := ⟨by rw [txt, if_pos h1]⟩
    go_enter Tryd.func76, Tryd.ntmps76
    go_wp2
    go_ret
    exact ⟨by rw [HV.out]; rfl, rfl⟩
  | false =>
    cases h2 : a.toList == b.toList with
    | true =>
      have HV : Aside0 (txt a b = 0) := ⟨by rw [txt, if_neg (by rw [h1]; simp), if_pos h2]⟩
      go_enter Tryd.func76, Tryd.ntmps76
      go_wp2
      go_ret
      exact ⟨by rw [HV.out]; rfl, rfl⟩
    | false =>
      have HV : Aside0 (txt a b = 1) := ⟨by rw [txt, if_neg (by rw [h1]; simp), if_neg (by rw [h2]; simp)]⟩
      go_enter Tryd.func76, Tryd.ntmps76
      go_wp2
      go_ret
      exact ⟨by rw [HV.out]; rfl, rfl⟩
theorem dryrotref07_texts.calls (a0 a1 : ByteArray) (r : Int) (w : World) (h : dryrotref07_texts.f a0 a1 = some r) :
    Calls Tryd.prog 76 #[.string a0, .string a1] w fun e w' => e = .returned (.int .i64 r) ∧ Drawn0 w w' := by
  obtain rfl := Option.some.inj h
  exact (texts.calls a0 a1 w).mono fun e w' ⟨he, hw⟩ => ⟨he, hw ▸ Drawn0.refl _⟩
theorem cmpStr.calls (a b : ByteArray) (w : World) : Calls Tryd.prog 75 #[.string a, .string b] w fun e w' => e = .returned (.int .i64 (txt a b)) ∧ w' = w := by
  have ha : (a.toList == a.toList) = true := by simp
  have hb : (b.toList == b.toList) = true := by simp
  cases h1 : Op.bytesLess a.toList b.toList with
  | true =>
    have HV : Aside0 (txt a b = -1) := ⟨by rw [txt, if_pos h1]⟩
    go_enter Tryd.func75, Tryd.ntmps75
    go_wp2_with (first | go_in)
    go_ret
    exact ⟨by rw [HV.out]; rfl, rfl⟩
  | false =>
    cases h2 : a.toList == b.toList with
    | true =>
      have HV : Aside0 (txt a b = 0) := ⟨by rw [txt, if_neg (by rw [h1]; simp), if_pos h2]⟩
      go_enter Tryd.func75, Tryd.ntmps75
      go_wp2_with (first | go_in)
      go_ret
      exact ⟨by rw [HV.out]; rfl, rfl⟩
    | false =>
      have HV : Aside0 (txt a b = 1) := ⟨by rw [txt, if_neg (by rw [h1]; simp), if_neg (by rw [h2]; simp)]⟩
      go_enter Tryd.func75, Tryd.ntmps75
      go_wp2_with (first | go_in)
      go_ret
      exact ⟨by rw [HV.out]; rfl, rfl⟩
end Go.Proofs.YtbgmnmjokdfmlaaDoor.PA
namespace Go.Proofs.YtbgmnmjokdfmlaaDoor.PA
open Go.RowKit Go.Proofs.YtbgmnmjokdfmlaaDoor.G Go.Proofs.YtbgmnmjokdfmlaaDoorW.PrintWords Go.Proofs.YtbgmnmjokdfmlaaDoorW.PrintLast Go.Proofs.YtbgmnmjokdfmlaaDoorW.PrintMore
set_option linter.unusedVariables false
set_option linter.unusedSimpArgs false
theorem tri : ∀ (a b : List UInt8), Op.bytesLess a b = !(Op.bytesLess b a || b == a)
  | [], [] => by simp [Op.bytesLess]
  | [], b :: br => by simp [Op.bytesLess]
  | a :: ar, [] => by simp [Op.bytesLess]
  | a :: ar, b :: br => by
    have ih := tri ar br
    simp only [Op.bytesLess, ih]
    have hab : (a < b) = (a.toNat < b.toNat) := propext UInt8.lt_iff_toNat_lt
    have hba : (b < a) = (b.toNat < a.toNat) := propext UInt8.lt_iff_toNat_lt
    rcases Nat.lt_trichotomy a.toNat b.toNat with h | h | h
    · have h2 : a ≠ b := fun e => by rw [e] at h; omega
      have h1 : ¬ b < a := by rw [hba]; omega
      have h3 : a < b := by rw [hab]; exact h
      simp [h3, h1, h2, Ne.symm h2]
    · obtain rfl : a = b := UInt8.toNat_inj.1 h
      have h1 : ¬ a < a := by rw [hab]; omega
      simp [h1]
    · have h2 : b ≠ a := fun e => by rw [e] at h; omega
      have h1 : ¬ a < b := by rw [hab]; omega
      have h3 : b < a := by rw [hba]; exact h
      simp [h3, h1, h2, Ne.symm h2]
def less (a b : ByteArray) : Bool := Op.bytesLess a.toList b.toList
def okAt (l : List S65) (k : Nat) : Bool := nameB (rd_T65 l (k : Int)).f0 && valueB (rd_T65 l (k : Int)).f1 && (decide (k = 0) || less (rd_T65 l ((k - 1 : Nat) : Int)).f0 (rd_T65 l (k : Int)).f0)
def canL (l : List S65) : Bool := decide (1 ≤ l.length) && decide (l.length ≤ 8) && (List.range l.length).all (okAt l)
def lastN (l : List S65) : Nat → ByteArray
  | 0 => ⟨#[]⟩
  | k + 1 => (rd_T65 l (k : Int)).f0
theorem nameB_size {s : ByteArray} (h : nameB s = true) : 1 ≤ s.size ∧ s.size ≤ 24 := by
  simp only [nameB, Bool.and_eq_true, decide_eq_true_eq] at h
  exact ⟨h.1.1.1, h.1.1.2⟩
theorem valueB_size {s : ByteArray} (h : valueB s = true) : 1 ≤ s.size ∧ s.size ≤ 40 := by
  simp only [valueB, Bool.and_eq_true, decide_eq_true_eq] at h
  exact ⟨h.1.1, h.1.2⟩
theorem toList_len (s : ByteArray) : s.toList.length = s.size := by rw [ByteArray.toList_eq]; simp
theorem okAt_last {l : List S65} {k : Nat} (h1 : nameB (rd_T65 l (k : Int)).f0 = true) (h2 : valueB (rd_T65 l (k : Int)).f1 = true) :
    okAt l k = !(Op.bytesLess (rd_T65 l (k : Int)).f0.toList (lastN l k).toList || (rd_T65 l (k : Int)).f0.toList == (lastN l k).toList) := by
  rw [okAt, h1, h2]
  cases k with
  | zero =>
    have hz := (nameB_size h1).1
    rw [← toList_len] at hz
    have e : (lastN l 0).toList = [] := by show (⟨#[]⟩ : ByteArray).toList = []; rw [ByteArray.toList_eq]
    rw [e]
    generalize (rd_T65 l ((0 : Nat) : Int)).f0.toList = x at hz
    cases x with
    | nil => simp at hz
    | cons a x => simp [Op.bytesLess]
  | succ k =>
    rw [← tri]
    simp [less, lastN]
theorem okAt_geq {l : List S65} {k : Nat} (h1 : nameB (rd_T65 l ((k + 1 : Nat) : Int)).f0 = true) (h2 : valueB (rd_T65 l ((k + 1 : Nat) : Int)).f1 = true) :
    okAt l (k + 1) = Op.bytesLess (rd_T65 l (k : Int)).f0.toList (rd_T65 l ((k + 1 : Nat) : Int)).f0.toList := by
  rw [okAt, h1, h2]
  simp [less]
theorem okAt_zero {l : List S65} (h1 : nameB (rd_T65 l ((0 : Nat) : Int)).f0 = true) (h2 : valueB (rd_T65 l ((0 : Nat) : Int)).f1 = true) : okAt l 0 = true := by
  rw [okAt, h1, h2]
  rfl
theorem okAt_name {l : List S65} {k : Nat} (h1 : nameB (rd_T65 l (k : Int)).f0 = false) : okAt l k = false := by rw [okAt, h1]; rfl
theorem okAt_value {l : List S65} {k : Nat} (h1 : valueB (rd_T65 l (k : Int)).f1 = false) : okAt l k = false := by rw [okAt, h1, Bool.and_false]; rfl
theorem canL_bad {l : List S65} {k : Nat} (hk : k < l.length) (h : okAt l k = false) : canL l = false := by
  rw [canL, Bool.and_eq_false_iff]
  right
  rw [List.all_eq_false]
  exact ⟨k, List.mem_range.2 hk, by rw [h]; simp⟩
theorem canL_ok {l : List S65} (h0 : 1 ≤ l.length) (h8 : l.length ≤ 8) (h : ∀ j, j < l.length → okAt l j = true) : canL l = true := by
  rw [canL, decide_eq_true h0, decide_eq_true h8]
  simp only [Bool.true_and, List.all_eq_true, List.mem_range]
  exact h
theorem canL_len {l : List S65} (h : ¬ (1 ≤ l.length ∧ l.length ≤ 8)) : canL l = false := by
  rw [canL]
  by_cases h1 : 1 ≤ l.length
  · rw [decide_eq_false (show ¬ l.length ≤ 8 from fun h2 => h ⟨h1, h2⟩), Bool.and_false]; rfl
  · rw [decide_eq_false h1]; rfl
theorem canL_parts {l : List S65} (h : canL l = true) : 1 ≤ l.length ∧ l.length ≤ 8 ∧ ∀ j, j < l.length → okAt l j = true := by
  simp only [canL, Bool.and_eq_true, decide_eq_true_eq, List.all_eq_true, List.mem_range] at h
  exact ⟨h.1.1, h.1.2, h.2⟩
theorem upto_step {l : List S65} {k : Nat} (h : ∀ j, j < k → okAt l j = true) (hk : okAt l k = true) : ∀ j, j < k + 1 → okAt l j = true := fun j hj => by
  rcases Nat.lt_or_ge j k with h1 | h1
  · exact h j h1
  · obtain rfl : j = k := by omega
    exact hk
end Go.Proofs.YtbgmnmjokdfmlaaDoor.PA
namespace Go.Proofs.YtbgmnmjokdfmlaaDoor.PA
open Go.RowKit Go.Proofs.YtbgmnmjokdfmlaaDoorW.PrintWords Go.Proofs.YtbgmnmjokdfmlaaDoorW.PrintLast Go.Proofs.YtbgmnmjokdfmlaaDoorW.PrintMore
attribute [local go_sem] max2_int min2_int max_two min_two max_three min_three max_four min_four   -- for this text's walks alone
set_option linter.unusedVariables false
set_option linter.unusedSimpArgs false
def dryrotref07_Name.l0 : Nat → ByteArray → Int → Option (Bool)
  | 0, _, _ => none
  | k + 1, x0, x3 => if x3 < (x0.size : Int) then (if 0 ≤ x3 then (if (bt x0 x3) ≥ 97 then (if (bt x0 x3) ≤ 122 then (dryrotref07_Name.l0 k x0 (wrap64 (x3 + 1))) else (if (bt x0 x3) ≥ 65 then (if (bt x0 x3) ≤ 90 then (dryrotref07_Name.l0 k x0 (wrap64 (x3 + 1))) else (if ((bt x0 x3) = 95) then (dryrotref07_Name.l0 k x0 (wrap64 (x3 + 1))) else (if x3 = 0 then (some false) else (if (bt x0 x3) < 48 then (some false) else (if (bt x0 x3) > 57 then (some false) else (dryrotref07_Name.l0 k x0 (wrap64 (x3 + 1)))))))) else (if ((bt x0 x3) = 95) then (dryrotref07_Name.l0 k x0 (wrap64 (x3 + 1))) else (if x3 = 0 then (some false) else (if (bt x0 x3) < 48 then (some false) else (if (bt x0 x3) > 57 then (some false) else (dryrotref07_Name.l0 k x0 (wrap64 (x3 + 1))))))))) else (if (bt x0 x3) ≥ 65 then (if (bt x0 x3) ≤ 90 then (dryrotref07_Name.l0 k x0 (wrap64 (x3 + 1))) else (if ((bt x0 x3) = 95) then (dryrotref07_Name.l0 k x0 (wrap64 (x3 + 1))) else (if x3 = 0 then (some false) else (if (bt x0 x3) < 48 then (some false) else (if (bt x0 x3) > 57 then (some false) else (dryrotref07_Name.l0 k x0 (wrap64 (x3 + 1)))))))) else (if ((bt x0 x3) = 95) then (dryrotref07_Name.l0 k x0 (wrap64 (x3 + 1))) else (if x3 = 0 then (some false) else (if (bt x0 x3) < 48 then (some false) else (if (bt x0 x3) > 57 then (some false) else (dryrotref07_Name.l0 k x0 (wrap64 (x3 + 1))))))))) else (none)) else (if (x0.size : Int) ≥ 1 then (some (decide ((x0.size : Int) ≤ 24))) else (some false))
def dryrotref07_Name.f (k : Nat) (a0 : ByteArray) : Option (Bool) := dryrotref07_Name.l0 k a0 0
theorem dryrotref07_Name.mono_l : ∀ k, (∀ y0 y1, LeO (dryrotref07_Name.l0 k y0 y1) (dryrotref07_Name.l0 (k + 1) y0 y1))
  | 0 => fun _ _ r h => by simp [dryrotref07_Name.l0] at h
  | k + 1 => by
    have ih0 := dryrotref07_Name.mono_l k
    · intro y0 y1
      unfold dryrotref07_Name.l0
      repeat' first
      | (with_reducible exact ih0 _ _)
      | (with_reducible exact LeO.refl _)
      | (with_reducible exact LeO.none _)
      | (with_reducible refine LeO.ite ?_ ?_)
      | (with_reducible refine LeO.bind ?_ (fun _ => ?_))
      | exact ih0 _ _
      | exact LeO.none _
      | refine LeO.ite ?_ ?_
      | refine LeO.bind ?_ (fun _ => ?_)
theorem dryrotref07_Name.mono : ∀ a0 k, LeO (dryrotref07_Name.f k a0) (dryrotref07_Name.f (k + 1) a0) := by
  intro a0 k
  have ih0 := dryrotref07_Name.mono_l k
  unfold dryrotref07_Name.f
  repeat' first
      | (with_reducible exact ih0 _ _)
      | (with_reducible exact LeO.refl _)
      | (with_reducible exact LeO.none _)
      | (with_reducible refine LeO.ite ?_ ?_)
      | (with_reducible refine LeO.bind ?_ (fun _ => ?_))
      | exact ih0 _ _
      | exact LeO.none _
      | refine LeO.ite ?_ ?_
      | refine LeO.bind ?_ (fun _ => ?_)
set_option maxHeartbeats 8000000 in
set_option maxRecDepth 100000 in
theorem dryrotref07_Name.calls (k : Nat) (a0 : ByteArray) (r : Bool) (w : World) (h : dryrotref07_Name.f k a0 = some r) :
    Calls Tryd.prog 57 #[.string a0] w fun e w' => e = .returned (.bool r) ∧ Drawn0 w w' := by
  have H : (dryrotref07_Name.l0 k a0 0) = some r := h
  clear h
  have H' := Aside0.mk H
  clear H
  go_enter Tryd.func57, Tryd.ntmps57
  go_wp2
  go_loopg [3] k (fun kq v3 w' => ∃ (x3_1 : Int), v3 = .int .i64 x3_1 ∧ Aside0 (dryrotref07_Name.l0 kq a0 x3_1 = some r) ∧ Aside0 (kq ≤ k) ∧ Drawn0 w w')
  case atStart => exact ⟨(0), (by first | rfl | (simp; done) | (simp [*]; done)), H', ⟨Nat.le_refl _⟩, by repeat (first | exact Drawn0.refl _ | apply Drawn0.step)⟩
  case round =>
    clear H'
    obtain ⟨x3_1, rfl, HA, HK1, ⟨m1, rfl⟩⟩ := hrel
    cases gk with
    | zero => exact absurd HA.out (by simp [dryrotref07_Name.l0])
    | succ k1 =>
      have H := HA.out
      clear HA
      simp only [dryrotref07_Name.l0] at H
      by_cases c2 : x3_1 < (a0.size : Int)
      · rw [if_pos c2] at H
        have c2b0 : decide (x3_1 < (a0.size : Int)) = true := decide_eq_true c2
        clear c2
        by_cases c3 : 0 ≤ x3_1
        · rw [if_pos c3] at H
          have c3b0 : decide (0 ≤ x3_1) = true := decide_eq_true c3
          clear c3
          by_cases c5 : (bt a0 x3_1) ≥ 97
          · rw [if_pos c5] at H
            have c5b0 : decide (97 ≤ (bt a0 x3_1)) = true := decide_eq_true c5
            clear c5
            by_cases c6 : (bt a0 x3_1) ≤ 122
            · rw [if_pos c6] at H
              have c6b0 : decide ((bt a0 x3_1) ≤ 122) = true := decide_eq_true c6
              clear c6
              have H' := Aside0.mk H
              clear H
              have p4 : 0 ≤ (x3_1 : Int) := of_decide_eq_true (by first | (with_reducible assumption) | assumption)
              have q4 : x3_1 < (a0.size : Int) := of_decide_eq_true (by first | (with_reducible assumption) | assumption)
              have hx4 := bt_at a0 x3_1
              replace p4 := eq_true p4
              replace q4 := eq_true q4
              go_wp2
              go_roundg k1
              case measure => have := HK1.out; omega
              case rel => exact ⟨(wrap64 (x3_1 + 1)), (by first | rfl | (simp; done) | (simp [*]; done)), H', ⟨by have := HK1.out; omega⟩, by repeat (first | exact Drawn0.refl _ | apply Drawn0.step)⟩
            · rw [if_neg c6] at H
              have c6b0 : decide ((bt a0 x3_1) ≤ 122) = false := decide_eq_false c6
              clear c6
              by_cases c7 : (bt a0 x3_1) ≥ 65
              · rw [if_pos c7] at H
                have c7b0 : decide (65 ≤ (bt a0 x3_1)) = true := decide_eq_true c7
                clear c7
                by_cases c8 : (bt a0 x3_1) ≤ 90
                · rw [if_pos c8] at H
                  have c8b0 : decide ((bt a0 x3_1) ≤ 90) = true := decide_eq_true c8
                  clear c8
                  have H' := Aside0.mk H
                  clear H
                  have p4 : 0 ≤ (x3_1 : Int) := of_decide_eq_true (by first | (with_reducible assumption) | assumption)
                  have q4 : x3_1 < (a0.size : Int) := of_decide_eq_true (by first | (with_reducible assumption) | assumption)
                  have hx4 := bt_at a0 x3_1
                  replace p4 := eq_true p4
                  replace q4 := eq_true q4
                  go_wp2
                  go_roundg k1
                  case measure => have := HK1.out; omega
                  case rel => exact ⟨(wrap64 (x3_1 + 1)), (by first | rfl | (simp; done) | (simp [*]; done)), H', ⟨by have := HK1.out; omega⟩, by repeat (first | exact Drawn0.refl _ | apply Drawn0.step)⟩
                · rw [if_neg c8] at H
                  have c8b0 : decide ((bt a0 x3_1) ≤ 90) = false := decide_eq_false c8
                  clear c8
                  by_cases c9 : ((bt a0 x3_1) = 95)
                  · rw [if_pos c9] at H
                    have c9b0 : ((bt a0 x3_1) == 95) = true := beq_iff_eq.mpr c9
                    have c9b1 : ((bt a0 x3_1) != 95) = false := bne_eq_false_iff_eq.mpr c9
                    clear c9
                    have H' := Aside0.mk H
                    clear H
                    have p4 : 0 ≤ (x3_1 : Int) := of_decide_eq_true (by first | (with_reducible assumption) | assumption)
                    have q4 : x3_1 < (a0.size : Int) := of_decide_eq_true (by first | (with_reducible assumption) | assumption)
                    have hx4 := bt_at a0 x3_1
                    replace p4 := eq_true p4
                    replace q4 := eq_true q4
                    go_wp2
                    go_roundg k1
                    case measure => have := HK1.out; omega
                    case rel => exact ⟨(wrap64 (x3_1 + 1)), (by first | rfl | (simp; done) | (simp [*]; done)), H', ⟨by have := HK1.out; omega⟩, by repeat (first | exact Drawn0.refl _ | apply Drawn0.step)⟩
                  · rw [if_neg c9] at H
                    have c9b0 : ((bt a0 x3_1) == 95) = false := beq_eq_false_iff_ne.mpr c9
                    have c9b1 : ((bt a0 x3_1) != 95) = true := bne_iff_ne.mpr c9
                    by_cases c10 : x3_1 = 0
                    · rw [if_pos c10] at H
                      have c10b0 : (x3_1 == 0) = true := beq_iff_eq.mpr c10
                      have c10b1 : (x3_1 != 0) = false := bne_eq_false_iff_eq.mpr c10
                      clear c10
                      obtain rfl := Option.some.inj H
                      have p4 : 0 ≤ (x3_1 : Int) := of_decide_eq_true (by first | (with_reducible assumption) | assumption)
                      have q4 : x3_1 < (a0.size : Int) := of_decide_eq_true (by first | (with_reducible assumption) | assumption)
                      have hx4 := bt_at a0 x3_1
                      replace p4 := eq_true p4
                      replace q4 := eq_true q4
                      go_wp2
                      go_ret
                      exact ⟨by first | rfl | (simp; done) | (simp [*]; done) | (simp; decide +kernel), by repeat (first | exact Drawn0.refl _ | apply Drawn0.step)⟩
                    · rw [if_neg c10] at H
                      have c10b0 : (x3_1 == 0) = false := beq_eq_false_iff_ne.mpr c10
                      have c10b1 : (x3_1 != 0) = true := bne_iff_ne.mpr c10
                      by_cases c11 : (bt a0 x3_1) < 48
                      · rw [if_pos c11] at H
                        have c11b0 : decide ((bt a0 x3_1) < 48) = true := decide_eq_true c11
                        clear c11
                        obtain rfl := Option.some.inj H
                        have p4 : 0 ≤ (x3_1 : Int) := of_decide_eq_true (by first | (with_reducible assumption) | assumption)
                        have q4 : x3_1 < (a0.size : Int) := of_decide_eq_true (by first | (with_reducible assumption) | assumption)
                        have hx4 := bt_at a0 x3_1
                        replace p4 := eq_true p4
                        replace q4 := eq_true q4
                        go_wp2
                        go_ret
                        exact ⟨by first | rfl | (simp; done) | (simp [*]; done) | (simp; decide +kernel), by repeat (first | exact Drawn0.refl _ | apply Drawn0.step)⟩
                      · rw [if_neg c11] at H
                        have c11b0 : decide ((bt a0 x3_1) < 48) = false := decide_eq_false c11
                        clear c11
                        by_cases c12 : (bt a0 x3_1) > 57
                        · rw [if_pos c12] at H
                          have c12b0 : decide (57 < (bt a0 x3_1)) = true := decide_eq_true c12
                          clear c12
                          obtain rfl := Option.some.inj H
                          have p4 : 0 ≤ (x3_1 : Int) := of_decide_eq_true (by first | (with_reducible assumption) | assumption)
                          have q4 : x3_1 < (a0.size : Int) := of_decide_eq_true (by first | (with_reducible assumption) | assumption)
                          have hx4 := bt_at a0 x3_1
                          replace p4 := eq_true p4
                          replace q4 := eq_true q4
                          go_wp2
                          go_ret
                          exact ⟨by first | rfl | (simp; done) | (simp [*]; done) | (simp; decide +kernel), by repeat (first | exact Drawn0.refl _ | apply Drawn0.step)⟩
                        · rw [if_neg c12] at H
                          have c12b0 : decide (57 < (bt a0 x3_1)) = false := decide_eq_false c12
                          clear c12
                          have H' := Aside0.mk H
                          clear H
                          have p4 : 0 ≤ (x3_1 : Int) := of_decide_eq_true (by first | (with_reducible assumption) | assumption)
                          have q4 : x3_1 < (a0.size : Int) := of_decide_eq_true (by first | (with_reducible assumption) | assumption)
                          have hx4 := bt_at a0 x3_1
                          replace p4 := eq_true p4
                          replace q4 := eq_true q4
                          go_wp2
                          go_roundg k1
                          case measure => have := HK1.out; omega
                          case rel => exact ⟨(wrap64 (x3_1 + 1)), (by first | rfl | (simp; done) | (simp [*]; done)), H', ⟨by have := HK1.out; omega⟩, by repeat (first | exact Drawn0.refl _ | apply Drawn0.step)⟩
              · rw [if_neg c7] at H
                have c7b0 : decide (65 ≤ (bt a0 x3_1)) = false := decide_eq_false c7
                clear c7
                by_cases c13 : ((bt a0 x3_1) = 95)
                · rw [if_pos c13] at H
                  have c13b0 : ((bt a0 x3_1) == 95) = true := beq_iff_eq.mpr c13
                  have c13b1 : ((bt a0 x3_1) != 95) = false := bne_eq_false_iff_eq.mpr c13
                  clear c13
                  have H' := Aside0.mk H
                  clear H
                  have p4 : 0 ≤ (x3_1 : Int) := of_decide_eq_true (by first | (with_reducible assumption) | assumption)
                  have q4 : x3_1 < (a0.size : Int) := of_decide_eq_true (by first | (with_reducible assumption) | assumption)
                  have hx4 := bt_at a0 x3_1
                  replace p4 := eq_true p4
                  replace q4 := eq_true q4
                  go_wp2
                  go_roundg k1
                  case measure => have := HK1.out; omega
                  case rel => exact ⟨(wrap64 (x3_1 + 1)), (by first | rfl | (simp; done) | (simp [*]; done)), H', ⟨by have := HK1.out; omega⟩, by repeat (first | exact Drawn0.refl _ | apply Drawn0.step)⟩
                · rw [if_neg c13] at H
                  have c13b0 : ((bt a0 x3_1) == 95) = false := beq_eq_false_iff_ne.mpr c13
                  have c13b1 : ((bt a0 x3_1) != 95) = true := bne_iff_ne.mpr c13
                  by_cases c14 : x3_1 = 0
                  · rw [if_pos c14] at H
                    have c14b0 : (x3_1 == 0) = true := beq_iff_eq.mpr c14
                    have c14b1 : (x3_1 != 0) = false := bne_eq_false_iff_eq.mpr c14
                    clear c14
                    obtain rfl := Option.some.inj H
                    have p4 : 0 ≤ (x3_1 : Int) := of_decide_eq_true (by first | (with_reducible assumption) | assumption)
                    have q4 : x3_1 < (a0.size : Int) := of_decide_eq_true (by first | (with_reducible assumption) | assumption)
                    have hx4 := bt_at a0 x3_1
                    replace p4 := eq_true p4
                    replace q4 := eq_true q4
                    go_wp2
                    go_ret
                    exact ⟨by first | rfl | (simp; done) | (simp [*]; done) | (simp; decide +kernel), by repeat (first | exact Drawn0.refl _ | apply Drawn0.step)⟩
                  · rw [if_neg c14] at H
                    have c14b0 : (x3_1 == 0) = false := beq_eq_false_iff_ne.mpr c14
                    have c14b1 : (x3_1 != 0) = true := bne_iff_ne.mpr c14
                    by_cases c15 : (bt a0 x3_1) < 48
                    · rw [if_pos c15] at H
                      have c15b0 : decide ((bt a0 x3_1) < 48) = true := decide_eq_true c15
                      clear c15
                      obtain rfl := Option.some.inj H
                      have p4 : 0 ≤ (x3_1 : Int) := of_decide_eq_true (by first | (with_reducible assumption) | assumption)
                      have q4 : x3_1 < (a0.size : Int) := of_decide_eq_true (by first | (with_reducible assumption) | assumption)
                      have hx4 := bt_at a0 x3_1
                      replace p4 := eq_true p4
                      replace q4 := eq_true q4
                      go_wp2
                      go_ret
                      exact ⟨by first | rfl | (simp; done) | (simp [*]; done) | (simp; decide +kernel), by repeat (first | exact Drawn0.refl _ | apply Drawn0.step)⟩
                    · rw [if_neg c15] at H
                      have c15b0 : decide ((bt a0 x3_1) < 48) = false := decide_eq_false c15
                      clear c15
                      by_cases c16 : (bt a0 x3_1) > 57
                      · rw [if_pos c16] at H
                        have c16b0 : decide (57 < (bt a0 x3_1)) = true := decide_eq_true c16
                        clear c16
                        obtain rfl := Option.some.inj H
                        have p4 : 0 ≤ (x3_1 : Int) := of_decide_eq_true (by first | (with_reducible assumption) | assumption)
                        have q4 : x3_1 < (a0.size : Int) := of_decide_eq_true (by first | (with_reducible assumption) | assumption)
                        have hx4 := bt_at a0 x3_1
                        replace p4 := eq_true p4
                        replace q4 := eq_true q4
                        go_wp2
                        go_ret
                        exact ⟨by first | rfl | (simp; done) | (simp [*]; done) | (simp; decide +kernel), by repeat (first | exact Drawn0.refl _ | apply Drawn0.step)⟩
                      · rw [if_neg c16] at H
                        have c16b0 : decide (57 < (bt a0 x3_1)) = false := decide_eq_false c16
                        clear c16
                        have H' := Aside0.mk H
                        clear H
                        have p4 : 0 ≤ (x3_1 : Int) := of_decide_eq_true (by first | (with_reducible assumption) | assumption)
                        have q4 : x3_1 < (a0.size : Int) := of_decide_eq_true (by first | (with_reducible assumption) | assumption)
                        have hx4 := bt_at a0 x3_1
                        replace p4 := eq_true p4
                        replace q4 := eq_true q4
                        go_wp2
                        go_roundg k1
                        case measure => have := HK1.out; omega
                        case rel => exact ⟨(wrap64 (x3_1 + 1)), (by first | rfl | (simp; done) | (simp [*]; done)), H', ⟨by have := HK1.out; omega⟩, by repeat (first | exact Drawn0.refl _ | apply Drawn0.step)⟩
          · rw [if_neg c5] at H
            have c5b0 : decide (97 ≤ (bt a0 x3_1)) = false := decide_eq_false c5
            clear c5
            by_cases c17 : (bt a0 x3_1) ≥ 65
            · rw [if_pos c17] at H
              have c17b0 : decide (65 ≤ (bt a0 x3_1)) = true := decide_eq_true c17
              clear c17
              by_cases c18 : (bt a0 x3_1) ≤ 90
              · rw [if_pos c18] at H
                have c18b0 : decide ((bt a0 x3_1) ≤ 90) = true := decide_eq_true c18
                clear c18
                have H' := Aside0.mk H
                clear H
                have p4 : 0 ≤ (x3_1 : Int) := of_decide_eq_true (by first | (with_reducible assumption) | assumption)
                have q4 : x3_1 < (a0.size : Int) := of_decide_eq_true (by first | (with_reducible assumption) | assumption)
                have hx4 := bt_at a0 x3_1
                replace p4 := eq_true p4
                replace q4 := eq_true q4
                go_wp2
                go_roundg k1
                case measure => have := HK1.out; omega
                case rel => exact ⟨(wrap64 (x3_1 + 1)), (by first | rfl | (simp; done) | (simp [*]; done)), H', ⟨by have := HK1.out; omega⟩, by repeat (first | exact Drawn0.refl _ | apply Drawn0.step)⟩
              · rw [if_neg c18] at H
                have c18b0 : decide ((bt a0 x3_1) ≤ 90) = false := decide_eq_false c18
                clear c18
                by_cases c19 : ((bt a0 x3_1) = 95)
                · rw [if_pos c19] at H
                  have c19b0 : ((bt a0 x3_1) == 95) = true := beq_iff_eq.mpr c19
                  have c19b1 : ((bt a0 x3_1) != 95) = false := bne_eq_false_iff_eq.mpr c19
                  clear c19
                  have H' := Aside0.mk H
                  clear H
                  have p4 : 0 ≤ (x3_1 : Int) := of_decide_eq_true (by first | (with_reducible assumption) | assumption)
                  have q4 : x3_1 < (a0.size : Int) := of_decide_eq_true (by first | (with_reducible assumption) | assumption)
                  have hx4 := bt_at a0 x3_1
                  replace p4 := eq_true p4
                  replace q4 := eq_true q4
                  go_wp2
                  go_roundg k1
                  case measure => have := HK1.out; omega
                  case rel => exact ⟨(wrap64 (x3_1 + 1)), (by first | rfl | (simp; done) | (simp [*]; done)), H', ⟨by have := HK1.out; omega⟩, by repeat (first | exact Drawn0.refl _ | apply Drawn0.step)⟩
                · rw [if_neg c19] at H
                  have c19b0 : ((bt a0 x3_1) == 95) = false := beq_eq_false_iff_ne.mpr c19
                  have c19b1 : ((bt a0 x3_1) != 95) = true := bne_iff_ne.mpr c19
                  by_cases c20 : x3_1 = 0
                  · rw [if_pos c20] at H
                    have c20b0 : (x3_1 == 0) = true := beq_iff_eq.mpr c20
                    have c20b1 : (x3_1 != 0) = false := bne_eq_false_iff_eq.mpr c20
                    clear c20
                    obtain rfl := Option.some.inj H
                    have p4 : 0 ≤ (x3_1 : Int) := of_decide_eq_true (by first | (with_reducible assumption) | assumption)
                    have q4 : x3_1 < (a0.size : Int) := of_decide_eq_true (by first | (with_reducible assumption) | assumption)
                    have hx4 := bt_at a0 x3_1
                    replace p4 := eq_true p4
                    replace q4 := eq_true q4
                    go_wp2
                    go_ret
                    exact ⟨by first | rfl | (simp; done) | (simp [*]; done) | (simp; decide +kernel), by repeat (first | exact Drawn0.refl _ | apply Drawn0.step)⟩
                  · rw [if_neg c20] at H
                    have c20b0 : (x3_1 == 0) = false := beq_eq_false_iff_ne.mpr c20
                    have c20b1 : (x3_1 != 0) = true := bne_iff_ne.mpr c20
                    by_cases c21 : (bt a0 x3_1) < 48
                    · rw [if_pos c21] at H
                      have c21b0 : decide ((bt a0 x3_1) < 48) = true := decide_eq_true c21
                      clear c21
                      obtain rfl := Option.some.inj H
                      have p4 : 0 ≤ (x3_1 : Int) := of_decide_eq_true (by first | (with_reducible assumption) | assumption)
                      have q4 : x3_1 < (a0.size : Int) := of_decide_eq_true (by first | (with_reducible assumption) | assumption)
                      have hx4 := bt_at a0 x3_1
                      replace p4 := eq_true p4
                      replace q4 := eq_true q4
                      go_wp2
                      go_ret
                      exact ⟨by first | rfl | (simp; done) | (simp [*]; done) | (simp; decide +kernel), by repeat (first | exact Drawn0.refl _ | apply Drawn0.step)⟩
                    · rw [if_neg c21] at H
                      have c21b0 : decide ((bt a0 x3_1) < 48) = false := decide_eq_false c21
                      clear c21
                      by_cases c22 : (bt a0 x3_1) > 57
                      · rw [if_pos c22] at H
                        have c22b0 : decide (57 < (bt a0 x3_1)) = true := decide_eq_true c22
                        clear c22
                        obtain rfl := Option.some.inj H
                        have p4 : 0 ≤ (x3_1 : Int) := of_decide_eq_true (by first | (with_reducible assumption) | assumption)
                        have q4 : x3_1 < (a0.size : Int) := of_decide_eq_true (by first | (with_reducible assumption) | assumption)
                        have hx4 := bt_at a0 x3_1
                        replace p4 := eq_true p4
                        replace q4 := eq_true q4
                        go_wp2
                        go_ret
                        exact ⟨by first | rfl | (simp; done) | (simp [*]; done) | (simp; decide +kernel), by repeat (first | exact Drawn0.refl _ | apply Drawn0.step)⟩
                      · rw [if_neg c22] at H
                        have c22b0 : decide (57 < (bt a0 x3_1)) = false := decide_eq_false c22
                        clear c22
                        have H' := Aside0.mk H
                        clear H
                        have p4 : 0 ≤ (x3_1 : Int) := of_decide_eq_true (by first | (with_reducible assumption) | assumption)
                        have q4 : x3_1 < (a0.size : Int) := of_decide_eq_true (by first | (with_reducible assumption) | assumption)
                        have hx4 := bt_at a0 x3_1
                        replace p4 := eq_true p4
                        replace q4 := eq_true q4
                        go_wp2
                        go_roundg k1
                        case measure => have := HK1.out; omega
                        case rel => exact ⟨(wrap64 (x3_1 + 1)), (by first | rfl | (simp; done) | (simp [*]; done)), H', ⟨by have := HK1.out; omega⟩, by repeat (first | exact Drawn0.refl _ | apply Drawn0.step)⟩
            · rw [if_neg c17] at H
              have c17b0 : decide (65 ≤ (bt a0 x3_1)) = false := decide_eq_false c17
              clear c17
              by_cases c23 : ((bt a0 x3_1) = 95)
              · rw [if_pos c23] at H
                have c23b0 : ((bt a0 x3_1) == 95) = true := beq_iff_eq.mpr c23
                have c23b1 : ((bt a0 x3_1) != 95) = false := bne_eq_false_iff_eq.mpr c23
                clear c23
                have H' := Aside0.mk H
                clear H
                have p4 : 0 ≤ (x3_1 : Int) := of_decide_eq_true (by first | (with_reducible assumption) | assumption)
                have q4 : x3_1 < (a0.size : Int) := of_decide_eq_true (by first | (with_reducible assumption) | assumption)
                have hx4 := bt_at a0 x3_1
                replace p4 := eq_true p4
                replace q4 := eq_true q4
                go_wp2
                go_roundg k1
                case measure => have := HK1.out; omega
                case rel => exact ⟨(wrap64 (x3_1 + 1)), (by first | rfl | (simp; done) | (simp [*]; done)), H', ⟨by have := HK1.out; omega⟩, by repeat (first | exact Drawn0.refl _ | apply Drawn0.step)⟩
              · rw [if_neg c23] at H
                have c23b0 : ((bt a0 x3_1) == 95) = false := beq_eq_false_iff_ne.mpr c23
                have c23b1 : ((bt a0 x3_1) != 95) = true := bne_iff_ne.mpr c23
                by_cases c24 : x3_1 = 0
                · rw [if_pos c24] at H
                  have c24b0 : (x3_1 == 0) = true := beq_iff_eq.mpr c24
                  have c24b1 : (x3_1 != 0) = false := bne_eq_false_iff_eq.mpr c24
                  clear c24
                  obtain rfl := Option.some.inj H
                  have p4 : 0 ≤ (x3_1 : Int) := of_decide_eq_true (by first | (with_reducible assumption) | assumption)
                  have q4 : x3_1 < (a0.size : Int) := of_decide_eq_true (by first | (with_reducible assumption) | assumption)
                  have hx4 := bt_at a0 x3_1
                  replace p4 := eq_true p4
                  replace q4 := eq_true q4
                  go_wp2
                  go_ret
                  exact ⟨by first | rfl | (simp; done) | (simp [*]; done) | (simp; decide +kernel), by repeat (first | exact Drawn0.refl _ | apply Drawn0.step)⟩
                · rw [if_neg c24] at H
                  have c24b0 : (x3_1 == 0) = false := beq_eq_false_iff_ne.mpr c24
                  have c24b1 : (x3_1 != 0) = true := bne_iff_ne.mpr c24
                  by_cases c25 : (bt a0 x3_1) < 48
                  · rw [if_pos c25] at H
                    have c25b0 : decide ((bt a0 x3_1) < 48) = true := decide_eq_true c25
                    clear c25
                    obtain rfl := Option.some.inj H
                    have p4 : 0 ≤ (x3_1 : Int) := of_decide_eq_true (by first | (with_reducible assumption) | assumption)
                    have q4 : x3_1 < (a0.size : Int) := of_decide_eq_true (by first | (with_reducible assumption) | assumption)
                    have hx4 := bt_at a0 x3_1
                    replace p4 := eq_true p4
                    replace q4 := eq_true q4
                    go_wp2
                    go_ret
                    exact ⟨by first | rfl | (simp; done) | (simp [*]; done) | (simp; decide +kernel), by repeat (first | exact Drawn0.refl _ | apply Drawn0.step)⟩
                  · rw [if_neg c25] at H
                    have c25b0 : decide ((bt a0 x3_1) < 48) = false := decide_eq_false c25
                    clear c25
                    by_cases c26 : (bt a0 x3_1) > 57
                    · rw [if_pos c26] at H
                      have c26b0 : decide (57 < (bt a0 x3_1)) = true := decide_eq_true c26
                      clear c26
                      obtain rfl := Option.some.inj H
                      have p4 : 0 ≤ (x3_1 : Int) := of_decide_eq_true (by first | (with_reducible assumption) | assumption)
                      have q4 : x3_1 < (a0.size : Int) := of_decide_eq_true (by first | (with_reducible assumption) | assumption)
                      have hx4 := bt_at a0 x3_1
                      replace p4 := eq_true p4
                      replace q4 := eq_true q4
                      go_wp2
                      go_ret
                      exact ⟨by first | rfl | (simp; done) | (simp [*]; done) | (simp; decide +kernel), by repeat (first | exact Drawn0.refl _ | apply Drawn0.step)⟩
                    · rw [if_neg c26] at H
                      have c26b0 : decide (57 < (bt a0 x3_1)) = false := decide_eq_false c26
                      clear c26
                      have H' := Aside0.mk H
                      clear H
                      have p4 : 0 ≤ (x3_1 : Int) := of_decide_eq_true (by first | (with_reducible assumption) | assumption)
                      have q4 : x3_1 < (a0.size : Int) := of_decide_eq_true (by first | (with_reducible assumption) | assumption)
                      have hx4 := bt_at a0 x3_1
                      replace p4 := eq_true p4
                      replace q4 := eq_true q4
                      go_wp2
                      go_roundg k1
                      case measure => have := HK1.out; omega
                      case rel => exact ⟨(wrap64 (x3_1 + 1)), (by first | rfl | (simp; done) | (simp [*]; done)), H', ⟨by have := HK1.out; omega⟩, by repeat (first | exact Drawn0.refl _ | apply Drawn0.step)⟩
        · rw [if_neg c3] at H
          exact absurd H (by simp)
      · rw [if_neg c2] at H
        have c2b0 : decide (x3_1 < (a0.size : Int)) = false := decide_eq_false c2
        clear c2
        by_cases c27 : (a0.size : Int) ≥ 1
        · rw [if_pos c27] at H
          have c27b0 : decide (1 ≤ (a0.size : Int)) = true := decide_eq_true c27
          have c27b1 : decide (1 ≤ a0.size) = true := decide_eq_true (by omega)
          clear c27
          obtain rfl := Option.some.inj H
          go_wp2
          go_ret
          exact ⟨by first | rfl | (simp; done) | (simp [*]; done) | (simp; decide +kernel), by repeat (first | exact Drawn0.refl _ | apply Drawn0.step)⟩
        · rw [if_neg c27] at H
          have c27b0 : decide (1 ≤ (a0.size : Int)) = false := decide_eq_false c27
          have c27b1 : decide (1 ≤ a0.size) = false := decide_eq_false (by omega)
          clear c27
          obtain rfl := Option.some.inj H
          go_wp2
          go_ret
          exact ⟨by first | rfl | (simp; done) | (simp [*]; done) | (simp; decide +kernel), by repeat (first | exact Drawn0.refl _ | apply Drawn0.step)⟩
end Go.Proofs.YtbgmnmjokdfmlaaDoor.PA
namespace Go.Proofs.YtbgmnmjokdfmlaaDoor.PA
open Go.RowKit Go.Proofs.YtbgmnmjokdfmlaaDoor.G Go.Proofs.YtbgmnmjokdfmlaaDoorW.PrintWords Go.Proofs.YtbgmnmjokdfmlaaDoorW.PrintLast Go.Proofs.YtbgmnmjokdfmlaaDoorW.PrintMore
set_option linter.unusedVariables false
set_option linter.unusedSimpArgs false
def letR (c : Int) : Bool := (decide (97 ≤ c) && decide (c ≤ 122)) || (decide (65 ≤ c) && decide (c ≤ 90)) || decide (c = 95)
theorem letB_letR_nat : ∀ n : Fin 256, letB ((n.1 : Nat) : Int) = letR ((n.1 : Nat) : Int) := by decide +kernel
theorem letB_letR (s : ByteArray) (i : Int) : letB (bt s i) = letR (bt s i) := by
  obtain ⟨h0, h1⟩ := bt_range s i
  obtain ⟨n, hn⟩ := Int.eq_ofNat_of_zero_le h0
  rw [hn]
  exact letB_letR_nat ⟨n, by omega⟩
def okN (s : ByteArray) (j : Nat) : Bool := letR (bt s (j : Int)) || (decide (j ≠ 0) && digB (bt s (j : Int)))
theorem rname_step (s : ByteArray) (i k : Nat) (hi : i < s.size) (hs : s.size ≤ 140737488355328) : dryrotref07_Name.l0 (k + 1) s (i : Int) = if okN s i = true then dryrotref07_Name.l0 k s ((i + 1 : Nat) : Int) else some false := by
  have e : wrap64 ((i : Int) + 1) = ((i + 1 : Nat) : Int) := by rw [w64 (by omega) (by omega)]; omega
  rw [dryrotref07_Name.l0, e, if_pos (by omega), if_pos (by omega)]
  have hr := bt_range s (i : Int)
  unfold okN letR digB
  generalize bt s (i : Int) = c at hr
  generalize dryrotref07_Name.l0 k s ((i + 1 : Nat) : Int) = z
  by_cases hi0 : i = 0
  · subst hi0
    repeat' split
    all_goals first | rfl | (exfalso; simp at *; done) | (exfalso; simp at *; omega)
  · repeat' split
    all_goals first | rfl | (exfalso; simp [hi0] at *; done) | (exfalso; simp [hi0] at *; omega)
theorem rname_from (s : ByteArray) (hs : s.size ≤ 140737488355328) : ∀ d i k, i + d = s.size → d < k → dryrotref07_Name.l0 k s (i : Int) = some ((List.range d).all (fun j => okN s (i + j)) && (decide (1 ≤ s.size) && decide (s.size ≤ 24)))
  | 0, i, k + 1, h, hk => by
    rw [dryrotref07_Name.l0, if_neg (by omega)]
    by_cases h1 : (s.size : Int) ≥ 1
    · rw [if_pos h1, decide_eq_true (show 1 ≤ s.size by omega)]
      simp
      omega
    · rw [if_neg h1, decide_eq_false (show ¬ 1 ≤ s.size by omega)]
      simp
  | d + 1, i, k + 1, h, hk => by
    rw [rname_step s i k (by omega) hs, List.range_succ_eq_map, List.all_cons, List.all_map]
    cases ho : okN s i with
    | false => rw [if_neg (by simp)]; simp [ho]
    | true =>
      rw [if_pos rfl, rname_from s hs d (i + 1) k (by omega) (by omega)]
      simp only [Nat.add_zero, ho, Bool.true_and]
      congr 3
      funext j
      simp only [Function.comp, Nat.succ_eq_add_one, show i + 1 + j = i + (j + 1) by omega]
theorem any_bytes (s : ByteArray) (p : Int → Bool) : (bytesOf s).any p = (List.range s.size).any (fun j => p (bt s (j : Int))) := by
  rw [Bool.eq_iff_iff, List.any_eq_true, List.any_eq_true]
  constructor
  · rintro ⟨x, hx, hp⟩
    obtain ⟨j, hj, rfl⟩ := List.getElem_of_mem hx
    have hj' : j < s.size := by rw [← bytesOf_length]; exact hj
    refine ⟨j, List.mem_range.2 hj', ?_⟩
    rw [← rd_bytesOf]
    simpa [rd, List.getD_eq_getElem?_getD, List.getElem?_eq_getElem hj] using hp
  · rintro ⟨j, hj, hp⟩
    have hj' : j < (bytesOf s).length := by rw [bytesOf_length]; exact List.mem_range.1 hj
    refine ⟨_, List.getElem_mem hj', ?_⟩
    rw [← rd_bytesOf] at hp
    simpa [rd, List.getD_eq_getElem?_getD, List.getElem?_eq_getElem hj'] using hp
theorem rname_eq (s : ByteArray) (hs : s.size ≤ 140737488355328) (k : Nat) (hk : s.size < k) : dryrotref07_Name.f k s = some (nameB s) := by
  unfold dryrotref07_Name.f
  have := rname_from s hs s.size 0 k (by omega) hk
  rw [show ((0 : Nat) : Int) = 0 from rfl] at this
  rw [this]
  congr 1
  by_cases hz : 1 ≤ s.size ∧ s.size ≤ 24
  · rw [nameB, decide_eq_true hz.1, decide_eq_true hz.2]
    simp only [Bool.and_true, Bool.true_and, Nat.zero_add]
    rw [any_bytes, letB_letR, Bool.eq_iff_iff]
    simp only [List.all_eq_true, List.mem_range, Bool.and_eq_true, Bool.not_eq_true', List.any_eq_false, badB, Bool.not_eq_false']
    have hb : ∀ j : Nat, letB (bt s (j : Int)) = letR (bt s (j : Int)) := fun j => letB_letR s j
    constructor
    · intro h
      refine ⟨?_, fun j hj => ?_⟩
      · have := h 0 (by omega)
        simpa [okN] using this
      · have := h j hj
        rw [hb j]
        simp only [okN, Bool.or_eq_true, Bool.and_eq_true] at this
        rcases this with h1 | h1
        · simp [h1]
        · simp [h1.2]
    · rintro ⟨h0, h⟩ j hj
      by_cases hj0 : j = 0
      · subst hj0
        simp [okN]
        simpa using h0
      · have := h j hj
        rw [hb j] at this
        simp only [okN, Bool.or_eq_true, Bool.and_eq_true, decide_eq_true_eq]
        cases h1 : letR (bt s (j : Int)) with
        | true => simp
        | false =>
          right
          refine ⟨hj0, ?_⟩
          simpa [h1] using this
  · rw [nameB]
    have : (decide (1 ≤ s.size) && decide (s.size ≤ 24)) = false := by
      rw [Bool.and_eq_false_iff]
      by_cases h1 : 1 ≤ s.size
      · exact .inr (decide_eq_false (fun h2 => hz ⟨h1, h2⟩))
      · exact .inl (decide_eq_false h1)
    rw [this]
    simp
theorem rname.calls (s : ByteArray) (b : Bool) (h : nameB s = b) (hs : s.size ≤ 140737488355328) (w : World) : Calls Tryd.prog 57 #[.string s] w fun e w' => e = .returned (.bool b) ∧ Below w.heap.size w w' :=
  (dryrotref07_Name.calls (s.size + 1) s b w (by rw [rname_eq s hs _ (by omega), h])).mono fun e w' ⟨he, hd⟩ => ⟨he, hd.below⟩
end Go.Proofs.YtbgmnmjokdfmlaaDoor.PA
namespace Go.Proofs.YtbgmnmjokdfmlaaDoor.PA
open Go.RowKit Go.Proofs.YtbgmnmjokdfmlaaDoorW.PrintWords Go.Proofs.YtbgmnmjokdfmlaaDoorW.PrintLast Go.Proofs.YtbgmnmjokdfmlaaDoorW.PrintMore
attribute [local go_sem] max2_int min2_int max_two min_two max_three min_three max_four min_four   -- for this text's walks alone
set_option linter.unusedVariables false
set_option linter.unusedSimpArgs false
def dryrotref07_Value.f (a0 : ByteArray) : Option (Bool) := if (a0.size : Int) ≥ 1 then (if (a0.size : Int) ≤ 40 then ((dryrotref07_Plain.f a0).bind fun t192 => (some t192)) else (some false)) else (some false)
set_option maxHeartbeats 8000000 in
set_option maxRecDepth 100000 in
theorem dryrotref07_Value.calls (a0 : ByteArray) (r : Bool) (w : World) (h : dryrotref07_Value.f a0 = some r) :
    Calls Tryd.prog 58 #[.string a0] w fun e w' => e = .returned (.bool r) ∧ Below w.heap.size w w' := by
  have HB := Aside0.mk (Below.refl w.heap.size w)
  have H : (if (a0.size : Int) ≥ 1 then (if (a0.size : Int) ≤ 40 then ((dryrotref07_Plain.f a0).bind fun t192 => (some t192)) else (some false)) else (some false)) = some r := h
  clear h
  by_cases c2 : (a0.size : Int) ≥ 1
  · rw [if_pos c2] at H
    have c2b0 : decide (1 ≤ (a0.size : Int)) = true := decide_eq_true c2
    have c2b1 : decide (1 ≤ a0.size) = true := decide_eq_true (by omega)
    clear c2
    by_cases c3 : (a0.size : Int) ≤ 40
    · rw [if_pos c3] at H
      have c3b0 : decide ((a0.size : Int) ≤ 40) = true := decide_eq_true c3
      have c3b1 : decide (a0.size ≤ 40) = true := decide_eq_true (by omega)
      clear c3
      replace H := Option.bind_eq_some_iff.mp H
      obtain ⟨t192, A40, H⟩ := H
      replace H : (some t192) = some r := H
      have A4 := Aside0.mk A40
      clear A40
      obtain rfl := Option.some.inj H
      go_enter Tryd.func58, Tryd.ntmps58
      go_wp2_with (first | (go_at_call 88; (with_reducible refine (dryrotref07_Plain.calls a0 t192 _ A4.out).mono ?_); rintro e w5 ⟨rfl, hb⟩; have n0_ := Aside0.mk (below_step (by repeat (first | (with_reducible first | exact HB.out | apply below_alloc | apply pw_below_drewN | apply below_drew1) | exact HB.out)) hb); clear HB; have HB := n0_; clear n0_; (try clear hb); (try clear hb2); (try clear hk); (try clear hi)))
      go_ret
      exact ⟨by first | rfl | (simp [errW_none, errW_some] <;> rfl) | (simp [*, errW_none, errW_some] <;> rfl), by repeat (first | (with_reducible first | exact HB.out | apply below_alloc | apply pw_below_drewN | apply below_drew1) | exact HB.out)⟩
    · rw [if_neg c3] at H
      have c3b0 : decide ((a0.size : Int) ≤ 40) = false := decide_eq_false c3
      have c3b1 : decide (a0.size ≤ 40) = false := decide_eq_false (by omega)
      clear c3
      obtain rfl := Option.some.inj H
      go_enter Tryd.func58, Tryd.ntmps58
      go_wp2
      go_ret
      exact ⟨by first | rfl | (simp [errW_none, errW_some] <;> rfl) | (simp [*, errW_none, errW_some] <;> rfl), by repeat (first | (with_reducible first | exact HB.out | apply below_alloc | apply pw_below_drewN | apply below_drew1) | exact HB.out)⟩
  · rw [if_neg c2] at H
    have c2b0 : decide (1 ≤ (a0.size : Int)) = false := decide_eq_false c2
    have c2b1 : decide (1 ≤ a0.size) = false := decide_eq_false (by omega)
    clear c2
    obtain rfl := Option.some.inj H
    go_enter Tryd.func58, Tryd.ntmps58
    go_wp2
    go_ret
    exact ⟨by first | rfl | (simp [errW_none, errW_some] <;> rfl) | (simp [*, errW_none, errW_some] <;> rfl), by repeat (first | (with_reducible first | exact HB.out | apply below_alloc | apply pw_below_drewN | apply below_drew1) | exact HB.out)⟩
end Go.Proofs.YtbgmnmjokdfmlaaDoor.PA
namespace Go.Proofs.YtbgmnmjokdfmlaaDoor.G
open Go.RowKit Go.Proofs.YtbgmnmjokdfmlaaDoorW.PrintWords Go.Proofs.YtbgmnmjokdfmlaaDoorW.PrintLast Go.Proofs.YtbgmnmjokdfmlaaDoorW.PrintMore
structure BW (w : World) where
  W : World
  hb : Below w.heap.size w W
instance (w : World) : Inhabited (BW w) := ⟨⟨w, Below.refl _ _⟩⟩
theorem BW.cell {w : World} {a : Addr} {v : Value} (h : w.cell? a = some v) (p : BW w) : p.W.cell? a = some v := pw_cell_below p.hb h
theorem wp_region_bw {P : Program} {id : Nat} {Q : Exit → Act → World → Prop} {a : Act} {w : World} {l : List Oper} (hm : P.follows .mixedOrders = true) (hB : Region.lexB .any l.toArray = true)
    (h : wpQuiet P l.toArray (fun w' => ∃ p : BW w, w' = p.W) (fun a' => ∀ w', (∃ p : BW w, w' = p.W) → Q .normal a' w') l a) : (Code.region id l.toArray true).wp P Q a w :=
  wp_region_quiet (C := fun w' => ∃ p : BW w, w' = p.W) hm hB ⟨⟨w.drew, below_drew (Below.refl _ _)⟩, rfl⟩ (by simpa using h)
theorem bw_of {P : Program} {f : FuncId} {args : Array Value} {w : World} {p : BW w} {v : Value} (h : Calls P f args p.W fun e w' => e = .returned v ∧ Below p.W.heap.size p.W w') :
    Calls P f args p.W fun e w'' => e = .returned v ∧ ∃ q : BW w, w'' = q.W :=
  h.mono fun _ w'' ⟨he, hb⟩ => ⟨he, ⟨w'', below_step p.hb hb⟩, rfl⟩
theorem wp_region_st {id : Nat} {P : Program} {Q : Exit → Act → World → Prop} {a : Act} {w : World} {l : List Oper} (n : Nat) (hm : P.follows .mixedOrders = true) (hB : Region.lexTailB .any l.toArray n = true)
    (h : ∀ W, W = w.drew → wpStill P l.toArray W (fun a' => wpList P l.toArray Q (l.drop n) a' W) (l.take n) a) : (Code.region id l.toArray true).wp P Q a w :=
  wp_region_still_tail n hm hB (h _ rfl)
end Go.Proofs.YtbgmnmjokdfmlaaDoor.G
namespace Go.Proofs.YtbgmnmjokdfmlaaDoor.PA
open Go.RowKit Go.Proofs.YtbgmnmjokdfmlaaDoor.G Go.Proofs.YtbgmnmjokdfmlaaDoorW.PrintWords Go.Proofs.YtbgmnmjokdfmlaaDoorW.PrintLast Go.Proofs.YtbgmnmjokdfmlaaDoorW.PrintMore
set_option linter.unusedVariables false
set_option linter.unusedSimpArgs false
theorem rvalue_f (s : ByteArray) : dryrotref07_Value.f s = some (valueB s) := by
  unfold dryrotref07_Value.f valueB dryrotref07_Plain.f
  by_cases h1 : 1 ≤ s.size
  · rw [if_pos (by omega), decide_eq_true h1]
    by_cases h2 : s.size ≤ 40
    · rw [if_pos (by omega), decide_eq_true h2]; rfl
    · rw [if_neg (by omega), decide_eq_false h2]; rfl
  · rw [if_neg (by omega), decide_eq_false h1]; rfl
theorem rvalue.calls (s : ByteArray) (b : Bool) (h : valueB s = b) (w : World) : Calls Tryd.prog 58 #[.string s] w fun e w' => e = .returned (.bool b) ∧ Below w.heap.size w w' :=
  dryrotref07_Value.calls s b w (by rw [rvalue_f, h])
def okLs (l : List S65) : Prop := ∀ x ∈ l, x.f0.size ≤ 140737488355328 ∧ x.f1.size ≤ 140737488355328
theorem rd_memL (l : List S65) (k : Nat) (h : k < l.length) : rd_T65 l (k : Int) ∈ l := by
  have e : rd_T65 l (k : Int) = l[k] := by simp [rd_T65, List.getD_eq_getElem?_getD, List.getElem?_eq_getElem h]
  rw [e]
  exact List.getElem_mem h
theorem cell_alloc_oldR {w : World} {a : Addr} {v : Value} (o : Obj) (h : w.cell? a = some v) : (w.alloc o).cell? a = some v := pw_cell_below (below_alloc (Below.refl _ _) o) h
set_option maxHeartbeats 4000000 in
set_option maxRecDepth 100000 in
theorem rcanL.calls (A : Option Addr) (c n : Nat) (l : List S65) (w : World) (hn : l.length = n) (hr : Kd.C k65 w A n l) (hc : n ≤ c) (hok : okLs l) :
    Calls Tryd.prog 28 #[.slice A n c] w fun e w' => e = .returned (.bool (canL l)) ∧ Below w.heap.size w w' := by
  subst hn
  by_cases hlen : 1 ≤ l.length ∧ l.length ≤ 8
  · have h0 : decide ((l.length : Int) < 1) = false := decide_eq_false (by omega)
    have h8 : decide ((8 : Int) < (l.length : Int)) = false := decide_eq_false (by omega)
    have HR := Aside0.mk hr
    have HL := Aside0.mk hlen
    have HK := Aside0.mk hok
    have hl8 := hlen.2
    clear hr hc hlen hok
    go_enter Tryd.func28, Tryd.ntmps28
    go_wp2
    go_loopw [15] (fun i wr => ∃ (k : Nat), k ≤ l.length ∧ i = .int .i64 k ∧ Aside0 (∀ j, j < k → okAt l j = true) ∧ Aside0 (Below w.heap.size w wr)) (fun i _ => l.length - (intOf i).toNat)
    case atStart => exact ⟨0, Nat.zero_le _, rfl, ⟨fun j hj => by omega⟩, ⟨Below.refl _ _⟩⟩
    case round =>
      obtain ⟨k, hk, rfl, HO, HB⟩ := hrel
      by_cases hlt : k < l.length
      · have hC := Kd.C_below HR.out HB.out
        obtain ⟨ad, rfl, c0, c1⟩ := at_T65 hC (k : Int) (by omega) (by omega)
        rw [Int.toNat_natCast] at c0 c1
        have HBAD := Aside0.mk (fun h => canL_bad (l := l) (k := k) hlt h)
        have HS := Aside0.mk (fun h => upto_step (l := l) (k := k) HO.out h)
        have HSZ := Aside0.mk (HK.out _ (rd_memL l k hlt)).1
        cases k with
        | zero =>
          obtain ⟨x, ex⟩ : ∃ x, rd_T65 l ((0 : Nat) : Int) = x := ⟨_, rfl⟩
          have EX := Aside0.mk ex
          rw [ex] at c0 c1 HSZ
          clear hC ex
          have c0z : wr.cell? ad = some (.string x.f0) := by simpa [Addr.add] using c0
          have c1z : wr.cell? ⟨ad.block, ad.off + 1, none⟩ = some (.string x.f1) := by simpa [Addr.add] using c1
          clear c0 c1
          have HBA := Aside0.mk (below_alloc HB.out (.cells #[.string x.f0, .string x.f1] 65 (0, 0)))
          have BK := blk_new wr (.cells #[.string x.f0, .string x.f1] 65 (0, 0))
          have aA := BW.cell ((blk_cell BK 0).trans rfl)
          have bA := BW.cell ((blk_cell BK 1).trans rfl)
          clear BK
          cases h1 : nameB x.f0 with
          | false =>
            have HF : Aside0 (canL l = false) := ⟨HBAD.out (okAt_name (EX.out ▸ h1))⟩
            have C1 := Aside0.mk (rname.calls x.f0 false h1 HSZ.out)
            clear h1
            go_wp2_with fail
            refine wp_region_bw (by kernel_rfl) (by kernel_rfl) ?_
            repeat (any_goals (first | go_big_quiet_step (first | (go_at_call 57; refine bw_of (C1.out _))) | quiet_step (first | (go_at_call 57; refine bw_of (C1.out _)))))
            all_goals (refine wpQuiet_nil ?_; intro _ hw'; obtain ⟨⟨w2, hb⟩, hw''⟩ := hw'; subst hw''; have HB2 := Aside0.mk (below_step HBA.out hb); clear hb)
            go_wp2
            go_ret
            exact ⟨by rw [HF.out]; rfl, HB2.out⟩
          | true =>
            have C1 := Aside0.mk (rname.calls x.f0 true h1 HSZ.out)
            cases h2 : valueB x.f1 with
            | false =>
              have HF : Aside0 (canL l = false) := ⟨HBAD.out (okAt_value (EX.out ▸ h2))⟩
              have C2 := Aside0.mk (rvalue.calls x.f1 false h2)
              clear h1 h2
              go_wp2_with fail
              refine wp_region_bw (by kernel_rfl) (by kernel_rfl) ?_
              repeat (any_goals (first | go_big_quiet_step (first | (go_at_call 57; refine bw_of (C1.out _)) | (go_at_call 58; refine bw_of (C2.out _))) | quiet_step (first | (go_at_call 57; refine bw_of (C1.out _)) | (go_at_call 58; refine bw_of (C2.out _)))))
              all_goals (refine wpQuiet_nil ?_; intro _ hw'; obtain ⟨⟨w2, hb⟩, hw''⟩ := hw'; subst hw''; have HB2 := Aside0.mk (below_step HBA.out hb); clear hb)
              go_wp2
              go_ret
              exact ⟨by rw [HF.out]; rfl, HB2.out⟩
            | true =>
              have C2 := Aside0.mk (rvalue.calls x.f1 true h2)
              have HG := Aside0.mk (HS.out (okAt_zero (EX.out ▸ h1) (EX.out ▸ h2)))
              clear h1 h2
              go_wp2_with fail
              refine wp_region_bw (by kernel_rfl) (by kernel_rfl) ?_
              repeat (any_goals (first | go_big_quiet_step (first | (go_at_call 57; refine bw_of (C1.out _)) | (go_at_call 58; refine bw_of (C2.out _))) | quiet_step (first | (go_at_call 57; refine bw_of (C1.out _)) | (go_at_call 58; refine bw_of (C2.out _)))))
              all_goals (refine wpQuiet_nil ?_; intro _ hw'; obtain ⟨⟨w2, hb⟩, hw''⟩ := hw'; subst hw''; have HB2 := Aside0.mk (below_step HBA.out hb); clear hb)
              go_wp2
              go_roundw
              case rel => exact ⟨0 + 1, by omega, by go_num, HG, HB2⟩
              case measure => simp [intOf] <;> omega
        | succ k =>
          obtain ⟨ad_, ea, q0, q1⟩ := at_T65 hC ((k : Nat) : Int) (by omega) (by omega)
          obtain rfl := Option.some.inj ea
          rw [Int.toNat_natCast] at q0 q1
          obtain ⟨x, ex⟩ : ∃ x, rd_T65 l ((k + 1 : Nat) : Int) = x := ⟨_, rfl⟩
          obtain ⟨y, ey⟩ : ∃ y, rd_T65 l ((k : Nat) : Int) = y := ⟨_, rfl⟩
          have EY := Aside0.mk ey
          rw [ey] at q0 q1
          have EX := Aside0.mk ex
          rw [ex] at c0 c1 HSZ
          clear hC ex ey q1 ea
          have HBA := Aside0.mk (below_alloc HB.out (.cells #[.string x.f0, .string x.f1] 65 (0, 0)))
          have BK := blk_new wr (.cells #[.string x.f0, .string x.f1] 65 (0, 0))
          have aA := BW.cell ((blk_cell BK 0).trans rfl)
          have bA := BW.cell ((blk_cell BK 1).trans rfl)
          clear BK
          have pA := BW.cell (cell_alloc_oldR (.cells #[.string x.f0, .string x.f1] 65 (0, 0)) q0)
          rw [show ((k + 1 : Nat) : Int) = (k : Int) + 1 from by omega] at *
          have g0 : decide ((0 : Int) < (k : Int) + 1) = true := decide_eq_true (by omega)
          have hwk : IntKind.i64.wrap ((k : Int) + 1 - 1) = (k : Int) := by rw [IntKind.wrap_i64]; omega
          have g1 : (0 : Int) ≤ (k : Int) := by omega
          have g2 : (k : Int) < (l.length : Int) := by omega
          cases h1 : nameB x.f0 with
          | false =>
            have HF : Aside0 (canL l = false) := ⟨HBAD.out (okAt_name (EX.out ▸ h1))⟩
            have C1 := Aside0.mk (rname.calls x.f0 false h1 HSZ.out)
            clear h1
            go_wp2_with fail
            refine wp_region_bw (by kernel_rfl) (by kernel_rfl) ?_
            repeat (any_goals (first | go_big_quiet_step (first | (go_at_call 57; refine bw_of (C1.out _))) | quiet_step (first | (go_at_call 57; refine bw_of (C1.out _)))))
            all_goals (refine wpQuiet_nil ?_; intro _ hw'; obtain ⟨⟨w2, hb⟩, hw''⟩ := hw'; subst hw''; have HB2 := Aside0.mk (below_step HBA.out hb); clear hb)
            go_wp2
            go_ret
            exact ⟨by rw [HF.out]; rfl, HB2.out⟩
          | true =>
            have C1 := Aside0.mk (rname.calls x.f0 true h1 HSZ.out)
            cases h2 : valueB x.f1 with
            | false =>
              have HF : Aside0 (canL l = false) := ⟨HBAD.out (okAt_value (EX.out ▸ h2))⟩
              have C2 := Aside0.mk (rvalue.calls x.f1 false h2)
              clear h1 h2
              go_wp2_with fail
              refine wp_region_bw (by kernel_rfl) (by kernel_rfl) ?_
              repeat (any_goals (first | go_big_quiet_step (first | (go_at_call 57; refine bw_of (C1.out _)) | (go_at_call 58; refine bw_of (C2.out _))) | quiet_step (first | (go_at_call 57; refine bw_of (C1.out _)) | (go_at_call 58; refine bw_of (C2.out _)))))
              all_goals (refine wpQuiet_nil ?_; intro _ hw'; obtain ⟨⟨w2, hb⟩, hw''⟩ := hw'; subst hw''; have HB2 := Aside0.mk (below_step HBA.out hb); clear hb)
              go_wp2
              go_ret
              exact ⟨by rw [HF.out]; rfl, HB2.out⟩
            | true =>
              have C2 := Aside0.mk (rvalue.calls x.f1 true h2)
              have HQ := okAt_geq (l := l) (k := k) (EX.out ▸ h1) (EX.out ▸ h2)
              rw [show ((k + 1 : Nat) : Int) = (k : Int) + 1 from by omega, EX.out, EY.out] at HQ
              clear h1 h2
              cases d1 : Op.bytesLess y.f0.toList x.f0.toList with
              | false =>
                have HF : Aside0 (canL l = false) := ⟨HBAD.out (by rw [HQ, d1])⟩
                clear HQ
                go_wp2_with fail
                refine wp_region_bw (by kernel_rfl) (by kernel_rfl) ?_
                repeat (any_goals (first | go_big_quiet_step (first | (go_at_call 57; refine bw_of (C1.out _)) | (go_at_call 58; refine bw_of (C2.out _))) | quiet_step (first | (go_at_call 57; refine bw_of (C1.out _)) | (go_at_call 58; refine bw_of (C2.out _)))))
                all_goals (refine wpQuiet_nil ?_; intro _ hw'; obtain ⟨⟨w2, hb⟩, hw''⟩ := hw'; subst hw''; have HB2 := Aside0.mk (below_step HBA.out hb); clear hb)
                go_wp2
                go_ret
                exact ⟨by rw [HF.out]; rfl, HB2.out⟩
              | true =>
                have HG := Aside0.mk (HS.out (by rw [HQ, d1]))
                clear HQ
                go_wp2_with fail
                refine wp_region_bw (by kernel_rfl) (by kernel_rfl) ?_
                repeat (any_goals (first | go_big_quiet_step (first | (go_at_call 57; refine bw_of (C1.out _)) | (go_at_call 58; refine bw_of (C2.out _))) | quiet_step (first | (go_at_call 57; refine bw_of (C1.out _)) | (go_at_call 58; refine bw_of (C2.out _)))))
                all_goals (refine wpQuiet_nil ?_; intro _ hw'; obtain ⟨⟨w2, hb⟩, hw''⟩ := hw'; subst hw''; have HB2 := Aside0.mk (below_step HBA.out hb); clear hb)
                go_wp2
                go_roundw
                case rel => exact ⟨k + 1 + 1, by omega, by go_num, HG, HB2⟩
                case measure => simp [intOf] <;> omega
      · obtain rfl : k = l.length := by omega
        have HF : Aside0 (canL l = true) := ⟨canL_ok HL.out.1 HL.out.2 HO.out⟩
        go_wp2
        go_ret
        exact ⟨by rw [HF.out]; rfl, HB.out⟩
  · have HF : Aside0 (canL l = false) := ⟨canL_len hlen⟩
    by_cases h0 : (l.length : Int) < 1
    · have h1 : decide ((l.length : Int) < 1) = true := decide_eq_true h0
      clear h0 hlen
      go_enter Tryd.func28, Tryd.ntmps28
      go_wp2
      go_ret
      exact ⟨by rw [HF.out]; rfl, Below.refl _ _⟩
    · have h1 : decide ((l.length : Int) < 1) = false := decide_eq_false h0
      have h2 : decide ((8 : Int) < (l.length : Int)) = true := decide_eq_true (by omega)
      clear h0 hlen
      go_enter Tryd.func28, Tryd.ntmps28
      go_wp2
      go_ret
      exact ⟨by rw [HF.out]; rfl, Below.refl _ _⟩
end Go.Proofs.YtbgmnmjokdfmlaaDoor.PA
namespace Go.Proofs.YtbgmnmjokdfmlaaDoor.PA
open Go.RowKit Go.Proofs.YtbgmnmjokdfmlaaDoor.G Go.Proofs.YtbgmnmjokdfmlaaDoorW.PrintWords Go.Proofs.YtbgmnmjokdfmlaaDoorW.PrintLast Go.Proofs.YtbgmnmjokdfmlaaDoorW.PrintMore
set_option linter.unusedVariables false
set_option linter.unusedSimpArgs false
def cmpOr (a b : Int) : Int := if a ≠ 0 then a else b
def cmpX (x y : S65) : Int := cmpOr (txt x.f0 y.f0) (txt x.f1 y.f1)
set_option maxHeartbeats 1000000 in
theorem cmpOr.calls (a b : Int) (w : World) (g : Nat) (h0 : w.cell? ⟨g, 0, none⟩ = some (.int .i64 a)) (h1 : w.cell? ⟨g, 1, none⟩ = some (.int .i64 b)) : Calls Tryd.prog 74 #[.slice (some ⟨g, 0, none⟩) 2 2] w fun e w' => e = .returned (.int .i64 (cmpOr a b)) ∧ w' = w := by
  cases ha : (a != 0) with
  | true =>
    have HV : Aside0 (cmpOr a b = a) := ⟨by rw [cmpOr, if_pos (bne_iff_ne.1 ha)]⟩
    go_enter Tryd.func74, Tryd.ntmps74
    go_wp2
    refine wp_loop_rounds 1 ?_
    rw [rounds_succ]
    go_wp2
    go_ret
    exact ⟨by rw [HV.out]; rfl, rfl⟩
  | false =>
    have HV : Aside0 (cmpOr a b = b) := ⟨by rw [cmpOr, if_neg (by simpa using ha)]⟩
    cases hb : (b != 0) with
    | true =>
      go_enter Tryd.func74, Tryd.ntmps74
      go_wp2
      refine wp_loop_rounds 2 ?_
      rw [rounds_succ]
      go_wp2
      rw [rounds_succ]
      go_wp2
      go_ret
      exact ⟨by rw [HV.out]; rfl, rfl⟩
    | false =>
      have hz : b = 0 := by simpa using hb
      have HV2 : Aside0 (cmpOr a b = 0) := ⟨by rw [HV.out, hz]⟩
      clear hz
      go_enter Tryd.func74, Tryd.ntmps74
      go_wp2
      refine wp_loop_rounds 3 ?_
      rw [rounds_succ]
      go_wp2
      rw [rounds_succ]
      go_wp2
      rw [rounds_succ]
      go_wp2
      go_ret
      exact ⟨by rw [HV2.out]; rfl, rfl⟩
set_option maxHeartbeats 4000000 in
set_option maxRecDepth 100000 in
theorem cmpX.calls (x y : S65) (w : World) : Calls Tryd.prog 73 #[.agg #[.string x.f0, .string x.f1], .agg #[.string y.f0, .string y.f1]] w fun e w' => e = .returned (.int .i64 (cmpX x y)) ∧ Below w.heap.size w w' := by
  have bx := blk_alloc (blk_new w (.cells #[.string x.f0, .string x.f1] 65 (0, 0))) (.cells #[.string y.f0, .string y.f1] 65 (0, 0))
  have by_ := blk_new (w.alloc (.cells #[.string x.f0, .string x.f1] 65 (0, 0))) (.cells #[.string y.f0, .string y.f1] 65 (0, 0))
  rw [show (w.alloc (.cells #[.string x.f0, .string x.f1] 65 (0, 0))).heap.size = w.heap.size + 1 by simp] at by_
  have HB := Aside0.mk (below_drew1 (below_alloc (below_alloc (Below.refl w.heap.size w) (.cells #[.string x.f0, .string x.f1] 65 (0, 0))) (.cells #[.string y.f0, .string y.f1] 65 (0, 0))))
  have a0 : ∀ W, W = ((w.alloc (.cells #[.string x.f0, .string x.f1] 65 (0, 0))).alloc (.cells #[.string y.f0, .string y.f1] 65 (0, 0))).drew → W.cell? ⟨w.heap.size, 0, none⟩ = some (.string x.f0) ∧ W.cell? ⟨w.heap.size, 1, none⟩ = some (.string x.f1) ∧ W.cell? ⟨w.heap.size + 1, 0, none⟩ = some (.string y.f0) ∧ W.cell? ⟨w.heap.size + 1, 1, none⟩ = some (.string y.f1) ∧ W.heap.size = w.heap.size + 1 + 1 := fun W hW => by
    subst hW
    exact ⟨blk_cell (blk_drew bx) 0, blk_cell (blk_drew bx) 1, blk_cell (blk_drew by_) 0, blk_cell (blk_drew by_) 1, by simp⟩
  have HA := Aside0.mk a0
  clear a0 bx by_
  go_enter Tryd.func73, Tryd.ntmps73
  go_wp2_with fail
  refine wp_region_st 10 (by kernel_rfl) (by kernel_rfl) ?_
  intro W hW
  obtain ⟨a0, a1, a2, a3, hz⟩ := HA.out W hW
  rw [← hW] at HB
  have HB1 := Aside0.mk (below_alloc HB.out (.cells #[.int .i64 (txt x.f0 y.f0), .int .i64 (txt x.f1 y.f1)] 3 (0, 0)))
  have HN := Aside0.mk (blk_new W (.cells #[.int .i64 (txt x.f0 y.f0), .int .i64 (txt x.f1 y.f1)] 3 (0, 0)))
  clear hW HA hz
  simp only [List.take_succ_cons, List.take_zero, List.drop_succ_cons, List.drop_zero]
  repeat (first | still_step | still_call (cmpStr.calls _ _ _))
  refine wpStill_nil ?_
  go_wp2_with (first | (go_at_call 74; refine (cmpOr.calls (txt x.f0 y.f0) (txt x.f1 y.f1) _ _ (blk_cell HN.out 0) (blk_cell HN.out 1)).mono ?_; rintro e w1 ⟨rfl, rfl⟩))
  go_ret
  exact ⟨rfl, HB1.out⟩
def cmpL : List S65 → List S65 → Int
  | [], [] => 0
  | [], _ :: _ => -1
  | _ :: _, [] => 1
  | x :: a, y :: b => cmpOr (cmpX x y) (cmpL a b)
theorem drop_T65 (l : List S65) (k : Nat) (h : k < l.length) : l.drop k = rd_T65 l (k : Int) :: l.drop (k + 1) := by
  rw [List.drop_eq_getElem_cons h]
  simp [rd_T65, List.getD_eq_getElem?_getD, List.getElem?_eq_getElem h]
theorem cmpL_step (a b : List S65) (k : Nat) (h1 : k < a.length) (h2 : k < b.length) : cmpL (a.drop k) (b.drop k) = cmpOr (cmpX (rd_T65 a (k : Int)) (rd_T65 b (k : Int))) (cmpL (a.drop (k + 1)) (b.drop (k + 1))) := by
  rw [drop_T65 a k h1, drop_T65 b k h2]
  rfl
theorem cmpL_gt (a b : List S65) (k : Nat) (h1 : k < a.length) (h2 : b.length ≤ k) : cmpL (a.drop k) (b.drop k) = 1 := by
  rw [drop_T65 a k h1, List.drop_eq_nil_of_le h2]
  rfl
theorem cmpL_lt (a b : List S65) (k : Nat) (h1 : a.length ≤ k) (h2 : k < b.length) : cmpL (a.drop k) (b.drop k) = -1 := by
  rw [drop_T65 b k h2, List.drop_eq_nil_of_le h1]
  rfl
theorem cmpL_eq (a b : List S65) (k : Nat) (h1 : a.length ≤ k) (h2 : b.length ≤ k) : cmpL (a.drop k) (b.drop k) = 0 := by
  rw [List.drop_eq_nil_of_le h2, List.drop_eq_nil_of_le h1]
  rfl
set_option maxHeartbeats 2000000 in
set_option maxRecDepth 100000 in
theorem cmpF.calls (A B : Option Addr) (c e0 n m : Nat) (a b : List S65) (w : World) (hn : a.length = n) (hm : b.length = m) (hr : Kd.C k65 w A n a) (hs : Kd.C k65 w B m b) (hl : n ≤ 1000000) :
    Calls Tryd.prog 72 #[.slice A n c, .slice B m e0, .func (.func 73) #[] #[]] w fun e w' => e = .returned (.int .i64 (cmpL a b)) ∧ Below w.heap.size w w' := by
  subst hn hm
  have HR := Aside0.mk hr
  have HS := Aside0.mk hs
  clear hr hs
  go_enter Tryd.func72, Tryd.ntmps72
  go_wp2
  go_loopw [13] (fun j wr => ∃ k : Nat, k ≤ a.length ∧ k ≤ b.length ∧ j = .int .i64 k ∧ Aside0 (cmpL a b = cmpL (a.drop k) (b.drop k)) ∧ Aside0 (Below w.heap.size w wr)) (fun j _ => a.length - (intOf j).toNat)
  case atStart => exact ⟨0, Nat.zero_le _, Nat.zero_le _, rfl, ⟨rfl⟩, ⟨Below.refl _ _⟩⟩
  case round =>
    obtain ⟨k, hk, hk2, rfl, HE, HB⟩ := hrel
    by_cases hlt : k < a.length
    · obtain ⟨ad, rfl, h0, h1⟩ := at_T65 (Kd.C_below HR.out HB.out) (k : Int) (by omega) (by omega)
      rw [Int.toNat_natCast] at h0 h1
      by_cases hlt2 : k < b.length
      · obtain ⟨bd, rfl, i0, i1⟩ := at_T65 (Kd.C_below HS.out HB.out) (k : Int) (by omega) (by omega)
        rw [Int.toNat_natCast] at i0 i1
        have HST := Aside0.mk (cmpL_step a b k hlt hlt2)
        generalize rd_T65 a (k : Int) = x at *
        generalize rd_T65 b (k : Int) = y at *
        have j0 := pw_cell_below (below_alloc (Below.refl _ _) (.cells #[.string x.f0, .string x.f1] 65 (0, 0))) i0
        have j1 := pw_cell_below (below_alloc (Below.refl _ _) (.cells #[.string x.f0, .string x.f1] 65 (0, 0))) i1
        have HB0 := Aside0.mk (below_alloc (below_alloc HB.out (.cells #[.string x.f0, .string x.f1] 65 (0, 0))) (.cells #[.string y.f0, .string y.f1] 65 (0, 0)))
        cases hc : (cmpX x y != 0) with
        | true =>
          have HV : Aside0 (cmpL a b = cmpX x y) := ⟨by rw [HE.out, HST.out, cmpOr, if_pos (bne_iff_ne.1 hc)]⟩
          go_wp2_with (first | (go_at_call 73; (with_reducible refine (cmpX.calls x y _).mono ?_); rintro e w1 ⟨rfl, hb⟩; have HB1 := Aside0.mk (below_step HB0.out hb); clear hb))
          go_ret
          exact ⟨by rw [HV.out]; rfl, HB1.out⟩
        | false =>
          have HV : Aside0 (cmpL a b = cmpL (a.drop (k + 1)) (b.drop (k + 1))) := ⟨by rw [HE.out, HST.out, cmpOr, if_neg (by simpa using hc)]⟩
          go_wp2_with (first | (go_at_call 73; (with_reducible refine (cmpX.calls x y _).mono ?_); rintro e w1 ⟨rfl, hb⟩; have HB1 := Aside0.mk (below_step HB0.out hb); clear hb))
          go_roundw
          case rel => exact ⟨k + 1, by omega, by omega, by go_num, HV, HB1⟩
          case measure => simp [intOf]; omega
      · have HV : Aside0 (cmpL a b = 1) := ⟨by rw [HE.out, cmpL_gt a b k hlt (by omega)]⟩
        have HB0 := Aside0.mk (below_alloc HB.out (.cells #[.string (rd_T65 a (k : Int)).f0, .string (rd_T65 a (k : Int)).f1] 65 (0, 0)))
        have hge : ((b.length : Nat) : Int) ≤ (k : Int) := by omega
        go_wp2
        go_ret
        exact ⟨by rw [HV.out]; rfl, HB0.out⟩
    · obtain rfl : k = a.length := by omega
      by_cases hlt2 : a.length < b.length
      · have HV : Aside0 (cmpL a b = -1) := ⟨by rw [HE.out, cmpL_lt a b _ (Nat.le_refl _) hlt2]⟩
        have hge : ((a.length : Nat) : Int) < (b.length : Int) := by omega
        go_wp2
        go_ret
        exact ⟨by rw [HV.out]; rfl, HB.out⟩
      · have HV : Aside0 (cmpL a b = 0) := ⟨by rw [HE.out, cmpL_eq a b _ (Nat.le_refl _) (by omega)]⟩
        have hge : decide (((a.length : Nat) : Int) < (b.length : Int)) = false := decide_eq_false (by omega)
        go_wp2
        go_ret
        exact ⟨by rw [HV.out]; rfl, HB.out⟩
theorem cmpL.calls (A B : Option Addr) (c e0 n m : Nat) (a b : List S65) (w : World) (hn : a.length = n) (hm : b.length = m) (hr : Kd.C k65 w A n a) (hs : Kd.C k65 w B m b) (hl : n ≤ 1000000) :
    Calls Tryd.prog 40 #[.slice A n c, .slice B m e0] w fun e w' => e = .returned (.int .i64 (cmpL a b)) ∧ Below w.heap.size w w' := by
  have HC := Aside0.mk (cmpF.calls A B c e0 n m a b w hn hm hr hs hl)
  clear hn hm hr hs hl
  go_enter Tryd.func40, Tryd.ntmps40
  go_wp2_with (first | (go_at_call 72; (with_reducible refine HC.out.mono ?_); rintro e w1 ⟨rfl, hb⟩; have HB := Aside0.mk hb; clear hb))
  go_ret
  exact ⟨rfl, HB.out⟩
end Go.Proofs.YtbgmnmjokdfmlaaDoor.PA
namespace Go.Proofs.YtbgmnmjokdfmlaaDoor.PA
open Go.RowKit Go.Proofs.YtbgmnmjokdfmlaaDoor.G Go.Proofs.YtbgmnmjokdfmlaaDoorW.PrintWords Go.Proofs.YtbgmnmjokdfmlaaDoorW.PrintLast Go.Proofs.YtbgmnmjokdfmlaaDoorW.PrintMore
set_option linter.unusedVariables false
set_option linter.unusedSimpArgs false
set_option maxHeartbeats 4000000 in
set_option maxRecDepth 100000 in
theorem rcmpL.calls (A B : Option Addr) (c e0 n m : Nat) (a b : List S65) (w : World) (hn : a.length = n) (hm : b.length = m) (hr : Kd.C k65 w A n a) (hs : Kd.C k65 w B m b) (hl : n ≤ 1000000) :
    Calls Tryd.prog 42 #[.slice A n c, .slice B m e0] w fun e w' => e = .returned (.int .i64 (cmpL a b)) ∧ Below w.heap.size w w' := by
  subst hn hm
  have HR := Aside0.mk hr
  have HS := Aside0.mk hs
  clear hr hs
  by_cases hba : b.length < a.length
  · have HQ : Aside0 (b.length = min a.length b.length) := ⟨by omega⟩
    have hqa : b.length ≤ a.length := by omega
    have hqb : b.length ≤ b.length := by omega
    go_enter Tryd.func42, Tryd.ntmps42
    go_wp2
    go_loopw [13] (fun j wr => ∃ k : Nat, k ≤ b.length ∧ j = .int .i64 k ∧ Aside0 (cmpL a b = cmpL (a.drop k) (b.drop k)) ∧ Aside0 (Below w.heap.size w wr)) (fun j _ => b.length - (intOf j).toNat)
    case atStart => exact ⟨0, Nat.zero_le _, rfl, ⟨rfl⟩, ⟨Below.refl _ _⟩⟩
    case round =>
      obtain ⟨k, hk, rfl, HE, HB⟩ := hrel
      by_cases hlt : k < b.length
      · obtain ⟨ad, rfl, h0, h1⟩ := at_T65 (Kd.C_below HR.out HB.out) (k : Int) (by omega) (by omega)
        rw [Int.toNat_natCast] at h0 h1
        obtain ⟨bd, rfl, i0, i1⟩ := at_T65 (Kd.C_below HS.out HB.out) (k : Int) (by omega) (by omega)
        rw [Int.toNat_natCast] at i0 i1
        have HST := Aside0.mk (cmpL_step a b k (by omega) (by omega))
        have k0 : (0 : Int) ≤ (k : Int) := by omega
        have k1 : (k : Int) < (a.length : Int) := by omega
        have k2 : (k : Int) < (b.length : Int) := by omega
        have k3 : (k : Int) < (b.length : Int) := by omega
        generalize rd_T65 a (k : Int) = x at *
        generalize rd_T65 b (k : Int) = y at *
        cases hc : (txt x.f0 y.f0 != 0) with
        | true =>
          have HV : Aside0 (cmpL a b = txt x.f0 y.f0) := ⟨by
            have h_ : txt x.f0 y.f0 ≠ 0 := bne_iff_ne.1 hc
            rw [HE.out, HST.out, cmpX, cmpOr, cmpOr, if_pos h_, if_pos h_]⟩
          go_wp2_with fail
          go_quiet ((go_at_call 76; exact Calls.quiet_of_same (texts.calls _ _ _)))
          go_wp2
          go_ret
          exact ⟨by rw [HV.out]; rfl, pw_below_drewN HB.out _⟩
        | false =>
          have hz : txt x.f0 y.f0 = 0 := by simpa using hc
          cases hd : (txt x.f1 y.f1 != 0) with
          | true =>
            have HV : Aside0 (cmpL a b = txt x.f1 y.f1) := ⟨by
              have h_ : txt x.f1 y.f1 ≠ 0 := bne_iff_ne.1 hd
              rw [HE.out, HST.out, cmpX, cmpOr, cmpOr, hz, if_neg (show ¬ (0 : Int) ≠ 0 by simp), if_pos h_]⟩
            clear hz
            go_wp2_with fail
            go_quiet ((go_at_call 76; exact Calls.quiet_of_same (texts.calls _ _ _)))
            go_wp2_with fail
            generalize hw1 : wr.drewN nq = w1
            have HW1 : Aside0 (Below w.heap.size w w1) := ⟨hw1 ▸ pw_below_drewN HB.out _⟩
            have h1' : w1.cell? ⟨(ad.add (k * 2)).block, (ad.add (k * 2)).off + 1, none⟩ = some (.string x.f1) := hw1 ▸ h1
            have i1' : w1.cell? ⟨(bd.add (k * 2)).block, (bd.add (k * 2)).off + 1, none⟩ = some (.string y.f1) := hw1 ▸ i1
            clear hw1
            go_quiet ((go_at_call 76; exact Calls.quiet_of_same (texts.calls _ _ _)))
            go_wp2
            go_ret
            exact ⟨by rw [HV.out]; rfl, pw_below_drewN HW1.out _⟩
          | false =>
            have hy : txt x.f1 y.f1 = 0 := by simpa using hd
            have HV : Aside0 (cmpL a b = cmpL (a.drop (k + 1)) (b.drop (k + 1))) := ⟨by
              rw [HE.out, HST.out, cmpX, cmpOr, cmpOr, hz, hy, if_neg (show ¬ (0 : Int) ≠ 0 by simp), if_neg (show ¬ (0 : Int) ≠ 0 by simp)]⟩
            clear hz hy
            go_wp2_with fail
            go_quiet ((go_at_call 76; exact Calls.quiet_of_same (texts.calls _ _ _)))
            go_wp2_with fail
            generalize hw1 : wr.drewN nq = w1
            have HW1 : Aside0 (Below w.heap.size w w1) := ⟨hw1 ▸ pw_below_drewN HB.out _⟩
            have h1' : w1.cell? ⟨(ad.add (k * 2)).block, (ad.add (k * 2)).off + 1, none⟩ = some (.string x.f1) := hw1 ▸ h1
            have i1' : w1.cell? ⟨(bd.add (k * 2)).block, (bd.add (k * 2)).off + 1, none⟩ = some (.string y.f1) := hw1 ▸ i1
            clear hw1
            go_quiet ((go_at_call 76; exact Calls.quiet_of_same (texts.calls _ _ _)))
            go_wp2
            go_roundw
            case rel => exact ⟨k + 1, by omega, by go_num, HV, ⟨pw_below_drewN HW1.out _⟩⟩
            case measure => simp [intOf]; omega
      · obtain rfl : k = b.length := by omega
        have hqm := HQ.out
        by_cases hlt2 : a.length < b.length
        · have HV : Aside0 (cmpL a b = -1) := ⟨by rw [HE.out, cmpL_lt a b _ (by omega) (by omega)]⟩
          have hge : decide (a.length < b.length) = true := decide_eq_true (by omega)
          clear hqm hlt2
          go_wp2
          go_ret
          exact ⟨by rw [HV.out]; rfl, HB.out⟩
        · by_cases hlt3 : b.length < a.length
          · have HV : Aside0 (cmpL a b = 1) := ⟨by rw [HE.out, cmpL_gt a b _ (by omega) (by omega)]⟩
            have hge : decide (a.length < b.length) = false := decide_eq_false (by omega)
            have hge2 : decide (b.length < a.length) = true := decide_eq_true (by omega)
            clear hqm hlt2 hlt3
            go_wp2
            go_ret
            first | exact ⟨by rw [HV.out]; rfl, HB.out⟩ | exact absurd hba (of_decide_eq_false hge2) | exact absurd (of_decide_eq_true hge2) hba
          · have HV : Aside0 (cmpL a b = 0) := ⟨by rw [HE.out, cmpL_eq a b _ (by omega) (by omega)]⟩
            have hge : decide (a.length < b.length) = false := decide_eq_false (by omega)
            have hge2 : decide (b.length < a.length) = false := decide_eq_false (by omega)
            clear hqm hlt2 hlt3
            go_wp2
            go_ret
            first | exact ⟨by rw [HV.out]; rfl, HB.out⟩ | exact absurd hba (of_decide_eq_false hge2) | exact absurd (of_decide_eq_true hge2) hba
  · have HQ : Aside0 (a.length = min a.length b.length) := ⟨by omega⟩
    have hqa : a.length ≤ a.length := by omega
    have hqb : a.length ≤ b.length := by omega
    go_enter Tryd.func42, Tryd.ntmps42
    go_wp2
    go_loopw [13] (fun j wr => ∃ k : Nat, k ≤ a.length ∧ j = .int .i64 k ∧ Aside0 (cmpL a b = cmpL (a.drop k) (b.drop k)) ∧ Aside0 (Below w.heap.size w wr)) (fun j _ => a.length - (intOf j).toNat)
    case atStart => exact ⟨0, Nat.zero_le _, rfl, ⟨rfl⟩, ⟨Below.refl _ _⟩⟩
    case round =>
      obtain ⟨k, hk, rfl, HE, HB⟩ := hrel
      by_cases hlt : k < a.length
      · obtain ⟨ad, rfl, h0, h1⟩ := at_T65 (Kd.C_below HR.out HB.out) (k : Int) (by omega) (by omega)
        rw [Int.toNat_natCast] at h0 h1
        obtain ⟨bd, rfl, i0, i1⟩ := at_T65 (Kd.C_below HS.out HB.out) (k : Int) (by omega) (by omega)
        rw [Int.toNat_natCast] at i0 i1
        have HST := Aside0.mk (cmpL_step a b k (by omega) (by omega))
        have k0 : (0 : Int) ≤ (k : Int) := by omega
        have k1 : (k : Int) < (a.length : Int) := by omega
        have k2 : (k : Int) < (b.length : Int) := by omega
        have k3 : (k : Int) < (a.length : Int) := by omega
        generalize rd_T65 a (k : Int) = x at *
        generalize rd_T65 b (k : Int) = y at *
        cases hc : (txt x.f0 y.f0 != 0) with
        | true =>
          have HV : Aside0 (cmpL a b = txt x.f0 y.f0) := ⟨by
            have h_ : txt x.f0 y.f0 ≠ 0 := bne_iff_ne.1 hc
            rw [HE.out, HST.out, cmpX, cmpOr, cmpOr, if_pos h_, if_pos h_]⟩
          go_wp2_with fail
          go_quiet ((go_at_call 76; exact Calls.quiet_of_same (texts.calls _ _ _)))
          go_wp2
          go_ret
          exact ⟨by rw [HV.out]; rfl, pw_below_drewN HB.out _⟩
        | false =>
          have hz : txt x.f0 y.f0 = 0 := by simpa using hc
          cases hd : (txt x.f1 y.f1 != 0) with
          | true =>
            have HV : Aside0 (cmpL a b = txt x.f1 y.f1) := ⟨by
              have h_ : txt x.f1 y.f1 ≠ 0 := bne_iff_ne.1 hd
              rw [HE.out, HST.out, cmpX, cmpOr, cmpOr, hz, if_neg (show ¬ (0 : Int) ≠ 0 by simp), if_pos h_]⟩
            clear hz
            go_wp2_with fail
            go_quiet ((go_at_call 76; exact Calls.quiet_of_same (texts.calls _ _ _)))
            go_wp2_with fail
            generalize hw1 : wr.drewN nq = w1
            have HW1 : Aside0 (Below w.heap.size w w1) := ⟨hw1 ▸ pw_below_drewN HB.out _⟩
            have h1' : w1.cell? ⟨(ad.add (k * 2)).block, (ad.add (k * 2)).off + 1, none⟩ = some (.string x.f1) := hw1 ▸ h1
            have i1' : w1.cell? ⟨(bd.add (k * 2)).block, (bd.add (k * 2)).off + 1, none⟩ = some (.string y.f1) := hw1 ▸ i1
            clear hw1
            go_quiet ((go_at_call 76; exact Calls.quiet_of_same (texts.calls _ _ _)))
            go_wp2
            go_ret
            exact ⟨by rw [HV.out]; rfl, pw_below_drewN HW1.out _⟩
          | false =>
            have hy : txt x.f1 y.f1 = 0 := by simpa using hd
            have HV : Aside0 (cmpL a b = cmpL (a.drop (k + 1)) (b.drop (k + 1))) := ⟨by
              rw [HE.out, HST.out, cmpX, cmpOr, cmpOr, hz, hy, if_neg (show ¬ (0 : Int) ≠ 0 by simp), if_neg (show ¬ (0 : Int) ≠ 0 by simp)]⟩
            clear hz hy
            go_wp2_with fail
            go_quiet ((go_at_call 76; exact Calls.quiet_of_same (texts.calls _ _ _)))
            go_wp2_with fail
            generalize hw1 : wr.drewN nq = w1
            have HW1 : Aside0 (Below w.heap.size w w1) := ⟨hw1 ▸ pw_below_drewN HB.out _⟩
            have h1' : w1.cell? ⟨(ad.add (k * 2)).block, (ad.add (k * 2)).off + 1, none⟩ = some (.string x.f1) := hw1 ▸ h1
            have i1' : w1.cell? ⟨(bd.add (k * 2)).block, (bd.add (k * 2)).off + 1, none⟩ = some (.string y.f1) := hw1 ▸ i1
            clear hw1
            go_quiet ((go_at_call 76; exact Calls.quiet_of_same (texts.calls _ _ _)))
            go_wp2
            go_roundw
            case rel => exact ⟨k + 1, by omega, by go_num, HV, ⟨pw_below_drewN HW1.out _⟩⟩
            case measure => simp [intOf]; omega
      · obtain rfl : k = a.length := by omega
        have hqm := HQ.out
        by_cases hlt2 : a.length < b.length
        · have HV : Aside0 (cmpL a b = -1) := ⟨by rw [HE.out, cmpL_lt a b _ (by omega) (by omega)]⟩
          have hge : decide (a.length < b.length) = true := decide_eq_true (by omega)
          clear hqm hlt2
          go_wp2
          go_ret
          exact ⟨by rw [HV.out]; rfl, HB.out⟩
        · by_cases hlt3 : b.length < a.length
          · have HV : Aside0 (cmpL a b = 1) := ⟨by rw [HE.out, cmpL_gt a b _ (by omega) (by omega)]⟩
            have hge : decide (a.length < b.length) = false := decide_eq_false (by omega)
            have hge2 : decide (b.length < a.length) = true := decide_eq_true (by omega)
            clear hqm hlt2 hlt3
            go_wp2
            go_ret
            first | exact ⟨by rw [HV.out]; rfl, HB.out⟩ | exact absurd hba (of_decide_eq_false hge2) | exact absurd (of_decide_eq_true hge2) hba
          · have HV : Aside0 (cmpL a b = 0) := ⟨by rw [HE.out, cmpL_eq a b _ (by omega) (by omega)]⟩
            have hge : decide (a.length < b.length) = false := decide_eq_false (by omega)
            have hge2 : decide (b.length < a.length) = false := decide_eq_false (by omega)
            clear hqm hlt2 hlt3
            go_wp2
            go_ret
            first | exact ⟨by rw [HV.out]; rfl, HB.out⟩ | exact absurd hba (of_decide_eq_false hge2) | exact absurd (of_decide_eq_true hge2) hba
end Go.Proofs.YtbgmnmjokdfmlaaDoor.PA
namespace Go.Proofs.YtbgmnmjokdfmlaaDoor.PA
open Go.RowKit Go.Proofs.YtbgmnmjokdfmlaaDoor.G Go.Proofs.YtbgmnmjokdfmlaaDoorW.PrintWords Go.Proofs.YtbgmnmjokdfmlaaDoorW.PrintLast Go.Proofs.YtbgmnmjokdfmlaaDoorW.PrintMore
set_option linter.unusedVariables false
set_option linter.unusedSimpArgs false
theorem nameB.calls_at (s : ByteArray) (b : Bool) (h : nameB s = b) (w : World) : Calls Tryd.prog 70 #[.string s] w fun e w' => e = .returned (.bool b) ∧ Below w.heap.size w w' := h ▸ nameB.calls s w
theorem valueB.calls_at (s : ByteArray) (b : Bool) (h : valueB s = b) (w : World) : Calls Tryd.prog 71 #[.string s] w fun e w' => e = .returned (.bool b) ∧ Below w.heap.size w w' := h ▸ valueB.calls s w
set_option maxHeartbeats 4000000 in
set_option maxRecDepth 100000 in
theorem canL.calls (A : Option Addr) (c n : Nat) (l : List S65) (w : World) (hn : l.length = n) (hr : Kd.C k65 w A n l) (hc : n ≤ c) :
    Calls Tryd.prog 38 #[.slice A n c] w fun e w' => e = .returned (.bool (canL l)) ∧ Below w.heap.size w w' := by
  subst hn
  by_cases hlen : 1 ≤ l.length ∧ l.length ≤ 8
  · have h0 : ((l.length : Int) == 0) = false := beq_eq_false_iff_ne.2 (by omega)
    have h8 : decide ((8 : Int) < (l.length : Int)) = false := decide_eq_false (by omega)
    have HR := Aside0.mk hr
    have HL := Aside0.mk hlen
    have hl8 := hlen.2
    clear hr hc hlen
    go_enter Tryd.func38, Tryd.ntmps38
    go_wp2
    go_loopw [3, 16] (fun p i wr => ∃ (k : Nat) (q : ByteArray), k ≤ l.length ∧ i = .int .i64 k ∧ p = .string q ∧ Aside0 (q = lastN l k) ∧ Aside0 (∀ j, j < k → okAt l j = true) ∧ Aside0 (Below w.heap.size w wr)) (fun _ i _ => l.length - (intOf i).toNat)
    case atStart => exact ⟨0, _, Nat.zero_le _, rfl, rfl, ⟨rfl⟩, ⟨fun j hj => by omega⟩, ⟨Below.refl _ _⟩⟩
    case round =>
      obtain ⟨k, q, hk, rfl, rfl, HQ, HO, HB⟩ := hrel
      by_cases hlt : k < l.length
      · obtain ⟨ad, rfl, c0, c1⟩ := at_T65 (Kd.C_below HR.out HB.out) (k : Int) (by omega) (by omega)
        rw [Int.toNat_natCast] at c0 c1
        have HBAD := Aside0.mk (fun h => canL_bad (l := l) (k := k) hlt h)
        have HN := Aside0.mk (fun h => okAt_name (l := l) (k := k) h)
        have HV := Aside0.mk (fun h => okAt_value (l := l) (k := k) h)
        have HA := Aside0.mk (fun h1 h2 => okAt_last (l := l) (k := k) h1 h2)
        have HS := Aside0.mk (fun h => upto_step (l := l) (k := k) HO.out h)
        have HX : Aside0 ((rd_T65 l (k : Int)).f0 = lastN l (k + 1)) := ⟨rfl⟩
        generalize rd_T65 l (k : Int) = x at c0 c1 HN HV HA HX
        rw [← HQ.out] at HA
        have HB0 := Aside0.mk (below_alloc HB.out (.cells #[.string x.f0, .string x.f1] 65 (0, 0)))
        have HBK := Aside0.mk (blk_new wr (.cells #[.string x.f0, .string x.f1] 65 (0, 0)))
        cases h1 : nameB x.f0 with
        | false =>
          have HF : Aside0 (canL l = false) := ⟨HBAD.out (HN.out h1)⟩
          have C1 := Aside0.mk (nameB.calls_at x.f0 false h1)
          clear h1
          go_wp2_with (first | (go_at_call 70; (with_reducible refine (C1.out _).mono ?_); rintro e w1 ⟨rfl, hb⟩; have HB1 := Aside0.mk (below_step HB0.out hb); clear hb))
          go_ret
          exact ⟨by rw [HF.out]; rfl, HB1.out⟩
        | true =>
          have C1 := Aside0.mk (nameB.calls_at x.f0 true h1)
          cases h2 : valueB x.f1 with
          | false =>
            have HF : Aside0 (canL l = false) := ⟨HBAD.out (HV.out h2)⟩
            have C2 := Aside0.mk (valueB.calls_at x.f1 false h2)
            clear h1 h2
            go_wp2_with (first | (go_at_call 70; (with_reducible refine (C1.out _).mono ?_); rintro e w1 ⟨rfl, hb⟩; have HB1 := Aside0.mk (below_step HB0.out hb); have HBK1 := Aside0.mk (blk_below HBK.out hb); have b1 := (blk_cell HBK1.out 1).trans rfl; clear hb) | (go_at_call 71; (with_reducible refine (C2.out _).mono ?_); rintro e w2 ⟨rfl, hb⟩; have HB2 := Aside0.mk (below_step HB1.out hb); clear hb))
            go_ret
            exact ⟨by rw [HF.out]; rfl, HB2.out⟩
          | true =>
            have C2 := Aside0.mk (valueB.calls_at x.f1 true h2)
            have HOK := HA.out h1 h2
            clear h1 h2
            cases d1 : Op.bytesLess x.f0.toList q.toList with
            | true =>
              have HF : Aside0 (canL l = false) := ⟨HBAD.out (by rw [HOK, d1]; rfl)⟩
              clear HOK
              go_wp2_with (first | (go_at_call 70; (with_reducible refine (C1.out _).mono ?_); rintro e w1 ⟨rfl, hb⟩; have HB1 := Aside0.mk (below_step HB0.out hb); have HBK1 := Aside0.mk (blk_below HBK.out hb); have b1 := (blk_cell HBK1.out 1).trans rfl; clear hb) | (go_at_call 71; (with_reducible refine (C2.out _).mono ?_); rintro e w2 ⟨rfl, hb⟩; have HB2 := Aside0.mk (below_step HB1.out hb); have HBK2 := Aside0.mk (blk_below HBK1.out hb); have b2 := (blk_cell HBK2.out 0).trans rfl; clear hb))
              go_ret
              exact ⟨by rw [HF.out]; rfl, HB2.out⟩
            | false =>
              cases d2 : x.f0.toList == q.toList with
              | true =>
                have HF : Aside0 (canL l = false) := ⟨HBAD.out (by rw [HOK, d1, d2]; rfl)⟩
                clear HOK
                go_wp2_with (first | (go_at_call 70; (with_reducible refine (C1.out _).mono ?_); rintro e w1 ⟨rfl, hb⟩; have HB1 := Aside0.mk (below_step HB0.out hb); have HBK1 := Aside0.mk (blk_below HBK.out hb); have b1 := (blk_cell HBK1.out 1).trans rfl; clear hb) | (go_at_call 71; (with_reducible refine (C2.out _).mono ?_); rintro e w2 ⟨rfl, hb⟩; have HB2 := Aside0.mk (below_step HB1.out hb); have HBK2 := Aside0.mk (blk_below HBK1.out hb); have b2 := (blk_cell HBK2.out 0).trans rfl; clear hb))
                go_ret
                exact ⟨by rw [HF.out]; rfl, HB2.out⟩
              | false =>
                have HG := Aside0.mk (HS.out (by rw [HOK, d1, d2]; rfl))
                clear HOK
                go_wp2_with (first | (go_at_call 70; (with_reducible refine (C1.out _).mono ?_); rintro e w1 ⟨rfl, hb⟩; have HB1 := Aside0.mk (below_step HB0.out hb); have HBK1 := Aside0.mk (blk_below HBK.out hb); have b1 := (blk_cell HBK1.out 1).trans rfl; clear hb) | (go_at_call 71; (with_reducible refine (C2.out _).mono ?_); rintro e w2 ⟨rfl, hb⟩; have HB2 := Aside0.mk (below_step HB1.out hb); have HBK2 := Aside0.mk (blk_below HBK1.out hb); have b2 := (blk_cell HBK2.out 0).trans rfl; clear hb))
                go_roundw
                case rel => exact ⟨k + 1, x.f0, by omega, by go_num, rfl, HX, HG, HB2⟩
                case measure => simp [intOf]; omega
      · obtain rfl : k = l.length := by omega
        have HF : Aside0 (canL l = true) := ⟨canL_ok HL.out.1 HL.out.2 HO.out⟩
        go_wp2
        go_ret
        exact ⟨by rw [HF.out]; rfl, HB.out⟩
  · have HF : Aside0 (canL l = false) := ⟨canL_len hlen⟩
    by_cases h0 : (l.length : Int) = 0
    · have h1 : ((l.length : Int) == 0) = true := beq_iff_eq.2 h0
      clear h0 hlen
      go_enter Tryd.func38, Tryd.ntmps38
      go_wp2
      go_ret
      exact ⟨by rw [HF.out]; rfl, Below.refl _ _⟩
    · have h1 : ((l.length : Int) == 0) = false := beq_eq_false_iff_ne.2 h0
      have h2 : decide ((8 : Int) < (l.length : Int)) = true := decide_eq_true (by omega)
      clear h0 hlen
      go_enter Tryd.func38, Tryd.ntmps38
      go_wp2
      go_ret
      exact ⟨by rw [HF.out]; rfl, Below.refl _ _⟩
end Go.Proofs.YtbgmnmjokdfmlaaDoor.PA
namespace Go.Proofs.YtbgmnmjokdfmlaaDoor.G
set_option linter.unusedVariables false
def bit (l : List Int) (i : Nat) : Bool := (l.getD (i / 8) 0).toNat.testBit (7 - i % 8)
def win (l : List Int) (p c : Nat) : List Bool := (List.range c).map fun i => bit l (p + i)
def Bs (l : List Int) (n : Nat) : List Bool := win l 0 n
def low (v c : Nat) : List Bool := (List.range c).map fun i => v.testBit (c - 1 - i)
def num (bs : List Bool) : Nat := bs.foldl (fun a b => 2 * a + b.toNat) 0
def OkL (l : List Int) : Prop := ∀ x ∈ l, 0 ≤ x ∧ x < 256
structure OkX (l : List Int) (n : Nat) : Prop where
  bytes : OkL l
  le : n ≤ 8 * l.length
  near : 8 * l.length < n + 8
  tail : ∀ i, n ≤ i → i < 8 * l.length → bit l i = false
@[simp] theorem win_length (l : List Int) (p c : Nat) : (win l p c).length = c := by simp [win]
@[simp] theorem Bs_length (l : List Int) (n : Nat) : (Bs l n).length = n := by simp [Bs]
@[simp] theorem low_length (v c : Nat) : (low v c).length = c := by simp [low]
theorem win_get (l : List Int) (p c i : Nat) (h : i < c) : (win l p c)[i]'(by simpa using h) = bit l (p + i) := by simp [win]
theorem Bs_get (l : List Int) (n i : Nat) (h : i < n) : (Bs l n)[i]'(by simpa using h) = bit l i := by simp [Bs, win]
theorem low_get (v c i : Nat) (h : i < c) : (low v c)[i]'(by simpa using h) = v.testBit (c - 1 - i) := by simp [low]
theorem OkL.at {l : List Int} (h : OkL l) (i : Nat) : 0 ≤ l.getD i 0 ∧ l.getD i 0 < 256 := by
  rw [List.getD_eq_getElem?_getD]
  by_cases hi : i < l.length
  · rw [List.getElem?_eq_getElem hi]
    exact h _ (List.getElem_mem hi)
  · rw [List.getElem?_eq_none (by omega)]
    decide
theorem nat_lt_256_ext {a b : Nat} (ha : a < 256) (hb : b < 256) (h : ∀ j, j < 8 → a.testBit j = b.testBit j) : a = b := by
  apply Nat.eq_of_testBit_eq
  intro j
  by_cases hj : j < 8
  · exact h j hj
  · rw [Nat.testBit_lt_two_pow (Nat.lt_of_lt_of_le ha (Nat.pow_le_pow_right (n := 2) (by decide) (show 8 ≤ j by omega))), Nat.testBit_lt_two_pow (Nat.lt_of_lt_of_le hb (Nat.pow_le_pow_right (n := 2) (by decide) (show 8 ≤ j by omega)))]
theorem bits_ext {l m : List Int} (hl : OkL l) (hm : OkL m) (hn : l.length = m.length) (h : ∀ i, i < 8 * l.length → bit l i = bit m i) : l = m := by
  apply List.ext_getElem hn
  intro k h1 h2
  have a := hl.at k
  have b := hm.at k
  rw [List.getD_eq_getElem?_getD, List.getElem?_eq_getElem h1, Option.getD_some] at a
  rw [List.getD_eq_getElem?_getD, List.getElem?_eq_getElem h2, Option.getD_some] at b
  have e : l[k].toNat = m[k].toNat := by
    apply nat_lt_256_ext (by omega) (by omega)
    intro j hj
    have := h (8 * k + (7 - j)) (by omega)
    unfold bit at this
    rw [show (8 * k + (7 - j)) / 8 = k by omega, show 7 - (8 * k + (7 - j)) % 8 = j by omega] at this
    simpa [List.getD_eq_getElem?_getD, h1, h2] using this
  omega
theorem OkX.ext {l m : List Int} {n : Nat} (hl : OkX l n) (hm : OkX m n) (h : Bs l n = Bs m n) : l = m := by
  have hn : l.length = m.length := by have := hl.le; have := hl.near; have := hm.le; have := hm.near; omega
  apply bits_ext hl.bytes hm.bytes hn
  intro i hi
  by_cases h1 : i < n
  · have e : (Bs l n)[i]'(by simpa using h1) = (Bs m n)[i]'(by simpa using h1) := by simp only [h]
    rw [Bs_get _ _ _ h1, Bs_get _ _ _ h1] at e
    exact e
  · rw [hl.tail i (by omega) hi, hm.tail i (by omega) (by omega)]
def addZ (l : List Int) (n : Nat) : List Int := if n % 8 = 0 then l ++ [0] else l
def orAt (l : List Int) (k : Nat) (x : Nat) : List Int := l.set k (((l.getD k 0).toNat ||| x : Nat) : Int)
theorem addZ_len {l : List Int} {n : Nat} (h : OkX l n) : (addZ l n).length = n / 8 + 1 := by
  have := h.le
  have := h.near
  unfold addZ
  split
  · simp; omega
  · omega
theorem bit_addZ {l : List Int} {n : Nat} (h : OkX l n) (i : Nat) (hi : i < 8 * (n / 8 + 1)) : bit (addZ l n) i = if i < n then bit l i else false := by
  have h1 := h.le
  have h2 := h.near
  unfold addZ
  by_cases h0 : n % 8 = 0
  · rw [if_pos h0]
    by_cases hin : i < n
    · rw [if_pos hin]
      unfold bit
      rw [List.getD_eq_getElem?_getD, List.getD_eq_getElem?_getD, List.getElem?_append_left (by omega)]
    · rw [if_neg hin]
      unfold bit
      rw [List.getD_eq_getElem?_getD, List.getElem?_append_right (by omega), show i / 8 - l.length = 0 by omega]
      simp
  · rw [if_neg h0]
    by_cases hin : i < n
    · rw [if_pos hin]
    · rw [if_neg hin]
      exact h.tail i (by omega) (by omega)
theorem bit_orAt (l : List Int) (k x i : Nat) (hk : k < l.length) : bit (orAt l k x) i = (bit l i || (decide (i / 8 = k) && x.testBit (7 - i % 8))) := by
  unfold bit orAt
  by_cases h : i / 8 = k
  · subst h
    rw [List.getD_eq_getElem?_getD, List.getElem?_set_self hk]
    simp [Nat.testBit_or]
  · rw [List.getD_eq_getElem?_getD, List.getElem?_set_ne (by omega)]
    simp [h]
theorem put_step {l : List Int} {n T X : Nat} (h : OkX l n) (hT : 0 < T) (hT8 : T ≤ 8 - n % 8) (hX : X < 2 ^ T) :
    OkX (orAt (addZ l n) (n / 8) (X * 2 ^ (8 - n % 8 - T))) (n + T) ∧ Bs (orAt (addZ l n) (n / 8) (X * 2 ^ (8 - n % 8 - T))) (n + T) = Bs l n ++ low X T := by
  have hlen := addZ_len h
  have hle := h.le
  have hnr := h.near
  have hol : (orAt (addZ l n) (n / 8) (X * 2 ^ (8 - n % 8 - T))).length = n / 8 + 1 := by unfold orAt; simpa using hlen
  have hXs : X * 2 ^ (8 - n % 8 - T) < 256 := by
    calc X * 2 ^ (8 - n % 8 - T) < 2 ^ T * 2 ^ (8 - n % 8 - T) := Nat.mul_lt_mul_of_pos_right hX (Nat.two_pow_pos _)
      _ = 2 ^ (T + (8 - n % 8 - T)) := (Nat.pow_add _ _ _).symm
      _ ≤ 2 ^ 8 := Nat.pow_le_pow_right (by decide) (by omega)
      _ = 256 := by decide
  have hzok : OkL (addZ l n) := by
    unfold addZ
    split
    · intro x hx
      rcases List.mem_append.1 hx with hx | hx
      · exact h.bytes x hx
      · simp at hx; subst hx; decide
    · exact h.bytes
  have hbit : ∀ i, i < 8 * (n / 8 + 1) → bit (orAt (addZ l n) (n / 8) (X * 2 ^ (8 - n % 8 - T))) i = if i < n then bit l i else if i < n + T then X.testBit (T - 1 - (i - n)) else false := by
    intro i hi
    rw [bit_orAt _ _ _ _ (by omega), bit_addZ h i hi]
    by_cases hin : i < n
    · rw [if_pos hin, if_pos hin]
      by_cases h8 : i / 8 = n / 8
      · rw [Nat.mul_comm, Nat.testBit_two_pow_mul]
        have : decide (8 - n % 8 - T ≤ 7 - i % 8) = true := decide_eq_true (by omega)
        rw [Nat.testBit_lt_two_pow (i := 7 - i % 8 - (8 - n % 8 - T)) (Nat.lt_of_lt_of_le hX (Nat.pow_le_pow_right (by decide) (by omega)))]
        simp
      · simp [h8]
    · rw [if_neg hin, if_neg hin]
      have h8 : i / 8 = n / 8 := by omega
      rw [Nat.mul_comm, Nat.testBit_two_pow_mul]
      by_cases hit : i < n + T
      · rw [if_pos hit, show 7 - i % 8 - (8 - n % 8 - T) = T - 1 - (i - n) by omega]
        rw [show decide (7 - i % 8 ≥ 8 - n % 8 - T) = true from decide_eq_true (by omega)]
        simp [h8]
      · rw [if_neg hit]
        rw [show decide (7 - i % 8 ≥ 8 - n % 8 - T) = false from decide_eq_false (by omega)]
        simp
  refine ⟨⟨?_, by omega, by omega, ?_⟩, ?_⟩
  · intro x hx
    unfold orAt at hx
    rcases List.mem_or_eq_of_mem_set hx with hx | hx
    · exact hzok x hx
    · subst hx
      have := hzok.at (n / 8)
      have : ((addZ l n).getD (n / 8) 0).toNat ||| X * 2 ^ (8 - n % 8 - T) < 2 ^ 8 := Nat.or_lt_two_pow (by omega) (by omega)
      omega
  · intro i h1 h2
    rw [hol] at h2
    rw [hbit i h2, if_neg (by omega), if_neg (by omega)]
  · apply List.ext_getElem (by simp)
    intro i h1 h2
    have hi : i < n + T := by simpa using h1
    rw [Bs_get _ _ _ hi, hbit i (by omega)]
    by_cases hin : i < n
    · rw [if_pos hin, List.getElem_append_left (by simpa using hin), Bs_get _ _ _ hin]
    · rw [if_neg hin, if_pos hi, List.getElem_append_right (by simpa using hin)]
      simp only [Bs_length]
      rw [low_get _ _ _ (by omega)]
theorem low_split (v c T : Nat) (h : T ≤ c) : low v c = low (v / 2 ^ (c - T) % 2 ^ T) T ++ low v (c - T) := by
  apply List.ext_getElem (by simp; omega)
  intro i h1 h2
  have hi : i < c := by simpa using h1
  rw [low_get _ _ _ hi]
  by_cases hiT : i < T
  · rw [List.getElem_append_left (by simpa using hiT), low_get _ _ _ hiT, Nat.testBit_mod_two_pow, Nat.testBit_div_two_pow]
    rw [show decide (T - 1 - i < T) = true from decide_eq_true (by omega), Bool.true_and]
    congr 1
    omega
  · rw [List.getElem_append_right (by simpa using hiT)]
    simp only [low_length]
    rw [low_get _ _ _ (by omega)]
    congr 1
    omega
theorem num_append (a b : List Bool) : num (a ++ b) = num a * 2 ^ b.length + num b := by
  have key : ∀ (b : List Bool) (x : Nat), b.foldl (fun a b => 2 * a + b.toNat) x = x * 2 ^ b.length + b.foldl (fun a b => 2 * a + b.toNat) 0 := by
    intro b
    induction b with
    | nil => intro x; simp
    | cons y b ih =>
      intro x
      simp only [List.foldl_cons, List.length_cons]
      rw [ih (2 * x + y.toNat), ih (2 * 0 + y.toNat)]
      rw [Nat.pow_succ, Nat.add_mul, Nat.add_mul]
      have : 2 * x * 2 ^ b.length = x * (2 ^ b.length * 2) := by rw [Nat.mul_comm 2 x, Nat.mul_assoc, Nat.mul_comm 2]
      omega
  unfold num
  rw [List.foldl_append, key]
theorem num_cons (b : Bool) (a : List Bool) : num (b :: a) = b.toNat * 2 ^ a.length + num a := by
  have := num_append [b] a
  rw [show num [b] = b.toNat by cases b <;> rfl] at this
  exact this
theorem num_lt (a : List Bool) : num a < 2 ^ a.length := by
  induction a with
  | nil => decide
  | cons b a ih =>
    rw [num_cons, List.length_cons, Nat.pow_succ]
    cases b <;> simp <;> omega
theorem low_mod (v c : Nat) : low (v % 2 ^ c) c = low v c := by
  unfold low
  apply List.map_congr_left
  intro i hi
  have := List.mem_range.1 hi
  rw [Nat.testBit_mod_two_pow, show decide (c - 1 - i < c) = true from decide_eq_true (by omega), Bool.true_and]
theorem num_low (v c : Nat) : num (low v c) = v % 2 ^ c := by
  induction c with
  | zero => simp [low, num, Nat.mod_one]
  | succ c ih =>
    rw [low_split v (c + 1) 1 (by omega), num_append]
    simp only [low_length, Nat.add_sub_cancel]
    rw [ih]
    have : num (low (v / 2 ^ c % 2 ^ 1) 1) = v / 2 ^ c % 2 := by
      have h2 : v / 2 ^ c % 2 = 0 ∨ v / 2 ^ c % 2 = 1 := by omega
      rw [Nat.pow_one]
      rcases h2 with h2 | h2 <;> rw [h2] <;> decide
    rw [this, Nat.pow_succ, Nat.mod_mul]
    rw [Nat.mul_comm, Nat.add_comm]
theorem win_split (l : List Int) (p c T : Nat) (h : T ≤ c) : win l p c = win l p T ++ win l (p + T) (c - T) := by
  apply List.ext_getElem (by simp; omega)
  intro i h1 h2
  have hi : i < c := by simpa using h1
  rw [win_get _ _ _ _ hi]
  by_cases hiT : i < T
  · rw [List.getElem_append_left (by simpa using hiT), win_get _ _ _ _ hiT]
  · rw [List.getElem_append_right (by simpa using hiT)]
    simp only [win_length]
    rw [win_get _ _ _ _ (by omega)]
    congr 1
    omega
theorem win_Bs (l : List Int) (n p c : Nat) (h : p + c ≤ n) : win l p c = ((Bs l n).take (p + c)).drop p := by
  apply List.ext_getElem (by simp; omega)
  intro i h1 h2
  have hi : i < c := by simpa using h1
  rw [win_get _ _ _ _ hi, List.getElem_drop, List.getElem_take, Bs_get _ _ _ (by omega)]
theorem take_step (l : List Int) (p T : Nat) (hb : (l.getD (p / 8) 0).toNat < 256) (hT : T ≤ 8 - p % 8) : num (win l p T) = (l.getD (p / 8) 0).toNat / 2 ^ (8 - p % 8 - T) % 2 ^ T := by
  rw [show win l p T = low ((l.getD (p / 8) 0).toNat / 2 ^ (8 - p % 8 - T)) T from ?_, num_low]
  apply List.ext_getElem (by simp)
  intro i h1 h2
  have hi : i < T := by simpa using h1
  rw [win_get _ _ _ _ hi, low_get _ _ _ hi, Nat.testBit_div_two_pow]
  unfold bit
  rw [show (p + i) / 8 = p / 8 by omega]
  congr 1
  omega
end Go.Proofs.YtbgmnmjokdfmlaaDoor.G
namespace Go.Proofs.YtbgmnmjokdfmlaaDoor.G
open Go.RowKit Go.Proofs.YtbgmnmjokdfmlaaDoorW.PrintWords Go.Proofs.YtbgmnmjokdfmlaaDoorW.PrintLast Go.Proofs.YtbgmnmjokdfmlaaDoorW.PrintMore
set_option linter.unusedVariables false
set_option linter.unusedSimpArgs false
def bytes_Equal.f (l0 l1 : List Int) : Option Bool := if okB l0 = true ∧ okB l1 = true then some (decide (l0 = l1)) else none
def bytes_Clone.f (l : List Int) : Option (List Int) := if l.length ≤ 140737488355328 then some l else none
theorem strOfNums_inj {a b : List Int} (ha : okB a = true) (hb : okB b = true) : ((strOfNums a).toList == (strOfNums b).toList) = decide (a = b) := by
  have key : ∀ l : List Int, okB l = true → (strOfNums l).toList.map (fun x => (x.toNat : Int)) = l := by
    intro l hl
    have hl := okB_iff.1 hl
    rw [show (strOfNums l).toList = l.map fun n => UInt8.ofNat n.toNat from (ByteArray.toList_eq _).trans (strOfNums_data l), List.map_map]
    refine (List.map_congr_left fun x hx => ?_).trans (List.map_id l)
    have := hl x hx
    simp only [Function.comp_apply, UInt8.toNat_ofNat', id]
    omega
  by_cases h : a = b
  · subst h; simp
  · rw [decide_eq_false h, beq_eq_false_iff_ne]
    intro he
    exact h (by rw [← key a ha, ← key b hb, he])
theorem bytes_Equal.calls (A0 : Option Addr) (c0 : Nat) (l0 : List Int) (A1 : Option Addr) (c1 : Nat) (l1 : List Int) (r : Bool) (w : World) (hr0 : Kd.C (Kd.int .u8) w A0 l0.length l0) (hc0 : l0.length ≤ c0) (hr1 : Kd.C (Kd.int .u8) w A1 l1.length l1) (hc1 : l1.length ≤ c1) (h : bytes_Equal.f l0 l1 = some r) :
    Calls Tryd.prog 92 #[.slice A0 l0.length c0, .slice A1 l1.length c1] w fun e w' => e = .returned (.bool r) ∧ Drawn0 w w' := by
  unfold bytes_Equal.f at h
  split at h
  case isFalse => cases h
  case isTrue hok =>
  obtain rfl := Option.some.inj h
  clear h
  rw [← strOfNums_inj hok.1 hok.2]
  have hcv3 := Kd.C_string (P := Tryd.prog) (A := A0) (c := c0) Tryd.underlying22 Tryd.underlying5 Tryd.underlying9 hr0
  have hcv4 := Kd.C_string (P := Tryd.prog) (A := A1) (c := c1) Tryd.underlying22 Tryd.underlying5 Tryd.underlying9 hr1
  clear hr0 hc0 hr1 hc1 hok
  go_enter Tryd.func92, Tryd.ntmps92
  go_wp2
  go_ret
  exact ⟨rfl, Drawn0.refl _⟩
set_option maxHeartbeats 800000 in
theorem bytes_Clone.calls (A0 : Option Addr) (c0 : Nat) (l0 : List Int) (r : List Int) (w : World) (hr0 : Kd.C (Kd.int .u8) w A0 l0.length l0) (hc0 : l0.length ≤ c0) (h : bytes_Clone.f l0 = some r) :
    Calls Tryd.prog 114 #[.slice A0 l0.length c0] w fun e w' => ∃ v0_ : Value, e = .returned (v0_) ∧ Kd.R (Kd.int .u8) 5 w' w.heap.size (fun _ => True) v0_ r ∧ Below w.heap.size w w' := by
  unfold bytes_Clone.f at h
  split at h
  case isFalse => cases h
  case isTrue hlen =>
  obtain rfl := Option.some.inj h
  clear h
  have HR := Aside0.mk hr0
  have HL := Aside0.mk hlen
  have hnil := fun W n c => Lib.run_eql_slice_nil (P := Tryd.prog) W 22 5 A0 n c 0 0 Tryd.underlying22
  clear hr0 hc0 hlen
  cases A0 with
  | none =>
    have h0 : l0 = [] := by
      rcases Nat.eq_zero_or_pos l0.length with h0 | h0
      · exact List.eq_nil_of_length_eq_zero h0
      · obtain ⟨ad, e, _⟩ := HR.out.2.2 h0
        cases e
    subst h0
    go_enter Tryd.func114, Tryd.ntmps114
    go_wp2
    go_ret
    exact ⟨_, rfl, Kd.R_nil _ _ _ _ _, Below.refl _ _⟩
  | some ad =>
    go_enter Tryd.func114, Tryd.ntmps114
    have hE := Aside0.mk (R_empty (Kd.int .u8) 5 w.heap.size w (fun _ => True) (Nat.le_refl _) trivial)
    go_wp2_with ((with_reducible refine gate_dst (N := 7) rfl ?_); refine Kd.R_append_row (Value.int .u8) 0 (h1 := fun _ => rfl) w.heap.size rfl (.tmp 5) (.tmp 6) 22 5 (.int .u8 0) 1 rfl Tryd.underlying22 infoU8 rfl (by decide) _ [] l0 (some ad) l0.length c0 (fun _ => True) rfl rfl (fun _ _ => trivial) hE.out (Kd.C_below HR.out (below_alloc (Below.refl _ _) _)) (below_alloc (Below.refl _ _) _) ?hb ?hl ?_; (case hb => simp); (case hl => (have := HL.out; simp; omega)); intro v1 w1 hR1 hB1 hg_ ho_; rw [List.nil_append] at hR1; have HR1 := Aside0.mk hR1; have HB1 := Aside0.mk hB1; clear hR1 hB1 hg_ ho_)
    go_ret
    exact ⟨_, rfl, HR1.out, HB1.out⟩
end Go.Proofs.YtbgmnmjokdfmlaaDoor.G
namespace Go.Proofs.YtbgmnmjokdfmlaaDoor.PA
open Go.RowKit Go.Proofs.YtbgmnmjokdfmlaaDoor.G Go.Proofs.YtbgmnmjokdfmlaaDoorW.PrintWords Go.Proofs.YtbgmnmjokdfmlaaDoorW.PrintLast Go.Proofs.YtbgmnmjokdfmlaaDoorW.PrintMore
set_option linter.unusedVariables false
set_option linter.unusedSimpArgs false
attribute [local go_sem] max2_int min2_int max_two min_two
abbrev bytes_Clone.f := G.bytes_Clone.f
theorem bytes_Clone.calls (A0 : Option Addr) (c0 : Nat) (l0 : List Int) (r : List Int) (w : World) (hr0 : Kd.C (Kd.int .u8) w A0 l0.length l0) (hc0 : l0.length ≤ c0) (h : bytes_Clone.f l0 = some r) :
    Calls Tryd.prog 114 #[.slice A0 l0.length c0] w fun e w' => ∃ v0_ : Value, e = .returned (v0_) ∧ Kd.R (Kd.int .u8) 5 w' w.heap.size (fun _ => True) v0_ r ∧ Below w.heap.size w w' := G.bytes_Clone.calls A0 c0 l0 r w hr0 hc0 h
def KeepT (g : Nat) (w w' : World) : Prop := ∀ (q : Nat) (cs : Array Value) (t : Nat), q ≠ g → 5 ≠ t → w.heap[q]? = some (.cells cs t (0, 0)) → w'.heap[q]? = some (.cells cs t (0, 0))
def addT (N c : Int) : Int := if c < 8 - N % 8 then c else 8 - N % 8
def addP (N v c : Int) : Int := Go.bits .and .u64 (shr .u64 v (c - addT N c)) (IntKind.u64.wrap ((shl .u64 1 (addT N c)) - 1)) % 256
def addL (l : List Int) (N : Int) : List Int := if N % 8 = 0 then l ++ [0] else l
def addB (N v c : Int) (b : Int) : Int := Go.bits .or .u8 b (shl .u8 (addP N v c) (8 - N % 8 - addT N c))
def addS (l : List Int) (N v c : Int) : List Int := (addL l N).set ((addL l N).length - 1) (addB N v c ((addL l N).getD ((addL l N).length - 1) 0))
def bits_add.l0 : Nat → List Int → Int → Int → Int → Option (List Int × Int)
  | 0, _, _, _, _ => none
  | k + 1, l, N, v, c => if c ≤ 0 then some (l, N) else if 0 ≤ N ∧ N ≤ 8 * l.length ∧ 8 * l.length - N < 8 ∧ l.length < 1000000000 ∧ c ≤ 1000 then bits_add.l0 k (addS l N v c) (N + addT N c) v (c - addT N c) else none
def bits_add.f (l : List Int) (N v c : Int) : Option (List Int × Int) := bits_add.l0 70 l N v c
set_option maxHeartbeats 2000000 in
set_option maxRecDepth 100000 in
theorem bits_add.calls (B g : Nat) (w0 : World) (v0 : Value) (l0 : List Int) (a0 : Int) (a1 : Int) (a2 : Int) (r1 : List Int) (r2 : Int) (w : World) (ho : Kd.R (Kd.int .u8) 5 w B (fun _ => True) v0 l0) (hg : w.heap[g]? = some (.cells #[v0, .int .i64 a0] 99 (0, 0))) (hgB : B ≤ g) (hB : Below B w0 w) (h : bits_add.f l0 a0 a1 a2 = some (r1, r2)) :
    Calls Tryd.prog 115 #[.pointer (some ⟨g, 0, none⟩), .int .u64 a1, .int .i64 a2] w fun e w' => ∃ v' : Value, e = .returned (.tuple #[]) ∧ w'.heap[g]? = some (.cells #[v', .int .i64 r2] 99 (0, 0)) ∧ Kd.R (Kd.int .u8) 5 w' B (fun _ => True) v' r1 ∧ Below B w0 w' ∧ KeepT g w w' := by
  have HO := Aside0.mk ho
  have BK := Aside0.mk hg
  have HB := Aside0.mk hB
  have HGB := Aside0.mk hgB
  have HKT : Aside0 (KeepT g w w) := ⟨fun _ _ _ _ _ h => h⟩
  have H' : Aside0 (bits_add.l0 70 l0 a0 a1 a2 = some (r1, r2)) := ⟨h⟩
  clear ho hg hB hgB h
  go_enter Tryd.func115, Tryd.ntmps115
  go_wp2_with (fail)
  go_loopg [2] 70 (fun kq v2 w' => ∃ (l : List Int) (N c : Int) (u : Value), v2 = .int .i64 c ∧ Aside0 (bits_add.l0 kq l N a1 c = some (r1, r2)) ∧ Aside0 (kq ≤ 70) ∧ Aside0 (Kd.R (Kd.int .u8) 5 w' B (fun _ => True) u l) ∧ Aside0 (w'.heap[g]? = some (.cells #[u, .int .i64 N] 99 (0, 0))) ∧ Aside0 (Below B w0 w') ∧ Aside0 (KeepT g w w'))
  case atStart => exact ⟨l0, a0, a2, v0, rfl, H', ⟨Nat.le_refl _⟩, HO, BK, HB, HKT⟩
  case round =>
    clear H' HO BK HB HKT
    obtain ⟨l, N, c, u, rfl, HA, HK, HO, BK, HB, HKT⟩ := hrel
    cases gk with
    | zero => exact absurd HA.out (by simp [bits_add.l0])
    | succ k1 =>
      have H := HA.out
      clear HA
      simp only [bits_add.l0] at H
      by_cases hc : c ≤ 0
      · rw [if_pos hc] at H
        obtain ⟨rfl, rfl⟩ := Prod.mk.inj (Option.some.inj H)
        have hd : decide (0 < c) = false := decide_eq_false (by omega)
        clear H hc
        go_wp2_with (fail)
        refine bodyPost_end (results_none rfl _ _ _) rfl ?_
        exact ⟨u, rfl, BK.out, HO.out, HB.out, HKT.out⟩
      · rw [if_neg hc] at H
        split at H
        case isFalse => cases H
        case isTrue hg =>
        have HA := Aside0.mk H
        clear H
        obtain ⟨hN0, hN8, hN7, hl9, hc9⟩ := hg
        have hd : decide (0 < c) = true := decide_eq_true (by omega)
        have hm : Int.tmod N 8 = N % 8 := Int.tmod_eq_emod_of_nonneg hN0
        obtain ⟨m, hm'⟩ : ∃ m, N % 8 = m := ⟨_, rfl⟩
        rw [hm'] at hm
        have HM := Aside0.mk hm'
        have hz0 : wr.cell? ⟨g, 0, none⟩ = some u := blk_cell BK.out 0
        have hz1 : wr.cell? ⟨g, 1, none⟩ = some (.int .i64 N) := blk_cell BK.out 1
        have hf0 := blk_frozen BK.out 0
        have hf1 := blk_frozen BK.out 1
        have HN := Aside0.mk (And.intro hN0 (And.intro hN8 (And.intro hN7 (And.intro hl9 hc9))))
        clear hN0 hN8 hN7 hl9 hc9 hm'
        go_upto_if 16 with (fail)
        go_cut [] (fun wc => ∃ (v : Value), Aside0 (Kd.R (Kd.int .u8) 5 wc B (fun _ => True) v (addL l N)) ∧ Aside0 (wc.heap[g]? = some (.cells #[v, .int .i64 N] 99 (0, 0))) ∧ Aside0 (Below B w0 wc) ∧ Aside0 (KeepT g w wc))
        case first =>
          by_cases h0 : m = 0
          · have hb0 : (m == 0) = true := beq_iff_eq.2 h0
            have HAL : Aside0 (addL l N = l ++ [0]) := ⟨by unfold addL; rw [HM.out, if_pos h0]⟩
            clear h0
            go_wp2_with (first | ((with_reducible refine gate_builtin (b := .append) (xs := #[.tmp 21, .tmp 22]) rfl ?_); at_builtin; refine Kd.R_append (Kd.int .u8) (w0 := w0) B rfl (.tmp 21) (.tmp 22) 22 5 (.int .u8 0) 1 rfl Tryd.underlying22 infoU8 rfl (by decide) (by omega) u l 0 [.int .u8 0] (fun _ => True) (fun _ => False) rfl rfl ?aP (fun _ hk => hk.elim) ?aF ?aO ?aB ?aS ?aL ?_; (case aP => exact rfl); (case aB => exact (by repeat (first | (with_reducible first | exact HB.out | apply below_alloc | apply pw_below_drewN | apply below_drew1) | exact HB.out))); (case aF => exact (fun _ _ => trivial)); (case aO => exact (by (with_reducible repeat (first | apply Kd.R_alloc | apply Kd.R_drewN | apply Kd.R_drew)); exact HO.out)); (case aS => exact (by have h_ := HGB.out; have h2_ := blk_lt BK.out; simp; omega)); (case aL => have := HN.out; omega); intro v4 w4 ho hb hg hat; have n0_ := Aside0.mk (blk_grown (g := g) (o := .cells #[u, .int .i64 N] 99 (0, 0)) (by (with_reducible repeat (first | refine blk_drewN ?_ _ | refine blk_drew ?_ | refine blk_alloc ?_ _)); exact BK.out) hg (Kd.R_ne HO.out BK.out (by decide))); have n2_ := Aside0.mk (hb); have n3_ := Aside0.mk (ho); have n4_ : Aside0 (KeepT g w w4) := ⟨fun q cs t hq ht hh => have h_ := HKT.out q cs t hq ht hh; blk_grown (by (with_reducible repeat (first | refine blk_drewN ?_ _ | refine blk_drew ?_ | refine blk_alloc ?_ _)); exact h_) hg (Kd.R_ne HO.out h_ ht)⟩; clear BK; clear HB; clear HO; clear HKT; have HKT := n4_; clear n4_; have BK := n0_; have HB := n2_; have HO := n3_; clear n0_ n2_ n3_; clear ho hb hg hat; have hz0 := blk_cell BK.out 0; have hz1 : w4.cell? ⟨g, 1, none⟩ = some (.int .i64 N) := blk_cell BK.out 1; have hf0 := blk_frozen BK.out 0; have hf1 := blk_frozen BK.out 1; obtain ⟨A4, c4, e4⟩ := Kd.R_slice HO.out; subst e4))
            go_meet
            case rel => 
              have HO1 := HO.out
              rw [show (l ++ [(0 : Int)]).length = l.length + 1 by simp] at HO1
              refine ⟨.slice A4 (l.length + 1) c4, ⟨?_⟩, ⟨?_⟩, ⟨?_⟩, ⟨?_⟩⟩
              · rw [HAL.out]
                exact Kd.R_mono (Kd.R_far (p := ⟨g, 0, none⟩) (Kd.R_types HO1 BK.out (by decide)) (fun _ hk => hk.2) (.slice A4 (l.length + 1) c4)) (fun _ _ => trivial)
              · exact blk_put (cs := #[u, .int .i64 N]) BK.out 0 (.slice A4 (l.length + 1) c4) rfl
              · exact HB.out.setCell HGB.out _
              · exact fun q cs t hq ht hh => blk_far (p := ⟨g, 0, none⟩) (HKT.out q cs t hq ht hh) hq _
          · have hb0 : (m == 0) = false := beq_eq_false_iff_ne.2 h0
            have HAL : Aside0 (addL l N = l) := ⟨by unfold addL; rw [HM.out, if_neg h0]⟩
            clear h0
            go_wp2_with (fail)
            go_meet
            case rel => exact ⟨u, ⟨by rw [HAL.out]; exact HO.out⟩, BK, HB, HKT⟩
        case rest =>
          clear HO BK HB HKT hz0 hz1 hf0 hf1
          obtain ⟨v, HO, BK, HB, HKT⟩ := hcut
          have hpos : 0 < (addL l N).length := by have := HM.out; have := HN.out; unfold addL; split <;> simp <;> omega
          have HS : Aside0 (addS l N a1 c = (addL l N).set ((addL l N).length - 1) (addB N a1 c ((addL l N).getD ((addL l N).length - 1) 0))) := ⟨rfl⟩
          have HX : Aside0 ((addL l N).length ≤ 1000000000) := ⟨by have := HN.out; unfold addL; split <;> simp <;> omega⟩
          generalize addL l N = L at HO hpos HS HX
          obtain ⟨go, co, eo, gb, gl, cl, HGr⟩ := Kd.R_form HO.out hpos
          subst eo
          have hz0 : wc.cell? ⟨g, 0, none⟩ = some (.slice (some ⟨go, 0, none⟩) L.length co) := blk_cell BK.out 0
          have hz1 : wc.cell? ⟨g, 1, none⟩ = some (.int .i64 N) := blk_cell BK.out 1
          have hf0 := blk_frozen BK.out 0
          have hf1 := blk_frozen BK.out 1
          obtain ⟨F, hF⟩ : ∃ F, 8 - m = F := ⟨_, rfl⟩
          have hFw : IntKind.i64.wrap (8 - m) = F := by rw [i64_w, hF]; have := HM.out; exact w64 (by omega) (by omega)
          obtain ⟨T, hT⟩ : ∃ T, (if c < F then c else F) = T := ⟨_, rfl⟩
          have HT : Aside0 (addT N c = T ∧ 0 < T ∧ T ≤ F ∧ T ≤ c ∧ F ≤ 8 ∧ 8 - m = F) := ⟨by have := HM.out; unfold addT; rw [HM.out, hF]; refine ⟨hT, ?_⟩; rw [← hT]; split <;> omega⟩
          obtain ⟨Z, hZ⟩ : ∃ Z, c - T = Z := ⟨_, rfl⟩
          obtain ⟨G, hG⟩ : ∃ G, F - T = G := ⟨_, rfl⟩
          have hb := HN.out
          have hb' := HT.out
          have hm8 := HM.out
          have hZw : IntKind.i64.wrap (c - T) = Z := by rw [i64_w, hZ]; exact w64 (by omega) (by omega)
          have hGw : IntKind.i64.wrap (F - T) = G := by rw [i64_w, hG]; exact w64 (by omega) (by omega)
          have hNw : IntKind.i64.wrap (N + T) = N + T := by rw [i64_w]; exact w64 (by omega) (by omega)
          have hLw : IntKind.i64.wrap ((L.length : Int) - 1) = (L.length : Int) - 1 := by have := HX.out; rw [i64_w]; exact w64 (by omega) (by omega)
          have hZ0 := eq_true (show 0 ≤ Z by omega)
          have hT0 := eq_true (show 0 ≤ T by omega)
          have hG0 := eq_true (show 0 ≤ G by omega)
          obtain ⟨S1, hS1⟩ : ∃ S, shr .u64 a1 Z = S := ⟨_, rfl⟩
          have hS1_ : a1 / 2 ^ min Z.toNat 64 = S1 := hS1
          have hS1z := shr_small (k := .u64) hS1
          obtain ⟨S2, hS2⟩ : ∃ S, shl .u64 1 T = S := ⟨_, rfl⟩
          have hS2u : IntKind.u64.wrap (2 ^ min T.toNat 64) = S2 := by have h_ : IntKind.u64.wrap (1 * 2 ^ min T.toNat 64) = S2 := hS2; rw [Int.one_mul] at h_; exact h_
          have hS2v : T ≤ 64 → IntKind.u64.wrap (2 ^ T.toNat) = S2 := fun hle_ => by have h_ := shl_small (k := .u64) hS2 hle_; rw [Int.one_mul] at h_; exact h_
          obtain ⟨Pp, hP⟩ : ∃ Pp, Go.bits .and .u64 S1 (IntKind.u64.wrap (S2 - 1)) % 256 = Pp := ⟨_, rfl⟩
          have HP : Aside0 (addP N a1 c = Pp) := ⟨by unfold addP; rw [hb'.1, hZ, hS1, hS2, hP]⟩
          obtain ⟨S3, hS3⟩ : ∃ S, shl .u8 Pp G = S := ⟨_, rfl⟩
          have hS3_ : IntKind.u8.wrap (Pp * 2 ^ min G.toNat 8) = S3 := hS3
          have hS3z := shl_small (k := .u8) hS3
          have HBB : Aside0 (∀ b, addB N a1 c b = Go.bits .or .u8 b S3) := ⟨fun b => by unfold addB; rw [HP.out, hb'.1, hm8, hb'.2.2.2.2.2, hG, hS3]⟩
          have HZG : Aside0 (c - T = Z ∧ F - T = G) := ⟨hZ, hG⟩
          clear hF hZ hG hS1 hS2 hS3 hb hb' hm8
          go_wp2_with (fail)
          go_quiet (fail)
          go_wp2_with (fail)
          have BK2 := Aside0.mk (blk_drewN BK.out nq)
          have HO2 := Aside0.mk (Kd.R_drewN HO.out nq)
          have HB2 := Aside0.mk (pw_below_drewN HB.out nq)
          have HKT2 : Aside0 (KeepT g w (wc.drewN nq)) := ⟨fun q cs t hq ht hh => blk_drewN (HKT.out q cs t hq ht hh) nq⟩
          clear HKT BK HO HB HGr hz0 hz1 hf0 hf1 gl
          generalize wc.drewN nq = W2 at BK2 HO2 HB2 HKT2 ⊢
          have hz0 : W2.cell? ⟨g, 0, none⟩ = some (.slice (some ⟨go, 0, none⟩) L.length co) := blk_cell BK2.out 0
          have hz1 : W2.cell? ⟨g, 1, none⟩ = some (.int .i64 N) := blk_cell BK2.out 1
          have hf0 := blk_frozen BK2.out 0
          have hf1 := blk_frozen BK2.out 1
          obtain ⟨I, hI⟩ : ∃ I : Int, (L.length : Int) - 1 = I := ⟨_, rfl⟩
          have hLw' : IntKind.i64.wrap ((L.length : Int) - 1) = I := hLw.trans hI
          clear hLw
          have hI0 := eq_true (show 0 ≤ I by omega)
          have hI1 := eq_true (show I < (L.length : Int) by omega)
          have HII := Aside0.mk hI
          obtain ⟨hx0, hxf⟩ := Kd.R_celln 0 HO2.out I (by omega) (by omega)
          have HQ := Aside0.mk (Kd.R_putn HO2.out I (Go.bits .or .u8 (rd L I) S3))
          rw [show rdOf 0 L I = rd L I from rfl] at hx0
          clear hI
          go_region
          have hgo : g ≠ go := fun e => Kd.R_ne HO2.out BK2.out (by decide) (by rw [e]; rfl)
          have HO3 := Aside0.mk (Kd.R_drew HQ.out)
          have BK3 := Aside0.mk (blk_drew (blk_far (p := ⟨go, I.toNat, none⟩) BK2.out hgo (Value.int .u8 (Go.bits .or .u8 (rd L I) S3))))
          have HB3 := Aside0.mk (below_drew1 (HB2.out.setCell (p := ⟨go, I.toNat, none⟩) gb (Value.int .u8 (Go.bits .or .u8 (rd L I) S3))))
          have HKT3 : Aside0 (KeepT g w (W2.setCell ⟨go, I.toNat, none⟩ (Value.int .u8 (Go.bits .or .u8 (rd L I) S3))).drew) := ⟨fun q cs t hq ht hh => have h_ := HKT2.out q cs t hq ht hh; blk_drew (blk_far (p := ⟨go, I.toNat, none⟩) h_ (fun e => Kd.R_ne HO2.out h_ ht (by rw [e]; rfl)) _)⟩
          clear hz0 hz1 hf0 hf1 hx0 hxf HQ HO2 BK2 HB2 HKT2
          generalize (W2.setCell ⟨go, I.toNat, none⟩ (Value.int .u8 (Go.bits .or .u8 (rd L I) S3))).drew = W3 at HO3 BK3 HB3 HKT3 ⊢
          have hz1 : W3.cell? ⟨g, 1, none⟩ = some (.int .i64 N) := blk_cell BK3.out 1
          have hf1 := blk_frozen BK3.out 1
          go_wp2_with (fail)
          go_roundg k1
          case measure => have := HK.out; omega
          case rel =>
            have ht := HT.out.1
            refine ⟨L.set I.toNat (Go.bits .or .u8 (rd L I) S3), N + T, c - T, .slice (some ⟨go, 0, none⟩) L.length co, by rw [HZG.out.1], ⟨?_⟩, ⟨by have := HK.out; omega⟩, ⟨?_⟩, ⟨?_⟩, ⟨?_⟩, ⟨?_⟩⟩
            · have h_ := HA.out
              rw [ht, HS.out, HBB.out] at h_
              have e1 : I.toNat = L.length - 1 := by have := HII.out; omega
              rw [show rd L I = L.getD (L.length - 1) 0 by unfold rd; rw [e1], e1]
              exact h_
            · exact Kd.R_mono (Kd.R_far (p := ⟨g, 1, none⟩) (Kd.R_types HO3.out BK3.out (by decide)) (fun _ hk => hk.2) (.int .i64 (N + T))) (fun _ _ => trivial)
            · exact blk_put (cs := #[.slice (some ⟨go, 0, none⟩) L.length co, .int .i64 N]) BK3.out 1 (.int .i64 (N + T)) rfl
            · exact HB3.out.setCell HGB.out _
            · exact fun q cs t hq ht hh => blk_far (p := ⟨g, 1, none⟩) (HKT3.out q cs t hq ht hh) hq _
end Go.Proofs.YtbgmnmjokdfmlaaDoor.PA
namespace Go.Proofs.YtbgmnmjokdfmlaaDoor.PA
open Go.RowKit Go.Proofs.YtbgmnmjokdfmlaaDoorW.PrintWords Go.Proofs.YtbgmnmjokdfmlaaDoorW.PrintLast Go.Proofs.YtbgmnmjokdfmlaaDoorW.PrintMore
attribute [local go_sem] max2_int min2_int max_two min_two max_three min_three max_four min_four   -- for this text's walks alone
set_option linter.unusedVariables false
set_option linter.unusedSimpArgs false
def bits_Can.f (l0_0 : List Int) (a0_1 : Int) : Option (Bool) := if a0_1 < 0 then (some false) else (if a0_1 > (wrap64 (8 * (l0_0.length : Int))) then (some false) else (if (wrap64 ((wrap64 (8 * (l0_0.length : Int))) - a0_1)) > 7 then (some false) else (if (wrap64 ((wrap64 (8 * (l0_0.length : Int))) - a0_1)) = 0 then (some true) else (if 0 ≤ (wrap64 ((l0_0.length : Int) - 1)) then (if (wrap64 ((l0_0.length : Int) - 1)) < (l0_0.length : Int) then (if 0 ≤ (wrap64 ((wrap64 (8 * (l0_0.length : Int))) - a0_1)) then (some ((Go.bits .and .u8 (rd l0_0 (wrap64 ((l0_0.length : Int) - 1))) (((shl .u8 1 (wrap64 ((wrap64 (8 * (l0_0.length : Int))) - a0_1))) - 1) % 256)) == 0)) else (none)) else (none)) else (none)))))
set_option maxHeartbeats 8000000 in
set_option maxRecDepth 100000 in
theorem bits_Can.calls (A0_0 : Option Addr) (c0_0 : Nat) (l0_0 : List Int) (a0_1 : Int) (r : Bool) (w : World) (hr0_0 : Kd.C (Kd.int .u8) w A0_0 l0_0.length l0_0) (hc0_0 : l0_0.length ≤ c0_0) (h : bits_Can.f l0_0 a0_1 = some r) :
    Calls Tryd.prog 113 #[.agg #[.slice A0_0 l0_0.length c0_0, .int .i64 a0_1]] w fun e w' => e = .returned (.bool r) ∧ Below w.heap.size w w' := by
  have hu99 := Tryd.underlying99
  have HR0_0 := Aside0.mk hr0_0
  have HC0_0 := Aside0.mk hc0_0
  clear hr0_0 hc0_0
  have HB := Aside0.mk (Below.refl w.heap.size w)
  have H : (if a0_1 < 0 then (some false) else (if a0_1 > (wrap64 (8 * (l0_0.length : Int))) then (some false) else (if (wrap64 ((wrap64 (8 * (l0_0.length : Int))) - a0_1)) > 7 then (some false) else (if (wrap64 ((wrap64 (8 * (l0_0.length : Int))) - a0_1)) = 0 then (some true) else (if 0 ≤ (wrap64 ((l0_0.length : Int) - 1)) then (if (wrap64 ((l0_0.length : Int) - 1)) < (l0_0.length : Int) then (if 0 ≤ (wrap64 ((wrap64 (8 * (l0_0.length : Int))) - a0_1)) then (some ((Go.bits .and .u8 (rd l0_0 (wrap64 ((l0_0.length : Int) - 1))) (((shl .u8 1 (wrap64 ((wrap64 (8 * (l0_0.length : Int))) - a0_1))) - 1) % 256)) == 0)) else (none)) else (none)) else (none)))))) = some r := h
  clear h
  by_cases c2 : a0_1 < 0
  · rw [if_pos c2] at H
    have c2b0 : decide (a0_1 < 0) = true := decide_eq_true c2
    clear c2
    obtain rfl := Option.some.inj H
    go_enter Tryd.func113, Tryd.ntmps113
    go_wp2_with (first | ((with_reducible refine gate_dst (N := 1) rfl ?_); (try (refine gate_guard (by rfl) ?_; dsimp only)); refine box_event ?hg (N := 1) ?hd (cs := #[.slice A0_0 l0_0.length c0_0, .int .i64 a0_1]) (t := 99) ?hr ?_; (case hd => rfl); (case hg => rfl); (case hr => first | (go_simp; done) | (go_simp; rfl)); intro gb113 hg w3 hbox hb; have n0_ := Aside0.mk (below_step (by repeat (first | (with_reducible first | exact HB.out | apply below_alloc | apply pw_below_drewN | apply below_drew1) | exact HB.out)) hb); have n1_ := Aside0.mk (hbox); have n2_ := Aside0.mk ((by rw [hg]; exact (below_size (by repeat (first | (with_reducible first | exact HB.out | apply below_alloc | apply pw_below_drewN | apply below_drew1) | exact HB.out))) : w.heap.size ≤ gb113)); have n3_ := Aside0.mk ((by rw [hg]; exact (below_size (by repeat (first | (with_reducible first | exact HB.out | apply below_alloc | apply pw_below_drewN | apply below_drew1) | exact HB.out))) : w.heap.size ≤ gb113)); clear HB; have HB := n0_; have BK113 := n1_; have GW113 := n2_; have GE113 := n3_; clear n0_ n1_ n2_ n3_; clear hb hbox hg; have hcz4_0 : w3.cell? ⟨gb113, 0, none⟩ = some (.slice A0_0 l0_0.length c0_0) := (blk_cell BK113.out 0).trans rfl; have hcz4_1 : w3.cell? ⟨gb113, 1, none⟩ = some (.int .i64 a0_1) := (blk_cell BK113.out 1).trans rfl; have hfz4_0 := blk_frozen BK113.out 0; have hfz4_1 := blk_frozen BK113.out 1))
    repeat (go_quiet (first | ((with_reducible refine gate_dst (N := 1) rfl ?_); (try (refine gate_guard (by rfl) ?_; dsimp only)); refine box_event ?hg (N := 1) ?hd (cs := #[.slice A0_0 l0_0.length c0_0, .int .i64 a0_1]) (t := 99) ?hr ?_; (case hd => rfl); (case hg => rfl); (case hr => first | (go_simp; done) | (go_simp; rfl)); intro gb113 hg w3 hbox hb; have n0_ := Aside0.mk (below_step (by repeat (first | (with_reducible first | exact HB.out | apply below_alloc | apply pw_below_drewN | apply below_drew1) | exact HB.out)) hb); have n1_ := Aside0.mk (hbox); have n2_ := Aside0.mk ((by rw [hg]; exact (below_size (by repeat (first | (with_reducible first | exact HB.out | apply below_alloc | apply pw_below_drewN | apply below_drew1) | exact HB.out))) : w.heap.size ≤ gb113)); have n3_ := Aside0.mk ((by rw [hg]; exact (below_size (by repeat (first | (with_reducible first | exact HB.out | apply below_alloc | apply pw_below_drewN | apply below_drew1) | exact HB.out))) : w.heap.size ≤ gb113)); clear HB; have HB := n0_; have BK113 := n1_; have GW113 := n2_; have GE113 := n3_; clear n0_ n1_ n2_ n3_; clear hb hbox hg; have hcz4_0 : w3.cell? ⟨gb113, 0, none⟩ = some (.slice A0_0 l0_0.length c0_0) := (blk_cell BK113.out 0).trans rfl; have hcz4_1 : w3.cell? ⟨gb113, 1, none⟩ = some (.int .i64 a0_1) := (blk_cell BK113.out 1).trans rfl; have hfz4_0 := blk_frozen BK113.out 0; have hfz4_1 := blk_frozen BK113.out 1)); try go_wp2_with (first | ((with_reducible refine gate_dst (N := 1) rfl ?_); (try (refine gate_guard (by rfl) ?_; dsimp only)); refine box_event ?hg (N := 1) ?hd (cs := #[.slice A0_0 l0_0.length c0_0, .int .i64 a0_1]) (t := 99) ?hr ?_; (case hd => rfl); (case hg => rfl); (case hr => first | (go_simp; done) | (go_simp; rfl)); intro gb113 hg w3 hbox hb; have n0_ := Aside0.mk (below_step (by repeat (first | (with_reducible first | exact HB.out | apply below_alloc | apply pw_below_drewN | apply below_drew1) | exact HB.out)) hb); have n1_ := Aside0.mk (hbox); have n2_ := Aside0.mk ((by rw [hg]; exact (below_size (by repeat (first | (with_reducible first | exact HB.out | apply below_alloc | apply pw_below_drewN | apply below_drew1) | exact HB.out))) : w.heap.size ≤ gb113)); have n3_ := Aside0.mk ((by rw [hg]; exact (below_size (by repeat (first | (with_reducible first | exact HB.out | apply below_alloc | apply pw_below_drewN | apply below_drew1) | exact HB.out))) : w.heap.size ≤ gb113)); clear HB; have HB := n0_; have BK113 := n1_; have GW113 := n2_; have GE113 := n3_; clear n0_ n1_ n2_ n3_; clear hb hbox hg; have hcz4_0 : w3.cell? ⟨gb113, 0, none⟩ = some (.slice A0_0 l0_0.length c0_0) := (blk_cell BK113.out 0).trans rfl; have hcz4_1 : w3.cell? ⟨gb113, 1, none⟩ = some (.int .i64 a0_1) := (blk_cell BK113.out 1).trans rfl; have hfz4_0 := blk_frozen BK113.out 0; have hfz4_1 := blk_frozen BK113.out 1)))
    go_ret
    exact ⟨by first | rfl | (simp [errW_none, errW_some] <;> rfl) | (simp [*, errW_none, errW_some] <;> rfl), by repeat (first | (with_reducible first | exact HB.out | apply below_alloc | apply pw_below_drewN | apply below_drew1 | refine below_set ?_ GE113.out) | exact HB.out)⟩
  · rw [if_neg c2] at H
    have c2b0 : decide (a0_1 < 0) = false := decide_eq_false c2
    clear c2
    by_cases c5 : a0_1 > (wrap64 (8 * (l0_0.length : Int)))
    · rw [if_pos c5] at H
      have c5b0 : decide ((wrap64 (8 * (l0_0.length : Int))) < a0_1) = true := decide_eq_true c5
      clear c5
      obtain rfl := Option.some.inj H
      go_enter Tryd.func113, Tryd.ntmps113
      go_wp2_with (first | ((with_reducible refine gate_dst (N := 1) rfl ?_); (try (refine gate_guard (by rfl) ?_; dsimp only)); refine box_event ?hg (N := 1) ?hd (cs := #[.slice A0_0 l0_0.length c0_0, .int .i64 a0_1]) (t := 99) ?hr ?_; (case hd => rfl); (case hg => rfl); (case hr => first | (go_simp; done) | (go_simp; rfl)); intro gb113 hg w6 hbox hb; have n0_ := Aside0.mk (below_step (by repeat (first | (with_reducible first | exact HB.out | apply below_alloc | apply pw_below_drewN | apply below_drew1) | exact HB.out)) hb); have n1_ := Aside0.mk (hbox); have n2_ := Aside0.mk ((by rw [hg]; exact (below_size (by repeat (first | (with_reducible first | exact HB.out | apply below_alloc | apply pw_below_drewN | apply below_drew1) | exact HB.out))) : w.heap.size ≤ gb113)); have n3_ := Aside0.mk ((by rw [hg]; exact (below_size (by repeat (first | (with_reducible first | exact HB.out | apply below_alloc | apply pw_below_drewN | apply below_drew1) | exact HB.out))) : w.heap.size ≤ gb113)); clear HB; have HB := n0_; have BK113 := n1_; have GW113 := n2_; have GE113 := n3_; clear n0_ n1_ n2_ n3_; clear hb hbox hg; have hcz7_0 : w6.cell? ⟨gb113, 0, none⟩ = some (.slice A0_0 l0_0.length c0_0) := (blk_cell BK113.out 0).trans rfl; have hcz7_1 : w6.cell? ⟨gb113, 1, none⟩ = some (.int .i64 a0_1) := (blk_cell BK113.out 1).trans rfl; have hfz7_0 := blk_frozen BK113.out 0; have hfz7_1 := blk_frozen BK113.out 1))
      repeat (go_quiet (first | ((with_reducible refine gate_dst (N := 1) rfl ?_); (try (refine gate_guard (by rfl) ?_; dsimp only)); refine box_event ?hg (N := 1) ?hd (cs := #[.slice A0_0 l0_0.length c0_0, .int .i64 a0_1]) (t := 99) ?hr ?_; (case hd => rfl); (case hg => rfl); (case hr => first | (go_simp; done) | (go_simp; rfl)); intro gb113 hg w6 hbox hb; have n0_ := Aside0.mk (below_step (by repeat (first | (with_reducible first | exact HB.out | apply below_alloc | apply pw_below_drewN | apply below_drew1) | exact HB.out)) hb); have n1_ := Aside0.mk (hbox); have n2_ := Aside0.mk ((by rw [hg]; exact (below_size (by repeat (first | (with_reducible first | exact HB.out | apply below_alloc | apply pw_below_drewN | apply below_drew1) | exact HB.out))) : w.heap.size ≤ gb113)); have n3_ := Aside0.mk ((by rw [hg]; exact (below_size (by repeat (first | (with_reducible first | exact HB.out | apply below_alloc | apply pw_below_drewN | apply below_drew1) | exact HB.out))) : w.heap.size ≤ gb113)); clear HB; have HB := n0_; have BK113 := n1_; have GW113 := n2_; have GE113 := n3_; clear n0_ n1_ n2_ n3_; clear hb hbox hg; have hcz7_0 : w6.cell? ⟨gb113, 0, none⟩ = some (.slice A0_0 l0_0.length c0_0) := (blk_cell BK113.out 0).trans rfl; have hcz7_1 : w6.cell? ⟨gb113, 1, none⟩ = some (.int .i64 a0_1) := (blk_cell BK113.out 1).trans rfl; have hfz7_0 := blk_frozen BK113.out 0; have hfz7_1 := blk_frozen BK113.out 1)); try go_wp2_with (first | ((with_reducible refine gate_dst (N := 1) rfl ?_); (try (refine gate_guard (by rfl) ?_; dsimp only)); refine box_event ?hg (N := 1) ?hd (cs := #[.slice A0_0 l0_0.length c0_0, .int .i64 a0_1]) (t := 99) ?hr ?_; (case hd => rfl); (case hg => rfl); (case hr => first | (go_simp; done) | (go_simp; rfl)); intro gb113 hg w6 hbox hb; have n0_ := Aside0.mk (below_step (by repeat (first | (with_reducible first | exact HB.out | apply below_alloc | apply pw_below_drewN | apply below_drew1) | exact HB.out)) hb); have n1_ := Aside0.mk (hbox); have n2_ := Aside0.mk ((by rw [hg]; exact (below_size (by repeat (first | (with_reducible first | exact HB.out | apply below_alloc | apply pw_below_drewN | apply below_drew1) | exact HB.out))) : w.heap.size ≤ gb113)); have n3_ := Aside0.mk ((by rw [hg]; exact (below_size (by repeat (first | (with_reducible first | exact HB.out | apply below_alloc | apply pw_below_drewN | apply below_drew1) | exact HB.out))) : w.heap.size ≤ gb113)); clear HB; have HB := n0_; have BK113 := n1_; have GW113 := n2_; have GE113 := n3_; clear n0_ n1_ n2_ n3_; clear hb hbox hg; have hcz7_0 : w6.cell? ⟨gb113, 0, none⟩ = some (.slice A0_0 l0_0.length c0_0) := (blk_cell BK113.out 0).trans rfl; have hcz7_1 : w6.cell? ⟨gb113, 1, none⟩ = some (.int .i64 a0_1) := (blk_cell BK113.out 1).trans rfl; have hfz7_0 := blk_frozen BK113.out 0; have hfz7_1 := blk_frozen BK113.out 1)))
      go_ret
      exact ⟨by first | rfl | (simp [errW_none, errW_some] <;> rfl) | (simp [*, errW_none, errW_some] <;> rfl), by repeat (first | (with_reducible first | exact HB.out | apply below_alloc | apply pw_below_drewN | apply below_drew1 | refine below_set ?_ GE113.out) | exact HB.out)⟩
    · rw [if_neg c5] at H
      have c5b0 : decide ((wrap64 (8 * (l0_0.length : Int))) < a0_1) = false := decide_eq_false c5
      clear c5
      by_cases c8 : (wrap64 ((wrap64 (8 * (l0_0.length : Int))) - a0_1)) > 7
      · rw [if_pos c8] at H
        have c8b0 : decide (7 < (wrap64 ((wrap64 (8 * (l0_0.length : Int))) - a0_1))) = true := decide_eq_true c8
        clear c8
        obtain rfl := Option.some.inj H
        go_enter Tryd.func113, Tryd.ntmps113
        go_wp2_with (first | ((with_reducible refine gate_dst (N := 1) rfl ?_); (try (refine gate_guard (by rfl) ?_; dsimp only)); refine box_event ?hg (N := 1) ?hd (cs := #[.slice A0_0 l0_0.length c0_0, .int .i64 a0_1]) (t := 99) ?hr ?_; (case hd => rfl); (case hg => rfl); (case hr => first | (go_simp; done) | (go_simp; rfl)); intro gb113 hg w9 hbox hb; have n0_ := Aside0.mk (below_step (by repeat (first | (with_reducible first | exact HB.out | apply below_alloc | apply pw_below_drewN | apply below_drew1) | exact HB.out)) hb); have n1_ := Aside0.mk (hbox); have n2_ := Aside0.mk ((by rw [hg]; exact (below_size (by repeat (first | (with_reducible first | exact HB.out | apply below_alloc | apply pw_below_drewN | apply below_drew1) | exact HB.out))) : w.heap.size ≤ gb113)); have n3_ := Aside0.mk ((by rw [hg]; exact (below_size (by repeat (first | (with_reducible first | exact HB.out | apply below_alloc | apply pw_below_drewN | apply below_drew1) | exact HB.out))) : w.heap.size ≤ gb113)); clear HB; have HB := n0_; have BK113 := n1_; have GW113 := n2_; have GE113 := n3_; clear n0_ n1_ n2_ n3_; clear hb hbox hg; have hcz10_0 : w9.cell? ⟨gb113, 0, none⟩ = some (.slice A0_0 l0_0.length c0_0) := (blk_cell BK113.out 0).trans rfl; have hcz10_1 : w9.cell? ⟨gb113, 1, none⟩ = some (.int .i64 a0_1) := (blk_cell BK113.out 1).trans rfl; have hfz10_0 := blk_frozen BK113.out 0; have hfz10_1 := blk_frozen BK113.out 1))
        repeat (go_quiet (first | ((with_reducible refine gate_dst (N := 1) rfl ?_); (try (refine gate_guard (by rfl) ?_; dsimp only)); refine box_event ?hg (N := 1) ?hd (cs := #[.slice A0_0 l0_0.length c0_0, .int .i64 a0_1]) (t := 99) ?hr ?_; (case hd => rfl); (case hg => rfl); (case hr => first | (go_simp; done) | (go_simp; rfl)); intro gb113 hg w9 hbox hb; have n0_ := Aside0.mk (below_step (by repeat (first | (with_reducible first | exact HB.out | apply below_alloc | apply pw_below_drewN | apply below_drew1) | exact HB.out)) hb); have n1_ := Aside0.mk (hbox); have n2_ := Aside0.mk ((by rw [hg]; exact (below_size (by repeat (first | (with_reducible first | exact HB.out | apply below_alloc | apply pw_below_drewN | apply below_drew1) | exact HB.out))) : w.heap.size ≤ gb113)); have n3_ := Aside0.mk ((by rw [hg]; exact (below_size (by repeat (first | (with_reducible first | exact HB.out | apply below_alloc | apply pw_below_drewN | apply below_drew1) | exact HB.out))) : w.heap.size ≤ gb113)); clear HB; have HB := n0_; have BK113 := n1_; have GW113 := n2_; have GE113 := n3_; clear n0_ n1_ n2_ n3_; clear hb hbox hg; have hcz10_0 : w9.cell? ⟨gb113, 0, none⟩ = some (.slice A0_0 l0_0.length c0_0) := (blk_cell BK113.out 0).trans rfl; have hcz10_1 : w9.cell? ⟨gb113, 1, none⟩ = some (.int .i64 a0_1) := (blk_cell BK113.out 1).trans rfl; have hfz10_0 := blk_frozen BK113.out 0; have hfz10_1 := blk_frozen BK113.out 1)); try go_wp2_with (first | ((with_reducible refine gate_dst (N := 1) rfl ?_); (try (refine gate_guard (by rfl) ?_; dsimp only)); refine box_event ?hg (N := 1) ?hd (cs := #[.slice A0_0 l0_0.length c0_0, .int .i64 a0_1]) (t := 99) ?hr ?_; (case hd => rfl); (case hg => rfl); (case hr => first | (go_simp; done) | (go_simp; rfl)); intro gb113 hg w9 hbox hb; have n0_ := Aside0.mk (below_step (by repeat (first | (with_reducible first | exact HB.out | apply below_alloc | apply pw_below_drewN | apply below_drew1) | exact HB.out)) hb); have n1_ := Aside0.mk (hbox); have n2_ := Aside0.mk ((by rw [hg]; exact (below_size (by repeat (first | (with_reducible first | exact HB.out | apply below_alloc | apply pw_below_drewN | apply below_drew1) | exact HB.out))) : w.heap.size ≤ gb113)); have n3_ := Aside0.mk ((by rw [hg]; exact (below_size (by repeat (first | (with_reducible first | exact HB.out | apply below_alloc | apply pw_below_drewN | apply below_drew1) | exact HB.out))) : w.heap.size ≤ gb113)); clear HB; have HB := n0_; have BK113 := n1_; have GW113 := n2_; have GE113 := n3_; clear n0_ n1_ n2_ n3_; clear hb hbox hg; have hcz10_0 : w9.cell? ⟨gb113, 0, none⟩ = some (.slice A0_0 l0_0.length c0_0) := (blk_cell BK113.out 0).trans rfl; have hcz10_1 : w9.cell? ⟨gb113, 1, none⟩ = some (.int .i64 a0_1) := (blk_cell BK113.out 1).trans rfl; have hfz10_0 := blk_frozen BK113.out 0; have hfz10_1 := blk_frozen BK113.out 1)))
        go_ret
        exact ⟨by first | rfl | (simp [errW_none, errW_some] <;> rfl) | (simp [*, errW_none, errW_some] <;> rfl), by repeat (first | (with_reducible first | exact HB.out | apply below_alloc | apply pw_below_drewN | apply below_drew1 | refine below_set ?_ GE113.out) | exact HB.out)⟩
      · rw [if_neg c8] at H
        have c8b0 : decide (7 < (wrap64 ((wrap64 (8 * (l0_0.length : Int))) - a0_1))) = false := decide_eq_false c8
        clear c8
        by_cases c11 : (wrap64 ((wrap64 (8 * (l0_0.length : Int))) - a0_1)) = 0
        · rw [if_pos c11] at H
          have c11b0 : ((wrap64 ((wrap64 (8 * (l0_0.length : Int))) - a0_1)) == 0) = true := beq_iff_eq.mpr c11
          have c11b1 : ((wrap64 ((wrap64 (8 * (l0_0.length : Int))) - a0_1)) != 0) = false := bne_eq_false_iff_eq.mpr c11
          clear c11
          obtain rfl := Option.some.inj H
          go_enter Tryd.func113, Tryd.ntmps113
          go_wp2_with (first | ((with_reducible refine gate_dst (N := 1) rfl ?_); (try (refine gate_guard (by rfl) ?_; dsimp only)); refine box_event ?hg (N := 1) ?hd (cs := #[.slice A0_0 l0_0.length c0_0, .int .i64 a0_1]) (t := 99) ?hr ?_; (case hd => rfl); (case hg => rfl); (case hr => first | (go_simp; done) | (go_simp; rfl)); intro gb113 hg w12 hbox hb; have n0_ := Aside0.mk (below_step (by repeat (first | (with_reducible first | exact HB.out | apply below_alloc | apply pw_below_drewN | apply below_drew1) | exact HB.out)) hb); have n1_ := Aside0.mk (hbox); have n2_ := Aside0.mk ((by rw [hg]; exact (below_size (by repeat (first | (with_reducible first | exact HB.out | apply below_alloc | apply pw_below_drewN | apply below_drew1) | exact HB.out))) : w.heap.size ≤ gb113)); have n3_ := Aside0.mk ((by rw [hg]; exact (below_size (by repeat (first | (with_reducible first | exact HB.out | apply below_alloc | apply pw_below_drewN | apply below_drew1) | exact HB.out))) : w.heap.size ≤ gb113)); clear HB; have HB := n0_; have BK113 := n1_; have GW113 := n2_; have GE113 := n3_; clear n0_ n1_ n2_ n3_; clear hb hbox hg; have hcz13_0 : w12.cell? ⟨gb113, 0, none⟩ = some (.slice A0_0 l0_0.length c0_0) := (blk_cell BK113.out 0).trans rfl; have hcz13_1 : w12.cell? ⟨gb113, 1, none⟩ = some (.int .i64 a0_1) := (blk_cell BK113.out 1).trans rfl; have hfz13_0 := blk_frozen BK113.out 0; have hfz13_1 := blk_frozen BK113.out 1))
          repeat (go_quiet (first | ((with_reducible refine gate_dst (N := 1) rfl ?_); (try (refine gate_guard (by rfl) ?_; dsimp only)); refine box_event ?hg (N := 1) ?hd (cs := #[.slice A0_0 l0_0.length c0_0, .int .i64 a0_1]) (t := 99) ?hr ?_; (case hd => rfl); (case hg => rfl); (case hr => first | (go_simp; done) | (go_simp; rfl)); intro gb113 hg w12 hbox hb; have n0_ := Aside0.mk (below_step (by repeat (first | (with_reducible first | exact HB.out | apply below_alloc | apply pw_below_drewN | apply below_drew1) | exact HB.out)) hb); have n1_ := Aside0.mk (hbox); have n2_ := Aside0.mk ((by rw [hg]; exact (below_size (by repeat (first | (with_reducible first | exact HB.out | apply below_alloc | apply pw_below_drewN | apply below_drew1) | exact HB.out))) : w.heap.size ≤ gb113)); have n3_ := Aside0.mk ((by rw [hg]; exact (below_size (by repeat (first | (with_reducible first | exact HB.out | apply below_alloc | apply pw_below_drewN | apply below_drew1) | exact HB.out))) : w.heap.size ≤ gb113)); clear HB; have HB := n0_; have BK113 := n1_; have GW113 := n2_; have GE113 := n3_; clear n0_ n1_ n2_ n3_; clear hb hbox hg; have hcz13_0 : w12.cell? ⟨gb113, 0, none⟩ = some (.slice A0_0 l0_0.length c0_0) := (blk_cell BK113.out 0).trans rfl; have hcz13_1 : w12.cell? ⟨gb113, 1, none⟩ = some (.int .i64 a0_1) := (blk_cell BK113.out 1).trans rfl; have hfz13_0 := blk_frozen BK113.out 0; have hfz13_1 := blk_frozen BK113.out 1)); try go_wp2_with (first | ((with_reducible refine gate_dst (N := 1) rfl ?_); (try (refine gate_guard (by rfl) ?_; dsimp only)); refine box_event ?hg (N := 1) ?hd (cs := #[.slice A0_0 l0_0.length c0_0, .int .i64 a0_1]) (t := 99) ?hr ?_; (case hd => rfl); (case hg => rfl); (case hr => first | (go_simp; done) | (go_simp; rfl)); intro gb113 hg w12 hbox hb; have n0_ := Aside0.mk (below_step (by repeat (first | (with_reducible first | exact HB.out | apply below_alloc | apply pw_below_drewN | apply below_drew1) | exact HB.out)) hb); have n1_ := Aside0.mk (hbox); have n2_ := Aside0.mk ((by rw [hg]; exact (below_size (by repeat (first | (with_reducible first | exact HB.out | apply below_alloc | apply pw_below_drewN | apply below_drew1) | exact HB.out))) : w.heap.size ≤ gb113)); have n3_ := Aside0.mk ((by rw [hg]; exact (below_size (by repeat (first | (with_reducible first | exact HB.out | apply below_alloc | apply pw_below_drewN | apply below_drew1) | exact HB.out))) : w.heap.size ≤ gb113)); clear HB; have HB := n0_; have BK113 := n1_; have GW113 := n2_; have GE113 := n3_; clear n0_ n1_ n2_ n3_; clear hb hbox hg; have hcz13_0 : w12.cell? ⟨gb113, 0, none⟩ = some (.slice A0_0 l0_0.length c0_0) := (blk_cell BK113.out 0).trans rfl; have hcz13_1 : w12.cell? ⟨gb113, 1, none⟩ = some (.int .i64 a0_1) := (blk_cell BK113.out 1).trans rfl; have hfz13_0 := blk_frozen BK113.out 0; have hfz13_1 := blk_frozen BK113.out 1)))
          go_ret
          exact ⟨by first | rfl | (simp [errW_none, errW_some] <;> rfl) | (simp [*, errW_none, errW_some] <;> rfl), by repeat (first | (with_reducible first | exact HB.out | apply below_alloc | apply pw_below_drewN | apply below_drew1 | refine below_set ?_ GE113.out) | exact HB.out)⟩
        · rw [if_neg c11] at H
          have c11b0 : ((wrap64 ((wrap64 (8 * (l0_0.length : Int))) - a0_1)) == 0) = false := beq_eq_false_iff_ne.mpr c11
          have c11b1 : ((wrap64 ((wrap64 (8 * (l0_0.length : Int))) - a0_1)) != 0) = true := bne_iff_ne.mpr c11
          obtain ⟨ji14, hji14⟩ : ∃ j_ : Int, (wrap64 ((l0_0.length : Int) - 1)) = j_ := ⟨_, rfl⟩
          replace H : (if 0 ≤ (ji14) then (if (ji14) < (l0_0.length : Int) then (if 0 ≤ (wrap64 ((wrap64 (8 * (l0_0.length : Int))) - a0_1)) then (some ((Go.bits .and .u8 (rd l0_0 (ji14)) (((shl .u8 1 (wrap64 ((wrap64 (8 * (l0_0.length : Int))) - a0_1))) - 1) % 256)) == 0)) else (none)) else (none)) else (none)) = some r := by first | (rw [hji14] at H; exact H) | (simp only [hji14] at H ⊢; exact H)
          have hji14w : (IntKind.i64.wrap ((l0_0.length : Int) - 1)) = ji14 := (i64_w _).trans hji14
          by_cases c15 : 0 ≤ (ji14)
          · rw [if_pos c15] at H
            have c15b0 : decide (0 ≤ (ji14)) = true := decide_eq_true c15
            clear c15
            by_cases c16 : (ji14) < (l0_0.length : Int)
            · rw [if_pos c16] at H
              have c16b0 : decide ((ji14) < (l0_0.length : Int)) = true := decide_eq_true c16
              clear c16
              obtain ⟨ji17, hji17⟩ : ∃ j_ : Int, (wrap64 ((wrap64 (8 * (l0_0.length : Int))) - a0_1)) = j_ := ⟨_, rfl⟩
              replace H : (if 0 ≤ (ji17) then (some ((Go.bits .and .u8 (rd l0_0 (ji14)) (((shl .u8 1 (ji17)) - 1) % 256)) == 0)) else (none)) = some r := by first | (rw [hji17] at H; exact H) | (simp only [hji17] at H ⊢; exact H)
              (try rw [hji17] at c8b0)
              (try rw [hji17] at c11b0)
              (try rw [hji17] at c11b1)
              have hji17w : (IntKind.i64.wrap ((wrap64 (8 * (l0_0.length : Int))) - a0_1)) = ji17 := (i64_w _).trans hji17
              by_cases c18 : 0 ≤ (ji17)
              · rw [if_pos c18] at H
                have c18b0 := eq_true c18
                have c18b1 : decide (0 ≤ (ji17)) = true := decide_eq_true c18
                clear c18
                obtain ⟨ji19, hji19⟩ : ∃ j_ : Int, (shl .u8 1 (ji17)) = j_ := ⟨_, rfl⟩
                replace H : (some ((Go.bits .and .u8 (rd l0_0 (ji14)) (((ji19) - 1) % 256)) == 0)) = some r := by first | (rw [hji19] at H; exact H) | (simp only [hji19] at H ⊢; exact H)
                have hji19_ : (IntKind.u8.wrap (1 * 2 ^ min (ji17).toNat 8)) = ji19 := hji19
                have hji19z : (ji17) ≤ 8 → (IntKind.u8.wrap (1 * 2 ^ (ji17).toNat)) = ji19 := shl_small hji19
                have hji19u : (IntKind.u8.wrap (2 ^ min (ji17).toNat 8)) = ji19 := by have h_ := hji19_; rw [Int.one_mul] at h_; exact h_
                have hji19v : (ji17) ≤ 8 → (IntKind.u8.wrap (2 ^ (ji17).toNat)) = ji19 := fun hle_ => by have h_ := hji19z hle_; rw [Int.one_mul] at h_; exact h_
                obtain rfl := Option.some.inj H
                go_enter Tryd.func113, Tryd.ntmps113
                go_wp2_with (first | ((with_reducible refine gate_dst (N := 1) rfl ?_); (try (refine gate_guard (by rfl) ?_; dsimp only)); refine box_event ?hg (N := 1) ?hd (cs := #[.slice A0_0 l0_0.length c0_0, .int .i64 a0_1]) (t := 99) ?hr ?_; (case hd => rfl); (case hg => rfl); (case hr => first | (go_simp; done) | (go_simp; rfl)); intro gb113 hg w20 hbox hb; have n0_ := Aside0.mk (below_step (by repeat (first | (with_reducible first | exact HB.out | apply below_alloc | apply pw_below_drewN | apply below_drew1) | exact HB.out)) hb); have n1_ := Aside0.mk (hbox); have n2_ := Aside0.mk ((by rw [hg]; exact (below_size (by repeat (first | (with_reducible first | exact HB.out | apply below_alloc | apply pw_below_drewN | apply below_drew1) | exact HB.out))) : w.heap.size ≤ gb113)); have n3_ := Aside0.mk ((by rw [hg]; exact (below_size (by repeat (first | (with_reducible first | exact HB.out | apply below_alloc | apply pw_below_drewN | apply below_drew1) | exact HB.out))) : w.heap.size ≤ gb113)); clear HB; have HB := n0_; have BK113 := n1_; have GW113 := n2_; have GE113 := n3_; clear n0_ n1_ n2_ n3_; clear hb hbox hg; have hcz21_0 : w20.cell? ⟨gb113, 0, none⟩ = some (.slice A0_0 l0_0.length c0_0) := (blk_cell BK113.out 0).trans rfl; have hcz21_1 : w20.cell? ⟨gb113, 1, none⟩ = some (.int .i64 a0_1) := (blk_cell BK113.out 1).trans rfl; have hfz21_0 := blk_frozen BK113.out 0; have hfz21_1 := blk_frozen BK113.out 1; have p114 : 0 ≤ ((ji14) : Int) := of_decide_eq_true (by first | (with_reducible assumption) | assumption); have q114 : (ji14) < (l0_0.length : Int) := of_decide_eq_true (by first | (with_reducible assumption) | assumption); obtain ⟨ad114, e114, hx114_0⟩ := Kd.at_int HR0_0.out (ji14) p114 q114; cases e114; replace hx114_0 := (HB.out.cell (World.block_lt_of_cell? w _ hx114_0)).trans hx114_0; replace p114 := eq_true p114; replace q114 := eq_true q114))
                repeat (go_quiet (first | ((with_reducible refine gate_dst (N := 1) rfl ?_); (try (refine gate_guard (by rfl) ?_; dsimp only)); refine box_event ?hg (N := 1) ?hd (cs := #[.slice A0_0 l0_0.length c0_0, .int .i64 a0_1]) (t := 99) ?hr ?_; (case hd => rfl); (case hg => rfl); (case hr => first | (go_simp; done) | (go_simp; rfl)); intro gb113 hg w20 hbox hb; have n0_ := Aside0.mk (below_step (by repeat (first | (with_reducible first | exact HB.out | apply below_alloc | apply pw_below_drewN | apply below_drew1) | exact HB.out)) hb); have n1_ := Aside0.mk (hbox); have n2_ := Aside0.mk ((by rw [hg]; exact (below_size (by repeat (first | (with_reducible first | exact HB.out | apply below_alloc | apply pw_below_drewN | apply below_drew1) | exact HB.out))) : w.heap.size ≤ gb113)); have n3_ := Aside0.mk ((by rw [hg]; exact (below_size (by repeat (first | (with_reducible first | exact HB.out | apply below_alloc | apply pw_below_drewN | apply below_drew1) | exact HB.out))) : w.heap.size ≤ gb113)); clear HB; have HB := n0_; have BK113 := n1_; have GW113 := n2_; have GE113 := n3_; clear n0_ n1_ n2_ n3_; clear hb hbox hg; have hcz21_0 : w20.cell? ⟨gb113, 0, none⟩ = some (.slice A0_0 l0_0.length c0_0) := (blk_cell BK113.out 0).trans rfl; have hcz21_1 : w20.cell? ⟨gb113, 1, none⟩ = some (.int .i64 a0_1) := (blk_cell BK113.out 1).trans rfl; have hfz21_0 := blk_frozen BK113.out 0; have hfz21_1 := blk_frozen BK113.out 1; have p114 : 0 ≤ ((ji14) : Int) := of_decide_eq_true (by first | (with_reducible assumption) | assumption); have q114 : (ji14) < (l0_0.length : Int) := of_decide_eq_true (by first | (with_reducible assumption) | assumption); obtain ⟨ad114, e114, hx114_0⟩ := Kd.at_int HR0_0.out (ji14) p114 q114; cases e114; replace hx114_0 := (HB.out.cell (World.block_lt_of_cell? w _ hx114_0)).trans hx114_0; replace p114 := eq_true p114; replace q114 := eq_true q114)); try go_wp2_with (first | ((with_reducible refine gate_dst (N := 1) rfl ?_); (try (refine gate_guard (by rfl) ?_; dsimp only)); refine box_event ?hg (N := 1) ?hd (cs := #[.slice A0_0 l0_0.length c0_0, .int .i64 a0_1]) (t := 99) ?hr ?_; (case hd => rfl); (case hg => rfl); (case hr => first | (go_simp; done) | (go_simp; rfl)); intro gb113 hg w20 hbox hb; have n0_ := Aside0.mk (below_step (by repeat (first | (with_reducible first | exact HB.out | apply below_alloc | apply pw_below_drewN | apply below_drew1) | exact HB.out)) hb); have n1_ := Aside0.mk (hbox); have n2_ := Aside0.mk ((by rw [hg]; exact (below_size (by repeat (first | (with_reducible first | exact HB.out | apply below_alloc | apply pw_below_drewN | apply below_drew1) | exact HB.out))) : w.heap.size ≤ gb113)); have n3_ := Aside0.mk ((by rw [hg]; exact (below_size (by repeat (first | (with_reducible first | exact HB.out | apply below_alloc | apply pw_below_drewN | apply below_drew1) | exact HB.out))) : w.heap.size ≤ gb113)); clear HB; have HB := n0_; have BK113 := n1_; have GW113 := n2_; have GE113 := n3_; clear n0_ n1_ n2_ n3_; clear hb hbox hg; have hcz21_0 : w20.cell? ⟨gb113, 0, none⟩ = some (.slice A0_0 l0_0.length c0_0) := (blk_cell BK113.out 0).trans rfl; have hcz21_1 : w20.cell? ⟨gb113, 1, none⟩ = some (.int .i64 a0_1) := (blk_cell BK113.out 1).trans rfl; have hfz21_0 := blk_frozen BK113.out 0; have hfz21_1 := blk_frozen BK113.out 1; have p114 : 0 ≤ ((ji14) : Int) := of_decide_eq_true (by first | (with_reducible assumption) | assumption); have q114 : (ji14) < (l0_0.length : Int) := of_decide_eq_true (by first | (with_reducible assumption) | assumption); obtain ⟨ad114, e114, hx114_0⟩ := Kd.at_int HR0_0.out (ji14) p114 q114; cases e114; replace hx114_0 := (HB.out.cell (World.block_lt_of_cell? w _ hx114_0)).trans hx114_0; replace p114 := eq_true p114; replace q114 := eq_true q114)))
                go_ret
                exact ⟨by first | rfl | (simp [errW_none, errW_some] <;> rfl) | (simp only [← hji14, ← hji17, ← hji19]; first | rfl | (simp [errW_none, errW_some] <;> rfl)) | (simp [*, errW_none, errW_some] <;> rfl), by repeat (first | (with_reducible first | exact HB.out | apply below_alloc | apply pw_below_drewN | apply below_drew1 | refine below_set ?_ GE113.out) | exact HB.out)⟩
              · rw [if_neg c18] at H
                exact absurd H (by simp)
            · rw [if_neg c16] at H
              exact absurd H (by simp)
          · rw [if_neg c15] at H
            exact absurd H (by simp)
end Go.Proofs.YtbgmnmjokdfmlaaDoor.PA
