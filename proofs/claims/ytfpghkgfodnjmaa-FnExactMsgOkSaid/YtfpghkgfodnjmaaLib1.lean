/- Plain laws that all proofs of this seat share: rounds, sixty-four bit sums, bits, rows of bytes. No condition. -/
import Derived.Test.YtfpghkgfodnjmaaWWords
import Derived.Laws.BitsLemmas
import Derived.OpenShut
namespace Go.Proofs.YtfpghkgfodnjmaaLib
open Go.RowKit Go.Proofs.YtfpghkgfodnjmaaW.PrintWords

theorem ev_ifp {α : Type} {c : Prop} [Decidable c] {A B : Nat → Option α} {r : α} (h : c) (k : Ev A r) : Ev (fun n => if c then A n else B n) r := by
  simpa only [if_pos h] using k
theorem ev_ifn {α : Type} {c : Prop} [Decidable c] {A B : Nat → Option α} {r : α} (h : ¬ c) (k : Ev B r) : Ev (fun n => if c then A n else B n) r := by
  simpa only [if_neg h] using k
theorem ev_if {α : Type} {c : Prop} [Decidable c] {A B : Nat → Option α} {r : α} (h : c → Ev A r) (k : ¬ c → Ev B r) : Ev (fun n => if c then A n else B n) r := by
  by_cases hc : c
  · exact ev_ifp hc (h hc)
  · exact ev_ifn hc (k hc)
theorem ev_some {α : Type} {r q : α} (h : r = q) : Ev (fun _ => some r) q := h ▸ Ev.now r
theorem ev_to {α : Type} {g : Nat → Option α} {r q : α} (k : Ev g r) (h : r = q) : Ev g q := h ▸ k
/-- A call without rounds. -/
theorem ev_call {α β : Type} {g : Option α} {f : Nat → α → Option β} {a : α} {r : β} (h : g = some a) (k : Ev (fun n => f n a) r) : Ev (fun n => g.bind (f n)) r := by
  simpa only [h, Option.bind_some] using k
theorem ev_eqn {α : Type} {g : Option α} {a : α} (h : g = some a) : Ev (fun _ => g) a := h ▸ Ev.now a

/-- It comes to an answer with P. -/
def EvP {α : Type} (g : Nat → Option α) (P : α → Prop) : Prop := ∃ r, Ev g r ∧ P r
theorem EvP.of {α : Type} {g : Nat → Option α} {P : α → Prop} {r : α} (h : Ev g r) (p : P r) : EvP g P := ⟨r, h, p⟩
theorem EvP.some {α : Type} {P : α → Prop} {r : α} (p : P r) : EvP (fun _ => some r) P := ⟨r, Ev.now r, p⟩
theorem EvP.bind {α β : Type} {g : Nat → Option α} {f : Nat → α → Option β} {P : α → Prop} {Q : β → Prop} (h : EvP g P) (k : ∀ a, P a → EvP (fun n => f n a) Q) : EvP (fun n => (g n).bind (f n)) Q := by
  obtain ⟨a, ha, hp⟩ := h
  obtain ⟨r, hr, hq⟩ := k a hp
  exact ⟨r, Ev.bind ha hr, hq⟩
theorem EvP.call {α β : Type} {g : Option α} {f : Nat → α → Option β} {P : α → Prop} {Q : β → Prop} (h : ∃ a, g = Option.some a ∧ P a) (k : ∀ a, P a → EvP (fun n => f n a) Q) : EvP (fun n => g.bind (f n)) Q := by
  obtain ⟨a, ha, hp⟩ := h
  obtain ⟨r, hr, hq⟩ := k a hp
  exact ⟨r, ev_call ha hr, hq⟩
theorem EvP.eq {α β : Type} {g : Option α} {f : Nat → α → Option β} {a : α} {Q : β → Prop} (h : g = Option.some a) (k : EvP (fun n => f n a) Q) : EvP (fun n => g.bind (f n)) Q := by
  obtain ⟨r, hr, hq⟩ := k
  exact ⟨r, ev_call h hr, hq⟩
theorem EvP.ev_ {α β : Type} {g : Nat → Option α} {f : Nat → α → Option β} {a : α} {Q : β → Prop} (h : Ev g a) (k : EvP (fun n => f n a) Q) : EvP (fun n => (g n).bind (f n)) Q := by
  obtain ⟨r, hr, hq⟩ := k
  exact ⟨r, Ev.bind h hr, hq⟩
theorem EvP.ifp {α : Type} {c : Prop} [Decidable c] {A B : Nat → Option α} {P : α → Prop} (h : c) (k : EvP A P) : EvP (fun n => if c then A n else B n) P := by
  simpa only [if_pos h] using k
theorem EvP.ifn {α : Type} {c : Prop} [Decidable c] {A B : Nat → Option α} {P : α → Prop} (h : ¬ c) (k : EvP B P) : EvP (fun n => if c then A n else B n) P := by
  simpa only [if_neg h] using k
theorem EvP.ite {α : Type} {c : Prop} [Decidable c] {A B : Nat → Option α} {P : α → Prop} (h : c → EvP A P) (k : ¬ c → EvP B P) : EvP (fun n => if c then A n else B n) P := by
  by_cases hc : c
  · exact EvP.ifp hc (h hc)
  · exact EvP.ifn hc (k hc)
theorem EvP.step {α : Type} {g f : Nat → Option α} {P : α → Prop} (h : ∀ k, g (k + 1) = f k) (k : EvP f P) : EvP g P := by
  obtain ⟨r, hr, hp⟩ := k
  exact ⟨r, Ev.step h hr, hp⟩
theorem EvP.imp {α : Type} {g : Nat → Option α} {P Q : α → Prop} (h : EvP g P) (k : ∀ r, P r → Q r) : EvP g Q := by
  obtain ⟨r, hr, hp⟩ := h
  exact ⟨r, hr, k r hp⟩
theorem EvP.ev {α : Type} {g : Nat → Option α} {q : α} (h : EvP g (fun r => r = q)) : Ev g q := by
  obtain ⟨r, hr, hp⟩ := h
  exact hp ▸ hr
theorem EvP.rounds {α : Type} {g : Nat → Option α} {q : α} (h : EvP g (fun r => r = q)) : ∃ k, g k = Option.some q := h.ev.rounds

theorem w64 {n : Int} (h0 : -9223372036854775808 ≤ n) (h1 : n ≤ 9223372036854775807) : wrap64 n = n := by unfold wrap64; omega
theorem wnext (i : Nat) (h : i < 4611686018427387904) : wrap64 ((i : Int) + 1) = ((i + 1 : Nat) : Int) := by rw [w64 (by omega) (by omega)]; rfl
theorem w32 (n : Int) : wrap32 n = (n + 2147483648) % 4294967296 - 2147483648 := by unfold wrap32; rfl
theorem tmod_pos {n m : Int} (h : 0 ≤ n) : Int.tmod n m = n % m := Int.tmod_eq_emod_of_nonneg h
theorem tdiv_pos {n m : Int} (h : 0 ≤ n) : Int.tdiv n m = n / m := Int.tdiv_eq_ediv_of_nonneg h

/-- Whole numbers of 64 bits. -/
def I64 (n : Int) : Prop := -9223372036854775808 ≤ n ∧ n ≤ 9223372036854775807
theorem i64_of {n : Int} (h : (Lit.int .i64 n).wf = true) : I64 n := by
  have := bounds_i64 h
  unfold I64; omega
/-- Rows of bytes. -/
def Bs (l : List Int) : Prop := ∀ x ∈ l, 0 ≤ x ∧ x ≤ 255
theorem bs_of {l : List Int} (h : ∀ x ∈ l, (Lit.int .u8 x).wf = true) : Bs l := fun x hx => by
  have := bounds_u8 (h x hx)
  omega
theorem Bs.nil : Bs [] := fun _ h => by cases h
theorem Bs.cons {x : Int} {l : List Int} (h0 : 0 ≤ x) (h1 : x ≤ 255) (h : Bs l) : Bs (x :: l) := fun y hy => by
  rcases List.mem_cons.1 hy with rfl | hy
  · exact ⟨h0, h1⟩
  · exact h y hy
theorem Bs.append {l m : List Int} (h : Bs l) (k : Bs m) : Bs (l ++ m) := fun y hy => by
  rcases List.mem_append.1 hy with hy | hy
  · exact h y hy
  · exact k y hy
theorem Bs.left {l m : List Int} (h : Bs (l ++ m)) : Bs l := fun y hy => h y (List.mem_append.2 (.inl hy))
theorem Bs.right {l m : List Int} (h : Bs (l ++ m)) : Bs m := fun y hy => h y (List.mem_append.2 (.inr hy))
theorem Bs.take {l : List Int} (h : Bs l) (n : Nat) : Bs (l.take n) := fun y hy => h y (List.mem_of_mem_take hy)
theorem Bs.drop {l : List Int} (h : Bs l) (n : Nat) : Bs (l.drop n) := fun y hy => h y (List.mem_of_mem_drop hy)

theorem rd_mid (pre : List Int) (a : Int) (rest : List Int) : rd (pre ++ a :: rest) (pre.length : Int) = a := by
  simp [rd]
theorem rd_nat (l : List Int) (i : Nat) (h : i < l.length) : rd l (i : Int) = l[i] := by
  simp [rd, List.getD, h]
theorem rd_bs {l : List Int} (h : Bs l) (i : Int) : 0 ≤ rd l i ∧ rd l i ≤ 255 := by
  unfold rd
  by_cases hi : i.toNat < l.length
  · have := h l[i.toNat] (List.getElem_mem _)
    simpa [List.getD, hi] using this
  · rw [List.getD_eq_getElem?_getD, List.getElem?_eq_none (by omega)]
    simp

/-! ### bits -/
theorem bits_and_mask (x : Int) (i : Nat) (hi : i ≤ 63) : bits .and .i64 x (2 ^ i - 1) = x % 2 ^ i := by
  have hp : (2 : Nat) ^ i ≤ 2 ^ 63 := Nat.pow_le_pow_right (by decide) hi
  have hpos : 0 < (2 : Nat) ^ i := Nat.two_pow_pos i
  have hc : ((2 : Int) ^ i - 1) = ((2 ^ i - 1 : Nat) : Int) := by
    rw [Int.natCast_sub hpos]; simp
  have h64 : (2 : Nat) ^ 63 = 9223372036854775808 := by decide
  rw [hc]
  have hk : IntKind.i64.bits = 64 := rfl
  simp only [bits, BitVec.toNat_and, BitVec.ofInt_natCast, BitVec.toNat_ofNat, BitVec.toNat_ofInt, hk]
  rw [Nat.mod_eq_of_lt (a := 2 ^ i - 1) (by omega), Nat.and_two_pow_sub_one_eq_mod]
  have key : (((x % ((2 ^ 64 : Nat) : Int)).toNat % 2 ^ i : Nat) : Int) = x % 2 ^ i := by
    have h0 : 0 ≤ x % ((2 ^ 64 : Nat) : Int) := Int.emod_nonneg _ (by decide)
    rw [Int.natCast_emod, Int.toNat_of_nonneg h0]
    have : ((2 ^ i : Nat) : Int) ∣ ((2 ^ 64 : Nat) : Int) := by
      have : (2 : Nat) ^ i ∣ 2 ^ 64 := Nat.pow_dvd_pow 2 (by omega)
      exact Int.natCast_dvd_natCast.2 this
    rw [Int.emod_emod_of_dvd _ this]
    simp
  rw [key, IntKind.wrap_i64]
  have hb0 : 0 ≤ x % 2 ^ i := Int.emod_nonneg _ (by have : (0 : Int) < 2 ^ i := by exact_mod_cast hpos
                                                    omega)
  have hb1 : x % 2 ^ i < 2 ^ i := Int.emod_lt_of_pos _ (by exact_mod_cast hpos)
  have hb2 : (2 : Int) ^ i ≤ 9223372036854775808 := by
    have : ((2 ^ i : Nat) : Int) ≤ ((2 ^ 63 : Nat) : Int) := by exact_mod_cast hp
    simpa using this
  omega
theorem wraps_i64 (n : Int) (h₀ : 0 ≤ n) (h₁ : n < 2 ^ 63) : IntKind.i64.wrap n = n := by rw [IntKind.wrap_i64]; omega
theorem or_join (i : Nat) (x y : Int) (hi : i ≤ 62) (hx₀ : 0 ≤ x) (hx : x % 2 ^ i = 0) (hx₁ : x < 2 ^ 62) (hy₀ : 0 ≤ y) (hy : y < 2 ^ i) : bits .or .i64 x y = x + y := by
  have hp : (2 : Int) ^ i ≤ 2 ^ 62 := by
    have : ((2 ^ i : Nat) : Int) ≤ ((2 ^ 62 : Nat) : Int) := by exact_mod_cast Nat.pow_le_pow_right (by decide) hi
    simpa using this
  exact bits_join .i64 63 (by decide) wraps_i64 i x y hx₀ hx (by omega) hy₀ hy (by omega)
theorem bits_or_comm (x y : Int) : bits .or .i64 x y = bits .or .i64 y x := by
  simp only [bits, BitVec.toNat_or, Nat.or_comm]
/-- y stands above x. -/
theorem or_join' (i : Nat) (x y : Int) (hi : i ≤ 62) (hx₀ : 0 ≤ x) (hx : x % 2 ^ i = 0) (hx₁ : x < 2 ^ 62) (hy₀ : 0 ≤ y) (hy : y < 2 ^ i) : bits .or .i64 y x = y + x := by
  rw [bits_or_comm, or_join i x y hi hx₀ hx hx₁ hy₀ hy, Int.add_comm]
end Go.Proofs.YtfpghkgfodnjmaaLib
