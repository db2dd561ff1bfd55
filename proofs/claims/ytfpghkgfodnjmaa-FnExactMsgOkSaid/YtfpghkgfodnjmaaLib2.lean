/- Plain functions that the program's and the reference's functions are shown to compute: the check of bytes, numbers, words; loops that test or copy. No condition. -/
import Derived.Test.YtfpghkgfodnjmaaLib1
import Derived.Test.YtfpghkgfodnjmaaWMore
namespace Go.Proofs.YtfpghkgfodnjmaaLib
open Go.RowKit Go.Proofs.YtfpghkgfodnjmaaW.PrintWords Go.Proofs.YtfpghkgfodnjmaaW.PrintMore

/-! ### loops -/
/-- A loop that tests each place. -/
theorem all_ev {F : Nat → Int → Option Bool} {n : Nat} {good : Nat → Bool} {fin : Bool} (h1 : ∀ i, i < n → good i = true → ∀ r, Ev (fun k => F k ((i + 1 : Nat) : Int)) r → Ev (fun k => F k (i : Int)) r)
    (h2 : ∀ i, i < n → good i = false → Ev (fun k => F k (i : Int)) false) (h3 : Ev (fun k => F k (n : Int)) fin) : Ev (fun k => F k 0) ((List.range n).all good && fin) := by
  have key : ∀ (d i : Nat), i + d = n → Ev (fun k => F k (i : Int)) ((List.range' i d).all good && fin) := by
    intro d
    induction d with
    | zero =>
      intro i hi
      have : i = n := by omega
      subst this
      simpa using h3
    | succ d ih =>
      intro i hi
      rw [List.range'_succ, List.all_cons]
      cases hg : good i with
      | false => simpa using h2 i (by omega) hg
      | true =>
        have := h1 i (by omega) hg _ (ih (i + 1) (by omega))
        simpa using this
  have := key n 0 (by omega)
  rw [← List.range_eq_range'] at this
  exact this
/-- A loop that copies each place. -/
theorem copy_ev {α β : Type} {F : Nat → List β → Int → Option (List β)} {x : List α} {f : α → β} (h1 : ∀ (i : Nat) (hi : i < x.length) (acc : List β), acc.length = x.length → ∀ r, Ev (fun k => F k (acc.set i (f x[i])) ((i + 1 : Nat) : Int)) r → Ev (fun k => F k acc (i : Int)) r)
    (h2 : ∀ acc : List β, acc.length = x.length → Ev (fun k => F k acc (x.length : Int)) acc) (acc0 : List β) (h0 : acc0.length = x.length) : Ev (fun k => F k acc0 0) (x.map f) := by
  have key : ∀ (d i : Nat) (acc : List β), i + d = x.length → acc.length = x.length → acc.take i = (x.map f).take i → Ev (fun k => F k acc (i : Int)) (x.map f) := by
    intro d
    induction d with
    | zero =>
      intro i acc hi hl ht
      have he : i = x.length := by omega
      subst he
      have h3 := h2 acc hl
      rw [List.take_of_length_le (by omega), List.take_of_length_le (by simp)] at ht
      rw [← ht]; exact h3
    | succ d ih =>
      intro i acc hi hl ht
      refine h1 i (by omega) acc hl _ (ih (i + 1) _ (by omega) (by rw [List.length_set]; exact hl) ?_)
      apply List.ext_getElem?
      intro j
      rw [List.getElem?_take, List.getElem?_take]
      by_cases hj : j < i + 1
      · rw [if_pos hj, if_pos hj]
        by_cases hji : j = i
        · subst hji
          rw [List.getElem?_set_self (by omega), List.getElem?_map, List.getElem?_eq_getElem (by omega)]; rfl
        · rw [List.getElem?_set_ne (by omega)]
          have := congrArg (fun l => l[j]?) ht
          simp only [List.getElem?_take] at this
          rwa [if_pos (by omega), if_pos (by omega)] at this
      · rw [if_neg hj, if_neg hj]
  exact key x.length 0 acc0 (by omega) h0 (by simp)

/-! ### the check -/
/-- The check of bytes, from two sums on. -/
def chk : List Int → Int → Int → Int
  | [], a, b => b * 65536 + a
  | c :: r, a, b => chk r ((a + c) % 65521) ((b + (a + c) % 65521) % 65521)
theorem chk_range : ∀ (l : List Int) (a b : Int), 0 ≤ a → a < 65521 → 0 ≤ b → b < 65521 → 0 ≤ chk l a b ∧ chk l a b ≤ 4294967295
  | [], a, b, h0, h1, h2, h3 => by unfold chk; omega
  | c :: r, a, b, _, _, _, _ => chk_range r _ _ (by omega) (by omega) (by omega) (by omega)
/-- Its low half is the plain sum. -/
theorem chk_low : ∀ (l : List Int) (a b : Int), 0 ≤ a → a < 65521 → chk l a b % 65536 = (a + l.sum) % 65521
  | [], a, b, h0, h1 => by simp only [chk, List.sum_nil]; omega
  | c :: r, a, b, h0, h1 => by
    rw [chk, chk_low r _ _ (by omega) (by omega), List.sum_cons]
    omega
/-- A number, round to 32 bits. -/
def round (n : Int) : Int := (n + 2147483648) % 4294967296 - 2147483648
theorem round_range (n : Int) : -2147483648 ≤ round n ∧ round n ≤ 2147483647 := by unfold round; omega
theorem round_word {n : Int} (h0 : -2147483648 ≤ n) (h1 : n ≤ 2147483647) : round n = n := by unfold round; omega

/-! ### words -/
/-- The lowest four bytes. -/
def four (n : Int) : List Int := [n % 256, n / 256 % 256, n / 65536 % 256, n / 16777216 % 256]
theorem four_bs (n : Int) : Bs (four n) := by
  intro x hx
  simp only [four, List.mem_cons, List.mem_nil_iff, or_false] at hx
  omega
theorem four_inj {m n : Int} (h : four m = four n) (hm0 : 0 ≤ m) (hm1 : m ≤ 4294967295) (hn0 : 0 ≤ n) (hn1 : n ≤ 4294967295) : m = n := by
  simp only [four, List.cons.injEq, and_true] at h
  omega
def putWord (n : Int) : List Int := if -2147483648 ≤ n ∧ n ≤ 2147483647 then four n else []
theorem putWord_bs (n : Int) : Bs (putWord n) := by
  unfold putWord
  split
  · exact four_bs n
  · exact Bs.nil
theorem le4 (a b c d : Int) (ha : 0 ≤ a ∧ a ≤ 255) (hb : 0 ≤ b ∧ b ≤ 255) (hc : 0 ≤ c ∧ c ≤ 255) (hd : 0 ≤ d ∧ d ≤ 255) :
    bits .or .i64 (bits .or .i64 (bits .or .i64 (wrap64 a) (wrap64 (wrap64 b * 256))) (wrap64 (wrap64 c * 65536))) (wrap64 (wrap64 d * 16777216)) = a + b * 256 + c * 65536 + d * 16777216 := by
  rw [w64 (n := a) (by omega) (by omega), w64 (n := b) (by omega) (by omega), w64 (n := c) (by omega) (by omega), w64 (n := d) (by omega) (by omega),
    w64 (n := b * 256) (by omega) (by omega), w64 (n := c * 65536) (by omega) (by omega), w64 (n := d * 16777216) (by omega) (by omega)]
  rw [or_join' 8 (b * 256) a (by decide) (by omega) (by simp) (by omega) (by omega) (by omega),
    or_join' 16 (c * 65536) (a + b * 256) (by decide) (by omega) (by simp) (by omega) (by omega) (by omega),
    or_join' 24 (d * 16777216) (a + b * 256 + c * 65536) (by decide) (by omega) (by simp) (by omega) (by omega) (by omega)]
/-- Four bytes, read as a word. -/
def getWord (l : List Int) (i : Int) : Int × Int × Bool :=
  if 0 ≤ i ∧ i + 4 ≤ l.length then (round (rd l i + rd l (i + 1) * 256 + rd l (i + 2) * 65536 + rd l (i + 3) * 16777216), i + 4, true) else (0, 0, false)

/-! ### numbers -/
/-- A number's bytes, seven bits a byte. -/
def digs : Nat → Int → List Int
  | 0, x => [x]
  | f + 1, x => if x > 127 then (x % 128 + 128) :: digs f (x / 128) else [x]
def putNum (n : Int) : List Int := if 0 ≤ n ∧ n ≤ 16777215 then digs 3 n else []
theorem digs_bs : ∀ (f : Nat) (x : Int), 0 ≤ x → x < 128 ^ (f + 1) → Bs (digs f x)
  | 0, x, h0, h1 => by
    simp at h1
    exact Bs.cons h0 (by omega) Bs.nil
  | f + 1, x, h0, h1 => by
    unfold digs
    have h2 : x / 128 < 128 ^ (f + 1) := Int.ediv_lt_of_lt_mul (by decide) (by rw [← Int.pow_succ]; exact h1)
    split
    · exact Bs.cons (by omega) (by omega) (digs_bs f _ (by omega) h2)
    · exact Bs.cons h0 (by omega) Bs.nil
theorem putNum_bs (n : Int) : Bs (putNum n) := by
  unfold putNum
  split
  · rename_i h
    exact digs_bs 3 n h.1 (by have : (128 : Int) ^ (3 + 1) = 268435456 := by decide
                              omega)
  · exact Bs.nil
theorem digs_len : ∀ (f : Nat) (x : Int), 1 ≤ (digs f x).length ∧ (digs f x).length ≤ f + 1
  | 0, x => by simp [digs]
  | f + 1, x => by
    unfold digs
    have := digs_len f (x / 128)
    split
    · rw [List.length_cons]; omega
    · simp
theorem putNum_len (n : Int) : (putNum n).length ≤ 4 := by
  unfold putNum
  split
  · exact (digs_len 3 n).2
  · simp
def gnum (l : List Int) (a : Int) : Nat → Nat → Int → Int × Int × Bool
  | 0, _, _ => (0, 0, false)
  | f + 1, i, n =>
    if 0 ≤ a ∧ a + i < l.length then
      if rd l (a + i) < 128 then
        if (0 < i ∧ rd l (a + i) = 0) ∨ n + rd l (a + i) * 128 ^ i > 16777215 then (0, 0, false) else (n + rd l (a + i) * 128 ^ i, a + i + 1, true)
      else gnum l a f (i + 1) (n + rd l (a + i) % 128 * 128 ^ i)
    else (0, 0, false)
theorem gnum_out {l : List Int} {a : Int} {f i : Nat} {n : Int} (h : ¬ (0 ≤ a ∧ a + i < l.length)) : gnum l a (f + 1) i n = (0, 0, false) := by
  rw [gnum, if_neg h]
theorem gnum_bad {l : List Int} {a : Int} {f i : Nat} {n : Int} (h : 0 ≤ a ∧ a + i < l.length) (hc : rd l (a + i) < 128) (hz : (0 < i ∧ rd l (a + i) = 0) ∨ n + rd l (a + i) * 128 ^ i > 16777215) : gnum l a (f + 1) i n = (0, 0, false) := by
  rw [gnum, if_pos h, if_pos hc, if_pos hz]
theorem gnum_end {l : List Int} {a : Int} {f i : Nat} {n : Int} (h : 0 ≤ a ∧ a + i < l.length) (hc : rd l (a + i) < 128) (hz : ¬ (0 < i ∧ rd l (a + i) = 0)) (hg : ¬ n + rd l (a + i) * 128 ^ i > 16777215) : gnum l a (f + 1) i n = (n + rd l (a + i) * 128 ^ i, a + i + 1, true) := by
  rw [gnum, if_pos h, if_pos hc, if_neg (fun k => Or.elim k hz hg)]
theorem gnum_more {l : List Int} {a : Int} {f i : Nat} {n : Int} (h : 0 ≤ a ∧ a + i < l.length) (hc : ¬ rd l (a + i) < 128) : gnum l a (f + 1) i n = gnum l a f (i + 1) (n + rd l (a + i) % 128 * 128 ^ i) := by
  rw [gnum, if_pos h, if_neg hc]
/-- A number read from bytes. -/
def getNum (l : List Int) (a : Int) : Int × Int × Bool := gnum l a 4 0 0
theorem shl7 (i : Nat) (hi : i < 4) (x : Int) (h0 : 0 ≤ x) (h1 : x < 128) : shl .i64 x (wrap64 (7 * (i : Int))) = x * 128 ^ i := by
  rw [w64 (by omega) (by omega)]
  unfold shl
  have h64 : IntKind.i64.bits = 64 := rfl
  obtain rfl | rfl | rfl | rfl : i = 0 ∨ i = 1 ∨ i = 2 ∨ i = 3 := by omega
  all_goals
    rw [IntKind.wrap_i64, h64]
    simp
    omega
theorem or7 (i : Nat) (hi : i < 4) (n x : Int) (hn : 0 ≤ n) (hn1 : n < 128 ^ i) (h0 : 0 ≤ x) (h1 : x < 128) : bits .or .i64 n (x * 128 ^ i) = n + x * 128 ^ i := by
  obtain rfl | rfl | rfl | rfl : i = 0 ∨ i = 1 ∨ i = 2 ∨ i = 3 := by omega
  · simp at hn1 ⊢
    obtain rfl : n = 0 := by omega
    rw [or_join' 0 x 0 (by decide) h0 (by simp) (by omega) (by decide) (by decide)]
  · have h2 : (128 : Int) ^ 1 = 128 := by decide
    rw [h2] at hn1 ⊢
    exact or_join' 7 (x * 128) n (by decide) (by omega) (by simp) (by omega) hn hn1
  · have h2 : (128 : Int) ^ 2 = 16384 := by decide
    rw [h2] at hn1 ⊢
    exact or_join' 14 (x * 16384) n (by decide) (by omega) (by simp) (by omega) hn hn1
  · have h2 : (128 : Int) ^ 3 = 2097152 := by decide
    rw [h2] at hn1 ⊢
    exact or_join' 21 (x * 2097152) n (by decide) (by omega) (by simp) (by omega) hn hn1
theorem pow7 (i : Nat) (hi : i < 5) : (1 : Int) ≤ 128 ^ i ∧ (128 : Int) ^ i ≤ 268435456 := by
  obtain rfl | rfl | rfl | rfl | rfl : i = 0 ∨ i = 1 ∨ i = 2 ∨ i = 3 ∨ i = 4 := by omega
  all_goals decide
/-- What is read lies in bounds. -/
theorem gnum_ok {l : List Int} (hl : Bs l) {a : Int} : ∀ (f i : Nat) (n : Int), 0 ≤ n → (gnum l a f i n).2.2 = true → 0 ≤ (gnum l a f i n).1 ∧ (gnum l a f i n).1 ≤ 16777215 ∧ 0 ≤ a ∧ a + i < (gnum l a f i n).2.1 ∧ (gnum l a f i n).2.1 ≤ l.length
  | 0, i, n, _, h => by simp [gnum] at h
  | f + 1, i, n, hn, h => by
    unfold gnum at h ⊢
    have hb := rd_bs hl (a + i)
    have hp : (0 : Int) ≤ 128 ^ i := Int.pow_nonneg (by decide)
    by_cases h1 : 0 ≤ a ∧ a + i < l.length
    · rw [if_pos h1] at h ⊢
      by_cases h2 : rd l (a + i) < 128
      · rw [if_pos h2] at h ⊢
        by_cases h3 : (0 < i ∧ rd l (a + i) = 0) ∨ n + rd l (a + i) * 128 ^ i > 16777215
        · rw [if_pos h3] at h
          simp at h
        · rw [if_neg h3]
          have : 0 ≤ rd l (a + i) * 128 ^ i := Int.mul_nonneg hb.1 hp
          have h4 : ¬ n + rd l (a + i) * 128 ^ i > 16777215 := fun h => h3 (.inr h)
          exact ⟨by simp only; omega, by simp only; omega, h1.1, by simp only; omega, by simp only; omega⟩
      · rw [if_neg h2] at h ⊢
        have : 0 ≤ rd l (a + i) % 128 * 128 ^ i := Int.mul_nonneg (by omega) hp
        have := gnum_ok hl f (i + 1) (n + rd l (a + i) % 128 * 128 ^ i) (by omega) h
        omega
    · rw [if_neg h1] at h
      simp at h
theorem getNum_ok {l : List Int} (hl : Bs l) {a : Int} (h : (getNum l a).2.2 = true) : 0 ≤ (getNum l a).1 ∧ (getNum l a).1 ≤ 16777215 ∧ 0 ≤ a ∧ a < (getNum l a).2.1 ∧ (getNum l a).2.1 ≤ l.length := by
  have := gnum_ok hl 4 0 0 (by decide) h
  unfold getNum
  simpa using this

/-! ### marks -/
/-- What marking leaves. -/
def marks : Int → Nat → List Int
  | _, 0 => []
  | k, n + 1 => k % 256 :: marks (k + 1) n
theorem marks_length : ∀ (n : Nat) (k : Int), (marks k n).length = n
  | 0, _ => rfl
  | n + 1, k => by rw [marks, List.length_cons, marks_length n]
end Go.Proofs.YtfpghkgfodnjmaaLib
namespace Go.Proofs.YtfpghkgfodnjmaaLib
open Go.RowKit Go.Proofs.YtfpghkgfodnjmaaW.PrintWords Go.Proofs.YtfpghkgfodnjmaaW.PrintMore
/-! ### texts -/
/-- A text read from bytes. -/
def getText (l : List Int) (a : Int) : ByteArray × Int × Bool :=
  if (getNum l a).2.2 = true ∧ (getNum l a).1 ≤ 200 ∧ (getNum l a).2.1 + (getNum l a).1 ≤ l.length then
    (strOfNums ((l.take ((getNum l a).2.1 + (getNum l a).1).toNat).drop (getNum l a).2.1.toNat), (getNum l a).2.1 + (getNum l a).1, true)
  else (⟨#[]⟩, 0, false)
/-- Bytes and their string tell the same. -/
theorem str_inj {a b : List Int} (ha : Bs a) (hb : Bs b) : ((strOfNums a).toList = (strOfNums b).toList) ↔ a = b := by
  constructor
  · intro h
    have h2 : a.map (fun n => UInt8.ofNat n.toNat) = b.map (fun n => UInt8.ofNat n.toNat) := by
      simpa [strOfNums, ByteArray.toList_eq] using h
    have key : ∀ (l : List Int), Bs l → (l.map (fun n => UInt8.ofNat n.toNat)).map (fun b => (b.toNat : Int)) = l := by
      intro l hl
      rw [List.map_map]
      conv => rhs; rw [← List.map_id l]
      apply List.map_congr_left
      intro x hx
      have := hl x hx
      simp only [Function.comp, id, UInt8.toNat_ofNat']
      omega
    rw [← key a ha, ← key b hb, h2]
  · intro h
    rw [h]
end Go.Proofs.YtfpghkgfodnjmaaLib
namespace Go.Proofs.YtfpghkgfodnjmaaLib
open Go.RowKit Go.Proofs.YtfpghkgfodnjmaaW.PrintWords Go.Proofs.YtfpghkgfodnjmaaW.PrintMore
/-! ### sealed bytes -/
def sealB (x : List Int) : List Int := x ++ four (chk x 1 0)
def openB (x : List Int) : List Int × Bool :=
  if x.length < 4 then ([], false) else if four (chk (x.take (x.length - 4)) 1 0) = x.drop (x.length - 4) then (x.take (x.length - 4), true) else ([], false)
/-- One bit inverted. -/
def turn (x : List Int) (b : Int) : List Int :=
  if 0 ≤ b ∧ b / 8 < x.length then x.set (b / 8).toNat (bits .xor .u8 (rd x (b / 8)) (shl .u8 1 (b % 8))) else x
theorem turn_length (x : List Int) (b : Int) : (turn x b).length = x.length := by
  unfold turn
  split
  · rw [List.length_set]
  · rfl
theorem sealB_length (x : List Int) : (sealB x).length = x.length + 4 := by simp [sealB, four]
theorem openB_length (x : List Int) : (openB x).1.length ≤ x.length := by
  unfold openB
  split
  · simp
  · split
    · rw [List.length_take]; omega
    · simp
end Go.Proofs.YtfpghkgfodnjmaaLib
namespace Go.Proofs.YtfpghkgfodnjmaaLib
open Go.RowKit Go.Proofs.YtfpghkgfodnjmaaW.PrintWords Go.Proofs.YtfpghkgfodnjmaaW.PrintMore
/-! ### draws -/
/-- A cursor over a draw's bytes. -/
def Cur (l : List Int) (i : Int) : Prop := Bs l ∧ l.length ≤ 1048576 ∧ 0 ≤ i ∧ i ≤ l.length
theorem and255' (n : Int) : 0 ≤ bits .and .i64 n 255 ∧ bits .and .i64 n 255 ≤ 255 := by
  have h := bits_and_mask n 8 (by decide)
  have e : (2 : Int) ^ 8 - 1 = 255 := by decide
  have e2 : (2 : Int) ^ 8 = 256 := by decide
  rw [e, e2] at h
  rw [h]
  omega
end Go.Proofs.YtfpghkgfodnjmaaLib
namespace Go.Proofs.YtfpghkgfodnjmaaLib
open Go.RowKit Go.Proofs.YtfpghkgfodnjmaaW.PrintWords Go.Proofs.YtfpghkgfodnjmaaW.PrintMore
/-! ### names -/
def letter (c : Int) : Bool := decide (97 ≤ c ∧ c ≤ 122 ∨ 65 ≤ c ∧ c ≤ 90)
def isName (s : ByteArray) : Bool := (List.range s.size).all (fun i => letter (bt s (i : Int))) && decide (1 ≤ (s.size : Int) ∧ (s.size : Int) ≤ 8)
end Go.Proofs.YtfpghkgfodnjmaaLib
namespace Go.Proofs.YtfpghkgfodnjmaaLib
open Go.RowKit Go.Proofs.YtfpghkgfodnjmaaW.PrintWords Go.Proofs.YtfpghkgfodnjmaaW.PrintMore
/-- A constant is right. -/
def constOk (kind n : Int) (a b : ByteArray) : Bool :=
  if kind = 1 then decide (-2147483648 ≤ n ∧ n ≤ 2147483647) && (a.toList == []) && (b.toList == [])
  else if kind = 2 then decide (n = 0) && isName a && (b.toList == [])
  else if kind = 3 ∨ kind = 4 then decide (n = 0) && isName a && isName b
  else false
end Go.Proofs.YtfpghkgfodnjmaaLib
namespace Go.Proofs.YtfpghkgfodnjmaaLib
open Go.RowKit Go.Proofs.YtfpghkgfodnjmaaW.PrintWords Go.Proofs.YtfpghkgfodnjmaaW.PrintMore
/-- A text's bytes behind their number. -/
def putText (s : ByteArray) : List Int := if (s.size : Int) > 200 then [] else putNum (s.size : Int) ++ bytesOf s
theorem bytesOf_bs (s : ByteArray) : Bs (bytesOf s) := by
  intro x hx
  simp only [bytesOf, List.mem_map] at hx
  obtain ⟨b, _, rfl⟩ := hx
  have := b.toNat_lt
  omega
theorem putText_bs (s : ByteArray) : Bs (putText s) := by
  unfold putText
  split
  · exact Bs.nil
  · exact (putNum_bs _).append (bytesOf_bs s)
theorem putText_len (s : ByteArray) : (putText s).length ≤ 204 := by
  unfold putText
  have := bytesOf_length s
  have := putNum_len (s.size : Int)
  split
  · simp
  · rw [List.length_append]; omega
end Go.Proofs.YtfpghkgfodnjmaaLib
namespace Go.Proofs.YtfpghkgfodnjmaaLib
open Go.RowKit Go.Proofs.YtfpghkgfodnjmaaW.PrintWords Go.Proofs.YtfpghkgfodnjmaaW.PrintMore
/-- A constant's bytes. -/
def constBytes (kind n : Int) (a b : ByteArray) : List Int :=
  if constOk kind n a b = true then
    (if kind = 1 then putNum kind ++ putWord n else if kind = 2 then putNum kind ++ putText a else putNum kind ++ putText a ++ putText b)
  else []
theorem putWord_len (n : Int) : (putWord n).length ≤ 4 := by unfold putWord four; split <;> simp
theorem constBytes_len (kind n : Int) (a b : ByteArray) : (constBytes kind n a b).length ≤ 412 := by
  unfold constBytes
  have := putNum_len kind
  have := putWord_len n
  have := putText_len a
  have := putText_len b
  repeat' split
  all_goals simp only [List.length_append, List.length_nil]
  all_goals omega
theorem constBytes_bs (kind n : Int) (a b : ByteArray) : Bs (constBytes kind n a b) := by
  unfold constBytes
  repeat' split
  · exact (putNum_bs _).append (putWord_bs _)
  · exact (putNum_bs _).append (putText_bs _)
  · exact ((putNum_bs _).append (putText_bs _)).append (putText_bs _)
  · exact Bs.nil
end Go.Proofs.YtfpghkgfodnjmaaLib
namespace Go.Proofs.YtfpghkgfodnjmaaLib
open Go.RowKit Go.Proofs.YtfpghkgfodnjmaaW.PrintWords Go.Proofs.YtfpghkgfodnjmaaW.PrintMore
/-! ### reading one thing behind another -/
def noText : ByteArray := ⟨#[]⟩
def rNum (l : List Int) (a : Int) (ok : Bool) : Int × Int × Bool := if ok = true ∧ (getNum l a).2.2 = true then ((getNum l a).1, (getNum l a).2.1, true) else (0, a, false)
def rWord (l : List Int) (a : Int) (ok : Bool) : Int × Int × Bool := if ok = true ∧ (getWord l a).2.2 = true then ((getWord l a).1, (getWord l a).2.1, true) else (0, a, false)
def rText (l : List Int) (a : Int) (ok : Bool) : ByteArray × Int × Bool := if ok = true ∧ (getText l a).2.2 = true then ((getText l a).1, (getText l a).2.1, true) else (noText, a, false)
theorem str_size (xs : List Int) : (strOfNums xs).size = xs.length := by simp [strOfNums, ByteArray.size]
theorem getText_size (l : List Int) (a : Int) (hl : Bs l) : (getText l a).1.size ≤ 200 := by
  unfold getText
  split
  · rename_i h
    have hb := getNum_ok hl h.1
    simp only [str_size, List.length_drop, List.length_take]
    omega
  · simp [ByteArray.size]
theorem rText_size (l : List Int) (a : Int) (ok : Bool) (hl : Bs l) : (rText l a ok).1.size ≤ 200 := by
  unfold rText
  split
  · exact getText_size l a hl
  · simp [noText, ByteArray.size]
/-- A constant, read: its parts, where it ends, and whether it is one. -/
def rConst (l : List Int) (a : Int) (ok : Bool) : Int × Int × ByteArray × ByteArray × Int × Bool :=
  if (rNum l a ok).1 = 1 then
    (1, (rWord l (rNum l a ok).2.1 (rNum l a ok).2.2).1, noText, noText, (rWord l (rNum l a ok).2.1 (rNum l a ok).2.2).2.1,
      (rWord l (rNum l a ok).2.1 (rNum l a ok).2.2).2.2 && constOk 1 (rWord l (rNum l a ok).2.1 (rNum l a ok).2.2).1 noText noText)
  else if (rNum l a ok).1 = 2 then
    (2, 0, (rText l (rNum l a ok).2.1 (rNum l a ok).2.2).1, noText, (rText l (rNum l a ok).2.1 (rNum l a ok).2.2).2.1,
      (rText l (rNum l a ok).2.1 (rNum l a ok).2.2).2.2 && constOk 2 0 (rText l (rNum l a ok).2.1 (rNum l a ok).2.2).1 noText)
  else
    ((rNum l a ok).1, 0, (rText l (rNum l a ok).2.1 (rNum l a ok).2.2).1, (rText l (rText l (rNum l a ok).2.1 (rNum l a ok).2.2).2.1 (rText l (rNum l a ok).2.1 (rNum l a ok).2.2).2.2).1,
      (rText l (rText l (rNum l a ok).2.1 (rNum l a ok).2.2).2.1 (rText l (rNum l a ok).2.1 (rNum l a ok).2.2).2.2).2.1,
      (rText l (rText l (rNum l a ok).2.1 (rNum l a ok).2.2).2.1 (rText l (rNum l a ok).2.1 (rNum l a ok).2.2).2.2).2.2 &&
        constOk (rNum l a ok).1 0 (rText l (rNum l a ok).2.1 (rNum l a ok).2.2).1 (rText l (rText l (rNum l a ok).2.1 (rNum l a ok).2.2).2.1 (rText l (rNum l a ok).2.1 (rNum l a ok).2.2).2.2).1)
def constOf (l : List Int) (a : Int) : Int × Int × ByteArray × ByteArray × Int × Bool :=
  if (rConst l a true).2.2.2.2.2 = true then ((rConst l a true).1, (rConst l a true).2.1, (rConst l a true).2.2.1, (rConst l a true).2.2.2.1, (rConst l a true).2.2.2.2.1, true) else (0, 0, noText, noText, 0, false)
end Go.Proofs.YtfpghkgfodnjmaaLib
namespace Go.Proofs.YtfpghkgfodnjmaaLib
open Go.RowKit Go.Proofs.YtfpghkgfodnjmaaW.PrintWords Go.Proofs.YtfpghkgfodnjmaaW.PrintMore
/-! ### instructions -/
def hasOp (op : Int) : Bool := decide (op = 1 ∨ op = 2 ∨ op = 3 ∨ op = 4 ∨ op = 9 ∨ op = 10 ∨ op = 11 ∨ op = 12 ∨ op = 13 ∨ op = 14)
def poolOp (op : Int) : Bool := decide (op = 2 ∨ op = 9 ∨ op = 10 ∨ op = 11 ∨ op = 12)
def insOk (op x n : Int) : Bool :=
  if op = 1 then decide (-128 ≤ x ∧ x ≤ 127) else if poolOp op = true then decide (0 ≤ x ∧ x ≤ 23) else if op = 3 ∨ op = 4 then decide (0 ≤ x ∧ x ≤ 5)
  else if op = 13 ∨ op = 14 then decide (0 ≤ x ∧ x ≤ n - 1) else decide (1 ≤ op ∧ op ≤ 24) && (x == 0)
def sizeOp (op : Int) : Int := if hasOp op = true then 2 else 1
theorem sizeOp_range (op : Int) : 1 ≤ sizeOp op ∧ sizeOp op ≤ 2 := by unfold sizeOp; split <;> decide
/-- Where instructions begin, from a place on; and where they end. -/
def offs : Int → List Int → List Int
  | _, [] => []
  | a, op :: r => a :: offs (a + sizeOp op) r
def ends : Int → List Int → Int
  | a, [] => a
  | a, op :: r => ends (a + sizeOp op) r
theorem offs_length : ∀ (l : List Int) (a : Int), (offs a l).length = l.length
  | [], _ => rfl
  | op :: r, a => by rw [offs, List.length_cons, List.length_cons, offs_length r]
theorem ends_range : ∀ (l : List Int) (a : Int), a + l.length ≤ ends a l ∧ ends a l ≤ a + 2 * l.length
  | [], a => by simp [ends]
  | op :: r, a => by
    have := ends_range r (a + sizeOp op)
    have := sizeOp_range op
    simp only [ends, List.length_cons]
    omega
theorem offs_append : ∀ (l m : List Int) (a : Int), offs a (l ++ m) = offs a l ++ offs (ends a l) m
  | [], m, a => rfl
  | op :: r, m, a => by simp [offs, ends, offs_append r m]
theorem ends_append : ∀ (l m : List Int) (a : Int), ends a (l ++ m) = ends (ends a l) m
  | [], m, a => rfl
  | op :: r, m, a => by simp [ends, ends_append r m]
end Go.Proofs.YtfpghkgfodnjmaaLib
