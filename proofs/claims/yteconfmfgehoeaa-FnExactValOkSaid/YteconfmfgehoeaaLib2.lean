/- Plain functions that the program's and the reference's functions are shown to compute: the check of bytes, numbers round. No condition. -/
import Derived.Test.YteconfmfgehoeaaLib1
namespace Go.Proofs.YteconfmfgehoeaaLib
open Go.RowKit Go.Proofs.YteconfmfgehoeaaW.PrintWords

/-- The check of bytes, from two sums on. -/
def chk : List Int → Int → Int → Int
  | [], a, b => b * 65536 + a
  | c :: r, a, b => chk r ((a + c) % 65521) ((b + (a + c) % 65521) % 65521)
/-- A number, round to 32 bits. -/
def round (n : Int) : Int := (n + 2147483648) % 4294967296 - 2147483648
/-- Four bytes, read as a word. -/
def getWord (l : List Int) (i : Int) : Int × Int × Bool :=
  if 0 ≤ i ∧ i + 4 ≤ l.length then (round (rd l i + rd l (i + 1) * 256 + rd l (i + 2) * 65536 + rd l (i + 3) * 16777216), i + 4, true) else (0, 0, false)
theorem le4 (a b c d : Int) (ha : 0 ≤ a ∧ a ≤ 255) (hb : 0 ≤ b ∧ b ≤ 255) (hc : 0 ≤ c ∧ c ≤ 255) (hd : 0 ≤ d ∧ d ≤ 255) :
    bits .or .i64 (bits .or .i64 (bits .or .i64 (wrap64 a) (wrap64 (wrap64 b * 256))) (wrap64 (wrap64 c * 65536))) (wrap64 (wrap64 d * 16777216)) = a + b * 256 + c * 65536 + d * 16777216 := by
  rw [w64 (n := a) (by omega) (by omega), w64 (n := b) (by omega) (by omega), w64 (n := c) (by omega) (by omega), w64 (n := d) (by omega) (by omega),
    w64 (n := b * 256) (by omega) (by omega), w64 (n := c * 65536) (by omega) (by omega), w64 (n := d * 16777216) (by omega) (by omega)]
  rw [or_join' 8 (b * 256) a (by decide) (by omega) (by simp) (by omega) (by omega) (by omega),
    or_join' 16 (c * 65536) (a + b * 256) (by decide) (by omega) (by simp) (by omega) (by omega) (by omega),
    or_join' 24 (d * 16777216) (a + b * 256 + c * 65536) (by decide) (by omega) (by simp) (by omega) (by omega) (by omega)]
end Go.Proofs.YteconfmfgehoeaaLib
