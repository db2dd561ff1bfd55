/- Words of mine for printed texts: a text's bytes as a new row that is only read. No condition. -/
import Derived.Test.YtfpghkgfodnjmaaWMore
import Derived.Lib.ConvBytes
namespace Go.Proofs.YtfpghkgfodnjmaaLib
open Go.RowKit Go.Proofs.YtfpghkgfodnjmaaW.PrintWords Go.Proofs.YtfpghkgfodnjmaaW.PrintLast Go.Proofs.YtfpghkgfodnjmaaW.PrintMore
/-- Flags: the n lowest bits of a number. -/
def dn (n m : Nat) : Array Bool := ((List.range n).map m.testBit).toArray
theorem sa_ {α : Type _} {l : List α} {i : Nat} {a : α} : l.toArray.setIfInBounds i a = (l.set i a).toArray := by simp
theorem sz_ {α : Type _} {a b : α} {l : List α} : (a :: l).set 0 b = b :: l := rfl
theorem ss_ {α : Type _} {a b : α} {n : Nat} {l : List α} : (a :: l).set (n + 1) b = a :: l.set n b := rfl
theorem C_len {α : Type} {d : Kd α} {w : World} {A : Option Addr} {n m : Nat} {xs : List α} (h : n = m) (k : d.C w A n xs) : d.C w A m xs := h ▸ k
theorem bytes_V (W : World) (e : TypeId) (s : ByteArray) (hs : s.size ≤ 9223372036854775807) {base : Nat} {ok : Nat → Prop} (hfresh : ok W.heap.size) {c : Nat} (hc : s.size ≤ c) :
    Kd.V (Kd.int .u8) e (Lib.bytesWorld W e s) base ok (.slice (some ⟨W.heap.size, 0, none⟩) s.size c) (bytesOf s) := by
  have hl : (bytesOf s).length = s.size := bytesOf_length s
  refine ⟨some ⟨W.heap.size, 0, none⟩, c, by rw [hl], by rw [hl]; exact hc, ?_⟩
  intro W' hW'
  have hb : W'.heap[W.heap.size]? = (Lib.bytesWorld W e s).heap[W.heap.size]? := hW' _ hfresh (by rw [Lib.bytesWorld_size]; omega)
  have hr := bytes_reads W e s hs
  rw [hl]
  refine Kd.C_of_reads (d := (0 : Int)) (h1 := fun _ => rfl) (enc := Value.int .u8) ?_
  refine ⟨hr.1, hr.2.1, fun hp => ?_⟩
  obtain ⟨ad, he, hh⟩ := hr.2.2 hp
  refine ⟨ad, he, fun j hj => ?_⟩
  have hx := hh j hj
  injection he with he
  subst he
  rw [← hx]
  simp only [World.cell?, add_block, hb]
section
variable {P : Program} {ops : Array Oper} {rest : List Oper} {o : Oper} {a : Act} {Q : Exit → Act → World → Prop}
theorem V_bytes {w0 W : World} (base e : Nat) (hgd : o.guard = none) {N : Tmp} (_hd : o.dst = some N) (src t : TypeId) (x : Operand) (ho : o.op = .convert src t x) (s : ByteArray) (hx : a.eval x = .string s)
    (hs : P.underlying src = some .string) (ht : P.underlying t = some (.slice e)) (he : P.underlying e = some (.int .u8)) (hz : s.size ≤ 140737488355328) (HB : Below base w0 W) (hbase : base ≤ W.heap.size)
    (h : ∀ v1 w1, Kd.V (Kd.int .u8) e w1 base (fun k_ => True ∧ W.heap.size ≤ k_ ∧ True) v1 (bytesOf s) → Below base w0 w1 → W.grownBy w1 none → (∃ b, v1.ownBlock = some b ∧ W.heap.size ≤ b) → wpList P ops Q rest (a.put o.dst v1) w1) : wpList P ops Q (o :: rest) a W := by
  have hrun := print_bytes (P := P) src t e hs ht he s W
  have hbel : Below W.heap.size W (Lib.bytesWorld W e s) := bytes_below (Below.refl _ _) (Nat.le_refl _) e s
  refine Kd.event_run hgd (w1 := Lib.bytesWorld W e s) (v := .slice (some ⟨W.heap.size, 0, none⟩) s.size (grownCap W s.size 0 e)) ?_ (h _ _ (bytes_V W e s (by omega) ⟨trivial, Nat.le_refl _, trivial⟩ ?_) (bytes_below HB hbase e s) (grown_of_below hbel none) ⟨W.heap.size, rfl, Nat.le_refl _⟩)
  · simp [execOp, ho, hx, hrun]
  · exact grownCap_ge _ _ _ _
end
end Go.Proofs.YtfpghkgfodnjmaaLib
