/- Instructions, in plain words: shapes, which may be, words. No program in sight. -/
import Derived.Test.YtmebogkhdbbbbaaCDigs
namespace Go.Proofs.Ytmebogkhdbbbbaa.C
open Go

def shapeTab : List Int := [-1, 0, 1, 2, 4, 3, 5, 5, 5, 5, 5, 5, 5, 5, 5, 5, 5, 5, 3, 3, 1, 1, 7, 7, 6, 6, 4, 6, 8, 6, 2, 6, 6, 2, 4]
def shapeOf (op : Int) : Int := if 1 ≤ op ∧ op ≤ 34 then shapeTab.getD op.toNat (-1) else -1
theorem shapeOf_range (op : Int) : -1 ≤ shapeOf op ∧ shapeOf op ≤ 8 := by
  unfold shapeOf
  split
  · have : ∀ k : Fin 35, -1 ≤ shapeTab.getD k.1 (-1) ∧ shapeTab.getD k.1 (-1) ≤ 8 := by decide
    exact this ⟨op.toNat, by omega⟩
  · omega
theorem shapeOf_op (op : Int) (h : 0 ≤ shapeOf op) : 1 ≤ op ∧ op ≤ 34 := by
  unfold shapeOf at h
  split at h
  · assumption
  · omega
def low (s : Int) : Int := if s = 1 ∨ s = 3 then -32768 else if s = 7 then -8388608 else 0
def high (s : Int) : Int := if s = 1 ∨ s = 3 then 32767 else if s = 2 ∨ s = 4 ∨ s = 8 then 65535 else if s = 7 then 8388607 else 0
/-- May the fields be, at a shape? -/
def okAt (s a b c i : Int) : Prop := (0 ≤ a ∧ a ≤ 15) ∧ (0 ≤ b ∧ b ≤ 15) ∧ (0 ≤ c ∧ c ≤ 15) ∧ (¬ (1 ≤ s ∧ s ≤ 6) → a = 0) ∧ (¬ (3 ≤ s ∧ s ≤ 5) → b = 0) ∧ (s ≠ 5 → c = 0) ∧ low s ≤ i ∧ i ≤ high s
instance (s a b c i : Int) : Decidable (okAt s a b c i) := by unfold okAt; infer_instance
def checkOf (op a b c i : Int) : Int := if shapeOf op < 0 then 21 else if okAt (shapeOf op) a b c i then 0 else 20
/-- The word of fields that may be. -/
def wordOf (op a b c i : Int) : Int := if shapeOf op = 7 then op * 16777216 + i % 16777216 else op * 16777216 + a * 1048576 + b * 65536 + i % 65536 + c
def encOf (op a b c i : Int) : Int × Int := if checkOf op a b c i = 0 then (wordOf op a b c i, 0) else (0, checkOf op a b c i)
theorem checkOf_ok (op a b c i : Int) : checkOf op a b c i = 0 ↔ 0 ≤ shapeOf op ∧ okAt (shapeOf op) a b c i := by
  unfold checkOf
  by_cases h : shapeOf op < 0
  · rw [if_pos h]; constructor
    · intro e; omega
    · intro e; omega
  · rw [if_neg h]
    by_cases h2 : okAt (shapeOf op) a b c i
    · rw [if_pos h2]; exact ⟨fun _ => ⟨by omega, h2⟩, fun _ => rfl⟩
    · rw [if_neg h2]; exact ⟨fun e => by omega, fun e => absurd e.2 h2⟩
end Go.Proofs.Ytmebogkhdbbbbaa.C
