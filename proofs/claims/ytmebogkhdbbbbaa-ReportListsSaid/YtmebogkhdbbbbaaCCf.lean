/- Facts of a block's cells in one row, and short names (wip/tools/pack.py). -/
import Derived.Test.YtmebogkhdbbbbaaPx0
namespace Go.Proofs.Ytmebogkhdbbbbaa.P
open Go.RowKit Go.Proofs.YtmebogkhdbbbbaaW.PrintWords Go.Proofs.YtmebogkhdbbbbaaW.PrintLast Go.Proofs.YtmebogkhdbbbbaaW.PrintMore
theorem cf3 {w : World} {g : Nat} {t : TypeId} {x0 x1 x2 : Value} (h : w.heap[g]? = some (.cells #[x0, x1, x2] t (0, 0))) : w.cell? ⟨g, 0, none⟩ = some x0 ∧ w.cell? ⟨g, 1, none⟩ = some x1 ∧ w.cell? ⟨g, 2, none⟩ = some x2 ∧ w.frozen? ⟨g, 0, none⟩ = false ∧ w.frozen? ⟨g, 1, none⟩ = false ∧ w.frozen? ⟨g, 2, none⟩ = false := ⟨(blk_cell h 0).trans rfl, (blk_cell h 1).trans rfl, (blk_cell h 2).trans rfl, blk_frozen h 0, blk_frozen h 1, blk_frozen h 2⟩
theorem cf5 {w : World} {g : Nat} {t : TypeId} {x0 x1 x2 x3 x4 : Value} (h : w.heap[g]? = some (.cells #[x0, x1, x2, x3, x4] t (0, 0))) : w.cell? ⟨g, 0, none⟩ = some x0 ∧ w.cell? ⟨g, 1, none⟩ = some x1 ∧ w.cell? ⟨g, 2, none⟩ = some x2 ∧ w.cell? ⟨g, 3, none⟩ = some x3 ∧ w.cell? ⟨g, 4, none⟩ = some x4 ∧ w.frozen? ⟨g, 0, none⟩ = false ∧ w.frozen? ⟨g, 1, none⟩ = false ∧ w.frozen? ⟨g, 2, none⟩ = false ∧ w.frozen? ⟨g, 3, none⟩ = false ∧ w.frozen? ⟨g, 4, none⟩ = false := ⟨(blk_cell h 0).trans rfl, (blk_cell h 1).trans rfl, (blk_cell h 2).trans rfl, (blk_cell h 3).trans rfl, (blk_cell h 4).trans rfl, blk_frozen h 0, blk_frozen h 1, blk_frozen h 2, blk_frozen h 3, blk_frozen h 4⟩
abbrev mK := @Aside0.mk
theorem oB {α β : Type} {x : Option α} {f : α → Option β} {b : β} (h : x.bind f = some b) : ∃ a, x = some a ∧ f a = some b := Option.bind_eq_some_iff.mp h
abbrev bA := @below_alloc
abbrev bD := @below_drew1
abbrev bS := @below_set
abbrev bZ := @below_size
abbrev bP := @below_step
theorem bQ {α : Type} [BEq α] [LawfulBEq α] {a b : α} (h : a ≠ b) : (a == b) = false := beq_eq_false_iff_ne.mpr h
abbrev kA := @blk_alloc
abbrev kB := @blk_below
abbrev kC := @blk_cell
abbrev kD := @blk_drew
abbrev kN := @blk_drewN
abbrev kR := @blk_far
abbrev kF := @blk_frozen
abbrev kP := @blk_put
theorem bR {α : Type} [BEq α] [LawfulBEq α] {a b : α} (h : a = b) : (a != b) = false := bne_eq_false_iff_eq.mpr h
abbrev bN := @pw_below_drewN
abbrev kW := @pw_cell_below
abbrev o5 (a b c d e : Int) (t : TypeId) : Obj := .cells #[.int .i64 a, .int .i64 b, .int .i64 c, .int .i64 d, .int .i64 e] t (0, 0)
end Go.Proofs.Ytmebogkhdbbbbaa.P
