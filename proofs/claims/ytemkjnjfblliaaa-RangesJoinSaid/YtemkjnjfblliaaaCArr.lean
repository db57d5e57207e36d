/- Arguments that are arrays of two whole numbers, opened. No program in sight. -/
import Derived.OpenShut
import Derived.WideShapes
import Derived.ChangeSame
import Derived.ChangeArms
namespace Go.Proofs.Ytemkjnjfblliaaa.C
open Go Go.ChangeShapes Go.WideShapes
theorem okWide_array {P : Program} {w : World} {r : Reach} {base : Nat} {t : TypeId} {v : Value} {n : Nat} {e : TypeId} (ht : P.underlying t = some (.array n e)) (h : Value.okWide P w r base t v) : ∃ cs, v = .agg cs ∧ cs.size = P.cellsOf t := by
  simp only [Value.okWide, ht] at h
  obtain ⟨cs, h1, h2, _⟩ := h
  exact ⟨cs, h1, h2⟩
theorem open_pair {H : Type} {enc : TypeId × Value → H} {P : Program} {W w : World} {r : Reach} {base b : Nat} {spare : Nat → Bool} {held : Bool} {t e : TypeId} {v : Value} {d : DataW H} {p : List MemPlace} (ht : P.underlying t = some (.array 2 e)) (he : P.underlying e = some (.int .i64)) (hc : P.cellsOf e = 1) (hc2 : P.cellsOf t = 2)
    (hv : Value.okWide P w r b t v) (h : DataW.Trod enc P W base spare held t v d p) : ∃ x y : Int, v = .agg #[.int .i64 x, .int .i64 y] ∧ (Lit.int .i64 x).wf = true ∧ (Lit.int .i64 y).wf = true := by
  obtain ⟨cs, rfl, hcs⟩ := okWide_array ht hv
  obtain ⟨m, hm⟩ := h
  obtain ⟨xs, m', _, _, hl, hxl, hf⟩ := DataW.trod_array ht hm
  rw [hc2] at hcs
  have e0 := hf 0 (by omega)
  have e1 := hf 1 (by omega)
  obtain ⟨y0, hy0⟩ : ∃ y, xs[0]? = some y := ⟨_, List.getElem?_eq_getElem (show 0 < xs.length by omega)⟩
  obtain ⟨y1, hy1⟩ : ∃ y, xs[1]? = some y := ⟨_, List.getElem?_eq_getElem (show 1 < xs.length by omega)⟩
  rw [hy0, hc] at e0
  rw [hy1, hc] at e1
  obtain ⟨l⟩ := cs
  match l, hcs with
  | [c0, c1], _ =>
    obtain ⟨a, h0, _, w0⟩ := DataW.trod_int he e0
    obtain ⟨b', h1, _, w1⟩ := DataW.trod_int he e1
    simp [Value.cells] at h0 h1
    subst h0
    subst h1
    exact ⟨a, b', rfl, w0, w1⟩
end Go.Proofs.Ytemkjnjfblliaaa.C
