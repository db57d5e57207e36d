/- Values of this seat's struct types: what is known of them, and that whatever reads as data reads so. Written by a program of this session (wip/tools/genrow.py). -/
import Derived.Test.YtnfgncapmkpcjaaPx0
import Derived.Test.YtnfgncapmkpcjaaCOpen
namespace Go.Proofs.Ytnfgncapmkpcjaa.O
open Go Go.RowKit Go.Proofs.Ytnfgncapmkpcjaa.P Go.Proofs.Ytnfgncapmkpcjaa.C Go.Proofs.YtnfgncapmkpcjaaW.PrintWords Go.Proofs.YtnfgncapmkpcjaaW.PrintLast Go.Proofs.YtnfgncapmkpcjaaW.PrintMore
set_option linter.unusedVariables false
set_option linter.unusedSimpArgs false
def good41 (x : S41) : Prop := x.f0.size ≤ 9223372036854775807 ∧ (x.f1.length ≤ 9223372036854775807 ∧ ∀ y ∈ x.f1, y.size ≤ 9223372036854775807)
set_option maxRecDepth 100000 in
theorem o41 : Opens Try.prog 41 k41 good41 := ⟨fun {H} {enc} W base spare held fuel cs y h => by
  obtain ⟨xs, n, _, _, hlen, hxl, hf⟩ := DataW.trod_struct Try.underlying41 h
  have hN : cs.length = 2 := hlen.trans (by kernel_rfl)
  have hX : xs.length = 2 := hxl.trans rfl
  match cs, hN with
  | [c0, c1], _ =>
    obtain ⟨y0, hy0⟩ : ∃ y0, xs[0]? = some y0 := ⟨_, List.getElem?_eq_getElem (show 0 < xs.length by omega)⟩
    have e0 : DataW.trod enc Try.prog W base spare held n 9 ((List.drop 0 [c0, c1]).take (Try.prog.cellsOf 9)) = xs[0]? := hf 0 _ rfl
    rw [show Try.prog.cellsOf 9 = 1 from by kernel_rfl, hy0] at e0
    obtain ⟨x0, k0_, g0⟩ := (Opens.string Try.underlying9).out W base spare held n _ _ e0
    obtain ⟨y1, hy1⟩ : ∃ y1, xs[1]? = some y1 := ⟨_, List.getElem?_eq_getElem (show 1 < xs.length by omega)⟩
    have e1 : DataW.trod enc Try.prog W base spare held n 39 ((List.drop 1 [c0, c1]).take (Try.prog.cellsOf 39)) = xs[1]? := hf 1 _ rfl
    rw [show Try.prog.cellsOf 39 = 1 from by kernel_rfl, hy1] at e1
    obtain ⟨x1, k1_, g1⟩ := (Opens.slice Try.underlying39 (by kernel_rfl) (Opens.string Try.underlying9)).out W base spare held n _ _ e1
    exact ⟨⟨x0, x1⟩, ⟨[c0], [c1], rfl, k0_, k1_⟩, g0, g1⟩⟩
end Go.Proofs.Ytnfgncapmkpcjaa.O
