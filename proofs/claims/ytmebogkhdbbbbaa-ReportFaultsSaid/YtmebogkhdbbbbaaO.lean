/- Values of this seat's struct types: what is known of them, and that whatever reads as data reads so. Written by a program of this session (wip/tools/genrow.py). -/
import Derived.Test.YtmebogkhdbbbbaaPx0
import Derived.Test.YtmebogkhdbbbbaaCOpen
namespace Go.Proofs.Ytmebogkhdbbbbaa.O
open Go Go.RowKit Go.Proofs.Ytmebogkhdbbbbaa.P Go.Proofs.Ytmebogkhdbbbbaa.C Go.Proofs.YtmebogkhdbbbbaaW.PrintWords Go.Proofs.YtmebogkhdbbbbaaW.PrintLast Go.Proofs.YtmebogkhdbbbbaaW.PrintMore
set_option linter.unusedVariables false
set_option linter.unusedSimpArgs false
def good25 (x : S25) : Prop := (Lit.int .i64 x.f0).wf = true ∧ (Lit.int .i64 x.f1).wf = true ∧ (Lit.int .i64 x.f2).wf = true
set_option maxRecDepth 100000 in
theorem o25 : Opens Try.prog 25 k25 good25 := ⟨fun {H} {enc} W base spare held fuel cs y h => by
  obtain ⟨xs, n, _, _, hlen, hxl, hf⟩ := DataW.trod_struct Try.underlying25 h
  have hN : cs.length = 3 := hlen.trans (by kernel_rfl)
  have hX : xs.length = 3 := hxl.trans rfl
  match cs, hN with
  | [c0, c1, c2], _ =>
    obtain ⟨y0, hy0⟩ : ∃ y0, xs[0]? = some y0 := ⟨_, List.getElem?_eq_getElem (show 0 < xs.length by omega)⟩
    have e0 : DataW.trod enc Try.prog W base spare held n 3 ((List.drop 0 [c0, c1, c2]).take (Try.prog.cellsOf 3)) = xs[0]? := hf 0 _ rfl
    rw [show Try.prog.cellsOf 3 = 1 from by kernel_rfl, hy0] at e0
    obtain ⟨x0, k0_, g0⟩ := (Opens.int Try.underlying3).out W base spare held n _ _ e0
    obtain ⟨y1, hy1⟩ : ∃ y1, xs[1]? = some y1 := ⟨_, List.getElem?_eq_getElem (show 1 < xs.length by omega)⟩
    have e1 : DataW.trod enc Try.prog W base spare held n 3 ((List.drop 1 [c0, c1, c2]).take (Try.prog.cellsOf 3)) = xs[1]? := hf 1 _ rfl
    rw [show Try.prog.cellsOf 3 = 1 from by kernel_rfl, hy1] at e1
    obtain ⟨x1, k1_, g1⟩ := (Opens.int Try.underlying3).out W base spare held n _ _ e1
    obtain ⟨y2, hy2⟩ : ∃ y2, xs[2]? = some y2 := ⟨_, List.getElem?_eq_getElem (show 2 < xs.length by omega)⟩
    have e2 : DataW.trod enc Try.prog W base spare held n 23 ((List.drop 2 [c0, c1, c2]).take (Try.prog.cellsOf 23)) = xs[2]? := hf 2 _ rfl
    rw [show Try.prog.cellsOf 23 = 1 from by kernel_rfl, hy2] at e2
    obtain ⟨x2, k2_, g2⟩ := (Opens.int Try.underlying23).out W base spare held n _ _ e2
    exact ⟨⟨x0, x1, x2⟩, ⟨[c0], [c1, c2], rfl, k0_, ⟨[c1], [c2], rfl, k1_, k2_⟩⟩, g0, g1, g2⟩⟩
end Go.Proofs.Ytmebogkhdbbbbaa.O
