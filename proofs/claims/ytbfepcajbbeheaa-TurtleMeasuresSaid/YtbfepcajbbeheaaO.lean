/- Values of this seat's struct types: what is known of them, and that whatever reads as data reads so. Written by a program of this session (wip/tools/genrow.py). -/
import Derived.Test.YtbfepcajbbeheaaPx0
import Derived.Test.YtbfepcajbbeheaaCOpen
namespace Go.Proofs.Ytbfepcajbbeheaa.O
open Go Go.RowKit Go.Proofs.Ytbfepcajbbeheaa.P Go.Proofs.Ytbfepcajbbeheaa.C Go.Proofs.YtbfepcajbbeheaaW.PrintWords Go.Proofs.YtbfepcajbbeheaaW.PrintLast Go.Proofs.YtbfepcajbbeheaaW.PrintMore
set_option linter.unusedVariables false
set_option linter.unusedSimpArgs false
def good33 (x : S33) : Prop := (Lit.int .i32 x.f0).wf = true ∧ (Lit.int .i32 x.f1).wf = true
set_option maxRecDepth 100000 in
theorem o33 : Opens Try.prog 33 k33 good33 := ⟨fun {H} {enc} W base spare held fuel cs y h => by
  obtain ⟨xs, n, _, _, hlen, hxl, hf⟩ := DataW.trod_struct Try.underlying33 h
  have hN : cs.length = 2 := hlen.trans (by kernel_rfl)
  have hX : xs.length = 2 := hxl.trans rfl
  match cs, hN with
  | [c0, c1], _ =>
    obtain ⟨y0, hy0⟩ : ∃ y0, xs[0]? = some y0 := ⟨_, List.getElem?_eq_getElem (show 0 < xs.length by omega)⟩
    have e0 : DataW.trod enc Try.prog W base spare held n 21 ((List.drop 0 [c0, c1]).take (Try.prog.cellsOf 21)) = xs[0]? := hf 0 _ rfl
    rw [show Try.prog.cellsOf 21 = 1 from by kernel_rfl, hy0] at e0
    obtain ⟨x0, k0_, g0⟩ := (Opens.int Try.underlying21).out W base spare held n _ _ e0
    obtain ⟨y1, hy1⟩ : ∃ y1, xs[1]? = some y1 := ⟨_, List.getElem?_eq_getElem (show 1 < xs.length by omega)⟩
    have e1 : DataW.trod enc Try.prog W base spare held n 21 ((List.drop 1 [c0, c1]).take (Try.prog.cellsOf 21)) = xs[1]? := hf 1 _ rfl
    rw [show Try.prog.cellsOf 21 = 1 from by kernel_rfl, hy1] at e1
    obtain ⟨x1, k1_, g1⟩ := (Opens.int Try.underlying21).out W base spare held n _ _ e1
    exact ⟨⟨x0, x1⟩, ⟨[c0], [c1], rfl, k0_, k1_⟩, g0, g1⟩⟩
def good72 (x : S72) : Prop := (Lit.int .i64 x.f0).wf = true ∧ (Lit.int .i32 x.f1).wf = true
set_option maxRecDepth 100000 in
theorem o72 : Opens Try.prog 72 k72 good72 := ⟨fun {H} {enc} W base spare held fuel cs y h => by
  obtain ⟨xs, n, _, _, hlen, hxl, hf⟩ := DataW.trod_struct Try.underlying72 h
  have hN : cs.length = 2 := hlen.trans (by kernel_rfl)
  have hX : xs.length = 2 := hxl.trans rfl
  match cs, hN with
  | [c0, c1], _ =>
    obtain ⟨y0, hy0⟩ : ∃ y0, xs[0]? = some y0 := ⟨_, List.getElem?_eq_getElem (show 0 < xs.length by omega)⟩
    have e0 : DataW.trod enc Try.prog W base spare held n 3 ((List.drop 0 [c0, c1]).take (Try.prog.cellsOf 3)) = xs[0]? := hf 0 _ rfl
    rw [show Try.prog.cellsOf 3 = 1 from by kernel_rfl, hy0] at e0
    obtain ⟨x0, k0_, g0⟩ := (Opens.int Try.underlying3).out W base spare held n _ _ e0
    obtain ⟨y1, hy1⟩ : ∃ y1, xs[1]? = some y1 := ⟨_, List.getElem?_eq_getElem (show 1 < xs.length by omega)⟩
    have e1 : DataW.trod enc Try.prog W base spare held n 21 ((List.drop 1 [c0, c1]).take (Try.prog.cellsOf 21)) = xs[1]? := hf 1 _ rfl
    rw [show Try.prog.cellsOf 21 = 1 from by kernel_rfl, hy1] at e1
    obtain ⟨x1, k1_, g1⟩ := (Opens.int Try.underlying21).out W base spare held n _ _ e1
    exact ⟨⟨x0, x1⟩, ⟨[c0], [c1], rfl, k0_, k1_⟩, g0, g1⟩⟩
end Go.Proofs.Ytbfepcajbbeheaa.O
