/- Values of this seat's struct types: what is known of them, and that whatever reads as data reads so. Written by a program of this session (wip/tools/genrow.py). -/
import Derived.Test.YtbhccjoodlldbaaPx0
import Derived.Test.YtbhccjoodlldbaaCOpen
namespace Go.Proofs.Ytbhccjoodlldbaa.O
open Go Go.RowKit Go.Proofs.Ytbhccjoodlldbaa.P Go.Proofs.Ytbhccjoodlldbaa.C Go.Proofs.YtbhccjoodlldbaaW.PrintWords Go.Proofs.YtbhccjoodlldbaaW.PrintLast Go.Proofs.YtbhccjoodlldbaaW.PrintMore
set_option linter.unusedVariables false
set_option linter.unusedSimpArgs false
def good24 (x : S24) : Prop := (Lit.int .u32 x.f0).wf = true ∧ (Lit.int .u32 x.f1).wf = true ∧ (Lit.int .u32 x.f2).wf = true ∧ (Lit.int .u32 x.f3).wf = true ∧ (Lit.int .u32 x.f4).wf = true
set_option maxRecDepth 100000 in
theorem o24 : Opens Try.prog 24 k24 good24 := ⟨fun {H} {enc} W base spare held fuel cs y h => by
  obtain ⟨xs, n, _, _, hlen, hxl, hf⟩ := DataW.trod_struct Try.underlying24 h
  have hN : cs.length = 5 := hlen.trans (by kernel_rfl)
  have hX : xs.length = 5 := hxl.trans rfl
  match cs, hN with
  | [c0, c1, c2, c3, c4], _ =>
    obtain ⟨y0, hy0⟩ : ∃ y0, xs[0]? = some y0 := ⟨_, List.getElem?_eq_getElem (show 0 < xs.length by omega)⟩
    have e0 : DataW.trod enc Try.prog W base spare held n 22 ((List.drop 0 [c0, c1, c2, c3, c4]).take (Try.prog.cellsOf 22)) = xs[0]? := hf 0 _ rfl
    rw [show Try.prog.cellsOf 22 = 1 from by kernel_rfl, hy0] at e0
    obtain ⟨x0, k0_, g0⟩ := (Opens.int Try.underlying22).out W base spare held n _ _ e0
    obtain ⟨y1, hy1⟩ : ∃ y1, xs[1]? = some y1 := ⟨_, List.getElem?_eq_getElem (show 1 < xs.length by omega)⟩
    have e1 : DataW.trod enc Try.prog W base spare held n 22 ((List.drop 1 [c0, c1, c2, c3, c4]).take (Try.prog.cellsOf 22)) = xs[1]? := hf 1 _ rfl
    rw [show Try.prog.cellsOf 22 = 1 from by kernel_rfl, hy1] at e1
    obtain ⟨x1, k1_, g1⟩ := (Opens.int Try.underlying22).out W base spare held n _ _ e1
    obtain ⟨y2, hy2⟩ : ∃ y2, xs[2]? = some y2 := ⟨_, List.getElem?_eq_getElem (show 2 < xs.length by omega)⟩
    have e2 : DataW.trod enc Try.prog W base spare held n 22 ((List.drop 2 [c0, c1, c2, c3, c4]).take (Try.prog.cellsOf 22)) = xs[2]? := hf 2 _ rfl
    rw [show Try.prog.cellsOf 22 = 1 from by kernel_rfl, hy2] at e2
    obtain ⟨x2, k2_, g2⟩ := (Opens.int Try.underlying22).out W base spare held n _ _ e2
    obtain ⟨y3, hy3⟩ : ∃ y3, xs[3]? = some y3 := ⟨_, List.getElem?_eq_getElem (show 3 < xs.length by omega)⟩
    have e3 : DataW.trod enc Try.prog W base spare held n 22 ((List.drop 3 [c0, c1, c2, c3, c4]).take (Try.prog.cellsOf 22)) = xs[3]? := hf 3 _ rfl
    rw [show Try.prog.cellsOf 22 = 1 from by kernel_rfl, hy3] at e3
    obtain ⟨x3, k3_, g3⟩ := (Opens.int Try.underlying22).out W base spare held n _ _ e3
    obtain ⟨y4, hy4⟩ : ∃ y4, xs[4]? = some y4 := ⟨_, List.getElem?_eq_getElem (show 4 < xs.length by omega)⟩
    have e4 : DataW.trod enc Try.prog W base spare held n 22 ((List.drop 4 [c0, c1, c2, c3, c4]).take (Try.prog.cellsOf 22)) = xs[4]? := hf 4 _ rfl
    rw [show Try.prog.cellsOf 22 = 1 from by kernel_rfl, hy4] at e4
    obtain ⟨x4, k4_, g4⟩ := (Opens.int Try.underlying22).out W base spare held n _ _ e4
    exact ⟨⟨x0, x1, x2, x3, x4⟩, ⟨[c0], [c1, c2, c3, c4], rfl, k0_, ⟨[c1], [c2, c3, c4], rfl, k1_, ⟨[c2], [c3, c4], rfl, k2_, ⟨[c3], [c4], rfl, k3_, k4_⟩⟩⟩⟩, g0, g1, g2, g3, g4⟩⟩
def good27 (x : S27) : Prop := (Lit.int .u32 x.f0).wf = true ∧ (Lit.int .u32 x.f1).wf = true ∧ (Lit.int .u32 x.f2).wf = true ∧ (Lit.int .u32 x.f3).wf = true
set_option maxRecDepth 100000 in
theorem o27 : Opens Try.prog 27 k27 good27 := ⟨fun {H} {enc} W base spare held fuel cs y h => by
  obtain ⟨xs, n, _, _, hlen, hxl, hf⟩ := DataW.trod_struct Try.underlying27 h
  have hN : cs.length = 4 := hlen.trans (by kernel_rfl)
  have hX : xs.length = 4 := hxl.trans rfl
  match cs, hN with
  | [c0, c1, c2, c3], _ =>
    obtain ⟨y0, hy0⟩ : ∃ y0, xs[0]? = some y0 := ⟨_, List.getElem?_eq_getElem (show 0 < xs.length by omega)⟩
    have e0 : DataW.trod enc Try.prog W base spare held n 22 ((List.drop 0 [c0, c1, c2, c3]).take (Try.prog.cellsOf 22)) = xs[0]? := hf 0 _ rfl
    rw [show Try.prog.cellsOf 22 = 1 from by kernel_rfl, hy0] at e0
    obtain ⟨x0, k0_, g0⟩ := (Opens.int Try.underlying22).out W base spare held n _ _ e0
    obtain ⟨y1, hy1⟩ : ∃ y1, xs[1]? = some y1 := ⟨_, List.getElem?_eq_getElem (show 1 < xs.length by omega)⟩
    have e1 : DataW.trod enc Try.prog W base spare held n 22 ((List.drop 1 [c0, c1, c2, c3]).take (Try.prog.cellsOf 22)) = xs[1]? := hf 1 _ rfl
    rw [show Try.prog.cellsOf 22 = 1 from by kernel_rfl, hy1] at e1
    obtain ⟨x1, k1_, g1⟩ := (Opens.int Try.underlying22).out W base spare held n _ _ e1
    obtain ⟨y2, hy2⟩ : ∃ y2, xs[2]? = some y2 := ⟨_, List.getElem?_eq_getElem (show 2 < xs.length by omega)⟩
    have e2 : DataW.trod enc Try.prog W base spare held n 22 ((List.drop 2 [c0, c1, c2, c3]).take (Try.prog.cellsOf 22)) = xs[2]? := hf 2 _ rfl
    rw [show Try.prog.cellsOf 22 = 1 from by kernel_rfl, hy2] at e2
    obtain ⟨x2, k2_, g2⟩ := (Opens.int Try.underlying22).out W base spare held n _ _ e2
    obtain ⟨y3, hy3⟩ : ∃ y3, xs[3]? = some y3 := ⟨_, List.getElem?_eq_getElem (show 3 < xs.length by omega)⟩
    have e3 : DataW.trod enc Try.prog W base spare held n 22 ((List.drop 3 [c0, c1, c2, c3]).take (Try.prog.cellsOf 22)) = xs[3]? := hf 3 _ rfl
    rw [show Try.prog.cellsOf 22 = 1 from by kernel_rfl, hy3] at e3
    obtain ⟨x3, k3_, g3⟩ := (Opens.int Try.underlying22).out W base spare held n _ _ e3
    exact ⟨⟨x0, x1, x2, x3⟩, ⟨[c0], [c1, c2, c3], rfl, k0_, ⟨[c1], [c2, c3], rfl, k1_, ⟨[c2], [c3], rfl, k2_, k3_⟩⟩⟩, g0, g1, g2, g3⟩⟩
def good46 (x : S46) : Prop := x.f0.size ≤ 9223372036854775807 ∧ (Lit.int .i64 x.f1).wf = true ∧ (Lit.int .i64 x.f2).wf = true ∧ (Lit.int .i64 x.f3).wf = true ∧ (Lit.int .i64 x.f4).wf = true
set_option maxRecDepth 100000 in
theorem o46 : Opens Try.prog 46 k46 good46 := ⟨fun {H} {enc} W base spare held fuel cs y h => by
  obtain ⟨xs, n, _, _, hlen, hxl, hf⟩ := DataW.trod_struct Try.underlying46 h
  have hN : cs.length = 5 := hlen.trans (by kernel_rfl)
  have hX : xs.length = 5 := hxl.trans rfl
  match cs, hN with
  | [c0, c1, c2, c3, c4], _ =>
    obtain ⟨y0, hy0⟩ : ∃ y0, xs[0]? = some y0 := ⟨_, List.getElem?_eq_getElem (show 0 < xs.length by omega)⟩
    have e0 : DataW.trod enc Try.prog W base spare held n 9 ((List.drop 0 [c0, c1, c2, c3, c4]).take (Try.prog.cellsOf 9)) = xs[0]? := hf 0 _ rfl
    rw [show Try.prog.cellsOf 9 = 1 from by kernel_rfl, hy0] at e0
    obtain ⟨x0, k0_, g0⟩ := (Opens.string Try.underlying9).out W base spare held n _ _ e0
    obtain ⟨y1, hy1⟩ : ∃ y1, xs[1]? = some y1 := ⟨_, List.getElem?_eq_getElem (show 1 < xs.length by omega)⟩
    have e1 : DataW.trod enc Try.prog W base spare held n 3 ((List.drop 1 [c0, c1, c2, c3, c4]).take (Try.prog.cellsOf 3)) = xs[1]? := hf 1 _ rfl
    rw [show Try.prog.cellsOf 3 = 1 from by kernel_rfl, hy1] at e1
    obtain ⟨x1, k1_, g1⟩ := (Opens.int Try.underlying3).out W base spare held n _ _ e1
    obtain ⟨y2, hy2⟩ : ∃ y2, xs[2]? = some y2 := ⟨_, List.getElem?_eq_getElem (show 2 < xs.length by omega)⟩
    have e2 : DataW.trod enc Try.prog W base spare held n 3 ((List.drop 2 [c0, c1, c2, c3, c4]).take (Try.prog.cellsOf 3)) = xs[2]? := hf 2 _ rfl
    rw [show Try.prog.cellsOf 3 = 1 from by kernel_rfl, hy2] at e2
    obtain ⟨x2, k2_, g2⟩ := (Opens.int Try.underlying3).out W base spare held n _ _ e2
    obtain ⟨y3, hy3⟩ : ∃ y3, xs[3]? = some y3 := ⟨_, List.getElem?_eq_getElem (show 3 < xs.length by omega)⟩
    have e3 : DataW.trod enc Try.prog W base spare held n 3 ((List.drop 3 [c0, c1, c2, c3, c4]).take (Try.prog.cellsOf 3)) = xs[3]? := hf 3 _ rfl
    rw [show Try.prog.cellsOf 3 = 1 from by kernel_rfl, hy3] at e3
    obtain ⟨x3, k3_, g3⟩ := (Opens.int Try.underlying3).out W base spare held n _ _ e3
    obtain ⟨y4, hy4⟩ : ∃ y4, xs[4]? = some y4 := ⟨_, List.getElem?_eq_getElem (show 4 < xs.length by omega)⟩
    have e4 : DataW.trod enc Try.prog W base spare held n 3 ((List.drop 4 [c0, c1, c2, c3, c4]).take (Try.prog.cellsOf 3)) = xs[4]? := hf 4 _ rfl
    rw [show Try.prog.cellsOf 3 = 1 from by kernel_rfl, hy4] at e4
    obtain ⟨x4, k4_, g4⟩ := (Opens.int Try.underlying3).out W base spare held n _ _ e4
    exact ⟨⟨x0, x1, x2, x3, x4⟩, ⟨[c0], [c1, c2, c3, c4], rfl, k0_, ⟨[c1], [c2, c3, c4], rfl, k1_, ⟨[c2], [c3, c4], rfl, k2_, ⟨[c3], [c4], rfl, k3_, k4_⟩⟩⟩⟩, g0, g1, g2, g3, g4⟩⟩
def good30 (x : S30) : Prop := good24 x.f0 ∧ (x.f1.length ≤ 9223372036854775807 ∧ ∀ y ∈ x.f1, (Lit.int .u32 y).wf = true) ∧ (x.f2.length ≤ 9223372036854775807 ∧ ∀ y ∈ x.f2, (Lit.int .u32 y).wf = true) ∧ good27 x.f3 ∧ (x.f4.length ≤ 9223372036854775807 ∧ ∀ y ∈ x.f4, good46 y)
set_option maxRecDepth 100000 in
theorem o30 : Opens Try.prog 30 k30 good30 := ⟨fun {H} {enc} W base spare held fuel cs y h => by
  obtain ⟨xs, n, _, _, hlen, hxl, hf⟩ := DataW.trod_struct Try.underlying30 h
  have hN : cs.length = 12 := hlen.trans (by kernel_rfl)
  have hX : xs.length = 5 := hxl.trans rfl
  match cs, hN with
  | [c0, c1, c2, c3, c4, c5, c6, c7, c8, c9, c10, c11], _ =>
    obtain ⟨y0, hy0⟩ : ∃ y0, xs[0]? = some y0 := ⟨_, List.getElem?_eq_getElem (show 0 < xs.length by omega)⟩
    have e0 : DataW.trod enc Try.prog W base spare held n 24 ((List.drop 0 [c0, c1, c2, c3, c4, c5, c6, c7, c8, c9, c10, c11]).take (Try.prog.cellsOf 24)) = xs[0]? := hf 0 _ rfl
    rw [show Try.prog.cellsOf 24 = 5 from by kernel_rfl, hy0] at e0
    obtain ⟨x0, k0_, g0⟩ := o24.out W base spare held n _ _ e0
    obtain ⟨y1, hy1⟩ : ∃ y1, xs[1]? = some y1 := ⟨_, List.getElem?_eq_getElem (show 1 < xs.length by omega)⟩
    have e1 : DataW.trod enc Try.prog W base spare held n 25 ((List.drop 5 [c0, c1, c2, c3, c4, c5, c6, c7, c8, c9, c10, c11]).take (Try.prog.cellsOf 25)) = xs[1]? := hf 1 _ rfl
    rw [show Try.prog.cellsOf 25 = 1 from by kernel_rfl, hy1] at e1
    obtain ⟨x1, k1_, g1⟩ := (Opens.slice Try.underlying25 (by kernel_rfl) (Opens.int Try.underlying22)).out W base spare held n _ _ e1
    obtain ⟨y2, hy2⟩ : ∃ y2, xs[2]? = some y2 := ⟨_, List.getElem?_eq_getElem (show 2 < xs.length by omega)⟩
    have e2 : DataW.trod enc Try.prog W base spare held n 25 ((List.drop 6 [c0, c1, c2, c3, c4, c5, c6, c7, c8, c9, c10, c11]).take (Try.prog.cellsOf 25)) = xs[2]? := hf 2 _ rfl
    rw [show Try.prog.cellsOf 25 = 1 from by kernel_rfl, hy2] at e2
    obtain ⟨x2, k2_, g2⟩ := (Opens.slice Try.underlying25 (by kernel_rfl) (Opens.int Try.underlying22)).out W base spare held n _ _ e2
    obtain ⟨y3, hy3⟩ : ∃ y3, xs[3]? = some y3 := ⟨_, List.getElem?_eq_getElem (show 3 < xs.length by omega)⟩
    have e3 : DataW.trod enc Try.prog W base spare held n 27 ((List.drop 7 [c0, c1, c2, c3, c4, c5, c6, c7, c8, c9, c10, c11]).take (Try.prog.cellsOf 27)) = xs[3]? := hf 3 _ rfl
    rw [show Try.prog.cellsOf 27 = 4 from by kernel_rfl, hy3] at e3
    obtain ⟨x3, k3_, g3⟩ := o27.out W base spare held n _ _ e3
    obtain ⟨y4, hy4⟩ : ∃ y4, xs[4]? = some y4 := ⟨_, List.getElem?_eq_getElem (show 4 < xs.length by omega)⟩
    have e4 : DataW.trod enc Try.prog W base spare held n 28 ((List.drop 11 [c0, c1, c2, c3, c4, c5, c6, c7, c8, c9, c10, c11]).take (Try.prog.cellsOf 28)) = xs[4]? := hf 4 _ rfl
    rw [show Try.prog.cellsOf 28 = 1 from by kernel_rfl, hy4] at e4
    obtain ⟨x4, k4_, g4⟩ := (Opens.slice Try.underlying28 (by kernel_rfl) o46).out W base spare held n _ _ e4
    exact ⟨⟨x0, x1, x2, x3, x4⟩, ⟨[c0, c1, c2, c3, c4], [c5, c6, c7, c8, c9, c10, c11], rfl, k0_, ⟨[c5], [c6, c7, c8, c9, c10, c11], rfl, k1_, ⟨[c6], [c7, c8, c9, c10, c11], rfl, k2_, ⟨[c7, c8, c9, c10], [c11], rfl, k3_, k4_⟩⟩⟩⟩, g0, g1, g2, g3, g4⟩⟩
end Go.Proofs.Ytbhccjoodlldbaa.O
