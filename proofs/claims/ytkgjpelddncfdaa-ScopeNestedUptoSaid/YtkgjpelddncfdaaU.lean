/- Values of this seat's struct types, where the bulk is small: what is known of them, and that whatever reads as data reads so. Written by a program of this session (wip/tools/genrowu.py). -/
import Derived.Test.YtkgjpelddncfdaaPx0
import Derived.Test.YtkgjpelddncfdaaCOpenU
namespace Go.Proofs.Ytkgjpelddncfdaa.O
open Go Go.RowKit Go.Proofs.Ytkgjpelddncfdaa.P Go.Proofs.Ytkgjpelddncfdaa.C Go.Proofs.YtkgjpelddncfdaaW.PrintWords Go.Proofs.YtkgjpelddncfdaaW.PrintLast Go.Proofs.YtkgjpelddncfdaaW.PrintMore
set_option linter.unusedVariables false
set_option linter.unusedSimpArgs false
def goodU69 (x : S69) : Prop := (Lit.int .i64 x.f0).wf = true ∧ True
set_option maxRecDepth 100000 in
theorem u69 : OpensU Try.prog 69 k69 goodU69 := ⟨fun {H} {enc} W base spare held fuel cs y h hb => by
  obtain ⟨xs, n, _, hy, hlen, hxl, hf⟩ := DataW.trod_struct Try.underlying69 h
  rw [hy] at hb
  have hN : cs.length = 2 := hlen.trans (by kernel_rfl)
  have hX : xs.length = 2 := hxl.trans rfl
  match cs, hN with
  | [c0, c1], _ =>
    obtain ⟨y0, hy0⟩ : ∃ y0, xs[0]? = some y0 := ⟨_, List.getElem?_eq_getElem (show 0 < xs.length by omega)⟩
    have e0 : DataW.trod enc Try.prog W base spare held n 3 ((List.drop 0 [c0, c1]).take (Try.prog.cellsOf 3)) = xs[0]? := hf 0 _ rfl
    rw [show Try.prog.cellsOf 3 = 1 from by kernel_rfl, hy0] at e0
    obtain ⟨x0, k0_, g0⟩ := (OpensU.int Try.underlying3).out W base spare held n _ _ e0 (bulk_part hy0 hb)
    obtain ⟨y1, hy1⟩ : ∃ y1, xs[1]? = some y1 := ⟨_, List.getElem?_eq_getElem (show 1 < xs.length by omega)⟩
    have e1 : DataW.trod enc Try.prog W base spare held n 4 ((List.drop 1 [c0, c1]).take (Try.prog.cellsOf 4)) = xs[1]? := hf 1 _ rfl
    rw [show Try.prog.cellsOf 4 = 1 from by kernel_rfl, hy1] at e1
    obtain ⟨x1, k1_, g1⟩ := (OpensU.bool Try.underlying4).out W base spare held n _ _ e1 (bulk_part hy1 hb)
    exact ⟨⟨x0, x1⟩, ⟨[c0], [c1], rfl, k0_, k1_⟩, g0, g1⟩⟩
def goodU25 (x : S25) : Prop := x.f0.size ≤ 1048576 ∧ (Lit.int .i64 x.f1).wf = true ∧ (Lit.int .i64 x.f2).wf = true ∧ (Lit.int .i64 x.f3).wf = true ∧ (Lit.int .i32 x.f4).wf = true ∧ (Lit.int .i64 x.f5).wf = true ∧ True ∧ (x.f7.length ≤ 1048576 ∧ ∀ y ∈ x.f7, goodU69 y)
set_option maxRecDepth 100000 in
theorem u25 : OpensU Try.prog 25 k25 goodU25 := ⟨fun {H} {enc} W base spare held fuel cs y h hb => by
  obtain ⟨xs, n, _, hy, hlen, hxl, hf⟩ := DataW.trod_struct Try.underlying25 h
  rw [hy] at hb
  have hN : cs.length = 8 := hlen.trans (by kernel_rfl)
  have hX : xs.length = 8 := hxl.trans rfl
  match cs, hN with
  | [c0, c1, c2, c3, c4, c5, c6, c7], _ =>
    obtain ⟨y0, hy0⟩ : ∃ y0, xs[0]? = some y0 := ⟨_, List.getElem?_eq_getElem (show 0 < xs.length by omega)⟩
    have e0 : DataW.trod enc Try.prog W base spare held n 9 ((List.drop 0 [c0, c1, c2, c3, c4, c5, c6, c7]).take (Try.prog.cellsOf 9)) = xs[0]? := hf 0 _ rfl
    rw [show Try.prog.cellsOf 9 = 1 from by kernel_rfl, hy0] at e0
    obtain ⟨x0, k0_, g0⟩ := (OpensU.string Try.underlying9).out W base spare held n _ _ e0 (bulk_part hy0 hb)
    obtain ⟨y1, hy1⟩ : ∃ y1, xs[1]? = some y1 := ⟨_, List.getElem?_eq_getElem (show 1 < xs.length by omega)⟩
    have e1 : DataW.trod enc Try.prog W base spare held n 3 ((List.drop 1 [c0, c1, c2, c3, c4, c5, c6, c7]).take (Try.prog.cellsOf 3)) = xs[1]? := hf 1 _ rfl
    rw [show Try.prog.cellsOf 3 = 1 from by kernel_rfl, hy1] at e1
    obtain ⟨x1, k1_, g1⟩ := (OpensU.int Try.underlying3).out W base spare held n _ _ e1 (bulk_part hy1 hb)
    obtain ⟨y2, hy2⟩ : ∃ y2, xs[2]? = some y2 := ⟨_, List.getElem?_eq_getElem (show 2 < xs.length by omega)⟩
    have e2 : DataW.trod enc Try.prog W base spare held n 3 ((List.drop 2 [c0, c1, c2, c3, c4, c5, c6, c7]).take (Try.prog.cellsOf 3)) = xs[2]? := hf 2 _ rfl
    rw [show Try.prog.cellsOf 3 = 1 from by kernel_rfl, hy2] at e2
    obtain ⟨x2, k2_, g2⟩ := (OpensU.int Try.underlying3).out W base spare held n _ _ e2 (bulk_part hy2 hb)
    obtain ⟨y3, hy3⟩ : ∃ y3, xs[3]? = some y3 := ⟨_, List.getElem?_eq_getElem (show 3 < xs.length by omega)⟩
    have e3 : DataW.trod enc Try.prog W base spare held n 3 ((List.drop 3 [c0, c1, c2, c3, c4, c5, c6, c7]).take (Try.prog.cellsOf 3)) = xs[3]? := hf 3 _ rfl
    rw [show Try.prog.cellsOf 3 = 1 from by kernel_rfl, hy3] at e3
    obtain ⟨x3, k3_, g3⟩ := (OpensU.int Try.underlying3).out W base spare held n _ _ e3 (bulk_part hy3 hb)
    obtain ⟨y4, hy4⟩ : ∃ y4, xs[4]? = some y4 := ⟨_, List.getElem?_eq_getElem (show 4 < xs.length by omega)⟩
    have e4 : DataW.trod enc Try.prog W base spare held n 21 ((List.drop 4 [c0, c1, c2, c3, c4, c5, c6, c7]).take (Try.prog.cellsOf 21)) = xs[4]? := hf 4 _ rfl
    rw [show Try.prog.cellsOf 21 = 1 from by kernel_rfl, hy4] at e4
    obtain ⟨x4, k4_, g4⟩ := (OpensU.int Try.underlying21).out W base spare held n _ _ e4 (bulk_part hy4 hb)
    obtain ⟨y5, hy5⟩ : ∃ y5, xs[5]? = some y5 := ⟨_, List.getElem?_eq_getElem (show 5 < xs.length by omega)⟩
    have e5 : DataW.trod enc Try.prog W base spare held n 3 ((List.drop 5 [c0, c1, c2, c3, c4, c5, c6, c7]).take (Try.prog.cellsOf 3)) = xs[5]? := hf 5 _ rfl
    rw [show Try.prog.cellsOf 3 = 1 from by kernel_rfl, hy5] at e5
    obtain ⟨x5, k5_, g5⟩ := (OpensU.int Try.underlying3).out W base spare held n _ _ e5 (bulk_part hy5 hb)
    obtain ⟨y6, hy6⟩ : ∃ y6, xs[6]? = some y6 := ⟨_, List.getElem?_eq_getElem (show 6 < xs.length by omega)⟩
    have e6 : DataW.trod enc Try.prog W base spare held n 4 ((List.drop 6 [c0, c1, c2, c3, c4, c5, c6, c7]).take (Try.prog.cellsOf 4)) = xs[6]? := hf 6 _ rfl
    rw [show Try.prog.cellsOf 4 = 1 from by kernel_rfl, hy6] at e6
    obtain ⟨x6, k6_, g6⟩ := (OpensU.bool Try.underlying4).out W base spare held n _ _ e6 (bulk_part hy6 hb)
    obtain ⟨y7, hy7⟩ : ∃ y7, xs[7]? = some y7 := ⟨_, List.getElem?_eq_getElem (show 7 < xs.length by omega)⟩
    have e7 : DataW.trod enc Try.prog W base spare held n 23 ((List.drop 7 [c0, c1, c2, c3, c4, c5, c6, c7]).take (Try.prog.cellsOf 23)) = xs[7]? := hf 7 _ rfl
    rw [show Try.prog.cellsOf 23 = 1 from by kernel_rfl, hy7] at e7
    obtain ⟨x7, k7_, g7⟩ := (OpensU.slice Try.underlying23 (by kernel_rfl) u69).out W base spare held n _ _ e7 (bulk_part hy7 hb)
    exact ⟨⟨x0, x1, x2, x3, x4, x5, x6, x7⟩, ⟨[c0], [c1, c2, c3, c4, c5, c6, c7], rfl, k0_, ⟨[c1], [c2, c3, c4, c5, c6, c7], rfl, k1_, ⟨[c2], [c3, c4, c5, c6, c7], rfl, k2_, ⟨[c3], [c4, c5, c6, c7], rfl, k3_, ⟨[c4], [c5, c6, c7], rfl, k4_, ⟨[c5], [c6, c7], rfl, k5_, ⟨[c6], [c7], rfl, k6_, k7_⟩⟩⟩⟩⟩⟩⟩, g0, g1, g2, g3, g4, g5, g6, g7⟩⟩
def goodU71 (x : S71) : Prop := x.f0.size ≤ 1048576 ∧ (Lit.int .i64 x.f1).wf = true ∧ (Lit.int .i64 x.f2).wf = true ∧ (Lit.int .i32 x.f3).wf = true ∧ (x.f4.length ≤ 1048576 ∧ ∀ y ∈ x.f4, goodU69 y)
set_option maxRecDepth 100000 in
theorem u71 : OpensU Try.prog 71 k71 goodU71 := ⟨fun {H} {enc} W base spare held fuel cs y h hb => by
  obtain ⟨xs, n, _, hy, hlen, hxl, hf⟩ := DataW.trod_struct Try.underlying71 h
  rw [hy] at hb
  have hN : cs.length = 5 := hlen.trans (by kernel_rfl)
  have hX : xs.length = 5 := hxl.trans rfl
  match cs, hN with
  | [c0, c1, c2, c3, c4], _ =>
    obtain ⟨y0, hy0⟩ : ∃ y0, xs[0]? = some y0 := ⟨_, List.getElem?_eq_getElem (show 0 < xs.length by omega)⟩
    have e0 : DataW.trod enc Try.prog W base spare held n 9 ((List.drop 0 [c0, c1, c2, c3, c4]).take (Try.prog.cellsOf 9)) = xs[0]? := hf 0 _ rfl
    rw [show Try.prog.cellsOf 9 = 1 from by kernel_rfl, hy0] at e0
    obtain ⟨x0, k0_, g0⟩ := (OpensU.string Try.underlying9).out W base spare held n _ _ e0 (bulk_part hy0 hb)
    obtain ⟨y1, hy1⟩ : ∃ y1, xs[1]? = some y1 := ⟨_, List.getElem?_eq_getElem (show 1 < xs.length by omega)⟩
    have e1 : DataW.trod enc Try.prog W base spare held n 3 ((List.drop 1 [c0, c1, c2, c3, c4]).take (Try.prog.cellsOf 3)) = xs[1]? := hf 1 _ rfl
    rw [show Try.prog.cellsOf 3 = 1 from by kernel_rfl, hy1] at e1
    obtain ⟨x1, k1_, g1⟩ := (OpensU.int Try.underlying3).out W base spare held n _ _ e1 (bulk_part hy1 hb)
    obtain ⟨y2, hy2⟩ : ∃ y2, xs[2]? = some y2 := ⟨_, List.getElem?_eq_getElem (show 2 < xs.length by omega)⟩
    have e2 : DataW.trod enc Try.prog W base spare held n 3 ((List.drop 2 [c0, c1, c2, c3, c4]).take (Try.prog.cellsOf 3)) = xs[2]? := hf 2 _ rfl
    rw [show Try.prog.cellsOf 3 = 1 from by kernel_rfl, hy2] at e2
    obtain ⟨x2, k2_, g2⟩ := (OpensU.int Try.underlying3).out W base spare held n _ _ e2 (bulk_part hy2 hb)
    obtain ⟨y3, hy3⟩ : ∃ y3, xs[3]? = some y3 := ⟨_, List.getElem?_eq_getElem (show 3 < xs.length by omega)⟩
    have e3 : DataW.trod enc Try.prog W base spare held n 21 ((List.drop 3 [c0, c1, c2, c3, c4]).take (Try.prog.cellsOf 21)) = xs[3]? := hf 3 _ rfl
    rw [show Try.prog.cellsOf 21 = 1 from by kernel_rfl, hy3] at e3
    obtain ⟨x3, k3_, g3⟩ := (OpensU.int Try.underlying21).out W base spare held n _ _ e3 (bulk_part hy3 hb)
    obtain ⟨y4, hy4⟩ : ∃ y4, xs[4]? = some y4 := ⟨_, List.getElem?_eq_getElem (show 4 < xs.length by omega)⟩
    have e4 : DataW.trod enc Try.prog W base spare held n 23 ((List.drop 4 [c0, c1, c2, c3, c4]).take (Try.prog.cellsOf 23)) = xs[4]? := hf 4 _ rfl
    rw [show Try.prog.cellsOf 23 = 1 from by kernel_rfl, hy4] at e4
    obtain ⟨x4, k4_, g4⟩ := (OpensU.slice Try.underlying23 (by kernel_rfl) u69).out W base spare held n _ _ e4 (bulk_part hy4 hb)
    exact ⟨⟨x0, x1, x2, x3, x4⟩, ⟨[c0], [c1, c2, c3, c4], rfl, k0_, ⟨[c1], [c2, c3, c4], rfl, k1_, ⟨[c2], [c3, c4], rfl, k2_, ⟨[c3], [c4], rfl, k3_, k4_⟩⟩⟩⟩, g0, g1, g2, g3, g4⟩⟩
def goodU57 (x : S57) : Prop := (Lit.int .i64 x.f0).wf = true ∧ (Lit.int .i64 x.f1).wf = true ∧ goodU25 x.f2 ∧ (x.f3.length ≤ 1048576 ∧ ∀ y ∈ x.f3, goodU71 y)
set_option maxRecDepth 100000 in
theorem u57 : OpensU Try.prog 57 k57 goodU57 := ⟨fun {H} {enc} W base spare held fuel cs y h hb => by
  obtain ⟨xs, n, _, hy, hlen, hxl, hf⟩ := DataW.trod_struct Try.underlying57 h
  rw [hy] at hb
  have hN : cs.length = 11 := hlen.trans (by kernel_rfl)
  have hX : xs.length = 4 := hxl.trans rfl
  match cs, hN with
  | [c0, c1, c2, c3, c4, c5, c6, c7, c8, c9, c10], _ =>
    obtain ⟨y0, hy0⟩ : ∃ y0, xs[0]? = some y0 := ⟨_, List.getElem?_eq_getElem (show 0 < xs.length by omega)⟩
    have e0 : DataW.trod enc Try.prog W base spare held n 3 ((List.drop 0 [c0, c1, c2, c3, c4, c5, c6, c7, c8, c9, c10]).take (Try.prog.cellsOf 3)) = xs[0]? := hf 0 _ rfl
    rw [show Try.prog.cellsOf 3 = 1 from by kernel_rfl, hy0] at e0
    obtain ⟨x0, k0_, g0⟩ := (OpensU.int Try.underlying3).out W base spare held n _ _ e0 (bulk_part hy0 hb)
    obtain ⟨y1, hy1⟩ : ∃ y1, xs[1]? = some y1 := ⟨_, List.getElem?_eq_getElem (show 1 < xs.length by omega)⟩
    have e1 : DataW.trod enc Try.prog W base spare held n 3 ((List.drop 1 [c0, c1, c2, c3, c4, c5, c6, c7, c8, c9, c10]).take (Try.prog.cellsOf 3)) = xs[1]? := hf 1 _ rfl
    rw [show Try.prog.cellsOf 3 = 1 from by kernel_rfl, hy1] at e1
    obtain ⟨x1, k1_, g1⟩ := (OpensU.int Try.underlying3).out W base spare held n _ _ e1 (bulk_part hy1 hb)
    obtain ⟨y2, hy2⟩ : ∃ y2, xs[2]? = some y2 := ⟨_, List.getElem?_eq_getElem (show 2 < xs.length by omega)⟩
    have e2 : DataW.trod enc Try.prog W base spare held n 25 ((List.drop 2 [c0, c1, c2, c3, c4, c5, c6, c7, c8, c9, c10]).take (Try.prog.cellsOf 25)) = xs[2]? := hf 2 _ rfl
    rw [show Try.prog.cellsOf 25 = 8 from by kernel_rfl, hy2] at e2
    obtain ⟨x2, k2_, g2⟩ := u25.out W base spare held n _ _ e2 (bulk_part hy2 hb)
    obtain ⟨y3, hy3⟩ : ∃ y3, xs[3]? = some y3 := ⟨_, List.getElem?_eq_getElem (show 3 < xs.length by omega)⟩
    have e3 : DataW.trod enc Try.prog W base spare held n 42 ((List.drop 10 [c0, c1, c2, c3, c4, c5, c6, c7, c8, c9, c10]).take (Try.prog.cellsOf 42)) = xs[3]? := hf 3 _ rfl
    rw [show Try.prog.cellsOf 42 = 1 from by kernel_rfl, hy3] at e3
    obtain ⟨x3, k3_, g3⟩ := (OpensU.slice Try.underlying42 (by kernel_rfl) u71).out W base spare held n _ _ e3 (bulk_part hy3 hb)
    exact ⟨⟨x0, x1, x2, x3⟩, ⟨[c0], [c1, c2, c3, c4, c5, c6, c7, c8, c9, c10], rfl, k0_, ⟨[c1], [c2, c3, c4, c5, c6, c7, c8, c9, c10], rfl, k1_, ⟨[c2, c3, c4, c5, c6, c7, c8, c9], [c10], rfl, k2_, k3_⟩⟩⟩, g0, g1, g2, g3⟩⟩
end Go.Proofs.Ytkgjpelddncfdaa.O
