/- Values of this seat's struct types, where the bulk is small: what is known of them, and that whatever reads as data reads so. Written by a program of this session (wip/tools/genrowu.py). -/
import Derived.Test.YtmebogkhdbbbbaaPx0
import Derived.Test.YtmebogkhdbbbbaaCOpenU
namespace Go.Proofs.Ytmebogkhdbbbbaa.O
open Go Go.RowKit Go.Proofs.Ytmebogkhdbbbbaa.P Go.Proofs.Ytmebogkhdbbbbaa.C Go.Proofs.YtmebogkhdbbbbaaW.PrintWords Go.Proofs.YtmebogkhdbbbbaaW.PrintLast Go.Proofs.YtmebogkhdbbbbaaW.PrintMore
set_option linter.unusedVariables false
set_option linter.unusedSimpArgs false
def goodU34 (x : S34) : Prop := (Lit.int .u32 x.f0).wf = true ∧ (Lit.int .u32 x.f1).wf = true ∧ (Lit.int .u32 x.f2).wf = true ∧ (Lit.int .u32 x.f3).wf = true ∧ (Lit.int .u32 x.f4).wf = true
set_option maxRecDepth 100000 in
theorem u34 : OpensU Try.prog 34 k34 goodU34 := ⟨fun {H} {enc} W base spare held fuel cs y h hb => by
  obtain ⟨xs, n, _, hy, hlen, hxl, hf⟩ := DataW.trod_struct Try.underlying34 h
  rw [hy] at hb
  have hN : cs.length = 5 := hlen.trans (by kernel_rfl)
  have hX : xs.length = 5 := hxl.trans rfl
  match cs, hN with
  | [c0, c1, c2, c3, c4], _ =>
    obtain ⟨y0, hy0⟩ : ∃ y0, xs[0]? = some y0 := ⟨_, List.getElem?_eq_getElem (show 0 < xs.length by omega)⟩
    have e0 : DataW.trod enc Try.prog W base spare held n 32 ((List.drop 0 [c0, c1, c2, c3, c4]).take (Try.prog.cellsOf 32)) = xs[0]? := hf 0 _ rfl
    rw [show Try.prog.cellsOf 32 = 1 from by kernel_rfl, hy0] at e0
    obtain ⟨x0, k0_, g0⟩ := (OpensU.int Try.underlying32).out W base spare held n _ _ e0 (bulk_part hy0 hb)
    obtain ⟨y1, hy1⟩ : ∃ y1, xs[1]? = some y1 := ⟨_, List.getElem?_eq_getElem (show 1 < xs.length by omega)⟩
    have e1 : DataW.trod enc Try.prog W base spare held n 32 ((List.drop 1 [c0, c1, c2, c3, c4]).take (Try.prog.cellsOf 32)) = xs[1]? := hf 1 _ rfl
    rw [show Try.prog.cellsOf 32 = 1 from by kernel_rfl, hy1] at e1
    obtain ⟨x1, k1_, g1⟩ := (OpensU.int Try.underlying32).out W base spare held n _ _ e1 (bulk_part hy1 hb)
    obtain ⟨y2, hy2⟩ : ∃ y2, xs[2]? = some y2 := ⟨_, List.getElem?_eq_getElem (show 2 < xs.length by omega)⟩
    have e2 : DataW.trod enc Try.prog W base spare held n 32 ((List.drop 2 [c0, c1, c2, c3, c4]).take (Try.prog.cellsOf 32)) = xs[2]? := hf 2 _ rfl
    rw [show Try.prog.cellsOf 32 = 1 from by kernel_rfl, hy2] at e2
    obtain ⟨x2, k2_, g2⟩ := (OpensU.int Try.underlying32).out W base spare held n _ _ e2 (bulk_part hy2 hb)
    obtain ⟨y3, hy3⟩ : ∃ y3, xs[3]? = some y3 := ⟨_, List.getElem?_eq_getElem (show 3 < xs.length by omega)⟩
    have e3 : DataW.trod enc Try.prog W base spare held n 32 ((List.drop 3 [c0, c1, c2, c3, c4]).take (Try.prog.cellsOf 32)) = xs[3]? := hf 3 _ rfl
    rw [show Try.prog.cellsOf 32 = 1 from by kernel_rfl, hy3] at e3
    obtain ⟨x3, k3_, g3⟩ := (OpensU.int Try.underlying32).out W base spare held n _ _ e3 (bulk_part hy3 hb)
    obtain ⟨y4, hy4⟩ : ∃ y4, xs[4]? = some y4 := ⟨_, List.getElem?_eq_getElem (show 4 < xs.length by omega)⟩
    have e4 : DataW.trod enc Try.prog W base spare held n 32 ((List.drop 4 [c0, c1, c2, c3, c4]).take (Try.prog.cellsOf 32)) = xs[4]? := hf 4 _ rfl
    rw [show Try.prog.cellsOf 32 = 1 from by kernel_rfl, hy4] at e4
    obtain ⟨x4, k4_, g4⟩ := (OpensU.int Try.underlying32).out W base spare held n _ _ e4 (bulk_part hy4 hb)
    exact ⟨⟨x0, x1, x2, x3, x4⟩, ⟨[c0], [c1, c2, c3, c4], rfl, k0_, ⟨[c1], [c2, c3, c4], rfl, k1_, ⟨[c2], [c3, c4], rfl, k2_, ⟨[c3], [c4], rfl, k3_, k4_⟩⟩⟩⟩, g0, g1, g2, g3, g4⟩⟩
def goodU37 (x : S37) : Prop := (Lit.int .u32 x.f0).wf = true ∧ (Lit.int .u32 x.f1).wf = true ∧ (Lit.int .u32 x.f2).wf = true ∧ (Lit.int .u32 x.f3).wf = true
set_option maxRecDepth 100000 in
theorem u37 : OpensU Try.prog 37 k37 goodU37 := ⟨fun {H} {enc} W base spare held fuel cs y h hb => by
  obtain ⟨xs, n, _, hy, hlen, hxl, hf⟩ := DataW.trod_struct Try.underlying37 h
  rw [hy] at hb
  have hN : cs.length = 4 := hlen.trans (by kernel_rfl)
  have hX : xs.length = 4 := hxl.trans rfl
  match cs, hN with
  | [c0, c1, c2, c3], _ =>
    obtain ⟨y0, hy0⟩ : ∃ y0, xs[0]? = some y0 := ⟨_, List.getElem?_eq_getElem (show 0 < xs.length by omega)⟩
    have e0 : DataW.trod enc Try.prog W base spare held n 32 ((List.drop 0 [c0, c1, c2, c3]).take (Try.prog.cellsOf 32)) = xs[0]? := hf 0 _ rfl
    rw [show Try.prog.cellsOf 32 = 1 from by kernel_rfl, hy0] at e0
    obtain ⟨x0, k0_, g0⟩ := (OpensU.int Try.underlying32).out W base spare held n _ _ e0 (bulk_part hy0 hb)
    obtain ⟨y1, hy1⟩ : ∃ y1, xs[1]? = some y1 := ⟨_, List.getElem?_eq_getElem (show 1 < xs.length by omega)⟩
    have e1 : DataW.trod enc Try.prog W base spare held n 32 ((List.drop 1 [c0, c1, c2, c3]).take (Try.prog.cellsOf 32)) = xs[1]? := hf 1 _ rfl
    rw [show Try.prog.cellsOf 32 = 1 from by kernel_rfl, hy1] at e1
    obtain ⟨x1, k1_, g1⟩ := (OpensU.int Try.underlying32).out W base spare held n _ _ e1 (bulk_part hy1 hb)
    obtain ⟨y2, hy2⟩ : ∃ y2, xs[2]? = some y2 := ⟨_, List.getElem?_eq_getElem (show 2 < xs.length by omega)⟩
    have e2 : DataW.trod enc Try.prog W base spare held n 32 ((List.drop 2 [c0, c1, c2, c3]).take (Try.prog.cellsOf 32)) = xs[2]? := hf 2 _ rfl
    rw [show Try.prog.cellsOf 32 = 1 from by kernel_rfl, hy2] at e2
    obtain ⟨x2, k2_, g2⟩ := (OpensU.int Try.underlying32).out W base spare held n _ _ e2 (bulk_part hy2 hb)
    obtain ⟨y3, hy3⟩ : ∃ y3, xs[3]? = some y3 := ⟨_, List.getElem?_eq_getElem (show 3 < xs.length by omega)⟩
    have e3 : DataW.trod enc Try.prog W base spare held n 32 ((List.drop 3 [c0, c1, c2, c3]).take (Try.prog.cellsOf 32)) = xs[3]? := hf 3 _ rfl
    rw [show Try.prog.cellsOf 32 = 1 from by kernel_rfl, hy3] at e3
    obtain ⟨x3, k3_, g3⟩ := (OpensU.int Try.underlying32).out W base spare held n _ _ e3 (bulk_part hy3 hb)
    exact ⟨⟨x0, x1, x2, x3⟩, ⟨[c0], [c1, c2, c3], rfl, k0_, ⟨[c1], [c2, c3], rfl, k1_, ⟨[c2], [c3], rfl, k2_, k3_⟩⟩⟩, g0, g1, g2, g3⟩⟩
def goodU49 (x : S49) : Prop := x.f0.size ≤ 1048576 ∧ (Lit.int .i64 x.f1).wf = true ∧ (Lit.int .i64 x.f2).wf = true ∧ (Lit.int .i64 x.f3).wf = true ∧ (Lit.int .i64 x.f4).wf = true
set_option maxRecDepth 100000 in
theorem u49 : OpensU Try.prog 49 k49 goodU49 := ⟨fun {H} {enc} W base spare held fuel cs y h hb => by
  obtain ⟨xs, n, _, hy, hlen, hxl, hf⟩ := DataW.trod_struct Try.underlying49 h
  rw [hy] at hb
  have hN : cs.length = 5 := hlen.trans (by kernel_rfl)
  have hX : xs.length = 5 := hxl.trans rfl
  match cs, hN with
  | [c0, c1, c2, c3, c4], _ =>
    obtain ⟨y0, hy0⟩ : ∃ y0, xs[0]? = some y0 := ⟨_, List.getElem?_eq_getElem (show 0 < xs.length by omega)⟩
    have e0 : DataW.trod enc Try.prog W base spare held n 9 ((List.drop 0 [c0, c1, c2, c3, c4]).take (Try.prog.cellsOf 9)) = xs[0]? := hf 0 _ rfl
    rw [show Try.prog.cellsOf 9 = 1 from by kernel_rfl, hy0] at e0
    obtain ⟨x0, k0_, g0⟩ := (OpensU.string Try.underlying9).out W base spare held n _ _ e0 (bulk_part hy0 hb)
    obtain ⟨y1, hy1⟩ : ∃ y1, xs[1]? = some y1 := ⟨_, List.getElem?_eq_getElem (show 1 < xs.length by omega)⟩
    have e1 : DataW.trod enc Try.prog W base spare held n 3 ((List.drop 1 [c0, c1, c2, c3, c4]).take (Try.prog.cellsOf 3)) = xs[1]? := hf 1 _ rfl
    rw [show Try.prog.cellsOf 3 = 1 from by kernel_rfl, hy1] at e1
    obtain ⟨x1, k1_, g1⟩ := (OpensU.int Try.underlying3).out W base spare held n _ _ e1 (bulk_part hy1 hb)
    obtain ⟨y2, hy2⟩ : ∃ y2, xs[2]? = some y2 := ⟨_, List.getElem?_eq_getElem (show 2 < xs.length by omega)⟩
    have e2 : DataW.trod enc Try.prog W base spare held n 3 ((List.drop 2 [c0, c1, c2, c3, c4]).take (Try.prog.cellsOf 3)) = xs[2]? := hf 2 _ rfl
    rw [show Try.prog.cellsOf 3 = 1 from by kernel_rfl, hy2] at e2
    obtain ⟨x2, k2_, g2⟩ := (OpensU.int Try.underlying3).out W base spare held n _ _ e2 (bulk_part hy2 hb)
    obtain ⟨y3, hy3⟩ : ∃ y3, xs[3]? = some y3 := ⟨_, List.getElem?_eq_getElem (show 3 < xs.length by omega)⟩
    have e3 : DataW.trod enc Try.prog W base spare held n 3 ((List.drop 3 [c0, c1, c2, c3, c4]).take (Try.prog.cellsOf 3)) = xs[3]? := hf 3 _ rfl
    rw [show Try.prog.cellsOf 3 = 1 from by kernel_rfl, hy3] at e3
    obtain ⟨x3, k3_, g3⟩ := (OpensU.int Try.underlying3).out W base spare held n _ _ e3 (bulk_part hy3 hb)
    obtain ⟨y4, hy4⟩ : ∃ y4, xs[4]? = some y4 := ⟨_, List.getElem?_eq_getElem (show 4 < xs.length by omega)⟩
    have e4 : DataW.trod enc Try.prog W base spare held n 3 ((List.drop 4 [c0, c1, c2, c3, c4]).take (Try.prog.cellsOf 3)) = xs[4]? := hf 4 _ rfl
    rw [show Try.prog.cellsOf 3 = 1 from by kernel_rfl, hy4] at e4
    obtain ⟨x4, k4_, g4⟩ := (OpensU.int Try.underlying3).out W base spare held n _ _ e4 (bulk_part hy4 hb)
    exact ⟨⟨x0, x1, x2, x3, x4⟩, ⟨[c0], [c1, c2, c3, c4], rfl, k0_, ⟨[c1], [c2, c3, c4], rfl, k1_, ⟨[c2], [c3, c4], rfl, k2_, ⟨[c3], [c4], rfl, k3_, k4_⟩⟩⟩⟩, g0, g1, g2, g3, g4⟩⟩
def goodU40 (x : S40) : Prop := goodU34 x.f0 ∧ (x.f1.length ≤ 1048576 ∧ ∀ y ∈ x.f1, (Lit.int .u32 y).wf = true) ∧ (x.f2.length ≤ 1048576 ∧ ∀ y ∈ x.f2, (Lit.int .u32 y).wf = true) ∧ goodU37 x.f3 ∧ (x.f4.length ≤ 1048576 ∧ ∀ y ∈ x.f4, goodU49 y)
set_option maxRecDepth 100000 in
theorem u40 : OpensU Try.prog 40 k40 goodU40 := ⟨fun {H} {enc} W base spare held fuel cs y h hb => by
  obtain ⟨xs, n, _, hy, hlen, hxl, hf⟩ := DataW.trod_struct Try.underlying40 h
  rw [hy] at hb
  have hN : cs.length = 12 := hlen.trans (by kernel_rfl)
  have hX : xs.length = 5 := hxl.trans rfl
  match cs, hN with
  | [c0, c1, c2, c3, c4, c5, c6, c7, c8, c9, c10, c11], _ =>
    obtain ⟨y0, hy0⟩ : ∃ y0, xs[0]? = some y0 := ⟨_, List.getElem?_eq_getElem (show 0 < xs.length by omega)⟩
    have e0 : DataW.trod enc Try.prog W base spare held n 34 ((List.drop 0 [c0, c1, c2, c3, c4, c5, c6, c7, c8, c9, c10, c11]).take (Try.prog.cellsOf 34)) = xs[0]? := hf 0 _ rfl
    rw [show Try.prog.cellsOf 34 = 5 from by kernel_rfl, hy0] at e0
    obtain ⟨x0, k0_, g0⟩ := u34.out W base spare held n _ _ e0 (bulk_part hy0 hb)
    obtain ⟨y1, hy1⟩ : ∃ y1, xs[1]? = some y1 := ⟨_, List.getElem?_eq_getElem (show 1 < xs.length by omega)⟩
    have e1 : DataW.trod enc Try.prog W base spare held n 35 ((List.drop 5 [c0, c1, c2, c3, c4, c5, c6, c7, c8, c9, c10, c11]).take (Try.prog.cellsOf 35)) = xs[1]? := hf 1 _ rfl
    rw [show Try.prog.cellsOf 35 = 1 from by kernel_rfl, hy1] at e1
    obtain ⟨x1, k1_, g1⟩ := (OpensU.slice Try.underlying35 (by kernel_rfl) (OpensU.int Try.underlying32)).out W base spare held n _ _ e1 (bulk_part hy1 hb)
    obtain ⟨y2, hy2⟩ : ∃ y2, xs[2]? = some y2 := ⟨_, List.getElem?_eq_getElem (show 2 < xs.length by omega)⟩
    have e2 : DataW.trod enc Try.prog W base spare held n 35 ((List.drop 6 [c0, c1, c2, c3, c4, c5, c6, c7, c8, c9, c10, c11]).take (Try.prog.cellsOf 35)) = xs[2]? := hf 2 _ rfl
    rw [show Try.prog.cellsOf 35 = 1 from by kernel_rfl, hy2] at e2
    obtain ⟨x2, k2_, g2⟩ := (OpensU.slice Try.underlying35 (by kernel_rfl) (OpensU.int Try.underlying32)).out W base spare held n _ _ e2 (bulk_part hy2 hb)
    obtain ⟨y3, hy3⟩ : ∃ y3, xs[3]? = some y3 := ⟨_, List.getElem?_eq_getElem (show 3 < xs.length by omega)⟩
    have e3 : DataW.trod enc Try.prog W base spare held n 37 ((List.drop 7 [c0, c1, c2, c3, c4, c5, c6, c7, c8, c9, c10, c11]).take (Try.prog.cellsOf 37)) = xs[3]? := hf 3 _ rfl
    rw [show Try.prog.cellsOf 37 = 4 from by kernel_rfl, hy3] at e3
    obtain ⟨x3, k3_, g3⟩ := u37.out W base spare held n _ _ e3 (bulk_part hy3 hb)
    obtain ⟨y4, hy4⟩ : ∃ y4, xs[4]? = some y4 := ⟨_, List.getElem?_eq_getElem (show 4 < xs.length by omega)⟩
    have e4 : DataW.trod enc Try.prog W base spare held n 38 ((List.drop 11 [c0, c1, c2, c3, c4, c5, c6, c7, c8, c9, c10, c11]).take (Try.prog.cellsOf 38)) = xs[4]? := hf 4 _ rfl
    rw [show Try.prog.cellsOf 38 = 1 from by kernel_rfl, hy4] at e4
    obtain ⟨x4, k4_, g4⟩ := (OpensU.slice Try.underlying38 (by kernel_rfl) u49).out W base spare held n _ _ e4 (bulk_part hy4 hb)
    exact ⟨⟨x0, x1, x2, x3, x4⟩, ⟨[c0, c1, c2, c3, c4], [c5, c6, c7, c8, c9, c10, c11], rfl, k0_, ⟨[c5], [c6, c7, c8, c9, c10, c11], rfl, k1_, ⟨[c6], [c7, c8, c9, c10, c11], rfl, k2_, ⟨[c7, c8, c9, c10], [c11], rfl, k3_, k4_⟩⟩⟩⟩, g0, g1, g2, g3, g4⟩⟩
def goodU150 (x : S150) : Prop := x.f0.size ≤ 1048576 ∧ (Lit.int .u32 x.f1).wf = true
set_option maxRecDepth 100000 in
theorem u150 : OpensU Try.prog 150 k150 goodU150 := ⟨fun {H} {enc} W base spare held fuel cs y h hb => by
  obtain ⟨xs, n, _, hy, hlen, hxl, hf⟩ := DataW.trod_struct Try.underlying150 h
  rw [hy] at hb
  have hN : cs.length = 2 := hlen.trans (by kernel_rfl)
  have hX : xs.length = 2 := hxl.trans rfl
  match cs, hN with
  | [c0, c1], _ =>
    obtain ⟨y0, hy0⟩ : ∃ y0, xs[0]? = some y0 := ⟨_, List.getElem?_eq_getElem (show 0 < xs.length by omega)⟩
    have e0 : DataW.trod enc Try.prog W base spare held n 9 ((List.drop 0 [c0, c1]).take (Try.prog.cellsOf 9)) = xs[0]? := hf 0 _ rfl
    rw [show Try.prog.cellsOf 9 = 1 from by kernel_rfl, hy0] at e0
    obtain ⟨x0, k0_, g0⟩ := (OpensU.string Try.underlying9).out W base spare held n _ _ e0 (bulk_part hy0 hb)
    obtain ⟨y1, hy1⟩ : ∃ y1, xs[1]? = some y1 := ⟨_, List.getElem?_eq_getElem (show 1 < xs.length by omega)⟩
    have e1 : DataW.trod enc Try.prog W base spare held n 32 ((List.drop 1 [c0, c1]).take (Try.prog.cellsOf 32)) = xs[1]? := hf 1 _ rfl
    rw [show Try.prog.cellsOf 32 = 1 from by kernel_rfl, hy1] at e1
    obtain ⟨x1, k1_, g1⟩ := (OpensU.int Try.underlying32).out W base spare held n _ _ e1 (bulk_part hy1 hb)
    exact ⟨⟨x0, x1⟩, ⟨[c0], [c1], rfl, k0_, k1_⟩, g0, g1⟩⟩
def goodU152 (x : S152) : Prop := (Lit.int .i64 x.f0).wf = true ∧ True
set_option maxRecDepth 100000 in
theorem u152 : OpensU Try.prog 152 k152 goodU152 := ⟨fun {H} {enc} W base spare held fuel cs y h hb => by
  obtain ⟨xs, n, _, hy, hlen, hxl, hf⟩ := DataW.trod_struct Try.underlying152 h
  rw [hy] at hb
  have hN : cs.length = 2 := hlen.trans (by kernel_rfl)
  have hX : xs.length = 2 := hxl.trans rfl
  match cs, hN with
  | [c0, c1], _ =>
    obtain ⟨y0, hy0⟩ : ∃ y0, xs[0]? = some y0 := ⟨_, List.getElem?_eq_getElem (show 0 < xs.length by omega)⟩
    have e0 : DataW.trod enc Try.prog W base spare held n 3 ((List.drop 0 [c0, c1]).take (Try.prog.cellsOf 3)) = xs[0]? := hf 0 _ rfl
    rw [show Try.prog.cellsOf 3 = 1 from by kernel_rfl, hy0] at e0
    obtain ⟨x0, k0_, g0⟩ := (OpensU.int Try.underlying3).out W base spare held n _ _ e0 (bulk_part hy0 hb)
    obtain ⟨y1, hy1⟩ : ∃ y1, xs[1]? = some y1 := ⟨_, List.getElem?_eq_getElem (show 1 < xs.length by omega)⟩
    have e1 : DataW.trod enc Try.prog W base spare held n 4 ((List.drop 1 [c0, c1]).take (Try.prog.cellsOf 4)) = xs[1]? := hf 1 _ rfl
    rw [show Try.prog.cellsOf 4 = 1 from by kernel_rfl, hy1] at e1
    obtain ⟨x1, k1_, g1⟩ := (OpensU.bool Try.underlying4).out W base spare held n _ _ e1 (bulk_part hy1 hb)
    exact ⟨⟨x0, x1⟩, ⟨[c0], [c1], rfl, k0_, k1_⟩, g0, g1⟩⟩
def goodU77 (x : S77) : Prop := x.f0.size ≤ 1048576 ∧ (Lit.int .i64 x.f1).wf = true ∧ (Lit.int .i64 x.f2).wf = true ∧ (Lit.int .i32 x.f3).wf = true ∧ (x.f4.length ≤ 1048576 ∧ ∀ y ∈ x.f4, goodU152 y)
set_option maxRecDepth 100000 in
theorem u77 : OpensU Try.prog 77 k77 goodU77 := ⟨fun {H} {enc} W base spare held fuel cs y h hb => by
  obtain ⟨xs, n, _, hy, hlen, hxl, hf⟩ := DataW.trod_struct Try.underlying77 h
  rw [hy] at hb
  have hN : cs.length = 5 := hlen.trans (by kernel_rfl)
  have hX : xs.length = 5 := hxl.trans rfl
  match cs, hN with
  | [c0, c1, c2, c3, c4], _ =>
    obtain ⟨y0, hy0⟩ : ∃ y0, xs[0]? = some y0 := ⟨_, List.getElem?_eq_getElem (show 0 < xs.length by omega)⟩
    have e0 : DataW.trod enc Try.prog W base spare held n 9 ((List.drop 0 [c0, c1, c2, c3, c4]).take (Try.prog.cellsOf 9)) = xs[0]? := hf 0 _ rfl
    rw [show Try.prog.cellsOf 9 = 1 from by kernel_rfl, hy0] at e0
    obtain ⟨x0, k0_, g0⟩ := (OpensU.string Try.underlying9).out W base spare held n _ _ e0 (bulk_part hy0 hb)
    obtain ⟨y1, hy1⟩ : ∃ y1, xs[1]? = some y1 := ⟨_, List.getElem?_eq_getElem (show 1 < xs.length by omega)⟩
    have e1 : DataW.trod enc Try.prog W base spare held n 3 ((List.drop 1 [c0, c1, c2, c3, c4]).take (Try.prog.cellsOf 3)) = xs[1]? := hf 1 _ rfl
    rw [show Try.prog.cellsOf 3 = 1 from by kernel_rfl, hy1] at e1
    obtain ⟨x1, k1_, g1⟩ := (OpensU.int Try.underlying3).out W base spare held n _ _ e1 (bulk_part hy1 hb)
    obtain ⟨y2, hy2⟩ : ∃ y2, xs[2]? = some y2 := ⟨_, List.getElem?_eq_getElem (show 2 < xs.length by omega)⟩
    have e2 : DataW.trod enc Try.prog W base spare held n 3 ((List.drop 2 [c0, c1, c2, c3, c4]).take (Try.prog.cellsOf 3)) = xs[2]? := hf 2 _ rfl
    rw [show Try.prog.cellsOf 3 = 1 from by kernel_rfl, hy2] at e2
    obtain ⟨x2, k2_, g2⟩ := (OpensU.int Try.underlying3).out W base spare held n _ _ e2 (bulk_part hy2 hb)
    obtain ⟨y3, hy3⟩ : ∃ y3, xs[3]? = some y3 := ⟨_, List.getElem?_eq_getElem (show 3 < xs.length by omega)⟩
    have e3 : DataW.trod enc Try.prog W base spare held n 21 ((List.drop 3 [c0, c1, c2, c3, c4]).take (Try.prog.cellsOf 21)) = xs[3]? := hf 3 _ rfl
    rw [show Try.prog.cellsOf 21 = 1 from by kernel_rfl, hy3] at e3
    obtain ⟨x3, k3_, g3⟩ := (OpensU.int Try.underlying21).out W base spare held n _ _ e3 (bulk_part hy3 hb)
    obtain ⟨y4, hy4⟩ : ∃ y4, xs[4]? = some y4 := ⟨_, List.getElem?_eq_getElem (show 4 < xs.length by omega)⟩
    have e4 : DataW.trod enc Try.prog W base spare held n 75 ((List.drop 4 [c0, c1, c2, c3, c4]).take (Try.prog.cellsOf 75)) = xs[4]? := hf 4 _ rfl
    rw [show Try.prog.cellsOf 75 = 1 from by kernel_rfl, hy4] at e4
    obtain ⟨x4, k4_, g4⟩ := (OpensU.slice Try.underlying75 (by kernel_rfl) u152).out W base spare held n _ _ e4 (bulk_part hy4 hb)
    exact ⟨⟨x0, x1, x2, x3, x4⟩, ⟨[c0], [c1, c2, c3, c4], rfl, k0_, ⟨[c1], [c2, c3, c4], rfl, k1_, ⟨[c2], [c3, c4], rfl, k2_, ⟨[c3], [c4], rfl, k3_, k4_⟩⟩⟩⟩, g0, g1, g2, g3, g4⟩⟩
def goodU46 (x : S46) : Prop := x.f0.size ≤ 1048576 ∧ (Lit.int .u32 x.f1).wf = true ∧ (x.f2.length ≤ 1048576 ∧ ∀ y ∈ x.f2, goodU150 y) ∧ (x.f3.length ≤ 1048576 ∧ ∀ y ∈ x.f3, goodU77 y)
set_option maxRecDepth 100000 in
theorem u46 : OpensU Try.prog 46 k46 goodU46 := ⟨fun {H} {enc} W base spare held fuel cs y h hb => by
  obtain ⟨xs, n, _, hy, hlen, hxl, hf⟩ := DataW.trod_struct Try.underlying46 h
  rw [hy] at hb
  have hN : cs.length = 4 := hlen.trans (by kernel_rfl)
  have hX : xs.length = 4 := hxl.trans rfl
  match cs, hN with
  | [c0, c1, c2, c3], _ =>
    obtain ⟨y0, hy0⟩ : ∃ y0, xs[0]? = some y0 := ⟨_, List.getElem?_eq_getElem (show 0 < xs.length by omega)⟩
    have e0 : DataW.trod enc Try.prog W base spare held n 9 ((List.drop 0 [c0, c1, c2, c3]).take (Try.prog.cellsOf 9)) = xs[0]? := hf 0 _ rfl
    rw [show Try.prog.cellsOf 9 = 1 from by kernel_rfl, hy0] at e0
    obtain ⟨x0, k0_, g0⟩ := (OpensU.string Try.underlying9).out W base spare held n _ _ e0 (bulk_part hy0 hb)
    obtain ⟨y1, hy1⟩ : ∃ y1, xs[1]? = some y1 := ⟨_, List.getElem?_eq_getElem (show 1 < xs.length by omega)⟩
    have e1 : DataW.trod enc Try.prog W base spare held n 32 ((List.drop 1 [c0, c1, c2, c3]).take (Try.prog.cellsOf 32)) = xs[1]? := hf 1 _ rfl
    rw [show Try.prog.cellsOf 32 = 1 from by kernel_rfl, hy1] at e1
    obtain ⟨x1, k1_, g1⟩ := (OpensU.int Try.underlying32).out W base spare held n _ _ e1 (bulk_part hy1 hb)
    obtain ⟨y2, hy2⟩ : ∃ y2, xs[2]? = some y2 := ⟨_, List.getElem?_eq_getElem (show 2 < xs.length by omega)⟩
    have e2 : DataW.trod enc Try.prog W base spare held n 43 ((List.drop 2 [c0, c1, c2, c3]).take (Try.prog.cellsOf 43)) = xs[2]? := hf 2 _ rfl
    rw [show Try.prog.cellsOf 43 = 1 from by kernel_rfl, hy2] at e2
    obtain ⟨x2, k2_, g2⟩ := (OpensU.slice Try.underlying43 (by kernel_rfl) u150).out W base spare held n _ _ e2 (bulk_part hy2 hb)
    obtain ⟨y3, hy3⟩ : ∃ y3, xs[3]? = some y3 := ⟨_, List.getElem?_eq_getElem (show 3 < xs.length by omega)⟩
    have e3 : DataW.trod enc Try.prog W base spare held n 44 ((List.drop 3 [c0, c1, c2, c3]).take (Try.prog.cellsOf 44)) = xs[3]? := hf 3 _ rfl
    rw [show Try.prog.cellsOf 44 = 1 from by kernel_rfl, hy3] at e3
    obtain ⟨x3, k3_, g3⟩ := (OpensU.slice Try.underlying44 (by kernel_rfl) u77).out W base spare held n _ _ e3 (bulk_part hy3 hb)
    exact ⟨⟨x0, x1, x2, x3⟩, ⟨[c0], [c1, c2, c3], rfl, k0_, ⟨[c1], [c2, c3], rfl, k1_, ⟨[c2], [c3], rfl, k2_, k3_⟩⟩⟩, g0, g1, g2, g3⟩⟩
end Go.Proofs.Ytmebogkhdbbbbaa.O
