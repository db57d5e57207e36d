/- The row of ReportPrograms in its second form, out of its pure statement and the walk. Written by a program of this session (wip/tools/genrowu.py). -/
import Derived.Test.YtmebogkhdbbbbaaRows
import Derived.Test.YtmebogkhdbbbbaaPsReportProgramsUpto
import Derived.Test.YtmebogkhdbbbbaaPureReportProgramsUpto
import Derived.WalkKit
import Derived.ProofKit
import Derived.OpenShut
import Derived.ShutString
import Derived.ChangeOld
import Derived.Below
import Derived.SizedLaws
import Derived.WideShapes
import Derived.JoinedCond
namespace Go.Proofs.Ytmebogkhdbbbbaa.reportProgramsUpto
open Go.ChangeShapes Go.WideShapes Go.ChangeAt Go.RowKit
open Go.ChangeMaps (open_string shut_string)
open Go.Proofs.Ytmebogkhdbbbbaa.C Go.Proofs.Ytmebogkhdbbbbaa.O Go.Proofs.YtmebogkhdbbbbaaW.PrintWords
set_option linter.unusedVariables false
set_option linter.unusedSimpArgs false
theorem own : ownKnob Try.prog.godebug = none := by kernel_rfl
theorem laidOut : laidOutB Try.prog = true := by kernel_rfl
set_option maxRecDepth 100000 in
theorem contract (H : Type) (enc : TypeId × Value → H) (W : World) (base : Nat) (args : Array Value) (ds gs : List (DataW H)) (before : List MemPlace)
    (hval0 : ∀ (j : Nat) t v, Try.f4.params[j]? = some t → args[j]? = some v → Value.okWide Try.prog W .any base t v)
    (hW : DataW.Whole enc Try.prog Try.f4.params.toList Rows.reportProgramsSpec.vars false W args.toList ds gs before) (hk : Rows.uptoSmall H (ds ++ gs) = true) :
    Calls Try.prog 4 args W fun e W' => ∃ v, e = .returned v ∧ Rows.reportProgramsSpec.post enc Try.prog Try.f4 false true false false W args v W' := by
  have hval : ∀ (j : Nat) t v, Try.f4.params[j]? = some t → args[j]? = some v → Value.okWide Try.prog W .any base t v := hval0
  have hW' := hW
  obtain ⟨p, q, hA0, hV, rfl, hfz, hnd⟩ := hW
  have hA : DataW.TrodAll enc Try.prog W 0 (fun _ => true) true Try.f4.params.toList args.toList ds p := hA0
  rw [Try.params4] at hA hval
  obtain ⟨v0, vs0, d0, ds0, p0, q0, hargs, rfl, rfl, h0, r0⟩ := trodAll_cons hA
  obtain ⟨v1, vs1, d1, ds1, p1, q1, rfl, rfl, rfl, h1, r1⟩ := trodAll_cons r0
  obtain ⟨v2, vs2, d2, ds2, p2, q2, rfl, rfl, rfl, h2, r2⟩ := trodAll_cons r1
  obtain ⟨rfl, rfl, rfl⟩ := trodAll_nil r2
  obtain rfl : args = #[v0, v1, v2] := by cases args; simp_all
  obtain ⟨rfl, rfl⟩ := trodVars_none hV
  have hb0 := bulk_of hk (d := d0) (by simp)
  have hb1 := bulk_of hk (d := d1) (by simp)
  have hb2 := bulk_of hk (d := d2) (by simp)
  have kp0 := h0
  have lt0 : ∀ x ∈ p0, x.block < W.heap.size := by obtain ⟨m, hm⟩ := kp0; exact DataW.trod_lt m _ _ _ hm
  obtain ⟨cs0, rfl, _⟩ := okWide_struct Try.underlying40 (hval 0 40 v0 rfl rfl)
  obtain ⟨x0, kx0, w0⟩ := u40.arg h0 hb0
  obtain ⟨A0_5, c0_5, A0_6, c0_6, A0_11, c0_11, hcs0, hl0_5, hC0_5, hl0_6, hC0_6, hl0_11, hC0_11⟩ := P.k40_open kx0
  obtain rfl : cs0 = #[.int .u32 x0.f0.f0, .int .u32 x0.f0.f1, .int .u32 x0.f0.f2, .int .u32 x0.f0.f3, .int .u32 x0.f0.f4, .slice A0_5 x0.f1.length c0_5, .slice A0_6 x0.f2.length c0_6, .int .u32 x0.f3.f0, .int .u32 x0.f3.f1, .int .u32 x0.f3.f2, .int .u32 x0.f3.f3, .slice A0_11 x0.f4.length c0_11] := Array.ext' hcs0
  have kp1 := h1
  have lt1 : ∀ x ∈ p1, x.block < W.heap.size := by obtain ⟨m, hm⟩ := kp1; exact DataW.trod_lt m _ _ _ hm
  obtain ⟨A1, len1, c1, rfl⟩ := okWide_slice Try.underlying41 (hval 1 41 v1 rfl rfl)
  obtain ⟨l1, kx1, w1⟩ := (OpensU.slice Try.underlying41 (by kernel_rfl) (OpensU.int Try.underlying3)).arg h1 hb1
  obtain ⟨A1', c1', hcs1, hl1, hC1⟩ := kx1
  simp [Value.cells] at hcs1
  obtain ⟨rfl, rfl, rfl⟩ := hcs1
  have kp2 := h2
  have lt2 : ∀ x ∈ p2, x.block < W.heap.size := by obtain ⟨m, hm⟩ := kp2; exact DataW.trod_lt m _ _ _ hm
  obtain ⟨A2, len2, c2, rfl⟩ := okWide_slice Try.underlying42 (hval 2 42 v2 rfl rfl)
  obtain ⟨l2, kx2, w2⟩ := (OpensU.slice Try.underlying42 (by kernel_rfl) u46).arg h2 hb2
  obtain ⟨A2', c2', hcs2, hl2, hC2⟩ := kx2
  simp [Value.cells] at hcs2
  obtain ⟨rfl, rfl, rfl⟩ := hcs2
  clear hA0 hval0
  have hk_ := Pure.ReportProgramsUpto x0.f0.f0 x0.f0.f1 x0.f0.f2 x0.f0.f3 x0.f0.f4 x0.f1 x0.f2 x0.f3.f0 x0.f3.f1 x0.f3.f2 x0.f3.f3 x0.f4 l1 l2 w0.1.1 w0.1.2.1 w0.1.2.2.1 w0.1.2.2.2.1 w0.1.2.2.2.2 w0.2.1 w0.2.2.1 w0.2.2.2.1.1 w0.2.2.2.1.2.1 w0.2.2.2.1.2.2.1 w0.2.2.2.1.2.2.2 w0.2.2.2.2 w1 w2
  refine (P.pascalinelaw31_ReportPrograms.calls x0.f0.f0 x0.f0.f1 x0.f0.f2 x0.f0.f3 x0.f0.f4 _ _ x0.f1 _ _ x0.f2 x0.f3.f0 x0.f3.f1 x0.f3.f2 x0.f3.f3 _ _ x0.f4 _ _ l1 _ _ l2 true W hC0_5 hl0_5 hC0_6 hl0_6 hC0_11 hl0_11 hC1 hl1 hC2 hl2 hk_).mono fun e W' ⟨he, bel0⟩ => ?_
  have bel : Below W.heap.size W W' := bel0
  subst he
  exact ⟨_, rfl, _, _, _, [], _, [], hW', trodAll_mk1 (shut_bool Try.underlying4 _), (trodAll_cons_mk (Below.trod laidOut (by kernel_rfl) (of_decide_eq_true (by kernel_rfl)) kp0 bel lt0) (trodAll_cons_mk (Below.trod laidOut (by kernel_rfl) (of_decide_eq_true (by kernel_rfl)) kp1 bel lt1) (trodAll_cons_mk (Below.trod laidOut (by kernel_rfl) (of_decide_eq_true (by kernel_rfl)) kp2 bel lt2) trodAll_mk0))), rfl, bel.frame _, fun h => by cases h⟩
set_option maxRecDepth 100000 in
theorem lifted (os : Os) (started : os.Started) (H : Type) (enc : TypeId × Value → H) (F : Stop.Interp) :
    ReturnsInHanded {} Try.checked os 4 .any ((Rows.OpenSpec.upto Rows.reportProgramsSpec).pre6 enc Try.prog Try.f4 Rows.reportProgramsUptoRow.domain false) (((Rows.OpenSpec.upto Rows.reportProgramsSpec).at F).post enc Try.prog Try.f4 false true false false) := by
  refine returnsInHanded_of_cond (C := Try.checked) (s := Rows.OpenSpec.upto Rows.reportProgramsSpec) (k := Rows.uptoSmall) rfl own started (by kernel_rfl) Try.func4
    (OpenSpec.witness (enc := enc) (C := Try.checked) (s := Rows.OpenSpec.upto Rows.reportProgramsSpec) (k := Rows.uptoSmall) rfl false ⟨#[], #[.agg #[.int .u32 0, .int .u32 0, .int .u32 0, .int .u32 0, .int .u32 0, .slice none 0 0, .slice none 0 0, .int .u32 0, .int .u32 0, .int .u32 0, .int .u32 0, .slice none 0 0], .slice none 0 0, .slice none 0 0], []⟩ 8 (by kernel_rfl) (by kernel_rfl) (by kernel_rfl)
      (x := ([.agg [.agg [.lit (.int .u32 0), .lit (.int .u32 0), .lit (.int .u32 0), .lit (.int .u32 0), .lit (.int .u32 0)], .nil, .nil, .agg [.lit (.int .u32 0), .lit (.int .u32 0), .lit (.int .u32 0), .lit (.int .u32 0)], .nil], .nil, .nil], [], [])) (by kernel_rfl) rfl (by kernel_rfl)) ?_
  intro W base args ds gs before hval hW _ hk _
  exact contract H enc W base args ds gs before hval hW hk
theorem over : Rows.reportProgramsUptoRow.holds Try.pinned (Rows.OpenSpec.upto Rows.reportProgramsSpec) :=
  OpenClaim.holds_of_cond 4 Try.f4 rfl rfl rfl rfl rfl rfl rfl ⟨rfl, rfl, rfl, rfl, rfl⟩ rfl rfl rfl rfl rfl (by kernel_rfl) Try.func4 (by kernel_rfl)
    (of_decide_eq_true (by kernel_rfl)) (by unfold Func.isWrapper; first | (rw [if_pos (by decide +kernel)]; kernel_rfl) | (rw [if_neg (by decide +kernel)]; exact ⟨rfl, rfl⟩))
    (fun os started H enc _ F => lifted os started H enc F)
theorem proved : Rows.ReportProgramsUptoSaid := over
#print axioms proved
end Go.Proofs.Ytmebogkhdbbbbaa.reportProgramsUpto
namespace Go.Proofs.Ytmebogkhdbbbbaa
/-- The row, under a short name, for the claim. -/
theorem reportProgramsUpto_holds : Rows.ReportProgramsUptoSaid := reportProgramsUpto.proved
end Go.Proofs.Ytmebogkhdbbbbaa
