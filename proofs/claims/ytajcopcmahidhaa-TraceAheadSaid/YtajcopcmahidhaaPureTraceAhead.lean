/- TraceAhead: what is ahead of an exception is the beginning of all; the text of two parts is that of both, one behind the other. For all events, exceptions and numbers; no condition. -/
import Derived.Test.YtajcopcmahidhaaPx22
import Derived.Test.YtajcopcmahidhaaQTrace
import Derived.Test.YtajcopcmahidhaaPsTraceAhead
namespace Go.Proofs.Ytajcopcmahidhaa.Pure
open Go Go.RowKit Go.Proofs.Ytajcopcmahidhaa.P Go.Proofs.Ytajcopcmahidhaa.Q Go.Proofs.Ytajcopcmahidhaa.O Go.Proofs.YtajcopcmahidhaaW.PrintWords
theorem TraceAhead : pascalinelaw29_TraceAhead.Pure := by
  intro l ex n hl _ hn _ _
  have h := bounds_u8 hn
  refine ⟨1000, ?_⟩
  unfold pascalinelaw29_TraceAhead.f
  rw [if_pos]
  refine ⟨Nat.le_refl _, ?_, by omega, by omega⟩
  unfold tr_lined
  rw [List.all_eq_true]
  intro x hx
  have hg := hl.2 x hx
  have h1 := bounds_i64 hg.1
  have h2 := bounds_i32 hg.2
  have h3 := line_eq 1000 (by omega) x.f0 x.f1 h1 h2
  unfold tr_line
  rw [h3.1]
  simp
  exact h3.2
end Go.Proofs.Ytajcopcmahidhaa.Pure
