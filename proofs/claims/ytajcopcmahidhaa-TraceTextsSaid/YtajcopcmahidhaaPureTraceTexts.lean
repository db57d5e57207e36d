/- TraceTexts: any events have the lines, and what was written is the text, that the document says. For all events and ports; no condition. -/
import Derived.Test.YtajcopcmahidhaaPx17
import Derived.Test.YtajcopcmahidhaaPx18
import Derived.Test.YtajcopcmahidhaaPx22
import Derived.Test.YtajcopcmahidhaaPx24
import Derived.Test.YtajcopcmahidhaaQTrace2
import Derived.Test.YtajcopcmahidhaaPsTraceTexts
namespace Go.Proofs.Ytajcopcmahidhaa.Pure
open Go Go.RowKit Go.Proofs.Ytajcopcmahidhaa.P Go.Proofs.Ytajcopcmahidhaa.Q Go.Proofs.Ytajcopcmahidhaa.C Go.Proofs.Ytajcopcmahidhaa.O Go.Proofs.YtajcopcmahidhaaW.PrintWords
theorem TraceTexts : pascalinelaw29_TraceTexts.Pure := by
  intro l p hl hp _
  have hp := bounds_i64 hp
  refine ⟨1000, ?_⟩
  unfold pascalinelaw29_TraceTexts.f
  by_cases h : l.length > 200
  · rw [if_pos h]
  rw [if_neg h, if_pos]
  rw [tt_all_iff]
  have he : Evs l := fun x hx => ⟨bounds_i64 (hl.2 x hx).1, bounds_i32 (hl.2 x hx).2⟩
  refine ⟨?_, fun x hx => ?_, fun x hx => ⟨(he x hx).2, ?_, ?_⟩, ?_, ?_, nameOf p, name_eq 1000 (by omega) p hp, ref_name p hp⟩
  · unfold tr_lined
    rw [List.all_eq_true]
    intro x hx
    have h3 := line_eq 1000 (by omega) x.f0 x.f1 (he x hx).1 (he x hx).2
    rw [tr_line_eq 1000 (by omega) x (he x hx).1 (he x hx).2, h3.1]
    simp
    exact h3.2
  · rw [tr_line_eq 1000 (by omega) x (he x hx).1 (he x hx).2]; exact ref_line _ _ (he x hx).1 (he x hx).2
  · rw [tw_tx_eq _ (he x hx).2]; exact word_text_eq _ (by have := (he x hx).2; omega)
  · rw [tw_tx_eq _ (he x hx).2]; have := tr_text_size x.f1; omega
  · exact ref_text_loop 1000 (by omega) l (by omega) he l.length 1000 0 ⟨#[]⟩ (by omega) (by omega) (by omega) (by simp [tx_lines]) (by decide)
  · exact ref_written_loop l (by omega) he l.length 1000 0 ⟨#[]⟩ (by omega) (by omega) (by omega) (by simp [tw_all]) (by decide)
end Go.Proofs.Ytajcopcmahidhaa.Pure
