/- TraceCounts: how many went out at each port, and the last arm of each TRY. For all events; no condition. -/
import Derived.Test.YtajcopcmahidhaaPx10
import Derived.Test.YtajcopcmahidhaaPsTraceCounts
import Derived.Test.YtajcopcmahidhaaQTx
namespace Go.Proofs.Ytajcopcmahidhaa.Pure
open Go.RowKit Go.Proofs.Ytajcopcmahidhaa.P Go.Proofs.Ytajcopcmahidhaa.Q Go.Proofs.YtajcopcmahidhaaW.PrintWords
theorem TraceCounts : pascalinelaw29_TraceCounts.Pure := by
  intro l hg _
  refine ⟨100000, ?_⟩
  unfold pascalinelaw29_TraceCounts.f
  rw [cn_awake 100000 (by omega), Option.bind_some, if_pos rfl]
  by_cases hl : (l.length : Int) > 200
  · rw [if_pos hl]
  · rw [if_neg hl]
    obtain ⟨y, h1, h2, h3⟩ := cn_counts l (by omega) 100000 (by omega)
    rw [h1, Option.bind_some, if_pos (by omega)]
    refine cn_ports l (by omega) (fun x hx => ?_) y h2 h3 6 100000 0 (by omega) (by omega)
    have h := hg.2 x hx
    exact bounds_i32 h.2
end Go.Proofs.Ytajcopcmahidhaa.Pure
