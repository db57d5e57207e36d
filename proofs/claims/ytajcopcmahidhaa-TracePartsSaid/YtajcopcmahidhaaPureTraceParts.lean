/- TraceParts: which events are the first ones of others, and which are ahead of an exception, is what the document says. For all events and exceptions; no condition. -/
import Derived.Test.YtajcopcmahidhaaPx20
import Derived.Test.YtajcopcmahidhaaPsTraceParts
namespace Go.Proofs.Ytajcopcmahidhaa.Pure
open Go.RowKit Go.Proofs.Ytajcopcmahidhaa.P Go.Proofs.YtajcopcmahidhaaW.PrintWords
theorem TraceParts : pascalinelaw29_TraceParts.Pure := by
  intro a b ex _ _ _ _ _ _
  refine ⟨1000, ?_⟩
  unfold pascalinelaw29_TraceParts.f
  rw [if_pos (Nat.le_refl _)]
end Go.Proofs.Ytajcopcmahidhaa.Pure
