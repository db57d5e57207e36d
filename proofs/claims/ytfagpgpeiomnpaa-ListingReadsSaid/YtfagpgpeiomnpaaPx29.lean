/- Printed parts. -/
import Derived.Test.YtfagpgpeiomnpaaPx0
-- Written by a program of this session (wip/tools/hp.py) out of the translation.
namespace Go.Proofs.Ytfagpgpeiomnpaa.P
open Go.RowKit Go.Proofs.YtfagpgpeiomnpaaW.PrintWords Go.Proofs.YtfagpgpeiomnpaaW.PrintLast Go.Proofs.YtfagpgpeiomnpaaW.PrintMore
attribute [local go_sem] max2_int min2_int max_two min_two max_three min_three max_four min_four   -- for this text's walks alone
set_option linter.unusedVariables false
set_option linter.unusedSimpArgs false

/-! ### pascalineref02_Name: function 47 -/
def pascalineref02_Name.f (a0 : Int) : Option (ByteArray) := (some (([(⟨#[72, 65, 76, 84]⟩ : ByteArray), (⟨#[76, 68, 73]⟩ : ByteArray), (⟨#[76, 85, 73]⟩ : ByteArray), (⟨#[79, 82, 73]⟩ : ByteArray), (⟨#[65, 68, 68, 73]⟩ : ByteArray), (⟨#[65, 68, 68]⟩ : ByteArray), (⟨#[83, 85, 66]⟩ : ByteArray), (⟨#[77, 85, 76]⟩ : ByteArray), (⟨#[68, 73, 86]⟩ : ByteArray), (⟨#[77, 79, 68]⟩ : ByteArray), (⟨#[65, 78, 68]⟩ : ByteArray), (⟨#[79, 82]⟩ : ByteArray), (⟨#[88, 79, 82]⟩ : ByteArray), (⟨#[83, 76, 84]⟩ : ByteArray), (⟨#[83, 76, 69]⟩ : ByteArray), (⟨#[83, 69, 81]⟩ : ByteArray), (⟨#[83, 78, 69]⟩ : ByteArray), (⟨#[76, 68, 87]⟩ : ByteArray), (⟨#[83, 84, 87]⟩ : ByteArray), (⟨#[66, 90]⟩ : ByteArray), (⟨#[66, 78, 90]⟩ : ByteArray), (⟨#[66, 82]⟩ : ByteArray), (⟨#[67, 65, 76, 76]⟩ : ByteArray), (⟨#[74, 82]⟩ : ByteArray), (⟨#[67, 65, 76, 76, 82]⟩ : ByteArray), (⟨#[67, 72, 75]⟩ : ByteArray), (⟨#[78, 73, 76]⟩ : ByteArray), (⟨#[84, 82, 65, 80]⟩ : ByteArray), (⟨#[82, 65, 73, 83, 69]⟩ : ByteArray), (⟨#[79, 85, 84]⟩ : ByteArray), (⟨#[73, 78]⟩ : ByteArray), (⟨#[67, 72, 75, 83]⟩ : ByteArray), (⟨#[82, 84, 67]⟩ : ByteArray), (⟨#[88, 79, 82, 73]⟩ : ByteArray)] : List ByteArray) : List ByteArray)).bind fun y214 => (if a0 < 1 then (some (⟨#[]⟩ : ByteArray)) else (if a0 > 34 then (some (⟨#[]⟩ : ByteArray)) else (if 0 ≤ (wrap64 (a0 - 1)) then (if (wrap64 (a0 - 1)) < (y214.length : Int) then (some (rdOf ByteArray.empty y214 (wrap64 (a0 - 1)))) else (none)) else (none))))
set_option maxHeartbeats 8000000 in
set_option maxRecDepth 100000 in
theorem pascalineref02_Name.calls (a0 : Int) (r : ByteArray) (w : World) (h : pascalineref02_Name.f a0 = some r) :
  Calls Try.prog 47 #[.int .i64 a0] w fun e w' => e = .returned (.string r) ∧ Below w.heap.size w w' := by
 have HB := Aside0.mk (Below.refl w.heap.size w)
 have H : ((some (([(⟨#[72, 65, 76, 84]⟩ : ByteArray), (⟨#[76, 68, 73]⟩ : ByteArray), (⟨#[76, 85, 73]⟩ : ByteArray), (⟨#[79, 82, 73]⟩ : ByteArray), (⟨#[65, 68, 68, 73]⟩ : ByteArray), (⟨#[65, 68, 68]⟩ : ByteArray), (⟨#[83, 85, 66]⟩ : ByteArray), (⟨#[77, 85, 76]⟩ : ByteArray), (⟨#[68, 73, 86]⟩ : ByteArray), (⟨#[77, 79, 68]⟩ : ByteArray), (⟨#[65, 78, 68]⟩ : ByteArray), (⟨#[79, 82]⟩ : ByteArray), (⟨#[88, 79, 82]⟩ : ByteArray), (⟨#[83, 76, 84]⟩ : ByteArray), (⟨#[83, 76, 69]⟩ : ByteArray), (⟨#[83, 69, 81]⟩ : ByteArray), (⟨#[83, 78, 69]⟩ : ByteArray), (⟨#[76, 68, 87]⟩ : ByteArray), (⟨#[83, 84, 87]⟩ : ByteArray), (⟨#[66, 90]⟩ : ByteArray), (⟨#[66, 78, 90]⟩ : ByteArray), (⟨#[66, 82]⟩ : ByteArray), (⟨#[67, 65, 76, 76]⟩ : ByteArray), (⟨#[74, 82]⟩ : ByteArray), (⟨#[67, 65, 76, 76, 82]⟩ : ByteArray), (⟨#[67, 72, 75]⟩ : ByteArray), (⟨#[78, 73, 76]⟩ : ByteArray), (⟨#[84, 82, 65, 80]⟩ : ByteArray), (⟨#[82, 65, 73, 83, 69]⟩ : ByteArray), (⟨#[79, 85, 84]⟩ : ByteArray), (⟨#[73, 78]⟩ : ByteArray), (⟨#[67, 72, 75, 83]⟩ : ByteArray), (⟨#[82, 84, 67]⟩ : ByteArray), (⟨#[88, 79, 82, 73]⟩ : ByteArray)] : List ByteArray) : List ByteArray)).bind fun y214 => (if a0 < 1 then (some (⟨#[]⟩ : ByteArray)) else (if a0 > 34 then (some (⟨#[]⟩ : ByteArray)) else (if 0 ≤ (wrap64 (a0 - 1)) then (if (wrap64 (a0 - 1)) < (y214.length : Int) then (some (rdOf ByteArray.empty y214 (wrap64 (a0 - 1)))) else (none)) else (none))))) = some r := h
 clear h
 obtain ⟨y214, hy214⟩ : ∃ y_ : List ByteArray, y_ = (([(⟨#[72, 65, 76, 84]⟩ : ByteArray), (⟨#[76, 68, 73]⟩ : ByteArray), (⟨#[76, 85, 73]⟩ : ByteArray), (⟨#[79, 82, 73]⟩ : ByteArray), (⟨#[65, 68, 68, 73]⟩ : ByteArray), (⟨#[65, 68, 68]⟩ : ByteArray), (⟨#[83, 85, 66]⟩ : ByteArray), (⟨#[77, 85, 76]⟩ : ByteArray), (⟨#[68, 73, 86]⟩ : ByteArray), (⟨#[77, 79, 68]⟩ : ByteArray), (⟨#[65, 78, 68]⟩ : ByteArray), (⟨#[79, 82]⟩ : ByteArray), (⟨#[88, 79, 82]⟩ : ByteArray), (⟨#[83, 76, 84]⟩ : ByteArray), (⟨#[83, 76, 69]⟩ : ByteArray), (⟨#[83, 69, 81]⟩ : ByteArray), (⟨#[83, 78, 69]⟩ : ByteArray), (⟨#[76, 68, 87]⟩ : ByteArray), (⟨#[83, 84, 87]⟩ : ByteArray), (⟨#[66, 90]⟩ : ByteArray), (⟨#[66, 78, 90]⟩ : ByteArray), (⟨#[66, 82]⟩ : ByteArray), (⟨#[67, 65, 76, 76]⟩ : ByteArray), (⟨#[74, 82]⟩ : ByteArray), (⟨#[67, 65, 76, 76, 82]⟩ : ByteArray), (⟨#[67, 72, 75]⟩ : ByteArray), (⟨#[78, 73, 76]⟩ : ByteArray), (⟨#[84, 82, 65, 80]⟩ : ByteArray), (⟨#[82, 65, 73, 83, 69]⟩ : ByteArray), (⟨#[79, 85, 84]⟩ : ByteArray), (⟨#[73, 78]⟩ : ByteArray), (⟨#[67, 72, 75, 83]⟩ : ByteArray), (⟨#[82, 84, 67]⟩ : ByteArray), (⟨#[88, 79, 82, 73]⟩ : ByteArray)] : List ByteArray)) := ⟨_, rfl⟩
 replace H : (if a0 < 1 then (some (⟨#[]⟩ : ByteArray)) else (if a0 > 34 then (some (⟨#[]⟩ : ByteArray)) else (if 0 ≤ (wrap64 (a0 - 1)) then (if (wrap64 (a0 - 1)) < (y214.length : Int) then (some (rdOf ByteArray.empty y214 (wrap64 (a0 - 1)))) else (none)) else (none)))) = some r := by first | (rw [hy214]; with_reducible exact H) | (have H2_ := (Option.bind_some _ _).symm.trans H; rw [hy214]; with_reducible exact H2_) | (have H2_ := (Option.bind_some _ _).symm.trans H; with_reducible exact H2_) | with_reducible exact H | (rw [hy214]; exact H) | exact H
 have Ny214 := Aside0.mk hy214
 clear hy214
 by_cases c2 : a0 < 1
 ·
  rw [if_pos c2] at H
  have c2b0 : decide (a0 < 1) = true := decide_eq_true c2
  clear c2
  obtain rfl := Option.some.inj H
  go_enter Try.func47, Try.ntmps47
  go_wp2_with (first | ((with_reducible refine gate_dst (N := 4) rfl ?_); refine Kd.R_lit Kd.string _ 9 ?hg (N := 4) ?hd (xs := ([(⟨#[72, 65, 76, 84]⟩ : ByteArray), (⟨#[76, 68, 73]⟩ : ByteArray), (⟨#[76, 85, 73]⟩ : ByteArray), (⟨#[79, 82, 73]⟩ : ByteArray), (⟨#[65, 68, 68, 73]⟩ : ByteArray), (⟨#[65, 68, 68]⟩ : ByteArray), (⟨#[83, 85, 66]⟩ : ByteArray), (⟨#[77, 85, 76]⟩ : ByteArray), (⟨#[68, 73, 86]⟩ : ByteArray), (⟨#[77, 79, 68]⟩ : ByteArray), (⟨#[65, 78, 68]⟩ : ByteArray), (⟨#[79, 82]⟩ : ByteArray), (⟨#[88, 79, 82]⟩ : ByteArray), (⟨#[83, 76, 84]⟩ : ByteArray), (⟨#[83, 76, 69]⟩ : ByteArray), (⟨#[83, 69, 81]⟩ : ByteArray), (⟨#[83, 78, 69]⟩ : ByteArray), (⟨#[76, 68, 87]⟩ : ByteArray), (⟨#[83, 84, 87]⟩ : ByteArray), (⟨#[66, 90]⟩ : ByteArray), (⟨#[66, 78, 90]⟩ : ByteArray), (⟨#[66, 82]⟩ : ByteArray), (⟨#[67, 65, 76, 76]⟩ : ByteArray), (⟨#[74, 82]⟩ : ByteArray), (⟨#[67, 65, 76, 76, 82]⟩ : ByteArray), (⟨#[67, 72, 75]⟩ : ByteArray), (⟨#[78, 73, 76]⟩ : ByteArray), (⟨#[84, 82, 65, 80]⟩ : ByteArray), (⟨#[82, 65, 73, 83, 69]⟩ : ByteArray), (⟨#[79, 85, 84]⟩ : ByteArray), (⟨#[73, 78]⟩ : ByteArray), (⟨#[67, 72, 75, 83]⟩ : ByteArray), (⟨#[82, 84, 67]⟩ : ByteArray), (⟨#[88, 79, 82, 73]⟩ : ByteArray)] : List ByteArray)) (inner := [.string (⟨#[72, 65, 76, 84]⟩ : ByteArray), .string (⟨#[76, 68, 73]⟩ : ByteArray), .string (⟨#[76, 85, 73]⟩ : ByteArray), .string (⟨#[79, 82, 73]⟩ : ByteArray), .string (⟨#[65, 68, 68, 73]⟩ : ByteArray), .string (⟨#[65, 68, 68]⟩ : ByteArray), .string (⟨#[83, 85, 66]⟩ : ByteArray), .string (⟨#[77, 85, 76]⟩ : ByteArray), .string (⟨#[68, 73, 86]⟩ : ByteArray), .string (⟨#[77, 79, 68]⟩ : ByteArray), .string (⟨#[65, 78, 68]⟩ : ByteArray), .string (⟨#[79, 82]⟩ : ByteArray), .string (⟨#[88, 79, 82]⟩ : ByteArray), .string (⟨#[83, 76, 84]⟩ : ByteArray), .string (⟨#[83, 76, 69]⟩ : ByteArray), .string (⟨#[83, 69, 81]⟩ : ByteArray), .string (⟨#[83, 78, 69]⟩ : ByteArray), .string (⟨#[76, 68, 87]⟩ : ByteArray), .string (⟨#[83, 84, 87]⟩ : ByteArray), .string (⟨#[66, 90]⟩ : ByteArray), .string (⟨#[66, 78, 90]⟩ : ByteArray), .string (⟨#[66, 82]⟩ : ByteArray), .string (⟨#[67, 65, 76, 76]⟩ : ByteArray), .string (⟨#[74, 82]⟩ : ByteArray), .string (⟨#[67, 65, 76, 76, 82]⟩ : ByteArray), .string (⟨#[67, 72, 75]⟩ : ByteArray), .string (⟨#[78, 73, 76]⟩ : ByteArray), .string (⟨#[84, 82, 65, 80]⟩ : ByteArray), .string (⟨#[82, 65, 73, 83, 69]⟩ : ByteArray), .string (⟨#[79, 85, 84]⟩ : ByteArray), .string (⟨#[73, 78]⟩ : ByteArray), .string (⟨#[67, 72, 75, 83]⟩ : ByteArray), .string (⟨#[82, 84, 67]⟩ : ByteArray), .string (⟨#[88, 79, 82, 73]⟩ : ByteArray)]) (ok := fun _ => True) (okp := fun _ => True) ?hr ?hp (fun _ hk => hk) trivial (Below.refl _ _) (Nat.le_refl _) (by simp) ?_; (case hd => rfl); (case hg => rfl); (case hr => first | (go_simp; done) | (go_simp; rfl)); (case hp => exact (Reps.one (show Kd.M Kd.string _ _ _ (⟨#[72, 65, 76, 84]⟩ : ByteArray) [.string (⟨#[72, 65, 76, 84]⟩ : ByteArray)] from rfl) (Reps.one (show Kd.M Kd.string _ _ _ (⟨#[76, 68, 73]⟩ : ByteArray) [.string (⟨#[76, 68, 73]⟩ : ByteArray)] from rfl) (Reps.one (show Kd.M Kd.string _ _ _ (⟨#[76, 85, 73]⟩ : ByteArray) [.string (⟨#[76, 85, 73]⟩ : ByteArray)] from rfl) (Reps.one (show Kd.M Kd.string _ _ _ (⟨#[79, 82, 73]⟩ : ByteArray) [.string (⟨#[79, 82, 73]⟩ : ByteArray)] from rfl) (Reps.one (show Kd.M Kd.string _ _ _ (⟨#[65, 68, 68, 73]⟩ : ByteArray) [.string (⟨#[65, 68, 68, 73]⟩ : ByteArray)] from rfl) (Reps.one (show Kd.M Kd.string _ _ _ (⟨#[65, 68, 68]⟩ : ByteArray) [.string (⟨#[65, 68, 68]⟩ : ByteArray)] from rfl) (Reps.one (show Kd.M Kd.string _ _ _ (⟨#[83, 85, 66]⟩ : ByteArray) [.string (⟨#[83, 85, 66]⟩ : ByteArray)] from rfl) (Reps.one (show Kd.M Kd.string _ _ _ (⟨#[77, 85, 76]⟩ : ByteArray) [.string (⟨#[77, 85, 76]⟩ : ByteArray)] from rfl) (Reps.one (show Kd.M Kd.string _ _ _ (⟨#[68, 73, 86]⟩ : ByteArray) [.string (⟨#[68, 73, 86]⟩ : ByteArray)] from rfl) (Reps.one (show Kd.M Kd.string _ _ _ (⟨#[77, 79, 68]⟩ : ByteArray) [.string (⟨#[77, 79, 68]⟩ : ByteArray)] from rfl) (Reps.one (show Kd.M Kd.string _ _ _ (⟨#[65, 78, 68]⟩ : ByteArray) [.string (⟨#[65, 78, 68]⟩ : ByteArray)] from rfl) (Reps.one (show Kd.M Kd.string _ _ _ (⟨#[79, 82]⟩ : ByteArray) [.string (⟨#[79, 82]⟩ : ByteArray)] from rfl) (Reps.one (show Kd.M Kd.string _ _ _ (⟨#[88, 79, 82]⟩ : ByteArray) [.string (⟨#[88, 79, 82]⟩ : ByteArray)] from rfl) (Reps.one (show Kd.M Kd.string _ _ _ (⟨#[83, 76, 84]⟩ : ByteArray) [.string (⟨#[83, 76, 84]⟩ : ByteArray)] from rfl) (Reps.one (show Kd.M Kd.string _ _ _ (⟨#[83, 76, 69]⟩ : ByteArray) [.string (⟨#[83, 76, 69]⟩ : ByteArray)] from rfl) (Reps.one (show Kd.M Kd.string _ _ _ (⟨#[83, 69, 81]⟩ : ByteArray) [.string (⟨#[83, 69, 81]⟩ : ByteArray)] from rfl) (Reps.one (show Kd.M Kd.string _ _ _ (⟨#[83, 78, 69]⟩ : ByteArray) [.string (⟨#[83, 78, 69]⟩ : ByteArray)] from rfl) (Reps.one (show Kd.M Kd.string _ _ _ (⟨#[76, 68, 87]⟩ : ByteArray) [.string (⟨#[76, 68, 87]⟩ : ByteArray)] from rfl) (Reps.one (show Kd.M Kd.string _ _ _ (⟨#[83, 84, 87]⟩ : ByteArray) [.string (⟨#[83, 84, 87]⟩ : ByteArray)] from rfl) (Reps.one (show Kd.M Kd.string _ _ _ (⟨#[66, 90]⟩ : ByteArray) [.string (⟨#[66, 90]⟩ : ByteArray)] from rfl) (Reps.one (show Kd.M Kd.string _ _ _ (⟨#[66, 78, 90]⟩ : ByteArray) [.string (⟨#[66, 78, 90]⟩ : ByteArray)] from rfl) (Reps.one (show Kd.M Kd.string _ _ _ (⟨#[66, 82]⟩ : ByteArray) [.string (⟨#[66, 82]⟩ : ByteArray)] from rfl) (Reps.one (show Kd.M Kd.string _ _ _ (⟨#[67, 65, 76, 76]⟩ : ByteArray) [.string (⟨#[67, 65, 76, 76]⟩ : ByteArray)] from rfl) (Reps.one (show Kd.M Kd.string _ _ _ (⟨#[74, 82]⟩ : ByteArray) [.string (⟨#[74, 82]⟩ : ByteArray)] from rfl) (Reps.one (show Kd.M Kd.string _ _ _ (⟨#[67, 65, 76, 76, 82]⟩ : ByteArray) [.string (⟨#[67, 65, 76, 76, 82]⟩ : ByteArray)] from rfl) (Reps.one (show Kd.M Kd.string _ _ _ (⟨#[67, 72, 75]⟩ : ByteArray) [.string (⟨#[67, 72, 75]⟩ : ByteArray)] from rfl) (Reps.one (show Kd.M Kd.string _ _ _ (⟨#[78, 73, 76]⟩ : ByteArray) [.string (⟨#[78, 73, 76]⟩ : ByteArray)] from rfl) (Reps.one (show Kd.M Kd.string _ _ _ (⟨#[84, 82, 65, 80]⟩ : ByteArray) [.string (⟨#[84, 82, 65, 80]⟩ : ByteArray)] from rfl) (Reps.one (show Kd.M Kd.string _ _ _ (⟨#[82, 65, 73, 83, 69]⟩ : ByteArray) [.string (⟨#[82, 65, 73, 83, 69]⟩ : ByteArray)] from rfl) (Reps.one (show Kd.M Kd.string _ _ _ (⟨#[79, 85, 84]⟩ : ByteArray) [.string (⟨#[79, 85, 84]⟩ : ByteArray)] from rfl) (Reps.one (show Kd.M Kd.string _ _ _ (⟨#[73, 78]⟩ : ByteArray) [.string (⟨#[73, 78]⟩ : ByteArray)] from rfl) (Reps.one (show Kd.M Kd.string _ _ _ (⟨#[67, 72, 75, 83]⟩ : ByteArray) [.string (⟨#[67, 72, 75, 83]⟩ : ByteArray)] from rfl) (Reps.one (show Kd.M Kd.string _ _ _ (⟨#[82, 84, 67]⟩ : ByteArray) [.string (⟨#[82, 84, 67]⟩ : ByteArray)] from rfl) (Reps.one (show Kd.M Kd.string _ _ _ (⟨#[88, 79, 82, 73]⟩ : ByteArray) [.string (⟨#[88, 79, 82, 73]⟩ : ByteArray)] from rfl) (Reps.none _ _)))))))))))))))))))))))))))))))))))); intro v215 w3 ho4 hb hg_ hnew_; clear hg_ hnew_; (first | rw [← Ny214.out] at ho4 | (simp only [Int.reduceToNat] at ho4; rw [← Ny214.out] at ho4)); have n0_ := Aside0.mk (Kd.R_lower ho4 (below_size (by repeat (first | (with_reducible first | exact HB.out | apply below_alloc | apply pw_below_drewN | apply below_drew1) | exact HB.out)))); have n1_ := Aside0.mk (below_step (by repeat (first | (with_reducible first | exact HB.out | apply below_alloc | apply pw_below_drewN | apply below_drew1) | exact HB.out)) hb); clear HB; have HO216 := n0_; have HB := n1_; clear n0_ n1_; clear hb ho4))
  go_ret
  exact ⟨by first | rfl | (simp [errW_none, errW_some] <;> rfl) | (simp [*, errW_none, errW_some] <;> rfl), by repeat (first | (with_reducible first | exact HB.out | apply below_alloc | apply pw_below_drewN | apply below_drew1) | exact HB.out)⟩
 ·
  rw [if_neg c2] at H
  have c2b0 : decide (a0 < 1) = false := decide_eq_false c2
  clear c2
  by_cases c5 : a0 > 34
  ·
   rw [if_pos c5] at H
   have c5b0 : decide (34 < a0) = true := decide_eq_true c5
   clear c5
   obtain rfl := Option.some.inj H
   go_enter Try.func47, Try.ntmps47
   go_wp2_with (first | ((with_reducible refine gate_dst (N := 4) rfl ?_); refine Kd.R_lit Kd.string _ 9 ?hg (N := 4) ?hd (xs := ([(⟨#[72, 65, 76, 84]⟩ : ByteArray), (⟨#[76, 68, 73]⟩ : ByteArray), (⟨#[76, 85, 73]⟩ : ByteArray), (⟨#[79, 82, 73]⟩ : ByteArray), (⟨#[65, 68, 68, 73]⟩ : ByteArray), (⟨#[65, 68, 68]⟩ : ByteArray), (⟨#[83, 85, 66]⟩ : ByteArray), (⟨#[77, 85, 76]⟩ : ByteArray), (⟨#[68, 73, 86]⟩ : ByteArray), (⟨#[77, 79, 68]⟩ : ByteArray), (⟨#[65, 78, 68]⟩ : ByteArray), (⟨#[79, 82]⟩ : ByteArray), (⟨#[88, 79, 82]⟩ : ByteArray), (⟨#[83, 76, 84]⟩ : ByteArray), (⟨#[83, 76, 69]⟩ : ByteArray), (⟨#[83, 69, 81]⟩ : ByteArray), (⟨#[83, 78, 69]⟩ : ByteArray), (⟨#[76, 68, 87]⟩ : ByteArray), (⟨#[83, 84, 87]⟩ : ByteArray), (⟨#[66, 90]⟩ : ByteArray), (⟨#[66, 78, 90]⟩ : ByteArray), (⟨#[66, 82]⟩ : ByteArray), (⟨#[67, 65, 76, 76]⟩ : ByteArray), (⟨#[74, 82]⟩ : ByteArray), (⟨#[67, 65, 76, 76, 82]⟩ : ByteArray), (⟨#[67, 72, 75]⟩ : ByteArray), (⟨#[78, 73, 76]⟩ : ByteArray), (⟨#[84, 82, 65, 80]⟩ : ByteArray), (⟨#[82, 65, 73, 83, 69]⟩ : ByteArray), (⟨#[79, 85, 84]⟩ : ByteArray), (⟨#[73, 78]⟩ : ByteArray), (⟨#[67, 72, 75, 83]⟩ : ByteArray), (⟨#[82, 84, 67]⟩ : ByteArray), (⟨#[88, 79, 82, 73]⟩ : ByteArray)] : List ByteArray)) (inner := [.string (⟨#[72, 65, 76, 84]⟩ : ByteArray), .string (⟨#[76, 68, 73]⟩ : ByteArray), .string (⟨#[76, 85, 73]⟩ : ByteArray), .string (⟨#[79, 82, 73]⟩ : ByteArray), .string (⟨#[65, 68, 68, 73]⟩ : ByteArray), .string (⟨#[65, 68, 68]⟩ : ByteArray), .string (⟨#[83, 85, 66]⟩ : ByteArray), .string (⟨#[77, 85, 76]⟩ : ByteArray), .string (⟨#[68, 73, 86]⟩ : ByteArray), .string (⟨#[77, 79, 68]⟩ : ByteArray), .string (⟨#[65, 78, 68]⟩ : ByteArray), .string (⟨#[79, 82]⟩ : ByteArray), .string (⟨#[88, 79, 82]⟩ : ByteArray), .string (⟨#[83, 76, 84]⟩ : ByteArray), .string (⟨#[83, 76, 69]⟩ : ByteArray), .string (⟨#[83, 69, 81]⟩ : ByteArray), .string (⟨#[83, 78, 69]⟩ : ByteArray), .string (⟨#[76, 68, 87]⟩ : ByteArray), .string (⟨#[83, 84, 87]⟩ : ByteArray), .string (⟨#[66, 90]⟩ : ByteArray), .string (⟨#[66, 78, 90]⟩ : ByteArray), .string (⟨#[66, 82]⟩ : ByteArray), .string (⟨#[67, 65, 76, 76]⟩ : ByteArray), .string (⟨#[74, 82]⟩ : ByteArray), .string (⟨#[67, 65, 76, 76, 82]⟩ : ByteArray), .string (⟨#[67, 72, 75]⟩ : ByteArray), .string (⟨#[78, 73, 76]⟩ : ByteArray), .string (⟨#[84, 82, 65, 80]⟩ : ByteArray), .string (⟨#[82, 65, 73, 83, 69]⟩ : ByteArray), .string (⟨#[79, 85, 84]⟩ : ByteArray), .string (⟨#[73, 78]⟩ : ByteArray), .string (⟨#[67, 72, 75, 83]⟩ : ByteArray), .string (⟨#[82, 84, 67]⟩ : ByteArray), .string (⟨#[88, 79, 82, 73]⟩ : ByteArray)]) (ok := fun _ => True) (okp := fun _ => True) ?hr ?hp (fun _ hk => hk) trivial (Below.refl _ _) (Nat.le_refl _) (by simp) ?_; (case hd => rfl); (case hg => rfl); (case hr => first | (go_simp; done) | (go_simp; rfl)); (case hp => exact (Reps.one (show Kd.M Kd.string _ _ _ (⟨#[72, 65, 76, 84]⟩ : ByteArray) [.string (⟨#[72, 65, 76, 84]⟩ : ByteArray)] from rfl) (Reps.one (show Kd.M Kd.string _ _ _ (⟨#[76, 68, 73]⟩ : ByteArray) [.string (⟨#[76, 68, 73]⟩ : ByteArray)] from rfl) (Reps.one (show Kd.M Kd.string _ _ _ (⟨#[76, 85, 73]⟩ : ByteArray) [.string (⟨#[76, 85, 73]⟩ : ByteArray)] from rfl) (Reps.one (show Kd.M Kd.string _ _ _ (⟨#[79, 82, 73]⟩ : ByteArray) [.string (⟨#[79, 82, 73]⟩ : ByteArray)] from rfl) (Reps.one (show Kd.M Kd.string _ _ _ (⟨#[65, 68, 68, 73]⟩ : ByteArray) [.string (⟨#[65, 68, 68, 73]⟩ : ByteArray)] from rfl) (Reps.one (show Kd.M Kd.string _ _ _ (⟨#[65, 68, 68]⟩ : ByteArray) [.string (⟨#[65, 68, 68]⟩ : ByteArray)] from rfl) (Reps.one (show Kd.M Kd.string _ _ _ (⟨#[83, 85, 66]⟩ : ByteArray) [.string (⟨#[83, 85, 66]⟩ : ByteArray)] from rfl) (Reps.one (show Kd.M Kd.string _ _ _ (⟨#[77, 85, 76]⟩ : ByteArray) [.string (⟨#[77, 85, 76]⟩ : ByteArray)] from rfl) (Reps.one (show Kd.M Kd.string _ _ _ (⟨#[68, 73, 86]⟩ : ByteArray) [.string (⟨#[68, 73, 86]⟩ : ByteArray)] from rfl) (Reps.one (show Kd.M Kd.string _ _ _ (⟨#[77, 79, 68]⟩ : ByteArray) [.string (⟨#[77, 79, 68]⟩ : ByteArray)] from rfl) (Reps.one (show Kd.M Kd.string _ _ _ (⟨#[65, 78, 68]⟩ : ByteArray) [.string (⟨#[65, 78, 68]⟩ : ByteArray)] from rfl) (Reps.one (show Kd.M Kd.string _ _ _ (⟨#[79, 82]⟩ : ByteArray) [.string (⟨#[79, 82]⟩ : ByteArray)] from rfl) (Reps.one (show Kd.M Kd.string _ _ _ (⟨#[88, 79, 82]⟩ : ByteArray) [.string (⟨#[88, 79, 82]⟩ : ByteArray)] from rfl) (Reps.one (show Kd.M Kd.string _ _ _ (⟨#[83, 76, 84]⟩ : ByteArray) [.string (⟨#[83, 76, 84]⟩ : ByteArray)] from rfl) (Reps.one (show Kd.M Kd.string _ _ _ (⟨#[83, 76, 69]⟩ : ByteArray) [.string (⟨#[83, 76, 69]⟩ : ByteArray)] from rfl) (Reps.one (show Kd.M Kd.string _ _ _ (⟨#[83, 69, 81]⟩ : ByteArray) [.string (⟨#[83, 69, 81]⟩ : ByteArray)] from rfl) (Reps.one (show Kd.M Kd.string _ _ _ (⟨#[83, 78, 69]⟩ : ByteArray) [.string (⟨#[83, 78, 69]⟩ : ByteArray)] from rfl) (Reps.one (show Kd.M Kd.string _ _ _ (⟨#[76, 68, 87]⟩ : ByteArray) [.string (⟨#[76, 68, 87]⟩ : ByteArray)] from rfl) (Reps.one (show Kd.M Kd.string _ _ _ (⟨#[83, 84, 87]⟩ : ByteArray) [.string (⟨#[83, 84, 87]⟩ : ByteArray)] from rfl) (Reps.one (show Kd.M Kd.string _ _ _ (⟨#[66, 90]⟩ : ByteArray) [.string (⟨#[66, 90]⟩ : ByteArray)] from rfl) (Reps.one (show Kd.M Kd.string _ _ _ (⟨#[66, 78, 90]⟩ : ByteArray) [.string (⟨#[66, 78, 90]⟩ : ByteArray)] from rfl) (Reps.one (show Kd.M Kd.string _ _ _ (⟨#[66, 82]⟩ : ByteArray) [.string (⟨#[66, 82]⟩ : ByteArray)] from rfl) (Reps.one (show Kd.M Kd.string _ _ _ (⟨#[67, 65, 76, 76]⟩ : ByteArray) [.string (⟨#[67, 65, 76, 76]⟩ : ByteArray)] from rfl) (Reps.one (show Kd.M Kd.string _ _ _ (⟨#[74, 82]⟩ : ByteArray) [.string (⟨#[74, 82]⟩ : ByteArray)] from rfl) (Reps.one (show Kd.M Kd.string _ _ _ (⟨#[67, 65, 76, 76, 82]⟩ : ByteArray) [.string (⟨#[67, 65, 76, 76, 82]⟩ : ByteArray)] from rfl) (Reps.one (show Kd.M Kd.string _ _ _ (⟨#[67, 72, 75]⟩ : ByteArray) [.string (⟨#[67, 72, 75]⟩ : ByteArray)] from rfl) (Reps.one (show Kd.M Kd.string _ _ _ (⟨#[78, 73, 76]⟩ : ByteArray) [.string (⟨#[78, 73, 76]⟩ : ByteArray)] from rfl) (Reps.one (show Kd.M Kd.string _ _ _ (⟨#[84, 82, 65, 80]⟩ : ByteArray) [.string (⟨#[84, 82, 65, 80]⟩ : ByteArray)] from rfl) (Reps.one (show Kd.M Kd.string _ _ _ (⟨#[82, 65, 73, 83, 69]⟩ : ByteArray) [.string (⟨#[82, 65, 73, 83, 69]⟩ : ByteArray)] from rfl) (Reps.one (show Kd.M Kd.string _ _ _ (⟨#[79, 85, 84]⟩ : ByteArray) [.string (⟨#[79, 85, 84]⟩ : ByteArray)] from rfl) (Reps.one (show Kd.M Kd.string _ _ _ (⟨#[73, 78]⟩ : ByteArray) [.string (⟨#[73, 78]⟩ : ByteArray)] from rfl) (Reps.one (show Kd.M Kd.string _ _ _ (⟨#[67, 72, 75, 83]⟩ : ByteArray) [.string (⟨#[67, 72, 75, 83]⟩ : ByteArray)] from rfl) (Reps.one (show Kd.M Kd.string _ _ _ (⟨#[82, 84, 67]⟩ : ByteArray) [.string (⟨#[82, 84, 67]⟩ : ByteArray)] from rfl) (Reps.one (show Kd.M Kd.string _ _ _ (⟨#[88, 79, 82, 73]⟩ : ByteArray) [.string (⟨#[88, 79, 82, 73]⟩ : ByteArray)] from rfl) (Reps.none _ _)))))))))))))))))))))))))))))))))))); intro v215 w6 ho7 hb hg_ hnew_; clear hg_ hnew_; (first | rw [← Ny214.out] at ho7 | (simp only [Int.reduceToNat] at ho7; rw [← Ny214.out] at ho7)); have n0_ := Aside0.mk (Kd.R_lower ho7 (below_size (by repeat (first | (with_reducible first | exact HB.out | apply below_alloc | apply pw_below_drewN | apply below_drew1) | exact HB.out)))); have n1_ := Aside0.mk (below_step (by repeat (first | (with_reducible first | exact HB.out | apply below_alloc | apply pw_below_drewN | apply below_drew1) | exact HB.out)) hb); clear HB; have HO216 := n0_; have HB := n1_; clear n0_ n1_; clear hb ho7))
   go_ret
   exact ⟨by first | rfl | (simp [errW_none, errW_some] <;> rfl) | (simp [*, errW_none, errW_some] <;> rfl), by repeat (first | (with_reducible first | exact HB.out | apply below_alloc | apply pw_below_drewN | apply below_drew1) | exact HB.out)⟩
  ·
   rw [if_neg c5] at H
   have c5b0 : decide (34 < a0) = false := decide_eq_false c5
   clear c5
   obtain ⟨ji8, hji8⟩ : ∃ j_ : Int, (wrap64 (a0 - 1)) = j_ := ⟨_, rfl⟩
   replace H : (if 0 ≤ (ji8) then (if (ji8) < (y214.length : Int) then (some (rdOf ByteArray.empty y214 (ji8))) else (none)) else (none)) = some r := by first | (rw [hji8] at H; exact H) | (simp only [hji8] at H ⊢; exact H)
   have hji8w : (IntKind.i64.wrap (a0 - 1)) = ji8 := (i64_w _).trans hji8
   by_cases c9 : 0 ≤ (ji8)
   ·
    rw [if_pos c9] at H
    have c9b0 : decide (0 ≤ (ji8)) = true := decide_eq_true c9
    clear c9
    by_cases c10 : (ji8) < (y214.length : Int)
    ·
     rw [if_pos c10] at H
     have c10b0 : decide ((ji8) < (y214.length : Int)) = true := decide_eq_true c10
     clear c10
     obtain rfl := Option.some.inj H
     go_enter Try.func47, Try.ntmps47
     go_wp2_with (first | ((with_reducible refine gate_dst (N := 4) rfl ?_); refine Kd.R_lit Kd.string _ 9 ?hg (N := 4) ?hd (xs := ([(⟨#[72, 65, 76, 84]⟩ : ByteArray), (⟨#[76, 68, 73]⟩ : ByteArray), (⟨#[76, 85, 73]⟩ : ByteArray), (⟨#[79, 82, 73]⟩ : ByteArray), (⟨#[65, 68, 68, 73]⟩ : ByteArray), (⟨#[65, 68, 68]⟩ : ByteArray), (⟨#[83, 85, 66]⟩ : ByteArray), (⟨#[77, 85, 76]⟩ : ByteArray), (⟨#[68, 73, 86]⟩ : ByteArray), (⟨#[77, 79, 68]⟩ : ByteArray), (⟨#[65, 78, 68]⟩ : ByteArray), (⟨#[79, 82]⟩ : ByteArray), (⟨#[88, 79, 82]⟩ : ByteArray), (⟨#[83, 76, 84]⟩ : ByteArray), (⟨#[83, 76, 69]⟩ : ByteArray), (⟨#[83, 69, 81]⟩ : ByteArray), (⟨#[83, 78, 69]⟩ : ByteArray), (⟨#[76, 68, 87]⟩ : ByteArray), (⟨#[83, 84, 87]⟩ : ByteArray), (⟨#[66, 90]⟩ : ByteArray), (⟨#[66, 78, 90]⟩ : ByteArray), (⟨#[66, 82]⟩ : ByteArray), (⟨#[67, 65, 76, 76]⟩ : ByteArray), (⟨#[74, 82]⟩ : ByteArray), (⟨#[67, 65, 76, 76, 82]⟩ : ByteArray), (⟨#[67, 72, 75]⟩ : ByteArray), (⟨#[78, 73, 76]⟩ : ByteArray), (⟨#[84, 82, 65, 80]⟩ : ByteArray), (⟨#[82, 65, 73, 83, 69]⟩ : ByteArray), (⟨#[79, 85, 84]⟩ : ByteArray), (⟨#[73, 78]⟩ : ByteArray), (⟨#[67, 72, 75, 83]⟩ : ByteArray), (⟨#[82, 84, 67]⟩ : ByteArray), (⟨#[88, 79, 82, 73]⟩ : ByteArray)] : List ByteArray)) (inner := [.string (⟨#[72, 65, 76, 84]⟩ : ByteArray), .string (⟨#[76, 68, 73]⟩ : ByteArray), .string (⟨#[76, 85, 73]⟩ : ByteArray), .string (⟨#[79, 82, 73]⟩ : ByteArray), .string (⟨#[65, 68, 68, 73]⟩ : ByteArray), .string (⟨#[65, 68, 68]⟩ : ByteArray), .string (⟨#[83, 85, 66]⟩ : ByteArray), .string (⟨#[77, 85, 76]⟩ : ByteArray), .string (⟨#[68, 73, 86]⟩ : ByteArray), .string (⟨#[77, 79, 68]⟩ : ByteArray), .string (⟨#[65, 78, 68]⟩ : ByteArray), .string (⟨#[79, 82]⟩ : ByteArray), .string (⟨#[88, 79, 82]⟩ : ByteArray), .string (⟨#[83, 76, 84]⟩ : ByteArray), .string (⟨#[83, 76, 69]⟩ : ByteArray), .string (⟨#[83, 69, 81]⟩ : ByteArray), .string (⟨#[83, 78, 69]⟩ : ByteArray), .string (⟨#[76, 68, 87]⟩ : ByteArray), .string (⟨#[83, 84, 87]⟩ : ByteArray), .string (⟨#[66, 90]⟩ : ByteArray), .string (⟨#[66, 78, 90]⟩ : ByteArray), .string (⟨#[66, 82]⟩ : ByteArray), .string (⟨#[67, 65, 76, 76]⟩ : ByteArray), .string (⟨#[74, 82]⟩ : ByteArray), .string (⟨#[67, 65, 76, 76, 82]⟩ : ByteArray), .string (⟨#[67, 72, 75]⟩ : ByteArray), .string (⟨#[78, 73, 76]⟩ : ByteArray), .string (⟨#[84, 82, 65, 80]⟩ : ByteArray), .string (⟨#[82, 65, 73, 83, 69]⟩ : ByteArray), .string (⟨#[79, 85, 84]⟩ : ByteArray), .string (⟨#[73, 78]⟩ : ByteArray), .string (⟨#[67, 72, 75, 83]⟩ : ByteArray), .string (⟨#[82, 84, 67]⟩ : ByteArray), .string (⟨#[88, 79, 82, 73]⟩ : ByteArray)]) (ok := fun _ => True) (okp := fun _ => True) ?hr ?hp (fun _ hk => hk) trivial (Below.refl _ _) (Nat.le_refl _) (by simp) ?_; (case hd => rfl); (case hg => rfl); (case hr => first | (go_simp; done) | (go_simp; rfl)); (case hp => exact (Reps.one (show Kd.M Kd.string _ _ _ (⟨#[72, 65, 76, 84]⟩ : ByteArray) [.string (⟨#[72, 65, 76, 84]⟩ : ByteArray)] from rfl) (Reps.one (show Kd.M Kd.string _ _ _ (⟨#[76, 68, 73]⟩ : ByteArray) [.string (⟨#[76, 68, 73]⟩ : ByteArray)] from rfl) (Reps.one (show Kd.M Kd.string _ _ _ (⟨#[76, 85, 73]⟩ : ByteArray) [.string (⟨#[76, 85, 73]⟩ : ByteArray)] from rfl) (Reps.one (show Kd.M Kd.string _ _ _ (⟨#[79, 82, 73]⟩ : ByteArray) [.string (⟨#[79, 82, 73]⟩ : ByteArray)] from rfl) (Reps.one (show Kd.M Kd.string _ _ _ (⟨#[65, 68, 68, 73]⟩ : ByteArray) [.string (⟨#[65, 68, 68, 73]⟩ : ByteArray)] from rfl) (Reps.one (show Kd.M Kd.string _ _ _ (⟨#[65, 68, 68]⟩ : ByteArray) [.string (⟨#[65, 68, 68]⟩ : ByteArray)] from rfl) (Reps.one (show Kd.M Kd.string _ _ _ (⟨#[83, 85, 66]⟩ : ByteArray) [.string (⟨#[83, 85, 66]⟩ : ByteArray)] from rfl) (Reps.one (show Kd.M Kd.string _ _ _ (⟨#[77, 85, 76]⟩ : ByteArray) [.string (⟨#[77, 85, 76]⟩ : ByteArray)] from rfl) (Reps.one (show Kd.M Kd.string _ _ _ (⟨#[68, 73, 86]⟩ : ByteArray) [.string (⟨#[68, 73, 86]⟩ : ByteArray)] from rfl) (Reps.one (show Kd.M Kd.string _ _ _ (⟨#[77, 79, 68]⟩ : ByteArray) [.string (⟨#[77, 79, 68]⟩ : ByteArray)] from rfl) (Reps.one (show Kd.M Kd.string _ _ _ (⟨#[65, 78, 68]⟩ : ByteArray) [.string (⟨#[65, 78, 68]⟩ : ByteArray)] from rfl) (Reps.one (show Kd.M Kd.string _ _ _ (⟨#[79, 82]⟩ : ByteArray) [.string (⟨#[79, 82]⟩ : ByteArray)] from rfl) (Reps.one (show Kd.M Kd.string _ _ _ (⟨#[88, 79, 82]⟩ : ByteArray) [.string (⟨#[88, 79, 82]⟩ : ByteArray)] from rfl) (Reps.one (show Kd.M Kd.string _ _ _ (⟨#[83, 76, 84]⟩ : ByteArray) [.string (⟨#[83, 76, 84]⟩ : ByteArray)] from rfl) (Reps.one (show Kd.M Kd.string _ _ _ (⟨#[83, 76, 69]⟩ : ByteArray) [.string (⟨#[83, 76, 69]⟩ : ByteArray)] from rfl) (Reps.one (show Kd.M Kd.string _ _ _ (⟨#[83, 69, 81]⟩ : ByteArray) [.string (⟨#[83, 69, 81]⟩ : ByteArray)] from rfl) (Reps.one (show Kd.M Kd.string _ _ _ (⟨#[83, 78, 69]⟩ : ByteArray) [.string (⟨#[83, 78, 69]⟩ : ByteArray)] from rfl) (Reps.one (show Kd.M Kd.string _ _ _ (⟨#[76, 68, 87]⟩ : ByteArray) [.string (⟨#[76, 68, 87]⟩ : ByteArray)] from rfl) (Reps.one (show Kd.M Kd.string _ _ _ (⟨#[83, 84, 87]⟩ : ByteArray) [.string (⟨#[83, 84, 87]⟩ : ByteArray)] from rfl) (Reps.one (show Kd.M Kd.string _ _ _ (⟨#[66, 90]⟩ : ByteArray) [.string (⟨#[66, 90]⟩ : ByteArray)] from rfl) (Reps.one (show Kd.M Kd.string _ _ _ (⟨#[66, 78, 90]⟩ : ByteArray) [.string (⟨#[66, 78, 90]⟩ : ByteArray)] from rfl) (Reps.one (show Kd.M Kd.string _ _ _ (⟨#[66, 82]⟩ : ByteArray) [.string (⟨#[66, 82]⟩ : ByteArray)] from rfl) (Reps.one (show Kd.M Kd.string _ _ _ (⟨#[67, 65, 76, 76]⟩ : ByteArray) [.string (⟨#[67, 65, 76, 76]⟩ : ByteArray)] from rfl) (Reps.one (show Kd.M Kd.string _ _ _ (⟨#[74, 82]⟩ : ByteArray) [.string (⟨#[74, 82]⟩ : ByteArray)] from rfl) (Reps.one (show Kd.M Kd.string _ _ _ (⟨#[67, 65, 76, 76, 82]⟩ : ByteArray) [.string (⟨#[67, 65, 76, 76, 82]⟩ : ByteArray)] from rfl) (Reps.one (show Kd.M Kd.string _ _ _ (⟨#[67, 72, 75]⟩ : ByteArray) [.string (⟨#[67, 72, 75]⟩ : ByteArray)] from rfl) (Reps.one (show Kd.M Kd.string _ _ _ (⟨#[78, 73, 76]⟩ : ByteArray) [.string (⟨#[78, 73, 76]⟩ : ByteArray)] from rfl) (Reps.one (show Kd.M Kd.string _ _ _ (⟨#[84, 82, 65, 80]⟩ : ByteArray) [.string (⟨#[84, 82, 65, 80]⟩ : ByteArray)] from rfl) (Reps.one (show Kd.M Kd.string _ _ _ (⟨#[82, 65, 73, 83, 69]⟩ : ByteArray) [.string (⟨#[82, 65, 73, 83, 69]⟩ : ByteArray)] from rfl) (Reps.one (show Kd.M Kd.string _ _ _ (⟨#[79, 85, 84]⟩ : ByteArray) [.string (⟨#[79, 85, 84]⟩ : ByteArray)] from rfl) (Reps.one (show Kd.M Kd.string _ _ _ (⟨#[73, 78]⟩ : ByteArray) [.string (⟨#[73, 78]⟩ : ByteArray)] from rfl) (Reps.one (show Kd.M Kd.string _ _ _ (⟨#[67, 72, 75, 83]⟩ : ByteArray) [.string (⟨#[67, 72, 75, 83]⟩ : ByteArray)] from rfl) (Reps.one (show Kd.M Kd.string _ _ _ (⟨#[82, 84, 67]⟩ : ByteArray) [.string (⟨#[82, 84, 67]⟩ : ByteArray)] from rfl) (Reps.one (show Kd.M Kd.string _ _ _ (⟨#[88, 79, 82, 73]⟩ : ByteArray) [.string (⟨#[88, 79, 82, 73]⟩ : ByteArray)] from rfl) (Reps.none _ _)))))))))))))))))))))))))))))))))))); intro v215 w11 ho12 hb hg_ hnew_; clear hg_ hnew_; (first | rw [← Ny214.out] at ho12 | (simp only [Int.reduceToNat] at ho12; rw [← Ny214.out] at ho12)); have n0_ := Aside0.mk (Kd.R_lower ho12 (below_size (by repeat (first | (with_reducible first | exact HB.out | apply below_alloc | apply pw_below_drewN | apply below_drew1) | exact HB.out)))); have n1_ := Aside0.mk (below_step (by repeat (first | (with_reducible first | exact HB.out | apply below_alloc | apply pw_below_drewN | apply below_drew1) | exact HB.out)) hb); clear HB; have HO216 := n0_; have HB := n1_; clear n0_ n1_; clear hb ho12; obtain ⟨Ao13, co13, eo13⟩ := Kd.R_slice HO216.out; subst eo13; have p217 : 0 ≤ ((ji8) : Int) := of_decide_eq_true (by first | (with_reducible assumption) | assumption); have q217 : (ji8) < (y214.length : Int) := of_decide_eq_true (by first | (with_reducible assumption) | assumption); obtain ⟨ad217, e217, hx217_0⟩ := Kd.at_string (Kd.R_reads' HO216.out).2.2 (ji8) p217 q217; cases e217; replace p217 := eq_true p217; replace q217 := eq_true q217))
     go_ret
     exact ⟨by first | rfl | (simp [errW_none, errW_some] <;> rfl) | (simp only [← hji8]; first | rfl | (simp [errW_none, errW_some] <;> rfl)) | (simp [*, errW_none, errW_some] <;> rfl), by repeat (first | (with_reducible first | exact HB.out | apply below_alloc | apply pw_below_drewN | apply below_drew1) | exact HB.out)⟩
    ·
     rw [if_neg c10] at H
     exact absurd H (by simp)
   ·
    rw [if_neg c9] at H
    exact absurd H (by simp)

end Go.Proofs.Ytfagpgpeiomnpaa.P

-- Written by a program of this session (wip/tools/hp.py) out of the translation.
namespace Go.Proofs.Ytfagpgpeiomnpaa.P
open Go.RowKit Go.Proofs.YtfagpgpeiomnpaaW.PrintWords Go.Proofs.YtfagpgpeiomnpaaW.PrintLast Go.Proofs.YtfagpgpeiomnpaaW.PrintMore
attribute [local go_sem] max2_int min2_int max_two min_two max_three min_three max_four min_four   -- for this text's walks alone
set_option linter.unusedVariables false
set_option linter.unusedSimpArgs false

/-! ### pascalineref01_Text: function 57 -/
open Go.Proofs.Ytfagpgpeiomnpaa.C
def pascalineref01_Text.f (n : Int) : Option ByteArray := if -9223372036854775808 ≤ n ∧ n < 9223372036854775808 then some (strOfNums (textOf n)) else none

/-- One round done: a is what is left, ds the digits done. -/
def pascalineref01_Text.Inv (kq : Nat) (A a : Int) (ds : List Int) : Prop :=
 0 ≤ a ∧ a < 2 ^ kq ∧ ∃ m, (0 < a ∨ 0 < m ∧ 1 ≤ kq) ∧ digs 10 kq a m ++ ds = digs 10 65 A 1 ∧ m ≤ 1 ∧ ds.length + kq = 65 ∧ a ≤ A
theorem pascalineref01_Text.Inv.pos {kq : Nat} {A a : Int} {ds : List Int} (h : pascalineref01_Text.Inv kq A a ds) : 1 ≤ kq := by
 obtain ⟨h0, h1, m, h2, _⟩ := h
 rcases Nat.eq_zero_or_pos kq with e | e
 ·
  subst e; simp at h1; omega
 ·
  exact e
theorem pascalineref01_Text.Inv.step {kq : Nat} {A a : Int} {ds : List Int} (h : pascalineref01_Text.Inv (kq + 1) A a ds) :
  (a / 10 = 0 → digs 10 65 A 1 = (48 + a % 10) :: ds) ∧ (¬ a / 10 = 0 → pascalineref01_Text.Inv kq A (a / 10) ((48 + a % 10) :: ds)) := by
 obtain ⟨h0, h1, m, h2, h3, h4, h5, h6⟩ := h
 have hd := digs_inv 10 (by omega) a kq h0 h1
 have hg : dg (a % 10) = 48 + a % 10 := (dg_lo _ (by omega)).symm
 rw [digs_succ, if_pos (by omega), List.append_assoc, List.singleton_append, hg] at h3
 have hm : m - 1 = 0 := by omega
 rw [hm] at h3
 refine ⟨fun e => ?_, fun e => ⟨hd.1, hd.2, 0, .inl (by omega), h3, by omega, by simp; omega, by omega⟩⟩
 rw [e, digs_zero] at h3
 exact h3.symm
theorem pascalineref01_Text.conv (W : World) (d : Int) :
  (convert 66 9 (.slice (some ⟨W.heap.size, 0, none⟩) 1 1)).run Try.prog (W.alloc (.cells #[.int .u8 d] 5)) = .ok (.string (strOfNums [d])) (W.alloc (.cells #[.int .u8 d] 5)) := by
 refine run_convert_bytes_arg (P := Try.prog) _ 66 5 Try.underlying66 Try.underlying5 _ 0 1 1 [d] rfl (fun i hi => ?_) 9 Try.underlying9
 obtain rfl : i = 0 := by omega
 rw [blk_cell (blk_new W _)]
 rfl
theorem pascalineref01_Text.neg_tmod (x : Int) (h : 0 ≤ -x) : x.tmod 10 = -((-x) % 10) := by
 have e : x = -(-x) := by omega
 rw [e, Int.neg_tmod, Int.tmod_eq_emod_of_nonneg h, Int.neg_neg]
theorem pascalineref01_Text.neg_tdiv (x : Int) (h : 0 ≤ -x) : x.tdiv 10 = -((-x) / 10) := by
 have e : x = -(-x) := by omega
 rw [e, Int.neg_tdiv, Int.tdiv_eq_ediv_of_nonneg h, Int.neg_neg]
theorem pascalineref01_Text.dig1 (x : Int) (h : x.tmod 10 = -((-x) % 10)) : 48 + -x.tmod 10 = 48 + -x % 10 := by omega
theorem pascalineref01_Text.dig2 (x : Int) (h : x.tmod 10 = -((-x) % 10)) (h2 : 0 ≤ x.tmod 10) : 48 + x.tmod 10 = 48 + -x % 10 := by omega
theorem pascalineref01_Text.join (d : Int) (ds : List Int) : strOfNums [d] ++ strOfNums ds = strOfNums (d :: ds) := (strOfNums_cons d ds).symm
theorem pascalineref01_Text.fin (d : Int) (ds : List Int) : strOfNums (45 :: d :: ds) = (⟨#[45]⟩ : ByteArray) ++ (strOfNums [d] ++ strOfNums ds) := by
 rw [show (45 : Int) :: d :: ds = [45] ++ ([d] ++ ds) from rfl, strOfNums_append, strOfNums_append]; rfl

set_option maxHeartbeats 400000 in
set_option maxRecDepth 100000 in
theorem pascalineref01_Text.calls (n : Int) (r : ByteArray) (w : World) (h : pascalineref01_Text.f n = some r) :
  Calls Try.prog 57 #[.int .i64 n] w fun e w' => e = .returned (.string r) ∧ Below w.heap.size w w' := by
 unfold pascalineref01_Text.f at h
 by_cases hb : -9223372036854775808 ≤ n ∧ n < 9223372036854775808
 ·
  rw [if_pos hb] at h
  injection h with h
  have HR := Aside0.mk h
  clear h
  by_cases hn : n < 0
  ·
   have HT : Aside0 (textOf n = 45 :: digs 10 65 (-n) 1) := ⟨if_pos hn⟩
   have hnb : decide (n < 0) = true := decide_eq_true hn
   go_enter Try.func57, Try.ntmps57
   go_wp2
   go_loopg [3, 4] 65 (fun kq v3 v4 w' => ∃ (ds : List Int) (x : Int), v3 = .string (strOfNums ds) ∧ v4 = .int .i64 x ∧ Aside0 (pascalineref01_Text.Inv kq (-n) (-x) ds) ∧ Aside0 (Below w.heap.size w w'))
   case atStart =>
    refine ⟨[], n, rfl, rfl, ⟨by omega, by omega, 1, by omega, by simp, by omega, by simp, by omega⟩, ⟨Below.refl _ _⟩⟩
   case round =>
    obtain ⟨ds, x, rfl, rfl, HI, HB⟩ := hrel
    have hx0 := HI.out.1
    have hk := HI.out.pos
    obtain ⟨k, rfl⟩ : ∃ k, gk = k + 1 := ⟨gk - 1, by omega⟩
    have hs : (strOfNums ds).size ≤ 1000 := by have := HI.out.2.2; rw [strOfNums_size]; obtain ⟨m, _, _, _, h5, _⟩ := this; omega
    have hxn : -x ≤ -n := by obtain ⟨m, _, _, _, _, h6⟩ := HI.out.2.2; exact h6
    have ht : x.tmod 10 = -((-x) % 10) := pascalineref01_Text.neg_tmod x hx0
    have hq : x.tdiv 10 = -((-x) / 10) := pascalineref01_Text.neg_tdiv x hx0
    have ht0 : x.tmod 10 ≤ 0 := by omega
    have ht1 : -10 < x.tmod 10 := by omega
    have hq0 : x.tdiv 10 ≤ 0 := by omega
    have hq1 : x ≤ x.tdiv 10 := by omega
    have HT2 := Aside0.mk ht
    have HQ2 := Aside0.mk hq
    clear ht hq
    obtain ⟨hb0, hb1⟩ := hb
    by_cases hd : x.tmod 10 < 0
    all_goals
     first | have hcv := pascalineref01_Text.conv wr (48 + -x.tmod 10) | skip
     have hcv2 := pascalineref01_Text.conv wr (48 + x.tmod 10)
     have hs1 : (strOfNums [48 + x.tmod 10]).size ≤ 1 := by rw [strOfNums_size]; simp
     have hs2 : (strOfNums [48 + -x.tmod 10]).size ≤ 1 := by rw [strOfNums_size]; simp
     by_cases hz : x.tdiv 10 = 0
     ·
      have hzb : (x.tdiv 10 == 0) = true := beq_iff_eq.mpr hz
      have HE := Aside0.mk (HI.out.step.1 (by have := HQ2.out; omega))
      clear hz
      go_wp2
      go_ret
      exact ⟨by rw [← HR.out, HT.out, HE.out, pascalineref01_Text.fin]; first | (rw [← pascalineref01_Text.dig1 x HT2.out]; rfl) | (rw [← pascalineref01_Text.dig2 x HT2.out hd]; rfl), below_alloc HB.out _⟩
     ·
      have hzb : (x.tdiv 10 == 0) = false := beq_eq_false_iff_ne.mpr hz
      have HE := Aside0.mk (HI.out.step.2 (by have := HQ2.out; omega))
      clear hz
      go_wp2
      go_roundg k
      case measure => omega
      case rel => exact ⟨(48 + -x % 10) :: ds, x.tdiv 10, by first | (rw [pascalineref01_Text.join, ← pascalineref01_Text.dig1 x HT2.out]; done) | (rw [pascalineref01_Text.join, ← pascalineref01_Text.dig2 x HT2.out hd]; done), rfl, ⟨by have h1 := HE.out; have h2 := HQ2.out; rw [show -(x.tdiv 10) = -x / 10 by omega]; exact h1⟩, ⟨below_alloc HB.out _⟩⟩
  ·
   have HT : Aside0 (textOf n = digs 10 65 n 1) := ⟨if_neg hn⟩
   have hnb : decide (n < 0) = false := decide_eq_false hn
   have hn0 : 0 ≤ n := by omega
   go_enter Try.func57, Try.ntmps57
   go_wp2
   go_loopg [3, 4] 65 (fun kq v3 v4 w' => ∃ (ds : List Int) (x : Int), v3 = .string (strOfNums ds) ∧ v4 = .int .i64 x ∧ Aside0 (pascalineref01_Text.Inv kq n x ds) ∧ Aside0 (Below w.heap.size w w'))
   case atStart =>
    refine ⟨[], n, rfl, rfl, ⟨by omega, by omega, 1, by omega, by simp, by omega, by simp, by omega⟩, ⟨Below.refl _ _⟩⟩
   case round =>
    obtain ⟨ds, x, rfl, rfl, HI, HB⟩ := hrel
    have hx0 := HI.out.1
    have hk := HI.out.pos
    obtain ⟨k, rfl⟩ : ∃ k, gk = k + 1 := ⟨gk - 1, by omega⟩
    have hm0 : 0 ≤ x % 10 := by omega
    have hm1 : x % 10 < 10 := by omega
    have hs : (strOfNums ds).size ≤ 1000 := by have := HI.out.2.2; rw [strOfNums_size]; obtain ⟨m, _, _, _, h5, _⟩ := this; omega
    have hs1 : (strOfNums [48 + x % 10]).size ≤ 1 := by rw [strOfNums_size]; simp
    have hcv := pascalineref01_Text.conv wr (48 + x % 10)
    have hxn : x ≤ n := by obtain ⟨m, _, _, _, _, h6⟩ := HI.out.2.2; exact h6
    obtain ⟨hb0, hb1⟩ := hb
    by_cases hz : x / 10 = 0
    ·
     have hzb : (x / 10 == 0) = true := beq_iff_eq.mpr hz
     have HE := Aside0.mk (HI.out.step.1 hz)
     clear hz
     go_wp2
     go_ret
     exact ⟨by rw [← HR.out, HT.out, HE.out, ← pascalineref01_Text.join]; rfl, below_alloc HB.out _⟩
    ·
     have hzb : (x / 10 == 0) = false := beq_eq_false_iff_ne.mpr hz
     have HE := Aside0.mk (HI.out.step.2 hz)
     clear hz
     go_wp2
     go_roundg k
     case measure => omega
     case rel => exact ⟨(48 + x % 10) :: ds, x / 10, by rw [pascalineref01_Text.join], rfl, HE, ⟨below_alloc HB.out _⟩⟩
 ·
  rw [if_neg hb] at h; cases h

end Go.Proofs.Ytfagpgpeiomnpaa.P
