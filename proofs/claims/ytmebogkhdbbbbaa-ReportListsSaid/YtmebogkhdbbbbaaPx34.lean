/- Printed parts. -/
import Derived.Test.YtmebogkhdbbbbaaPx0
import Derived.Test.YtmebogkhdbbbbaaCCf
import Derived.Test.YtmebogkhdbbbbaaPx1
import Derived.Test.YtmebogkhdbbbbaaPx25
import Derived.Test.YtmebogkhdbbbbaaPx23
namespace Go.Proofs.Ytmebogkhdbbbbaa.P
open Go.RowKit Go.Proofs.YtmebogkhdbbbbaaW.PrintWords Go.Proofs.YtmebogkhdbbbbaaW.PrintLast Go.Proofs.YtmebogkhdbbbbaaW.PrintMore
attribute [local go_sem] max2_int min2_int max_two min_two max_three min_three max_four min_four   -- for this text's walks alone
set_option linter.unusedVariables false
set_option linter.unusedSimpArgs false

/-! ### instr_names: function 69 -/
def instr_names.f  : Option (List ByteArray) := some (([(⟨#[]⟩ : ByteArray), (⟨#[72, 65, 76, 84]⟩ : ByteArray), (⟨#[76, 68, 73]⟩ : ByteArray), (⟨#[76, 85, 73]⟩ : ByteArray), (⟨#[79, 82, 73]⟩ : ByteArray), (⟨#[65, 68, 68, 73]⟩ : ByteArray), (⟨#[65, 68, 68]⟩ : ByteArray), (⟨#[83, 85, 66]⟩ : ByteArray), (⟨#[77, 85, 76]⟩ : ByteArray), (⟨#[68, 73, 86]⟩ : ByteArray), (⟨#[77, 79, 68]⟩ : ByteArray), (⟨#[65, 78, 68]⟩ : ByteArray), (⟨#[79, 82]⟩ : ByteArray), (⟨#[88, 79, 82]⟩ : ByteArray), (⟨#[83, 76, 84]⟩ : ByteArray), (⟨#[83, 76, 69]⟩ : ByteArray), (⟨#[83, 69, 81]⟩ : ByteArray), (⟨#[83, 78, 69]⟩ : ByteArray), (⟨#[76, 68, 87]⟩ : ByteArray), (⟨#[83, 84, 87]⟩ : ByteArray), (⟨#[66, 90]⟩ : ByteArray), (⟨#[66, 78, 90]⟩ : ByteArray), (⟨#[66, 82]⟩ : ByteArray), (⟨#[67, 65, 76, 76]⟩ : ByteArray), (⟨#[74, 82]⟩ : ByteArray), (⟨#[67, 65, 76, 76, 82]⟩ : ByteArray), (⟨#[67, 72, 75]⟩ : ByteArray), (⟨#[78, 73, 76]⟩ : ByteArray), (⟨#[84, 82, 65, 80]⟩ : ByteArray), (⟨#[82, 65, 73, 83, 69]⟩ : ByteArray), (⟨#[79, 85, 84]⟩ : ByteArray), (⟨#[73, 78]⟩ : ByteArray), (⟨#[67, 72, 75, 83]⟩ : ByteArray), (⟨#[82, 84, 67]⟩ : ByteArray), (⟨#[88, 79, 82, 73]⟩ : ByteArray)] : List ByteArray))
set_option maxHeartbeats 8000000 in
set_option maxRecDepth 100000 in
theorem instr_names.calls  (r : List ByteArray) (w : World) (h : instr_names.f  = some r) :
 Calls Try.prog 69 #[] w fun e w' => ∃ v0_ : Value, e = .returned (v0_) ∧ Kd.R Kd.string 9 w' w.heap.size (fun _ => True) v0_ r ∧ Below w.heap.size w w' := by
 have HB := mK (Below.refl w.heap.size w)
 have H : (some (([(⟨#[]⟩ : ByteArray), (⟨#[72, 65, 76, 84]⟩ : ByteArray), (⟨#[76, 68, 73]⟩ : ByteArray), (⟨#[76, 85, 73]⟩ : ByteArray), (⟨#[79, 82, 73]⟩ : ByteArray), (⟨#[65, 68, 68, 73]⟩ : ByteArray), (⟨#[65, 68, 68]⟩ : ByteArray), (⟨#[83, 85, 66]⟩ : ByteArray), (⟨#[77, 85, 76]⟩ : ByteArray), (⟨#[68, 73, 86]⟩ : ByteArray), (⟨#[77, 79, 68]⟩ : ByteArray), (⟨#[65, 78, 68]⟩ : ByteArray), (⟨#[79, 82]⟩ : ByteArray), (⟨#[88, 79, 82]⟩ : ByteArray), (⟨#[83, 76, 84]⟩ : ByteArray), (⟨#[83, 76, 69]⟩ : ByteArray), (⟨#[83, 69, 81]⟩ : ByteArray), (⟨#[83, 78, 69]⟩ : ByteArray), (⟨#[76, 68, 87]⟩ : ByteArray), (⟨#[83, 84, 87]⟩ : ByteArray), (⟨#[66, 90]⟩ : ByteArray), (⟨#[66, 78, 90]⟩ : ByteArray), (⟨#[66, 82]⟩ : ByteArray), (⟨#[67, 65, 76, 76]⟩ : ByteArray), (⟨#[74, 82]⟩ : ByteArray), (⟨#[67, 65, 76, 76, 82]⟩ : ByteArray), (⟨#[67, 72, 75]⟩ : ByteArray), (⟨#[78, 73, 76]⟩ : ByteArray), (⟨#[84, 82, 65, 80]⟩ : ByteArray), (⟨#[82, 65, 73, 83, 69]⟩ : ByteArray), (⟨#[79, 85, 84]⟩ : ByteArray), (⟨#[73, 78]⟩ : ByteArray), (⟨#[67, 72, 75, 83]⟩ : ByteArray), (⟨#[82, 84, 67]⟩ : ByteArray), (⟨#[88, 79, 82, 73]⟩ : ByteArray)] : List ByteArray))) = some r := h
 clear h
 obtain ⟨y200, hy200⟩ : ∃ y_ : List ByteArray, y_ = (([(⟨#[]⟩ : ByteArray), (⟨#[72, 65, 76, 84]⟩ : ByteArray), (⟨#[76, 68, 73]⟩ : ByteArray), (⟨#[76, 85, 73]⟩ : ByteArray), (⟨#[79, 82, 73]⟩ : ByteArray), (⟨#[65, 68, 68, 73]⟩ : ByteArray), (⟨#[65, 68, 68]⟩ : ByteArray), (⟨#[83, 85, 66]⟩ : ByteArray), (⟨#[77, 85, 76]⟩ : ByteArray), (⟨#[68, 73, 86]⟩ : ByteArray), (⟨#[77, 79, 68]⟩ : ByteArray), (⟨#[65, 78, 68]⟩ : ByteArray), (⟨#[79, 82]⟩ : ByteArray), (⟨#[88, 79, 82]⟩ : ByteArray), (⟨#[83, 76, 84]⟩ : ByteArray), (⟨#[83, 76, 69]⟩ : ByteArray), (⟨#[83, 69, 81]⟩ : ByteArray), (⟨#[83, 78, 69]⟩ : ByteArray), (⟨#[76, 68, 87]⟩ : ByteArray), (⟨#[83, 84, 87]⟩ : ByteArray), (⟨#[66, 90]⟩ : ByteArray), (⟨#[66, 78, 90]⟩ : ByteArray), (⟨#[66, 82]⟩ : ByteArray), (⟨#[67, 65, 76, 76]⟩ : ByteArray), (⟨#[74, 82]⟩ : ByteArray), (⟨#[67, 65, 76, 76, 82]⟩ : ByteArray), (⟨#[67, 72, 75]⟩ : ByteArray), (⟨#[78, 73, 76]⟩ : ByteArray), (⟨#[84, 82, 65, 80]⟩ : ByteArray), (⟨#[82, 65, 73, 83, 69]⟩ : ByteArray), (⟨#[79, 85, 84]⟩ : ByteArray), (⟨#[73, 78]⟩ : ByteArray), (⟨#[67, 72, 75, 83]⟩ : ByteArray), (⟨#[82, 84, 67]⟩ : ByteArray), (⟨#[88, 79, 82, 73]⟩ : ByteArray)] : List ByteArray)) := ⟨_, rfl⟩
 replace H : (some y200) = some r := by first | (rw [hy200]; with_reducible exact H) | (have H2_ := (Option.bind_some _ _).symm.trans H; rw [hy200]; with_reducible exact H2_) | (have H2_ := (Option.bind_some _ _).symm.trans H; with_reducible exact H2_) | with_reducible exact H | (rw [hy200]; exact H) | exact H
 have Ny200 := mK hy200
 clear hy200
 obtain rfl := Option.some.inj H
 go_enter Try.func69, Try.ntmps69
 go_wp2_with (first | ((with_reducible refine gate_dst (N := 1) rfl ?_); refine Kd.R_lit Kd.string _ 9 ?hg (N := 1) ?hd (xs := ([(⟨#[]⟩ : ByteArray), (⟨#[72, 65, 76, 84]⟩ : ByteArray), (⟨#[76, 68, 73]⟩ : ByteArray), (⟨#[76, 85, 73]⟩ : ByteArray), (⟨#[79, 82, 73]⟩ : ByteArray), (⟨#[65, 68, 68, 73]⟩ : ByteArray), (⟨#[65, 68, 68]⟩ : ByteArray), (⟨#[83, 85, 66]⟩ : ByteArray), (⟨#[77, 85, 76]⟩ : ByteArray), (⟨#[68, 73, 86]⟩ : ByteArray), (⟨#[77, 79, 68]⟩ : ByteArray), (⟨#[65, 78, 68]⟩ : ByteArray), (⟨#[79, 82]⟩ : ByteArray), (⟨#[88, 79, 82]⟩ : ByteArray), (⟨#[83, 76, 84]⟩ : ByteArray), (⟨#[83, 76, 69]⟩ : ByteArray), (⟨#[83, 69, 81]⟩ : ByteArray), (⟨#[83, 78, 69]⟩ : ByteArray), (⟨#[76, 68, 87]⟩ : ByteArray), (⟨#[83, 84, 87]⟩ : ByteArray), (⟨#[66, 90]⟩ : ByteArray), (⟨#[66, 78, 90]⟩ : ByteArray), (⟨#[66, 82]⟩ : ByteArray), (⟨#[67, 65, 76, 76]⟩ : ByteArray), (⟨#[74, 82]⟩ : ByteArray), (⟨#[67, 65, 76, 76, 82]⟩ : ByteArray), (⟨#[67, 72, 75]⟩ : ByteArray), (⟨#[78, 73, 76]⟩ : ByteArray), (⟨#[84, 82, 65, 80]⟩ : ByteArray), (⟨#[82, 65, 73, 83, 69]⟩ : ByteArray), (⟨#[79, 85, 84]⟩ : ByteArray), (⟨#[73, 78]⟩ : ByteArray), (⟨#[67, 72, 75, 83]⟩ : ByteArray), (⟨#[82, 84, 67]⟩ : ByteArray), (⟨#[88, 79, 82, 73]⟩ : ByteArray)] : List ByteArray)) (inner := [.string (⟨#[]⟩ : ByteArray), .string (⟨#[72, 65, 76, 84]⟩ : ByteArray), .string (⟨#[76, 68, 73]⟩ : ByteArray), .string (⟨#[76, 85, 73]⟩ : ByteArray), .string (⟨#[79, 82, 73]⟩ : ByteArray), .string (⟨#[65, 68, 68, 73]⟩ : ByteArray), .string (⟨#[65, 68, 68]⟩ : ByteArray), .string (⟨#[83, 85, 66]⟩ : ByteArray), .string (⟨#[77, 85, 76]⟩ : ByteArray), .string (⟨#[68, 73, 86]⟩ : ByteArray), .string (⟨#[77, 79, 68]⟩ : ByteArray), .string (⟨#[65, 78, 68]⟩ : ByteArray), .string (⟨#[79, 82]⟩ : ByteArray), .string (⟨#[88, 79, 82]⟩ : ByteArray), .string (⟨#[83, 76, 84]⟩ : ByteArray), .string (⟨#[83, 76, 69]⟩ : ByteArray), .string (⟨#[83, 69, 81]⟩ : ByteArray), .string (⟨#[83, 78, 69]⟩ : ByteArray), .string (⟨#[76, 68, 87]⟩ : ByteArray), .string (⟨#[83, 84, 87]⟩ : ByteArray), .string (⟨#[66, 90]⟩ : ByteArray), .string (⟨#[66, 78, 90]⟩ : ByteArray), .string (⟨#[66, 82]⟩ : ByteArray), .string (⟨#[67, 65, 76, 76]⟩ : ByteArray), .string (⟨#[74, 82]⟩ : ByteArray), .string (⟨#[67, 65, 76, 76, 82]⟩ : ByteArray), .string (⟨#[67, 72, 75]⟩ : ByteArray), .string (⟨#[78, 73, 76]⟩ : ByteArray), .string (⟨#[84, 82, 65, 80]⟩ : ByteArray), .string (⟨#[82, 65, 73, 83, 69]⟩ : ByteArray), .string (⟨#[79, 85, 84]⟩ : ByteArray), .string (⟨#[73, 78]⟩ : ByteArray), .string (⟨#[67, 72, 75, 83]⟩ : ByteArray), .string (⟨#[82, 84, 67]⟩ : ByteArray), .string (⟨#[88, 79, 82, 73]⟩ : ByteArray)]) (ok := fun _ => True) (okp := fun _ => True) ?hr ?hp (fun _ hk => hk) trivial (Below.refl _ _) (Nat.le_refl _) (by simp) ?_; (case hd => rfl); (case hg => rfl); (case hr => first | (go_simp; done) | (go_simp; rfl)); (case hp => exact (Reps.one (show Kd.M Kd.string _ _ _ (⟨#[]⟩ : ByteArray) [.string (⟨#[]⟩ : ByteArray)] from rfl) (Reps.one (show Kd.M Kd.string _ _ _ (⟨#[72, 65, 76, 84]⟩ : ByteArray) [.string (⟨#[72, 65, 76, 84]⟩ : ByteArray)] from rfl) (Reps.one (show Kd.M Kd.string _ _ _ (⟨#[76, 68, 73]⟩ : ByteArray) [.string (⟨#[76, 68, 73]⟩ : ByteArray)] from rfl) (Reps.one (show Kd.M Kd.string _ _ _ (⟨#[76, 85, 73]⟩ : ByteArray) [.string (⟨#[76, 85, 73]⟩ : ByteArray)] from rfl) (Reps.one (show Kd.M Kd.string _ _ _ (⟨#[79, 82, 73]⟩ : ByteArray) [.string (⟨#[79, 82, 73]⟩ : ByteArray)] from rfl) (Reps.one (show Kd.M Kd.string _ _ _ (⟨#[65, 68, 68, 73]⟩ : ByteArray) [.string (⟨#[65, 68, 68, 73]⟩ : ByteArray)] from rfl) (Reps.one (show Kd.M Kd.string _ _ _ (⟨#[65, 68, 68]⟩ : ByteArray) [.string (⟨#[65, 68, 68]⟩ : ByteArray)] from rfl) (Reps.one (show Kd.M Kd.string _ _ _ (⟨#[83, 85, 66]⟩ : ByteArray) [.string (⟨#[83, 85, 66]⟩ : ByteArray)] from rfl) (Reps.one (show Kd.M Kd.string _ _ _ (⟨#[77, 85, 76]⟩ : ByteArray) [.string (⟨#[77, 85, 76]⟩ : ByteArray)] from rfl) (Reps.one (show Kd.M Kd.string _ _ _ (⟨#[68, 73, 86]⟩ : ByteArray) [.string (⟨#[68, 73, 86]⟩ : ByteArray)] from rfl) (Reps.one (show Kd.M Kd.string _ _ _ (⟨#[77, 79, 68]⟩ : ByteArray) [.string (⟨#[77, 79, 68]⟩ : ByteArray)] from rfl) (Reps.one (show Kd.M Kd.string _ _ _ (⟨#[65, 78, 68]⟩ : ByteArray) [.string (⟨#[65, 78, 68]⟩ : ByteArray)] from rfl) (Reps.one (show Kd.M Kd.string _ _ _ (⟨#[79, 82]⟩ : ByteArray) [.string (⟨#[79, 82]⟩ : ByteArray)] from rfl) (Reps.one (show Kd.M Kd.string _ _ _ (⟨#[88, 79, 82]⟩ : ByteArray) [.string (⟨#[88, 79, 82]⟩ : ByteArray)] from rfl) (Reps.one (show Kd.M Kd.string _ _ _ (⟨#[83, 76, 84]⟩ : ByteArray) [.string (⟨#[83, 76, 84]⟩ : ByteArray)] from rfl) (Reps.one (show Kd.M Kd.string _ _ _ (⟨#[83, 76, 69]⟩ : ByteArray) [.string (⟨#[83, 76, 69]⟩ : ByteArray)] from rfl) (Reps.one (show Kd.M Kd.string _ _ _ (⟨#[83, 69, 81]⟩ : ByteArray) [.string (⟨#[83, 69, 81]⟩ : ByteArray)] from rfl) (Reps.one (show Kd.M Kd.string _ _ _ (⟨#[83, 78, 69]⟩ : ByteArray) [.string (⟨#[83, 78, 69]⟩ : ByteArray)] from rfl) (Reps.one (show Kd.M Kd.string _ _ _ (⟨#[76, 68, 87]⟩ : ByteArray) [.string (⟨#[76, 68, 87]⟩ : ByteArray)] from rfl) (Reps.one (show Kd.M Kd.string _ _ _ (⟨#[83, 84, 87]⟩ : ByteArray) [.string (⟨#[83, 84, 87]⟩ : ByteArray)] from rfl) (Reps.one (show Kd.M Kd.string _ _ _ (⟨#[66, 90]⟩ : ByteArray) [.string (⟨#[66, 90]⟩ : ByteArray)] from rfl) (Reps.one (show Kd.M Kd.string _ _ _ (⟨#[66, 78, 90]⟩ : ByteArray) [.string (⟨#[66, 78, 90]⟩ : ByteArray)] from rfl) (Reps.one (show Kd.M Kd.string _ _ _ (⟨#[66, 82]⟩ : ByteArray) [.string (⟨#[66, 82]⟩ : ByteArray)] from rfl) (Reps.one (show Kd.M Kd.string _ _ _ (⟨#[67, 65, 76, 76]⟩ : ByteArray) [.string (⟨#[67, 65, 76, 76]⟩ : ByteArray)] from rfl) (Reps.one (show Kd.M Kd.string _ _ _ (⟨#[74, 82]⟩ : ByteArray) [.string (⟨#[74, 82]⟩ : ByteArray)] from rfl) (Reps.one (show Kd.M Kd.string _ _ _ (⟨#[67, 65, 76, 76, 82]⟩ : ByteArray) [.string (⟨#[67, 65, 76, 76, 82]⟩ : ByteArray)] from rfl) (Reps.one (show Kd.M Kd.string _ _ _ (⟨#[67, 72, 75]⟩ : ByteArray) [.string (⟨#[67, 72, 75]⟩ : ByteArray)] from rfl) (Reps.one (show Kd.M Kd.string _ _ _ (⟨#[78, 73, 76]⟩ : ByteArray) [.string (⟨#[78, 73, 76]⟩ : ByteArray)] from rfl) (Reps.one (show Kd.M Kd.string _ _ _ (⟨#[84, 82, 65, 80]⟩ : ByteArray) [.string (⟨#[84, 82, 65, 80]⟩ : ByteArray)] from rfl) (Reps.one (show Kd.M Kd.string _ _ _ (⟨#[82, 65, 73, 83, 69]⟩ : ByteArray) [.string (⟨#[82, 65, 73, 83, 69]⟩ : ByteArray)] from rfl) (Reps.one (show Kd.M Kd.string _ _ _ (⟨#[79, 85, 84]⟩ : ByteArray) [.string (⟨#[79, 85, 84]⟩ : ByteArray)] from rfl) (Reps.one (show Kd.M Kd.string _ _ _ (⟨#[73, 78]⟩ : ByteArray) [.string (⟨#[73, 78]⟩ : ByteArray)] from rfl) (Reps.one (show Kd.M Kd.string _ _ _ (⟨#[67, 72, 75, 83]⟩ : ByteArray) [.string (⟨#[67, 72, 75, 83]⟩ : ByteArray)] from rfl) (Reps.one (show Kd.M Kd.string _ _ _ (⟨#[82, 84, 67]⟩ : ByteArray) [.string (⟨#[82, 84, 67]⟩ : ByteArray)] from rfl) (Reps.one (show Kd.M Kd.string _ _ _ (⟨#[88, 79, 82, 73]⟩ : ByteArray) [.string (⟨#[88, 79, 82, 73]⟩ : ByteArray)] from rfl) (Reps.none _ _))))))))))))))))))))))))))))))))))))); intro v201 w1 ho2 hb hg_ hnew_; clear hg_ hnew_; (first | rw [← Ny200.out] at ho2 | (simp only [Int.reduceToNat] at ho2; rw [← Ny200.out] at ho2)); have n0_ := mK (Kd.R_lower ho2 (bZ (by repeat (first | (with_reducible first | exact HB.out | apply bA | apply bN | apply bD) | exact HB.out)))); have n1_ := mK (bP (by repeat (first | (with_reducible first | exact HB.out | apply bA | apply bN | apply bD) | exact HB.out)) hb); clear HB; have HO202 := n0_; have HB := n1_; clear n0_ n1_; clear hb ho2))
 go_ret
 exact ⟨_, by first | rfl | (simp [errW_none, errW_some] <;> rfl) | (simp [*, errW_none, errW_some] <;> rfl), by (with_reducible repeat (first | apply Kd.R_alloc | apply Kd.R_drewN | apply Kd.R_drew)); exact HO202.out, by repeat (first | (with_reducible first | exact HB.out | apply bA | apply bN | apply bD) | exact HB.out)⟩


/-! ### instr_Name: function 65 -/
def instr_Name.f (a0 : Int) : Option (ByteArray) := if a0 < 1 then (some (⟨#[]⟩ : ByteArray)) else (if a0 > 34 then (some (⟨#[]⟩ : ByteArray)) else ((instr_names.f).bind fun t203 => (if 0 ≤ a0 then (if a0 < (t203.length : Int) then (some (rdOf ByteArray.empty t203 a0)) else (none)) else (none))))
set_option maxHeartbeats 8000000 in
set_option maxRecDepth 100000 in
theorem instr_Name.calls (a0 : Int) (r : ByteArray) (w : World) (h : instr_Name.f a0 = some r) :
 Calls Try.prog 65 #[.int .i64 a0] w fun e w' => e = .returned (.string r) ∧ Below w.heap.size w w' := by
 have HB := mK (Below.refl w.heap.size w)
 have H : (if a0 < 1 then (some (⟨#[]⟩ : ByteArray)) else (if a0 > 34 then (some (⟨#[]⟩ : ByteArray)) else ((instr_names.f).bind fun t203 => (if 0 ≤ a0 then (if a0 < (t203.length : Int) then (some (rdOf ByteArray.empty t203 a0)) else (none)) else (none))))) = some r := h
 clear h
 by_cases c2 : a0 < 1
 ·
  rw [if_pos c2] at H
  have c2b0 : decide (a0 < 1) = true := decide_eq_true c2
  clear c2
  obtain rfl := Option.some.inj H
  go_enter Try.func65, Try.ntmps65
  go_wp2
  go_ret
  exact ⟨by first | rfl | (simp [errW_none, errW_some] <;> rfl) | (simp [*, errW_none, errW_some] <;> rfl), by repeat (first | (with_reducible first | exact HB.out | apply bA | apply bN | apply bD) | exact HB.out)⟩
 ·
  rw [if_neg c2] at H
  have c2b0 : decide (a0 < 1) = false := decide_eq_false c2
  clear c2
  by_cases c3 : a0 > 34
  ·
   rw [if_pos c3] at H
   have c3b0 : decide (34 < a0) = true := decide_eq_true c3
   clear c3
   obtain rfl := Option.some.inj H
   go_enter Try.func65, Try.ntmps65
   go_wp2
   go_ret
   exact ⟨by first | rfl | (simp [errW_none, errW_some] <;> rfl) | (simp [*, errW_none, errW_some] <;> rfl), by repeat (first | (with_reducible first | exact HB.out | apply bA | apply bN | apply bD) | exact HB.out)⟩
  ·
   rw [if_neg c3] at H
   have c3b0 : decide (34 < a0) = false := decide_eq_false c3
   clear c3
   replace H := oB H
   obtain ⟨t203, A40, H⟩ := H
   replace H : (if 0 ≤ a0 then (if a0 < (t203.length : Int) then (some (rdOf ByteArray.empty t203 a0)) else (none)) else (none)) = some r := H
   have A4 := mK A40
   clear A40
   by_cases c5 : 0 ≤ a0
   ·
    rw [if_pos c5] at H
    have c5b0 : decide (0 ≤ a0) = true := decide_eq_true c5
    clear c5
    by_cases c6 : a0 < (t203.length : Int)
    ·
     rw [if_pos c6] at H
     have c6b0 : decide (a0 < (t203.length : Int)) = true := decide_eq_true c6
     clear c6
     obtain rfl := Option.some.inj H
     go_enter Try.func65, Try.ntmps65
     go_wp2_with (first | ((with_reducible refine gate_callee (f := 69) rfl ?_); refine goesL_ (some 9) rfl rfl Try.func69 (by kernel_rfl) rfl #[] rfl (by (try simp only [List.map_toArray, List.map_cons, List.map_nil]); first | done | rfl) ?_; (with_reducible refine (instr_names.calls  t203 _ A4.out).mono ?_); rintro e w7 ⟨v204, rfl, ho0, hb⟩; refine ⟨_, rfl, ?_⟩; have n0_ := mK (Kd.R_lower ho0 (bZ (by repeat (first | (with_reducible first | exact HB.out | apply bA | apply bN | apply bD) | exact HB.out)))); have n1_ := mK (bP (by repeat (first | (with_reducible first | exact HB.out | apply bA | apply bN | apply bD) | exact HB.out)) hb); clear HB; have HO205 := n0_; have HB := n1_; clear n0_ n1_; (try clear hb); (try clear ho0); obtain ⟨Ao8, co8, eo8⟩ := Kd.R_slice HO205.out; subst eo8; have p206 : 0 ≤ (a0 : Int) := of_decide_eq_true (by first | (with_reducible assumption) | assumption); have q206 : a0 < (t203.length : Int) := of_decide_eq_true (by first | (with_reducible assumption) | assumption); obtain ⟨ad206, e206, hx206_0⟩ := Kd.at_string (Kd.R_reads' HO205.out).2.2 a0 p206 q206; cases e206; replace p206 := eq_true p206; replace q206 := eq_true q206))
     go_ret
     exact ⟨by first | rfl | (simp [errW_none, errW_some] <;> rfl) | (simp [*, errW_none, errW_some] <;> rfl), by repeat (first | (with_reducible first | exact HB.out | apply bA | apply bN | apply bD) | exact HB.out)⟩
    ·
     rw [if_neg c6] at H
     exact absurd H (by simp)
   ·
    rw [if_neg c5] at H
    exact absurd H (by simp)


/-! ### instr_fields: function 66 -/
mutual
def instr_fields.j0 : Nat → ByteArray → ByteArray → ByteArray → ByteArray → Int → Int → Int → Int → Int → Option (List ByteArray)
 | 0, _, _, _, _, _, _, _, _, _ => none
 | k + 1, x3, x4, x5, x6, x208000, x208001, x208002, x208003, x208004 => (instr_Shape.f k x208000).bind fun t213 => (if t213 = 1 then (instr_fields.j1 k x3 x4 x5 x6 t213 (t213 == 1)) else (instr_fields.j1 k x3 x4 x5 x6 t213 (t213 == 2)))
def instr_fields.j1 : Nat → ByteArray → ByteArray → ByteArray → ByteArray → Int → Bool → Option (List ByteArray)
 | 0, _, _, _, _, _, _ => none
 | k + 1, x3, x4, x5, x6, x30, x31 => if x31 = true then (some (([x3, x6] : List ByteArray))) else (if x30 = 3 then (instr_fields.j2 k x3 x4 x5 x6 x30 (x30 == 3)) else (instr_fields.j2 k x3 x4 x5 x6 x30 (x30 == 4)))
def instr_fields.j2 : Nat → ByteArray → ByteArray → ByteArray → ByteArray → Int → Bool → Option (List ByteArray)
 | 0, _, _, _, _, _, _ => none
 | k + 1, x3, x4, x5, x6, x30, x37 => if x37 = true then (some (([x3, x4, x6] : List ByteArray))) else (if x30 = 5 then (some (([x3, x4, x5] : List ByteArray))) else (if x30 = 6 then (some (([x3] : List ByteArray))) else (if x30 = 7 then (some (([x6] : List ByteArray))) else (if x30 = 8 then (some (([x6] : List ByteArray))) else (some ([] : List ByteArray))))))
end
def instr_fields.f (k : Nat) (a0_0 : Int) (a0_1 : Int) (a0_2 : Int) (a0_3 : Int) (a0_4 : Int) : Option (List ByteArray) := (word_Text.f a0_1).bind fun t208 => (if 1 + t208.size ≤ 9223372036854775807 then ((word_Text.f a0_2).bind fun t209 => (if 1 + t209.size ≤ 9223372036854775807 then ((word_Text.f a0_3).bind fun t210 => (if 1 + t210.size ≤ 9223372036854775807 then ((word_Text.f a0_4).bind fun t211 => (if a0_0 = 26 then ((word_Text.f a0_2).bind fun t212 => (instr_fields.j0 k ((⟨#[114]⟩ : ByteArray) ++ t208) t212 ((⟨#[114]⟩ : ByteArray) ++ t210) t211 a0_0 a0_1 a0_2 a0_3 a0_4)) else (instr_fields.j0 k ((⟨#[114]⟩ : ByteArray) ++ t208) ((⟨#[114]⟩ : ByteArray) ++ t209) ((⟨#[114]⟩ : ByteArray) ++ t210) t211 a0_0 a0_1 a0_2 a0_3 a0_4))) else (none))) else (none))) else (none))
theorem instr_fields.mono_l : ∀ k, (∀ y0 y1 y2 y3 y4 y5 y6 y7 y8, LeO (instr_fields.j0 k y0 y1 y2 y3 y4 y5 y6 y7 y8) (instr_fields.j0 (k + 1) y0 y1 y2 y3 y4 y5 y6 y7 y8)) ∧ (∀ y0 y1 y2 y3 y4 y5, LeO (instr_fields.j1 k y0 y1 y2 y3 y4 y5) (instr_fields.j1 (k + 1) y0 y1 y2 y3 y4 y5)) ∧ (∀ y0 y1 y2 y3 y4 y5, LeO (instr_fields.j2 k y0 y1 y2 y3 y4 y5) (instr_fields.j2 (k + 1) y0 y1 y2 y3 y4 y5))
 | 0 => ⟨fun _ _ _ _ _ _ _ _ _ r h => by simp [instr_fields.j0] at h, fun _ _ _ _ _ _ r h => by simp [instr_fields.j1] at h, fun _ _ _ _ _ _ r h => by simp [instr_fields.j2] at h⟩
 | k + 1 => by
  obtain ⟨ih0, ih1, ih2⟩ := instr_fields.mono_l k
  refine ⟨?_, ?_, ?_⟩
  ·
   intro y0 y1 y2 y3 y4 y5 y6 y7 y8
   unfold instr_fields.j0
   repeat' first
   | (with_reducible exact ih0 _ _ _ _ _ _ _ _ _)
   | (with_reducible exact ih1 _ _ _ _ _ _)
   | (with_reducible exact ih2 _ _ _ _ _ _)
   | (with_reducible exact instr_Shape.mono _ _)
   | (with_reducible exact LeO.refl _)
   | (with_reducible exact LeO.none _)
   | (with_reducible refine LeO.ite ?_ ?_)
   | (with_reducible refine LeO.bind ?_ (fun _ => ?_))
   | exact LeO.none _
   | refine LeO.ite ?_ ?_
   | refine LeO.bind ?_ (fun _ => ?_)
  ·
   intro y0 y1 y2 y3 y4 y5
   unfold instr_fields.j1
   repeat' first
   | (with_reducible exact ih0 _ _ _ _ _ _ _ _ _)
   | (with_reducible exact ih1 _ _ _ _ _ _)
   | (with_reducible exact ih2 _ _ _ _ _ _)
   | (with_reducible exact instr_Shape.mono _ _)
   | (with_reducible exact LeO.refl _)
   | (with_reducible exact LeO.none _)
   | (with_reducible refine LeO.ite ?_ ?_)
   | (with_reducible refine LeO.bind ?_ (fun _ => ?_))
   | exact LeO.none _
   | refine LeO.ite ?_ ?_
   | refine LeO.bind ?_ (fun _ => ?_)
  ·
   intro y0 y1 y2 y3 y4 y5
   unfold instr_fields.j2
   repeat' first
   | (with_reducible exact ih0 _ _ _ _ _ _ _ _ _)
   | (with_reducible exact ih1 _ _ _ _ _ _)
   | (with_reducible exact ih2 _ _ _ _ _ _)
   | (with_reducible exact instr_Shape.mono _ _)
   | (with_reducible exact LeO.refl _)
   | (with_reducible exact LeO.none _)
   | (with_reducible refine LeO.ite ?_ ?_)
   | (with_reducible refine LeO.bind ?_ (fun _ => ?_))
   | exact LeO.none _
   | refine LeO.ite ?_ ?_
   | refine LeO.bind ?_ (fun _ => ?_)
theorem instr_fields.mono : ∀ a0 a1 a2 a3 a4 k, LeO (instr_fields.f k a0 a1 a2 a3 a4) (instr_fields.f (k + 1) a0 a1 a2 a3 a4) := by
 intro a0 a1 a2 a3 a4 k
 obtain ⟨ih0, ih1, ih2⟩ := instr_fields.mono_l k
 unfold instr_fields.f
 repeat' first
  | (with_reducible exact ih0 _ _ _ _ _ _ _ _ _)
  | (with_reducible exact ih1 _ _ _ _ _ _)
  | (with_reducible exact ih2 _ _ _ _ _ _)
  | (with_reducible exact instr_Shape.mono _ _)
  | (with_reducible exact LeO.refl _)
  | (with_reducible exact LeO.none _)
  | (with_reducible refine LeO.ite ?_ ?_)
  | (with_reducible refine LeO.bind ?_ (fun _ => ?_))
  | exact LeO.none _
  | refine LeO.ite ?_ ?_
  | refine LeO.bind ?_ (fun _ => ?_)
def instr_fields.T1 : Bool × List (List Nat × List Nat) := (true, [([], []), ([0], [0]), ([1], [1]), ([2], [2]), ([], []), ([4], [4]), ([5, 2], [5]), ([6], [6]), ([], []), ([8], [8]), ([9, 6], [9]), ([10], [10]), ([], []), ([12], [12]), ([13, 10], [13]), ([3, 14, 0, 1, 2, 3], [3]), ([7, 15, 0, 1, 2, 3, 4, 5, 6, 7, 15], [7]), ([11, 16, 0, 1, 2, 3, 4, 5, 6, 7, 8, 9, 10, 11, 15, 16], [11]), ([14, 17, 0, 1, 2, 3, 4, 5, 6, 7, 8, 9, 10, 11, 12, 13, 14, 15, 16, 17], [14])])
def instr_fields.B1 : List Nat := [0, 1, 3, 7, 0, 16, 55, 119, 0, 256, 887, 1911, 0, 4096, 14199, 30591, 63487, 131071, 262143]
theorem instr_fields.tab1 : rtab .any (opsOf Try.f66 1) = instr_fields.T1 := by kernel_rfl
theorem instr_fields.bits1 : waitsOk instr_fields.T1.2 instr_fields.B1 = true := by kernel_rfl
set_option maxHeartbeats 8000000 in
set_option maxRecDepth 100000 in
theorem instr_fields.calls (k : Nat) (a0_0 : Int) (a0_1 : Int) (a0_2 : Int) (a0_3 : Int) (a0_4 : Int) (r : List ByteArray) (w : World) (h : instr_fields.f k a0_0 a0_1 a0_2 a0_3 a0_4 = some r) :
 Calls Try.prog 66 #[.agg #[.int .i64 a0_0, .int .i64 a0_1, .int .i64 a0_2, .int .i64 a0_3, .int .i64 a0_4]] w fun e w' => ∃ v0_ : Value, e = .returned (v0_) ∧ Kd.R Kd.string 9 w' w.heap.size (fun _ => True) v0_ r ∧ Below w.heap.size w w' := by
 have hu120 := Try.underlying120
 have HB := mK (Below.refl w.heap.size w)
 have H : ((word_Text.f a0_1).bind fun t208 => (if 1 + t208.size ≤ 9223372036854775807 then ((word_Text.f a0_2).bind fun t209 => (if 1 + t209.size ≤ 9223372036854775807 then ((word_Text.f a0_3).bind fun t210 => (if 1 + t210.size ≤ 9223372036854775807 then ((word_Text.f a0_4).bind fun t211 => (if a0_0 = 26 then ((word_Text.f a0_2).bind fun t212 => (instr_fields.j0 k ((⟨#[114]⟩ : ByteArray) ++ t208) t212 ((⟨#[114]⟩ : ByteArray) ++ t210) t211 a0_0 a0_1 a0_2 a0_3 a0_4)) else (instr_fields.j0 k ((⟨#[114]⟩ : ByteArray) ++ t208) ((⟨#[114]⟩ : ByteArray) ++ t209) ((⟨#[114]⟩ : ByteArray) ++ t210) t211 a0_0 a0_1 a0_2 a0_3 a0_4))) else (none))) else (none))) else (none))) = some r := h
 clear h
 replace H := oB H
 obtain ⟨t208, A20, H⟩ := H
 replace H : (if 1 + t208.size ≤ 9223372036854775807 then ((word_Text.f a0_2).bind fun t209 => (if 1 + t209.size ≤ 9223372036854775807 then ((word_Text.f a0_3).bind fun t210 => (if 1 + t210.size ≤ 9223372036854775807 then ((word_Text.f a0_4).bind fun t211 => (if a0_0 = 26 then ((word_Text.f a0_2).bind fun t212 => (instr_fields.j0 k ((⟨#[114]⟩ : ByteArray) ++ t208) t212 ((⟨#[114]⟩ : ByteArray) ++ t210) t211 a0_0 a0_1 a0_2 a0_3 a0_4)) else (instr_fields.j0 k ((⟨#[114]⟩ : ByteArray) ++ t208) ((⟨#[114]⟩ : ByteArray) ++ t209) ((⟨#[114]⟩ : ByteArray) ++ t210) t211 a0_0 a0_1 a0_2 a0_3 a0_4))) else (none))) else (none))) else (none)) = some r := H
 have A2 := mK A20
 clear A20
 by_cases c3 : 1 + t208.size ≤ 9223372036854775807
 ·
  rw [if_pos c3] at H
  have c3b0 := eq_true c3
  have c3b1 : decide (1 + t208.size ≤ 9223372036854775807) = true := decide_eq_true c3
  try have c3b2 : (9223372036854775807 < 1 + t208.size) = False := eq_false (Nat.not_lt.2 c3)
  replace H := oB H
  obtain ⟨t209, A40, H⟩ := H
  replace H : (if 1 + t209.size ≤ 9223372036854775807 then ((word_Text.f a0_3).bind fun t210 => (if 1 + t210.size ≤ 9223372036854775807 then ((word_Text.f a0_4).bind fun t211 => (if a0_0 = 26 then ((word_Text.f a0_2).bind fun t212 => (instr_fields.j0 k ((⟨#[114]⟩ : ByteArray) ++ t208) t212 ((⟨#[114]⟩ : ByteArray) ++ t210) t211 a0_0 a0_1 a0_2 a0_3 a0_4)) else (instr_fields.j0 k ((⟨#[114]⟩ : ByteArray) ++ t208) ((⟨#[114]⟩ : ByteArray) ++ t209) ((⟨#[114]⟩ : ByteArray) ++ t210) t211 a0_0 a0_1 a0_2 a0_3 a0_4))) else (none))) else (none)) = some r := H
  have A4 := mK A40
  clear A40
  by_cases c5 : 1 + t209.size ≤ 9223372036854775807
  ·
   rw [if_pos c5] at H
   have c5b0 := eq_true c5
   have c5b1 : decide (1 + t209.size ≤ 9223372036854775807) = true := decide_eq_true c5
   try have c5b2 : (9223372036854775807 < 1 + t209.size) = False := eq_false (Nat.not_lt.2 c5)
   replace H := oB H
   obtain ⟨t210, A60, H⟩ := H
   replace H : (if 1 + t210.size ≤ 9223372036854775807 then ((word_Text.f a0_4).bind fun t211 => (if a0_0 = 26 then ((word_Text.f a0_2).bind fun t212 => (instr_fields.j0 k ((⟨#[114]⟩ : ByteArray) ++ t208) t212 ((⟨#[114]⟩ : ByteArray) ++ t210) t211 a0_0 a0_1 a0_2 a0_3 a0_4)) else (instr_fields.j0 k ((⟨#[114]⟩ : ByteArray) ++ t208) ((⟨#[114]⟩ : ByteArray) ++ t209) ((⟨#[114]⟩ : ByteArray) ++ t210) t211 a0_0 a0_1 a0_2 a0_3 a0_4))) else (none)) = some r := H
   have A6 := mK A60
   clear A60
   by_cases c7 : 1 + t210.size ≤ 9223372036854775807
   ·
    rw [if_pos c7] at H
    have c7b0 := eq_true c7
    have c7b1 : decide (1 + t210.size ≤ 9223372036854775807) = true := decide_eq_true c7
    try have c7b2 : (9223372036854775807 < 1 + t210.size) = False := eq_false (Nat.not_lt.2 c7)
    replace H := oB H
    obtain ⟨t211, A80, H⟩ := H
    replace H : (if a0_0 = 26 then ((word_Text.f a0_2).bind fun t212 => (instr_fields.j0 k ((⟨#[114]⟩ : ByteArray) ++ t208) t212 ((⟨#[114]⟩ : ByteArray) ++ t210) t211 a0_0 a0_1 a0_2 a0_3 a0_4)) else (instr_fields.j0 k ((⟨#[114]⟩ : ByteArray) ++ t208) ((⟨#[114]⟩ : ByteArray) ++ t209) ((⟨#[114]⟩ : ByteArray) ++ t210) t211 a0_0 a0_1 a0_2 a0_3 a0_4)) = some r := H
    have A8 := mK A80
    clear A80
    have HC9 := mK H
    clear H
    go_enter Try.func66, Try.ntmps66
    try go_wp2_with (first | ((with_reducible refine gate_dst (N := 1) rfl ?_); refine box_event ?hg (N := 1) ?hd (cs := #[.int .i64 a0_0, .int .i64 a0_1, .int .i64 a0_2, .int .i64 a0_3, .int .i64 a0_4]) (t := 120) ?hr ?_; (case hd => rfl); (case hg => rfl); (case hr => first | (go_simp; done) | (go_simp; rfl)); intro gb207 hg w10 hbox hb; have n0_ := mK (bP (by repeat (first | (with_reducible first | exact HB.out | apply bA | apply bN | apply bD) | exact HB.out)) hb); have n1_ := mK (hbox); have n2_ := mK ((by rw [hg]; exact (bZ (by repeat (first | (with_reducible first | exact HB.out | apply bA | apply bN | apply bD) | exact HB.out))) : w.heap.size ≤ gb207)); have n3_ := mK ((by rw [hg]; exact (bZ (by repeat (first | (with_reducible first | exact HB.out | apply bA | apply bN | apply bD) | exact HB.out))) : w.heap.size ≤ gb207)); clear HB; have HB := n0_; have BK207 := n1_; have GW207 := n2_; have GE207 := n3_; clear n0_ n1_ n2_ n3_; clear hb hbox hg))
    have n0_ := mK (kD BK207.out)
    have n1_ := mK (bD HB.out)
    clear BK207
    clear HB
    have BK207 := n0_
    have HB := n1_
    clear n0_ n1_
    refine start_ (n := 19) (S := fun w' => w'.cell? ⟨gb207, 0, none⟩ = some (.int .i64 a0_0) ∧ w'.cell? ⟨gb207, 1, none⟩ = some (.int .i64 a0_1) ∧ w'.cell? ⟨gb207, 2, none⟩ = some (.int .i64 a0_2) ∧ w'.cell? ⟨gb207, 3, none⟩ = some (.int .i64 a0_3) ∧ w'.cell? ⟨gb207, 4, none⟩ = some (.int .i64 a0_4)) (ds := []) #[false, false, false, false, false, false, false, false, false, false, false, false, false, false, false, false, false, false, false] (by kernel_rfl) rfl rfl ⟨(kC BK207.out 0).trans rfl, (kC BK207.out 1).trans rfl, (kC BK207.out 2).trans rfl, (kC BK207.out 3).trans rfl, (kC BK207.out 4).trans rfl⟩ (fun hHeld => ?_); refine with_tabW instr_fields.tab1 instr_fields.bits1 (fun HT_ HW_ => ?_)
    generalize w10.drew = w11 at BK207 HB hHeld ⊢
    refine pure_ (i := 0) (N := some 7) (v := ?_) (a' := ?_) #[true, false, false, false, false, false, false, false, false, false, false, false, false, false, false, false, false, false, false] rfl rfl (any_of HT_.out (by kernel_rfl)) (fun _ _ _ h => h) (Or.inl ⟨by rfl, ?_⟩) ?_ ?_
    rotate_left
    ·
     intro w'
     go_simp
     with_reducible rfl
    rotate_left
    ·
     simp only [Act.put, List.setIfInBounds_toArray, List.set_cons_zero, List.set_cons_succ, i64_w, i32_w]
     rfl
    refine pure_ (i := 4) (N := some 11) (v := ?_) (a' := ?_) #[true, false, false, false, true, false, false, false, false, false, false, false, false, false, false, false, false, false, false] rfl rfl (any_of HT_.out (by kernel_rfl)) (fun _ _ _ h => h) (Or.inl ⟨by rfl, ?_⟩) ?_ ?_
    rotate_left
    ·
     intro w'
     go_simp
     with_reducible rfl
    rotate_left
    ·
     simp only [Act.put, List.setIfInBounds_toArray, List.set_cons_zero, List.set_cons_succ, i64_w, i32_w]
     rfl
    refine pure_ (i := 8) (N := some 15) (v := ?_) (a' := ?_) #[true, false, false, false, true, false, false, false, true, false, false, false, false, false, false, false, false, false, false] rfl rfl (any_of HT_.out (by kernel_rfl)) (fun _ _ _ h => h) (Or.inl ⟨by rfl, ?_⟩) ?_ ?_
    rotate_left
    ·
     intro w'
     go_simp
     with_reducible rfl
    rotate_left
    ·
     simp only [Act.put, List.setIfInBounds_toArray, List.set_cons_zero, List.set_cons_succ, i64_w, i32_w]
     rfl
    refine pure_ (i := 12) (N := some 19) (v := ?_) (a' := ?_) #[true, false, false, false, true, false, false, false, true, false, false, false, true, false, false, false, false, false, false] rfl rfl (any_of HT_.out (by kernel_rfl)) (fun _ _ _ h => h) (Or.inl ⟨by rfl, ?_⟩) ?_ ?_
    rotate_left
    ·
     intro w'
     go_simp
     with_reducible rfl
    rotate_left
    ·
     simp only [Act.put, List.setIfInBounds_toArray, List.set_cons_zero, List.set_cons_succ, i64_w, i32_w]
     rfl
    refine take_ (i := 1) (N := some 8) (v := ?_) (a' := ?_) #[true, true, false, false, true, false, false, false, true, false, false, false, true, false, false, false, false, false, false] rfl rfl (take_ofW HT_.out HW_.out (by kernel_rfl)) (fun _ _ _ h => h) (Or.inl ⟨by rfl, ?_⟩) hHeld ?_ ?_
    rotate_left
    ·
     rintro w' ⟨s0, s1, s2, s3, s4⟩
     go_simp
     with_reducible rfl
    rotate_left
    ·
     simp only [Act.put, List.setIfInBounds_toArray, List.set_cons_zero, List.set_cons_succ, i64_w, i32_w]
     rfl
    refine take_ (i := 5) (N := some 12) (v := ?_) (a' := ?_) #[true, true, false, false, true, true, false, false, true, false, false, false, true, false, false, false, false, false, false] rfl rfl (take_ofW HT_.out HW_.out (by kernel_rfl)) (fun _ _ _ h => h) (Or.inl ⟨by rfl, ?_⟩) hHeld ?_ ?_
    rotate_left
    ·
     rintro w' ⟨s0, s1, s2, s3, s4⟩
     go_simp
     with_reducible rfl
    rotate_left
    ·
     simp only [Act.put, List.setIfInBounds_toArray, List.set_cons_zero, List.set_cons_succ, i64_w, i32_w]
     rfl
    refine take_ (i := 9) (N := some 16) (v := ?_) (a' := ?_) #[true, true, false, false, true, true, false, false, true, true, false, false, true, false, false, false, false, false, false] rfl rfl (take_ofW HT_.out HW_.out (by kernel_rfl)) (fun _ _ _ h => h) (Or.inl ⟨by rfl, ?_⟩) hHeld ?_ ?_
    rotate_left
    ·
     rintro w' ⟨s0, s1, s2, s3, s4⟩
     go_simp
     with_reducible rfl
    rotate_left
    ·
     simp only [Act.put, List.setIfInBounds_toArray, List.set_cons_zero, List.set_cons_succ, i64_w, i32_w]
     rfl
    refine take_ (i := 13) (N := some 20) (v := ?_) (a' := ?_) #[true, true, false, false, true, true, false, false, true, true, false, false, true, true, false, false, false, false, false] rfl rfl (take_ofW HT_.out HW_.out (by kernel_rfl)) (fun _ _ _ h => h) (Or.inl ⟨by rfl, ?_⟩) hHeld ?_ ?_
    rotate_left
    ·
     rintro w' ⟨s0, s1, s2, s3, s4⟩
     go_simp
     with_reducible rfl
    rotate_left
    ·
     simp only [Act.put, List.setIfInBounds_toArray, List.set_cons_zero, List.set_cons_succ, i64_w, i32_w]
     rfl
    refine one_ (i := 2) (N := some 9) #[true, true, true, false, true, true, false, false, true, true, false, false, true, true, false, false, false, false, false] rfl rfl (one_of HT_.out (by kernel_rfl)) (by decide) (fun K hK => ?_)
    refine goes_ Try.func18 (by kernel_rfl) rfl #[.int .i64 a0_1] (by rfl) rfl rfl (by (try simp only [List.map_toArray, List.map_cons, List.map_nil]); first | done | rfl) ?_
    with_reducible refine (word_Text.calls a0_1 t208 _ A2.out).mono ?_
    rintro e w12 ⟨rfl, hb⟩
    refine ⟨_, rfl, ?_⟩
    have n0_ := mK (kB (g := gb207) (o := o5 a0_0 a0_1 a0_2 a0_3 a0_4 120) (by (with_reducible repeat (first | refine kN ?_ _ | refine kD ?_ | refine kA ?_ _)); exact BK207.out) hb)
    have n1_ := mK (bP (by repeat (first | (with_reducible first | exact HB.out | apply bA | apply bN | apply bD | refine bS ?_ GE207.out) | exact HB.out)) hb)
    clear BK207
    clear HB
    have BK207 := n0_
    have HB := n1_
    clear n0_ n1_
    (try clear hb)
    refine hK.out _ _ ⟨(kC BK207.out 0).trans rfl, (kC BK207.out 1).trans rfl, (kC BK207.out 2).trans rfl, (kC BK207.out 3).trans rfl, (kC BK207.out 4).trans rfl⟩ (fun hHeld => ?_)
    clear hK K
    refine norm_ (a' := ?_) ?_ ?_
    rotate_left
    ·
     show Act.put _ (some 9) _ = _
     simp only [Act.put, List.setIfInBounds_toArray, List.set_cons_zero, List.set_cons_succ, i64_w, i32_w]
     rfl
    refine pure_ (i := 3) (N := some 10) (v := ?_) (a' := ?_) #[true, true, true, true, true, true, false, false, true, true, false, false, true, true, false, false, false, false, false] rfl rfl (any_of HT_.out (by kernel_rfl)) (fun _ _ _ h => h) (Or.inl ⟨by rfl, ?_⟩) ?_ ?_
    rotate_left
    ·
     intro w'
     go_simp
     with_reducible rfl
    rotate_left
    ·
     simp only [Act.put, List.setIfInBounds_toArray, List.set_cons_zero, List.set_cons_succ, i64_w, i32_w]
     rfl
    refine one_ (i := 6) (N := some 13) #[true, true, true, true, true, true, true, false, true, true, false, false, true, true, false, false, false, false, false] rfl rfl (one_of HT_.out (by kernel_rfl)) (by decide) (fun K hK => ?_)
    refine goes_ Try.func18 (by kernel_rfl) rfl #[.int .i64 a0_2] (by rfl) rfl rfl (by (try simp only [List.map_toArray, List.map_cons, List.map_nil]); first | done | rfl) ?_
    with_reducible refine (word_Text.calls a0_2 t209 _ A4.out).mono ?_
    rintro e w13 ⟨rfl, hb⟩
    refine ⟨_, rfl, ?_⟩
    have n0_ := mK (kB (g := gb207) (o := o5 a0_0 a0_1 a0_2 a0_3 a0_4 120) (by (with_reducible repeat (first | refine kN ?_ _ | refine kD ?_ | refine kA ?_ _)); exact BK207.out) hb)
    have n1_ := mK (bP (by repeat (first | (with_reducible first | exact HB.out | apply bA | apply bN | apply bD | refine bS ?_ GE207.out) | exact HB.out)) hb)
    clear BK207
    clear HB
    have BK207 := n0_
    have HB := n1_
    clear n0_ n1_
    (try clear hb)
    refine hK.out _ _ ⟨(kC BK207.out 0).trans rfl, (kC BK207.out 1).trans rfl, (kC BK207.out 2).trans rfl, (kC BK207.out 3).trans rfl, (kC BK207.out 4).trans rfl⟩ (fun hHeld => ?_)
    clear hK K
    refine norm_ (a' := ?_) ?_ ?_
    rotate_left
    ·
     show Act.put _ (some 13) _ = _
     simp only [Act.put, List.setIfInBounds_toArray, List.set_cons_zero, List.set_cons_succ, i64_w, i32_w]
     rfl
    refine pure_ (i := 7) (N := some 14) (v := ?_) (a' := ?_) #[true, true, true, true, true, true, true, true, true, true, false, false, true, true, false, false, false, false, false] rfl rfl (any_of HT_.out (by kernel_rfl)) (fun _ _ _ h => h) (Or.inl ⟨by rfl, ?_⟩) ?_ ?_
    rotate_left
    ·
     intro w'
     go_simp
     with_reducible rfl
    rotate_left
    ·
     simp only [Act.put, List.setIfInBounds_toArray, List.set_cons_zero, List.set_cons_succ, i64_w, i32_w]
     rfl
    refine one_ (i := 10) (N := some 17) #[true, true, true, true, true, true, true, true, true, true, true, false, true, true, false, false, false, false, false] rfl rfl (one_of HT_.out (by kernel_rfl)) (by decide) (fun K hK => ?_)
    refine goes_ Try.func18 (by kernel_rfl) rfl #[.int .i64 a0_3] (by rfl) rfl rfl (by (try simp only [List.map_toArray, List.map_cons, List.map_nil]); first | done | rfl) ?_
    with_reducible refine (word_Text.calls a0_3 t210 _ A6.out).mono ?_
    rintro e w14 ⟨rfl, hb⟩
    refine ⟨_, rfl, ?_⟩
    have n0_ := mK (kB (g := gb207) (o := o5 a0_0 a0_1 a0_2 a0_3 a0_4 120) (by (with_reducible repeat (first | refine kN ?_ _ | refine kD ?_ | refine kA ?_ _)); exact BK207.out) hb)
    have n1_ := mK (bP (by repeat (first | (with_reducible first | exact HB.out | apply bA | apply bN | apply bD | refine bS ?_ GE207.out) | exact HB.out)) hb)
    clear BK207
    clear HB
    have BK207 := n0_
    have HB := n1_
    clear n0_ n1_
    (try clear hb)
    refine hK.out _ _ ⟨(kC BK207.out 0).trans rfl, (kC BK207.out 1).trans rfl, (kC BK207.out 2).trans rfl, (kC BK207.out 3).trans rfl, (kC BK207.out 4).trans rfl⟩ (fun hHeld => ?_)
    clear hK K
    refine norm_ (a' := ?_) ?_ ?_
    rotate_left
    ·
     show Act.put _ (some 17) _ = _
     simp only [Act.put, List.setIfInBounds_toArray, List.set_cons_zero, List.set_cons_succ, i64_w, i32_w]
     rfl
    refine pure_ (i := 11) (N := some 18) (v := ?_) (a' := ?_) #[true, true, true, true, true, true, true, true, true, true, true, true, true, true, false, false, false, false, false] rfl rfl (any_of HT_.out (by kernel_rfl)) (fun _ _ _ h => h) (Or.inl ⟨by rfl, ?_⟩) ?_ ?_
    rotate_left
    ·
     intro w'
     go_simp
     with_reducible rfl
    rotate_left
    ·
     simp only [Act.put, List.setIfInBounds_toArray, List.set_cons_zero, List.set_cons_succ, i64_w, i32_w]
     rfl
    refine one_ (i := 14) (N := some 21) #[true, true, true, true, true, true, true, true, true, true, true, true, true, true, true, false, false, false, false] rfl rfl (one_of HT_.out (by kernel_rfl)) (by decide) (fun K hK => ?_)
    refine goes_ Try.func18 (by kernel_rfl) rfl #[.int .i64 a0_4] (by rfl) rfl rfl (by (try simp only [List.map_toArray, List.map_cons, List.map_nil]); first | done | rfl) ?_
    with_reducible refine (word_Text.calls a0_4 t211 _ A8.out).mono ?_
    rintro e w15 ⟨rfl, hb⟩
    refine ⟨_, rfl, ?_⟩
    have n0_ := mK (kB (g := gb207) (o := o5 a0_0 a0_1 a0_2 a0_3 a0_4 120) (by (with_reducible repeat (first | refine kN ?_ _ | refine kD ?_ | refine kA ?_ _)); exact BK207.out) hb)
    have n1_ := mK (bP (by repeat (first | (with_reducible first | exact HB.out | apply bA | apply bN | apply bD | refine bS ?_ GE207.out) | exact HB.out)) hb)
    clear BK207
    clear HB
    have BK207 := n0_
    have HB := n1_
    clear n0_ n1_
    (try clear hb)
    refine hK.out _ _ ⟨(kC BK207.out 0).trans rfl, (kC BK207.out 1).trans rfl, (kC BK207.out 2).trans rfl, (kC BK207.out 3).trans rfl, (kC BK207.out 4).trans rfl⟩ (fun hHeld => ?_)
    clear hK K
    refine norm_ (a' := ?_) ?_ ?_
    rotate_left
    ·
     show Act.put _ (some 21) _ = _
     simp only [Act.put, List.setIfInBounds_toArray, List.set_cons_zero, List.set_cons_succ, i64_w, i32_w]
     rfl
    refine pure_ (i := 15) (N := some 3) (v := ?_) (a' := ?_) #[true, true, true, true, true, true, true, true, true, true, true, true, true, true, true, true, false, false, false] rfl rfl (any_of HT_.out (by kernel_rfl)) (fun _ _ _ h => h) (Or.inl ⟨by rfl, ?_⟩) ?_ ?_
    rotate_left
    ·
     intro w'
     go_simp
     with_reducible rfl
    rotate_left
    ·
     simp only [Act.put, List.setIfInBounds_toArray, List.set_cons_zero, List.set_cons_succ, i64_w, i32_w]
     rfl
    refine pure_ (i := 16) (N := some 4) (v := ?_) (a' := ?_) #[true, true, true, true, true, true, true, true, true, true, true, true, true, true, true, true, true, false, false] rfl rfl (any_of HT_.out (by kernel_rfl)) (fun _ _ _ h => h) (Or.inl ⟨by rfl, ?_⟩) ?_ ?_
    rotate_left
    ·
     intro w'
     go_simp
     with_reducible rfl
    rotate_left
    ·
     simp only [Act.put, List.setIfInBounds_toArray, List.set_cons_zero, List.set_cons_succ, i64_w, i32_w]
     rfl
    refine pure_ (i := 17) (N := some 5) (v := ?_) (a' := ?_) #[true, true, true, true, true, true, true, true, true, true, true, true, true, true, true, true, true, true, false] rfl rfl (any_of HT_.out (by kernel_rfl)) (fun _ _ _ h => h) (Or.inl ⟨by rfl, ?_⟩) ?_ ?_
    rotate_left
    ·
     intro w'
     go_simp
     with_reducible rfl
    rotate_left
    ·
     simp only [Act.put, List.setIfInBounds_toArray, List.set_cons_zero, List.set_cons_succ, i64_w, i32_w]
     rfl
    refine pure_ (i := 18) (N := some 6) (v := ?_) (a' := ?_) #[true, true, true, true, true, true, true, true, true, true, true, true, true, true, true, true, true, true, true] rfl rfl (any_of HT_.out (by kernel_rfl)) (fun _ _ _ h => h) (Or.inl ⟨by rfl, ?_⟩) ?_ ?_
    rotate_left
    ·
     intro w'
     go_simp
     with_reducible rfl
    rotate_left
    ·
     simp only [Act.put, List.setIfInBounds_toArray, List.set_cons_zero, List.set_cons_succ, i64_w, i32_w]
     rfl
    refine done_ (done_of HT_.out (by kernel_rfl)) ?_
    obtain ⟨hcz16_0, hcz16_1, hcz16_2, hcz16_3, hcz16_4, hfz16_0, hfz16_1, hfz16_2, hfz16_3, hfz16_4⟩ := cf5 BK207.out
    go_upto_if 24 with (fail)
    go_cut [4] (fun v4 wc => ∃ (kq : Nat) (x4_8 : ByteArray), v4 = .string x4_8 ∧ Aside0 (instr_fields.j0 kq ((⟨#[114]⟩ : ByteArray) ++ t208) x4_8 ((⟨#[114]⟩ : ByteArray) ++ t210) t211 a0_0 a0_1 a0_2 a0_3 a0_4 = some r) ∧ Aside0 (kq ≤ k) ∧ Aside0 (wc.heap[gb207]? = some (o5 a0_0 a0_1 a0_2 a0_3 a0_4 120)) ∧ Aside0 (Below w.heap.size w wc))
    case first =>
     have H := HC9.out
     clear HC9
     by_cases c17 : a0_0 = 26
     ·
      rw [if_pos c17] at H
      have c17b0 : (a0_0 == 26) = true := beq_iff_eq.mpr c17
      have c17b1 : (a0_0 != 26) = false := bR c17
      clear c17
      (first | rw [c17b0] | (simp only [i64_w, i32_w]; rw [c17b0]) | skip)
      replace H := oB H
      obtain ⟨t212, A180, H⟩ := H
      replace H : (instr_fields.j0 k ((⟨#[114]⟩ : ByteArray) ++ t208) t212 ((⟨#[114]⟩ : ByteArray) ++ t210) t211 a0_0 a0_1 a0_2 a0_3 a0_4) = some r := H
      have A18 := mK A180
      clear A180
      have H' := mK H
      clear H
      obtain ⟨hcz19_0, hcz19_1, hcz19_2, hcz19_3, hcz19_4, hfz19_0, hfz19_1, hfz19_2, hfz19_3, hfz19_4⟩ := cf5 BK207.out
      go_wp2_with (first | ((with_reducible refine gate_callee (f := 18) rfl ?_); refine goesL_ (some 27) rfl rfl Try.func18 (by kernel_rfl) rfl #[.int .i64 a0_2] rfl (by (try simp only [List.map_toArray, List.map_cons, List.map_nil]); first | done | rfl) ?_; (with_reducible refine (word_Text.calls a0_2 t212 _ A18.out).mono ?_); rintro e w20 ⟨rfl, hb⟩; refine ⟨_, rfl, ?_⟩; have n0_ := mK (kB (g := gb207) (o := o5 a0_0 a0_1 a0_2 a0_3 a0_4 120) (by (with_reducible repeat (first | refine kN ?_ _ | refine kD ?_ | refine kA ?_ _)); exact BK207.out) hb); have n1_ := mK (bP (by repeat (first | (with_reducible first | exact HB.out | apply bA | apply bN | apply bD | refine bS ?_ GE207.out) | exact HB.out)) hb); clear BK207; clear HB; have BK207 := n0_; have HB := n1_; clear n0_ n1_; (try clear hb)))
      go_meet
      case rel => exact ⟨_, (t212), (by first | rfl | (simp; done) | (simp [*]; done)), H', ⟨by first | omega | exact Nat.le_refl _⟩, ⟨by (with_reducible repeat (first | refine kN ?_ _ | refine kD ?_ | refine kA ?_ _)); exact BK207.out⟩, ⟨by repeat (first | (with_reducible first | exact HB.out | apply bA | apply bN | apply bD | refine bS ?_ GE207.out) | exact HB.out)⟩⟩
     ·
      rw [if_neg c17] at H
      have c17b0 : (a0_0 == 26) = false := bQ c17
      have c17b1 : (a0_0 != 26) = true := bne_iff_ne.mpr c17
      (first | rw [c17b0] | (simp only [i64_w, i32_w]; rw [c17b0]) | skip)
      have H' := mK H
      clear H
      go_wp2
      go_meet
      case rel => exact ⟨_, ((⟨#[114]⟩ : ByteArray) ++ t209), (by first | rfl | (simp; done) | (simp [*]; done)), H', ⟨by first | omega | exact Nat.le_refl _⟩, ⟨by (with_reducible repeat (first | refine kN ?_ _ | refine kD ?_ | refine kA ?_ _)); exact BK207.out⟩, ⟨by repeat (first | (with_reducible first | exact HB.out | apply bA | apply bN | apply bD | refine bS ?_ GE207.out) | exact HB.out)⟩⟩
    case rest =>
     clear HC9
     (try clear c3); (try clear c3b0); (try clear c3b1); (try clear c3b2); (try clear c5); (try clear c5b0); (try clear c5b1); (try clear c5b2); (try clear c7); (try clear c7b0); (try clear c7b1); (try clear c7b2); (try clear hcz16_0); (try clear hcz16_1); (try clear hcz16_2); (try clear hcz16_3); (try clear hcz16_4); (try clear hfz16_0); (try clear hfz16_1); (try clear hfz16_2); (try clear hfz16_3); (try clear hfz16_4)
     obtain ⟨kq, x4_8, rfl, HA, HJ8, BK207, HB⟩ := hcut
     cases kq with
     | zero => exact absurd HA.out (by simp [instr_fields.j0])
     | succ kj8 =>
      have H := HA.out
      clear HA
      simp only [instr_fields.j0] at H
      replace H := oB H
      obtain ⟨t213, A210, H⟩ := H
      replace H : (if t213 = 1 then (instr_fields.j1 kj8 ((⟨#[114]⟩ : ByteArray) ++ t208) x4_8 ((⟨#[114]⟩ : ByteArray) ++ t210) t211 t213 (t213 == 1)) else (instr_fields.j1 kj8 ((⟨#[114]⟩ : ByteArray) ++ t208) x4_8 ((⟨#[114]⟩ : ByteArray) ++ t210) t211 t213 (t213 == 2))) = some r := H
      have A21 := mK A210
      clear A210
      have HC22 := mK H
      clear H
      obtain ⟨hcz23_0, hcz23_1, hcz23_2, hcz23_3, hcz23_4, hfz23_0, hfz23_1, hfz23_2, hfz23_3, hfz23_4⟩ := cf5 BK207.out
      go_upto_if 31 with (first | ((with_reducible refine gate_callee (f := 61) rfl ?_); refine goesL_ (some 30) rfl rfl Try.func61 (by kernel_rfl) rfl #[.int .i64 a0_0] rfl (by (try simp only [List.map_toArray, List.map_cons, List.map_nil]); first | done | rfl) ?_; (with_reducible refine (instr_Shape.calls kj8 a0_0 t213 _ A21.out).mono ?_); rintro e w' ⟨rfl, ⟨nd, rfl⟩⟩; refine ⟨_, rfl, ?_⟩))
      (try simp only [Act.put, List.setIfInBounds_toArray, List.set_cons_zero, List.set_cons_succ])
      go_cut [31] (fun v31 wc => ∃ (kq : Nat) (x31_21 : Bool), v31 = .bool x31_21 ∧ Aside0 (instr_fields.j1 kq ((⟨#[114]⟩ : ByteArray) ++ t208) x4_8 ((⟨#[114]⟩ : ByteArray) ++ t210) t211 t213 x31_21 = some r) ∧ Aside0 (kq ≤ kj8) ∧ Aside0 (wc.heap[gb207]? = some (o5 a0_0 a0_1 a0_2 a0_3 a0_4 120)) ∧ Aside0 (Below w.heap.size w wc))
      case first =>
       have H := HC22.out
       clear HC22
       by_cases c24 : t213 = 1
       ·
        rw [if_pos c24] at H
        have c24b0 : (t213 == 1) = true := beq_iff_eq.mpr c24
        have c24b1 : (t213 != 1) = false := bR c24
        clear c24
        (first | rw [c24b0] | (simp only [i64_w, i32_w]; rw [c24b0]) | skip)
        have H' := mK H
        clear H
        go_wp2
        go_meet
        case rel => exact ⟨_, ((t213 == 1)), (by first | rfl | (simp; done) | (simp [*]; done)), H', ⟨by have := HJ8.out; first | omega | exact Nat.le_refl _⟩, ⟨by (with_reducible repeat (first | refine kN ?_ _ | refine kD ?_ | refine kA ?_ _)); exact BK207.out⟩, ⟨by repeat (first | (with_reducible first | exact HB.out | apply bA | apply bN | apply bD | refine bS ?_ GE207.out) | exact HB.out)⟩⟩
       ·
        rw [if_neg c24] at H
        have c24b0 : (t213 == 1) = false := bQ c24
        have c24b1 : (t213 != 1) = true := bne_iff_ne.mpr c24
        (first | rw [c24b0] | (simp only [i64_w, i32_w]; rw [c24b0]) | skip)
        have H' := mK H
        clear H
        go_wp2
        go_meet
        case rel => exact ⟨_, ((t213 == 2)), (by first | rfl | (simp; done) | (simp [*]; done)), H', ⟨by have := HJ8.out; first | omega | exact Nat.le_refl _⟩, ⟨by (with_reducible repeat (first | refine kN ?_ _ | refine kD ?_ | refine kA ?_ _)); exact BK207.out⟩, ⟨by repeat (first | (with_reducible first | exact HB.out | apply bA | apply bN | apply bD | refine bS ?_ GE207.out) | exact HB.out)⟩⟩
      case rest =>
       clear HC22
       (try clear c3); (try clear c3b0); (try clear c3b1); (try clear c3b2); (try clear c5); (try clear c5b0); (try clear c5b1); (try clear c5b2); (try clear c7); (try clear c7b0); (try clear c7b1); (try clear c7b2); (try clear hcz16_0); (try clear hcz16_1); (try clear hcz16_2); (try clear hcz16_3); (try clear hcz16_4); (try clear hcz23_0); (try clear hcz23_1); (try clear hcz23_2); (try clear hcz23_3); (try clear hcz23_4); (try clear hfz16_0); (try clear hfz16_1); (try clear hfz16_2); (try clear hfz16_3); (try clear hfz16_4); (try clear hfz23_0); (try clear hfz23_1); (try clear hfz23_2); (try clear hfz23_3); (try clear hfz23_4)
       obtain ⟨kq, x31_21, rfl, HA, HJ21, BK207, HB⟩ := hcut
       cases kq with
       | zero => exact absurd HA.out (by simp [instr_fields.j1])
       | succ kj21 =>
        have H := HA.out
        clear HA
        simp only [instr_fields.j1] at H
        by_cases c25 : x31_21 = true
        ·
         subst c25
         have H1 : (some (([((⟨#[114]⟩ : ByteArray) ++ t208), t211] : List ByteArray))) = some r := by rw [if_pos rfl] at H; exact H
         clear H
         have H := H1
         clear H1
         obtain ⟨y214, hy214⟩ : ∃ y_ : List ByteArray, y_ = (([((⟨#[114]⟩ : ByteArray) ++ t208), t211] : List ByteArray)) := ⟨_, rfl⟩
         replace H : (some y214) = some r := by first | (rw [hy214]; with_reducible exact H) | (have H2_ := (Option.bind_some _ _).symm.trans H; rw [hy214]; with_reducible exact H2_) | (have H2_ := (Option.bind_some _ _).symm.trans H; with_reducible exact H2_) | with_reducible exact H | (rw [hy214]; exact H) | exact H
         have Ny214 := mK hy214
         clear hy214
         obtain rfl := Option.some.inj H
         go_wp2_with (first | ((with_reducible refine gate_dst (N := 36) rfl ?_); refine Kd.R_lit Kd.string _ 9 ?hg (N := 36) ?hd (xs := ([((⟨#[114]⟩ : ByteArray) ++ t208), t211] : List ByteArray)) (inner := [.string ((⟨#[114]⟩ : ByteArray) ++ t208), .string t211]) (ok := fun _ => True) (okp := fun _ => True) ?hr ?hp (fun _ hk => hk) trivial (Below.refl _ _) (Nat.le_refl _) (by simp) ?_; (case hd => rfl); (case hg => rfl); (case hr => first | (go_simp; done) | (go_simp; rfl)); (case hp => exact (Reps.one (show Kd.M Kd.string _ _ _ ((⟨#[114]⟩ : ByteArray) ++ t208) [.string ((⟨#[114]⟩ : ByteArray) ++ t208)] from rfl) (Reps.one (show Kd.M Kd.string _ _ _ t211 [.string t211] from rfl) (Reps.none _ _)))); intro v215 w26 ho27 hb hg_ hnew_; clear hg_ hnew_; (first | rw [← Ny214.out] at ho27 | (simp only [Int.reduceToNat] at ho27; rw [← Ny214.out] at ho27)); have n0_ := mK (Kd.R_lower ho27 (bZ (by repeat (first | (with_reducible first | exact HB.out | apply bA | apply bN | apply bD | refine bS ?_ GE207.out) | exact HB.out)))); have n1_ := mK (kB (g := gb207) (o := o5 a0_0 a0_1 a0_2 a0_3 a0_4 120) (by (with_reducible repeat (first | refine kN ?_ _ | refine kD ?_ | refine kA ?_ _)); exact BK207.out) hb); have n2_ := mK (bP (by repeat (first | (with_reducible first | exact HB.out | apply bA | apply bN | apply bD | refine bS ?_ GE207.out) | exact HB.out)) hb); clear BK207; clear HB; have HO216 := n0_; have BK207 := n1_; have HB := n2_; clear n0_ n1_ n2_; clear hb ho27))
         go_ret
         exact ⟨_, by first | rfl | (simp [errW_none, errW_some] <;> rfl) | (simp [*, errW_none, errW_some] <;> rfl), by (with_reducible repeat (first | apply Kd.R_alloc | apply Kd.R_drewN | apply Kd.R_drew)); exact HO216.out, by repeat (first | (with_reducible first | exact HB.out | apply bA | apply bN | apply bD | refine bS ?_ GE207.out) | exact HB.out)⟩
        ·
         replace c25 := Bool.eq_false_iff.mpr c25
         subst c25
         have H1 : (if t213 = 3 then (instr_fields.j2 kj21 ((⟨#[114]⟩ : ByteArray) ++ t208) x4_8 ((⟨#[114]⟩ : ByteArray) ++ t210) t211 t213 (t213 == 3)) else (instr_fields.j2 kj21 ((⟨#[114]⟩ : ByteArray) ++ t208) x4_8 ((⟨#[114]⟩ : ByteArray) ++ t210) t211 t213 (t213 == 4))) = some r := by rw [if_neg (show ¬ (false = true) by decide)] at H; exact H
         clear H
         have H := H1
         clear H1
         have HC28 := mK H
         clear H
         go_upto_if 37 with (fail)
         go_cut [37] (fun v37 wc => ∃ (kq : Nat) (x37_27 : Bool), v37 = .bool x37_27 ∧ Aside0 (instr_fields.j2 kq ((⟨#[114]⟩ : ByteArray) ++ t208) x4_8 ((⟨#[114]⟩ : ByteArray) ++ t210) t211 t213 x37_27 = some r) ∧ Aside0 (kq ≤ kj21) ∧ Aside0 (wc.heap[gb207]? = some (o5 a0_0 a0_1 a0_2 a0_3 a0_4 120)) ∧ Aside0 (Below w.heap.size w wc))
         case first =>
          have H := HC28.out
          clear HC28
          by_cases c29 : t213 = 3
          ·
           rw [if_pos c29] at H
           have c29b0 : (t213 == 3) = true := beq_iff_eq.mpr c29
           have c29b1 : (t213 != 3) = false := bR c29
           clear c29
           (first | rw [c29b0] | (simp only [i64_w, i32_w]; rw [c29b0]) | skip)
           have H' := mK H
           clear H
           go_wp2
           go_meet
           case rel => exact ⟨_, ((t213 == 3)), (by first | rfl | (simp; done) | (simp [*]; done)), H', ⟨by have := HJ8.out; have := HJ21.out; first | omega | exact Nat.le_refl _⟩, ⟨by (with_reducible repeat (first | refine kN ?_ _ | refine kD ?_ | refine kA ?_ _)); exact BK207.out⟩, ⟨by repeat (first | (with_reducible first | exact HB.out | apply bA | apply bN | apply bD | refine bS ?_ GE207.out) | exact HB.out)⟩⟩
          ·
           rw [if_neg c29] at H
           have c29b0 : (t213 == 3) = false := bQ c29
           have c29b1 : (t213 != 3) = true := bne_iff_ne.mpr c29
           (first | rw [c29b0] | (simp only [i64_w, i32_w]; rw [c29b0]) | skip)
           have H' := mK H
           clear H
           go_wp2
           go_meet
           case rel => exact ⟨_, ((t213 == 4)), (by first | rfl | (simp; done) | (simp [*]; done)), H', ⟨by have := HJ8.out; have := HJ21.out; first | omega | exact Nat.le_refl _⟩, ⟨by (with_reducible repeat (first | refine kN ?_ _ | refine kD ?_ | refine kA ?_ _)); exact BK207.out⟩, ⟨by repeat (first | (with_reducible first | exact HB.out | apply bA | apply bN | apply bD | refine bS ?_ GE207.out) | exact HB.out)⟩⟩
         case rest =>
          clear HC28
          (try clear c3); (try clear c3b0); (try clear c3b1); (try clear c3b2); (try clear c5); (try clear c5b0); (try clear c5b1); (try clear c5b2); (try clear c7); (try clear c7b0); (try clear c7b1); (try clear c7b2); (try clear c25); (try clear hcz16_0); (try clear hcz16_1); (try clear hcz16_2); (try clear hcz16_3); (try clear hcz16_4); (try clear hcz23_0); (try clear hcz23_1); (try clear hcz23_2); (try clear hcz23_3); (try clear hcz23_4); (try clear hfz16_0); (try clear hfz16_1); (try clear hfz16_2); (try clear hfz16_3); (try clear hfz16_4); (try clear hfz23_0); (try clear hfz23_1); (try clear hfz23_2); (try clear hfz23_3); (try clear hfz23_4)
          obtain ⟨kq, x37_27, rfl, HA, HJ27, BK207, HB⟩ := hcut
          cases kq with
          | zero => exact absurd HA.out (by simp [instr_fields.j2])
          | succ kj27 =>
           have H := HA.out
           clear HA
           simp only [instr_fields.j2] at H
           by_cases c30 : x37_27 = true
           ·
            subst c30
            have H1 : (some (([((⟨#[114]⟩ : ByteArray) ++ t208), x4_8, t211] : List ByteArray))) = some r := by rw [if_pos rfl] at H; exact H
            clear H
            have H := H1
            clear H1
            obtain ⟨y217, hy217⟩ : ∃ y_ : List ByteArray, y_ = (([((⟨#[114]⟩ : ByteArray) ++ t208), x4_8, t211] : List ByteArray)) := ⟨_, rfl⟩
            replace H : (some y217) = some r := by first | (rw [hy217]; with_reducible exact H) | (have H2_ := (Option.bind_some _ _).symm.trans H; rw [hy217]; with_reducible exact H2_) | (have H2_ := (Option.bind_some _ _).symm.trans H; with_reducible exact H2_) | with_reducible exact H | (rw [hy217]; exact H) | exact H
            have Ny217 := mK hy217
            clear hy217
            obtain rfl := Option.some.inj H
            go_wp2_with (first | ((with_reducible refine gate_dst (N := 43) rfl ?_); refine Kd.R_lit Kd.string _ 9 ?hg (N := 43) ?hd (xs := ([((⟨#[114]⟩ : ByteArray) ++ t208), x4_8, t211] : List ByteArray)) (inner := [.string ((⟨#[114]⟩ : ByteArray) ++ t208), .string x4_8, .string t211]) (ok := fun _ => True) (okp := fun _ => True) ?hr ?hp (fun _ hk => hk) trivial (Below.refl _ _) (Nat.le_refl _) (by simp) ?_; (case hd => rfl); (case hg => rfl); (case hr => first | (go_simp; done) | (go_simp; rfl)); (case hp => exact (Reps.one (show Kd.M Kd.string _ _ _ ((⟨#[114]⟩ : ByteArray) ++ t208) [.string ((⟨#[114]⟩ : ByteArray) ++ t208)] from rfl) (Reps.one (show Kd.M Kd.string _ _ _ x4_8 [.string x4_8] from rfl) (Reps.one (show Kd.M Kd.string _ _ _ t211 [.string t211] from rfl) (Reps.none _ _))))); intro v218 w31 ho32 hb hg_ hnew_; clear hg_ hnew_; (first | rw [← Ny217.out] at ho32 | (simp only [Int.reduceToNat] at ho32; rw [← Ny217.out] at ho32)); have n0_ := mK (Kd.R_lower ho32 (bZ (by repeat (first | (with_reducible first | exact HB.out | apply bA | apply bN | apply bD | refine bS ?_ GE207.out) | exact HB.out)))); have n1_ := mK (kB (g := gb207) (o := o5 a0_0 a0_1 a0_2 a0_3 a0_4 120) (by (with_reducible repeat (first | refine kN ?_ _ | refine kD ?_ | refine kA ?_ _)); exact BK207.out) hb); have n2_ := mK (bP (by repeat (first | (with_reducible first | exact HB.out | apply bA | apply bN | apply bD | refine bS ?_ GE207.out) | exact HB.out)) hb); clear BK207; clear HB; have HO219 := n0_; have BK207 := n1_; have HB := n2_; clear n0_ n1_ n2_; clear hb ho32))
            go_ret
            exact ⟨_, by first | rfl | (simp [errW_none, errW_some] <;> rfl) | (simp [*, errW_none, errW_some] <;> rfl), by (with_reducible repeat (first | apply Kd.R_alloc | apply Kd.R_drewN | apply Kd.R_drew)); exact HO219.out, by repeat (first | (with_reducible first | exact HB.out | apply bA | apply bN | apply bD | refine bS ?_ GE207.out) | exact HB.out)⟩
           ·
            replace c30 := Bool.eq_false_iff.mpr c30
            subst c30
            have H1 : (if t213 = 5 then (some (([((⟨#[114]⟩ : ByteArray) ++ t208), x4_8, ((⟨#[114]⟩ : ByteArray) ++ t210)] : List ByteArray))) else (if t213 = 6 then (some (([((⟨#[114]⟩ : ByteArray) ++ t208)] : List ByteArray))) else (if t213 = 7 then (some (([t211] : List ByteArray))) else (if t213 = 8 then (some (([t211] : List ByteArray))) else (some ([] : List ByteArray)))))) = some r := by rw [if_neg (show ¬ (false = true) by decide)] at H; exact H
            clear H
            have H := H1
            clear H1
            by_cases c33 : t213 = 5
            ·
             rw [if_pos c33] at H
             have c33b0 : (t213 == 5) = true := beq_iff_eq.mpr c33
             have c33b1 : (t213 != 5) = false := bR c33
             clear c33
             obtain ⟨y220, hy220⟩ : ∃ y_ : List ByteArray, y_ = (([((⟨#[114]⟩ : ByteArray) ++ t208), x4_8, ((⟨#[114]⟩ : ByteArray) ++ t210)] : List ByteArray)) := ⟨_, rfl⟩
             replace H : (some y220) = some r := by first | (rw [hy220]; with_reducible exact H) | (have H2_ := (Option.bind_some _ _).symm.trans H; rw [hy220]; with_reducible exact H2_) | (have H2_ := (Option.bind_some _ _).symm.trans H; with_reducible exact H2_) | with_reducible exact H | (rw [hy220]; exact H) | exact H
             have Ny220 := mK hy220
             clear hy220
             obtain rfl := Option.some.inj H
             go_wp2_with (first | ((with_reducible refine gate_dst (N := 49) rfl ?_); refine Kd.R_lit Kd.string _ 9 ?hg (N := 49) ?hd (xs := ([((⟨#[114]⟩ : ByteArray) ++ t208), x4_8, ((⟨#[114]⟩ : ByteArray) ++ t210)] : List ByteArray)) (inner := [.string ((⟨#[114]⟩ : ByteArray) ++ t208), .string x4_8, .string ((⟨#[114]⟩ : ByteArray) ++ t210)]) (ok := fun _ => True) (okp := fun _ => True) ?hr ?hp (fun _ hk => hk) trivial (Below.refl _ _) (Nat.le_refl _) (by simp) ?_; (case hd => rfl); (case hg => rfl); (case hr => first | (go_simp; done) | (go_simp; rfl)); (case hp => exact (Reps.one (show Kd.M Kd.string _ _ _ ((⟨#[114]⟩ : ByteArray) ++ t208) [.string ((⟨#[114]⟩ : ByteArray) ++ t208)] from rfl) (Reps.one (show Kd.M Kd.string _ _ _ x4_8 [.string x4_8] from rfl) (Reps.one (show Kd.M Kd.string _ _ _ ((⟨#[114]⟩ : ByteArray) ++ t210) [.string ((⟨#[114]⟩ : ByteArray) ++ t210)] from rfl) (Reps.none _ _))))); intro v221 w34 ho35 hb hg_ hnew_; clear hg_ hnew_; (first | rw [← Ny220.out] at ho35 | (simp only [Int.reduceToNat] at ho35; rw [← Ny220.out] at ho35)); have n0_ := mK (Kd.R_lower ho35 (bZ (by repeat (first | (with_reducible first | exact HB.out | apply bA | apply bN | apply bD | refine bS ?_ GE207.out) | exact HB.out)))); have n1_ := mK (kB (g := gb207) (o := o5 a0_0 a0_1 a0_2 a0_3 a0_4 120) (by (with_reducible repeat (first | refine kN ?_ _ | refine kD ?_ | refine kA ?_ _)); exact BK207.out) hb); have n2_ := mK (bP (by repeat (first | (with_reducible first | exact HB.out | apply bA | apply bN | apply bD | refine bS ?_ GE207.out) | exact HB.out)) hb); clear BK207; clear HB; have HO222 := n0_; have BK207 := n1_; have HB := n2_; clear n0_ n1_ n2_; clear hb ho35))
             go_ret
             exact ⟨_, by first | rfl | (simp [errW_none, errW_some] <;> rfl) | (simp [*, errW_none, errW_some] <;> rfl), by (with_reducible repeat (first | apply Kd.R_alloc | apply Kd.R_drewN | apply Kd.R_drew)); exact HO222.out, by repeat (first | (with_reducible first | exact HB.out | apply bA | apply bN | apply bD | refine bS ?_ GE207.out) | exact HB.out)⟩
            ·
             rw [if_neg c33] at H
             have c33b0 : (t213 == 5) = false := bQ c33
             have c33b1 : (t213 != 5) = true := bne_iff_ne.mpr c33
             by_cases c36 : t213 = 6
             ·
              rw [if_pos c36] at H
              have c36b0 : (t213 == 6) = true := beq_iff_eq.mpr c36
              have c36b1 : (t213 != 6) = false := bR c36
              clear c36
              obtain ⟨y223, hy223⟩ : ∃ y_ : List ByteArray, y_ = (([((⟨#[114]⟩ : ByteArray) ++ t208)] : List ByteArray)) := ⟨_, rfl⟩
              replace H : (some y223) = some r := by first | (rw [hy223]; with_reducible exact H) | (have H2_ := (Option.bind_some _ _).symm.trans H; rw [hy223]; with_reducible exact H2_) | (have H2_ := (Option.bind_some _ _).symm.trans H; with_reducible exact H2_) | with_reducible exact H | (rw [hy223]; exact H) | exact H
              have Ny223 := mK hy223
              clear hy223
              obtain rfl := Option.some.inj H
              go_wp2_with (first | ((with_reducible refine gate_dst (N := 53) rfl ?_); refine Kd.R_lit Kd.string _ 9 ?hg (N := 53) ?hd (xs := ([((⟨#[114]⟩ : ByteArray) ++ t208)] : List ByteArray)) (inner := [.string ((⟨#[114]⟩ : ByteArray) ++ t208)]) (ok := fun _ => True) (okp := fun _ => True) ?hr ?hp (fun _ hk => hk) trivial (Below.refl _ _) (Nat.le_refl _) (by simp) ?_; (case hd => rfl); (case hg => rfl); (case hr => first | (go_simp; done) | (go_simp; rfl)); (case hp => exact (Reps.one (show Kd.M Kd.string _ _ _ ((⟨#[114]⟩ : ByteArray) ++ t208) [.string ((⟨#[114]⟩ : ByteArray) ++ t208)] from rfl) (Reps.none _ _))); intro v224 w37 ho38 hb hg_ hnew_; clear hg_ hnew_; (first | rw [← Ny223.out] at ho38 | (simp only [Int.reduceToNat] at ho38; rw [← Ny223.out] at ho38)); have n0_ := mK (Kd.R_lower ho38 (bZ (by repeat (first | (with_reducible first | exact HB.out | apply bA | apply bN | apply bD | refine bS ?_ GE207.out) | exact HB.out)))); have n1_ := mK (kB (g := gb207) (o := o5 a0_0 a0_1 a0_2 a0_3 a0_4 120) (by (with_reducible repeat (first | refine kN ?_ _ | refine kD ?_ | refine kA ?_ _)); exact BK207.out) hb); have n2_ := mK (bP (by repeat (first | (with_reducible first | exact HB.out | apply bA | apply bN | apply bD | refine bS ?_ GE207.out) | exact HB.out)) hb); clear BK207; clear HB; have HO225 := n0_; have BK207 := n1_; have HB := n2_; clear n0_ n1_ n2_; clear hb ho38))
              go_ret
              exact ⟨_, by first | rfl | (simp [errW_none, errW_some] <;> rfl) | (simp [*, errW_none, errW_some] <;> rfl), by (with_reducible repeat (first | apply Kd.R_alloc | apply Kd.R_drewN | apply Kd.R_drew)); exact HO225.out, by repeat (first | (with_reducible first | exact HB.out | apply bA | apply bN | apply bD | refine bS ?_ GE207.out) | exact HB.out)⟩
             ·
              rw [if_neg c36] at H
              have c36b0 : (t213 == 6) = false := bQ c36
              have c36b1 : (t213 != 6) = true := bne_iff_ne.mpr c36
              by_cases c39 : t213 = 7
              ·
               rw [if_pos c39] at H
               have c39b0 : (t213 == 7) = true := beq_iff_eq.mpr c39
               have c39b1 : (t213 != 7) = false := bR c39
               clear c39
               obtain ⟨y226, hy226⟩ : ∃ y_ : List ByteArray, y_ = (([t211] : List ByteArray)) := ⟨_, rfl⟩
               replace H : (some y226) = some r := by first | (rw [hy226]; with_reducible exact H) | (have H2_ := (Option.bind_some _ _).symm.trans H; rw [hy226]; with_reducible exact H2_) | (have H2_ := (Option.bind_some _ _).symm.trans H; with_reducible exact H2_) | with_reducible exact H | (rw [hy226]; exact H) | exact H
               have Ny226 := mK hy226
               clear hy226
               obtain rfl := Option.some.inj H
               go_wp2_with (first | ((with_reducible refine gate_dst (N := 58) rfl ?_); refine Kd.R_lit Kd.string _ 9 ?hg (N := 58) ?hd (xs := ([t211] : List ByteArray)) (inner := [.string t211]) (ok := fun _ => True) (okp := fun _ => True) ?hr ?hp (fun _ hk => hk) trivial (Below.refl _ _) (Nat.le_refl _) (by simp) ?_; (case hd => rfl); (case hg => rfl); (case hr => first | (go_simp; done) | (go_simp; rfl)); (case hp => exact (Reps.one (show Kd.M Kd.string _ _ _ t211 [.string t211] from rfl) (Reps.none _ _))); intro v227 w40 ho41 hb hg_ hnew_; clear hg_ hnew_; (first | rw [← Ny226.out] at ho41 | (simp only [Int.reduceToNat] at ho41; rw [← Ny226.out] at ho41)); have n0_ := mK (Kd.R_lower ho41 (bZ (by repeat (first | (with_reducible first | exact HB.out | apply bA | apply bN | apply bD | refine bS ?_ GE207.out) | exact HB.out)))); have n1_ := mK (kB (g := gb207) (o := o5 a0_0 a0_1 a0_2 a0_3 a0_4 120) (by (with_reducible repeat (first | refine kN ?_ _ | refine kD ?_ | refine kA ?_ _)); exact BK207.out) hb); have n2_ := mK (bP (by repeat (first | (with_reducible first | exact HB.out | apply bA | apply bN | apply bD | refine bS ?_ GE207.out) | exact HB.out)) hb); clear BK207; clear HB; have HO228 := n0_; have BK207 := n1_; have HB := n2_; clear n0_ n1_ n2_; clear hb ho41))
               go_ret
               exact ⟨_, by first | rfl | (simp [errW_none, errW_some] <;> rfl) | (simp [*, errW_none, errW_some] <;> rfl), by (with_reducible repeat (first | apply Kd.R_alloc | apply Kd.R_drewN | apply Kd.R_drew)); exact HO228.out, by repeat (first | (with_reducible first | exact HB.out | apply bA | apply bN | apply bD | refine bS ?_ GE207.out) | exact HB.out)⟩
              ·
               rw [if_neg c39] at H
               have c39b0 : (t213 == 7) = false := bQ c39
               have c39b1 : (t213 != 7) = true := bne_iff_ne.mpr c39
               by_cases c42 : t213 = 8
               ·
                rw [if_pos c42] at H
                have c42b0 : (t213 == 8) = true := beq_iff_eq.mpr c42
                have c42b1 : (t213 != 8) = false := bR c42
                clear c42
                obtain ⟨y229, hy229⟩ : ∃ y_ : List ByteArray, y_ = (([t211] : List ByteArray)) := ⟨_, rfl⟩
                replace H : (some y229) = some r := by first | (rw [hy229]; with_reducible exact H) | (have H2_ := (Option.bind_some _ _).symm.trans H; rw [hy229]; with_reducible exact H2_) | (have H2_ := (Option.bind_some _ _).symm.trans H; with_reducible exact H2_) | with_reducible exact H | (rw [hy229]; exact H) | exact H
                have Ny229 := mK hy229
                clear hy229
                obtain rfl := Option.some.inj H
                go_wp2_with (first | ((with_reducible refine gate_dst (N := 58) rfl ?_); refine Kd.R_lit Kd.string _ 9 ?hg (N := 58) ?hd (xs := ([t211] : List ByteArray)) (inner := [.string t211]) (ok := fun _ => True) (okp := fun _ => True) ?hr ?hp (fun _ hk => hk) trivial (Below.refl _ _) (Nat.le_refl _) (by simp) ?_; (case hd => rfl); (case hg => rfl); (case hr => first | (go_simp; done) | (go_simp; rfl)); (case hp => exact (Reps.one (show Kd.M Kd.string _ _ _ t211 [.string t211] from rfl) (Reps.none _ _))); intro v230 w43 ho44 hb hg_ hnew_; clear hg_ hnew_; (first | rw [← Ny229.out] at ho44 | (simp only [Int.reduceToNat] at ho44; rw [← Ny229.out] at ho44)); have n0_ := mK (Kd.R_lower ho44 (bZ (by repeat (first | (with_reducible first | exact HB.out | apply bA | apply bN | apply bD | refine bS ?_ GE207.out) | exact HB.out)))); have n1_ := mK (kB (g := gb207) (o := o5 a0_0 a0_1 a0_2 a0_3 a0_4 120) (by (with_reducible repeat (first | refine kN ?_ _ | refine kD ?_ | refine kA ?_ _)); exact BK207.out) hb); have n2_ := mK (bP (by repeat (first | (with_reducible first | exact HB.out | apply bA | apply bN | apply bD | refine bS ?_ GE207.out) | exact HB.out)) hb); clear BK207; clear HB; have HO231 := n0_; have BK207 := n1_; have HB := n2_; clear n0_ n1_ n2_; clear hb ho44))
                go_ret
                exact ⟨_, by first | rfl | (simp [errW_none, errW_some] <;> rfl) | (simp [*, errW_none, errW_some] <;> rfl), by (with_reducible repeat (first | apply Kd.R_alloc | apply Kd.R_drewN | apply Kd.R_drew)); exact HO231.out, by repeat (first | (with_reducible first | exact HB.out | apply bA | apply bN | apply bD | refine bS ?_ GE207.out) | exact HB.out)⟩
               ·
                rw [if_neg c42] at H
                have c42b0 : (t213 == 8) = false := bQ c42
                have c42b1 : (t213 != 8) = true := bne_iff_ne.mpr c42
                obtain rfl := Option.some.inj H
                go_wp2
                go_ret
                exact ⟨_, by first | rfl | (simp [errW_none, errW_some] <;> rfl) | (simp [*, errW_none, errW_some] <;> rfl), by first | exact Kd.R_nil _ _ _ _ _ | exact Kd.N_nil _ _ _ _ _ | exact Kd.V_nil _ _ _ _ _ | exact Kd.Q_nil _ _ _ _ _ | exact Kd.S_nil _ _ _ _ _, by repeat (first | (with_reducible first | exact HB.out | apply bA | apply bN | apply bD | refine bS ?_ GE207.out) | exact HB.out)⟩
   ·
    rw [if_neg c7] at H
    exact absurd H (by simp)
  ·
   rw [if_neg c5] at H
   exact absurd H (by simp)
 ·
  rw [if_neg c3] at H
  exact absurd H (by simp)


/-! ### instr_Text: function 57 -/
def instr_Text.l0 : Nat → ByteArray → List ByteArray → Int → Int → Option (ByteArray × Int)
 | 0, _, _, _, _ => none
 | k + 1, x5, x17, x18, x19 => if x19 < x18 then (if 0 ≤ x19 then (if x19 < (x17.length : Int) then (if x19 > 0 then (if x5.size + 1 ≤ 9223372036854775807 then (if 1 + (rdOf ByteArray.empty x17 x19).size ≤ 9223372036854775807 then (if (x5 ++ (⟨#[44]⟩ : ByteArray)).size + ((⟨#[32]⟩ : ByteArray) ++ (rdOf ByteArray.empty x17 x19)).size ≤ 9223372036854775807 then (instr_Text.l0 k ((x5 ++ (⟨#[44]⟩ : ByteArray)) ++ ((⟨#[32]⟩ : ByteArray) ++ (rdOf ByteArray.empty x17 x19))) x17 x18 (wrap64 (x19 + 1))) else (none)) else (none)) else (none)) else (if 1 + (rdOf ByteArray.empty x17 x19).size ≤ 9223372036854775807 then (if x5.size + ((⟨#[32]⟩ : ByteArray) ++ (rdOf ByteArray.empty x17 x19)).size ≤ 9223372036854775807 then (instr_Text.l0 k (x5 ++ ((⟨#[32]⟩ : ByteArray) ++ (rdOf ByteArray.empty x17 x19))) x17 x18 (wrap64 (x19 + 1))) else (none)) else (none))) else (none)) else (none)) else (some (x5, 0))
def instr_Text.f (k : Nat) (a0_0 : Int) (a0_1 : Int) (a0_2 : Int) (a0_3 : Int) (a0_4 : Int) : Option (ByteArray × Int) := (instr_Check.f k a0_0 a0_1 a0_2 a0_3 a0_4).bind fun t233 => (if t233 = 0 then ((instr_Name.f a0_0).bind fun t234 => ((instr_fields.f k a0_0 a0_1 a0_2 a0_3 a0_4).bind fun t235 => (instr_Text.l0 k t234 t235 (t235.length : Int) 0))) else (some ((⟨#[]⟩ : ByteArray), t233)))
theorem instr_Text.mono_l : ∀ k, (∀ y0 y1 y2 y3, LeO (instr_Text.l0 k y0 y1 y2 y3) (instr_Text.l0 (k + 1) y0 y1 y2 y3))
 | 0 => fun _ _ _ _ r h => by simp [instr_Text.l0] at h
 | k + 1 => by
  have ih0 := instr_Text.mono_l k
  ·
   intro y0 y1 y2 y3
   unfold instr_Text.l0
   repeat' first
   | (with_reducible exact ih0 _ _ _ _)
   | (with_reducible exact instr_Check.mono _ _ _ _ _ _)
   | (with_reducible exact instr_fields.mono _ _ _ _ _ _)
   | (with_reducible exact LeO.refl _)
   | (with_reducible exact LeO.none _)
   | (with_reducible refine LeO.ite ?_ ?_)
   | (with_reducible refine LeO.bind ?_ (fun _ => ?_))
   | exact LeO.none _
   | refine LeO.ite ?_ ?_
   | refine LeO.bind ?_ (fun _ => ?_)
theorem instr_Text.mono : ∀ a0 a1 a2 a3 a4 k, LeO (instr_Text.f k a0 a1 a2 a3 a4) (instr_Text.f (k + 1) a0 a1 a2 a3 a4) := by
 intro a0 a1 a2 a3 a4 k
 have ih0 := instr_Text.mono_l k
 unfold instr_Text.f
 repeat' first
  | (with_reducible exact ih0 _ _ _ _)
  | (with_reducible exact instr_Check.mono _ _ _ _ _ _)
  | (with_reducible exact instr_fields.mono _ _ _ _ _ _)
  | (with_reducible exact LeO.refl _)
  | (with_reducible exact LeO.none _)
  | (with_reducible refine LeO.ite ?_ ?_)
  | (with_reducible refine LeO.bind ?_ (fun _ => ?_))
  | exact LeO.none _
  | refine LeO.ite ?_ ?_
  | refine LeO.bind ?_ (fun _ => ?_)
set_option maxHeartbeats 8000000 in
set_option maxRecDepth 100000 in
theorem instr_Text.calls (k : Nat) (a0_0 : Int) (a0_1 : Int) (a0_2 : Int) (a0_3 : Int) (a0_4 : Int) (r1 : ByteArray) (r2 : Int) (w : World) (h : instr_Text.f k a0_0 a0_1 a0_2 a0_3 a0_4 = some (r1, r2)) :
 Calls Try.prog 57 #[.agg #[.int .i64 a0_0, .int .i64 a0_1, .int .i64 a0_2, .int .i64 a0_3, .int .i64 a0_4]] w fun e w' => e = .returned (.tuple #[.string r1, .int .i64 r2]) ∧ Below w.heap.size w w' := by
 have hu120 := Try.underlying120
 have HB := mK (Below.refl w.heap.size w)
 have H : ((instr_Check.f k a0_0 a0_1 a0_2 a0_3 a0_4).bind fun t233 => (if t233 = 0 then ((instr_Name.f a0_0).bind fun t234 => ((instr_fields.f k a0_0 a0_1 a0_2 a0_3 a0_4).bind fun t235 => (instr_Text.l0 k t234 t235 (t235.length : Int) 0))) else (some ((⟨#[]⟩ : ByteArray), t233)))) = some (r1, r2) := h
 clear h
 replace H := oB H
 obtain ⟨t233, A20, H⟩ := H
 replace H : (if t233 = 0 then ((instr_Name.f a0_0).bind fun t234 => ((instr_fields.f k a0_0 a0_1 a0_2 a0_3 a0_4).bind fun t235 => (instr_Text.l0 k t234 t235 (t235.length : Int) 0))) else (some ((⟨#[]⟩ : ByteArray), t233))) = some (r1, r2) := H
 have A2 := mK A20
 clear A20
 by_cases c3 : t233 = 0
 ·
  rw [if_pos c3] at H
  have c3b0 : (t233 == 0) = true := beq_iff_eq.mpr c3
  have c3b1 : (t233 != 0) = false := bR c3
  clear c3
  replace H := oB H
  obtain ⟨t234, A40, H⟩ := H
  replace H : ((instr_fields.f k a0_0 a0_1 a0_2 a0_3 a0_4).bind fun t235 => (instr_Text.l0 k t234 t235 (t235.length : Int) 0)) = some (r1, r2) := H
  have A4 := mK A40
  clear A40
  replace H := oB H
  obtain ⟨t235, A50, H⟩ := H
  replace H : (instr_Text.l0 k t234 t235 (t235.length : Int) 0) = some (r1, r2) := H
  have A5 := mK A50
  clear A50
  have H' := mK H
  clear H
  go_enter Try.func57, Try.ntmps57
  go_wp2_with (first | ((with_reducible refine gate_dst (N := 1) rfl ?_); refine box_event ?hg (N := 1) ?hd (cs := #[.int .i64 a0_0, .int .i64 a0_1, .int .i64 a0_2, .int .i64 a0_3, .int .i64 a0_4]) (t := 120) ?hr ?_; (case hd => rfl); (case hg => rfl); (case hr => first | (go_simp; done) | (go_simp; rfl)); intro gb232 hg w6 hbox hb; have n0_ := mK (bP (by repeat (first | (with_reducible first | exact HB.out | apply bA | apply bN | apply bD) | exact HB.out)) hb); have n1_ := mK (hbox); have n2_ := mK ((by rw [hg]; exact (bZ (by repeat (first | (with_reducible first | exact HB.out | apply bA | apply bN | apply bD) | exact HB.out))) : w.heap.size ≤ gb232)); have n3_ := mK ((by rw [hg]; exact (bZ (by repeat (first | (with_reducible first | exact HB.out | apply bA | apply bN | apply bD) | exact HB.out))) : w.heap.size ≤ gb232)); clear HB; have HB := n0_; have BK232 := n1_; have GW232 := n2_; have GE232 := n3_; clear n0_ n1_ n2_ n3_; clear hb hbox hg; obtain ⟨hcz7_0, hcz7_1, hcz7_2, hcz7_3, hcz7_4, hfz7_0, hfz7_1, hfz7_2, hfz7_3, hfz7_4⟩ := cf5 BK232.out) | ((with_reducible refine gate_callee (f := 64) rfl ?_); refine goesL_ (some 9) rfl rfl Try.func64 (by kernel_rfl) rfl #[.agg #[.int .i64 a0_0, .int .i64 a0_1, .int .i64 a0_2, .int .i64 a0_3, .int .i64 a0_4]] rfl (by (try simp only [List.map_toArray, List.map_cons, List.map_nil]); first | done | rfl) ?_; (with_reducible refine (instr_Check.calls k a0_0 a0_1 a0_2 a0_3 a0_4 t233 _ A2.out).mono ?_); rintro e w8 ⟨rfl, hb⟩; refine ⟨_, rfl, ?_⟩; have n0_ := mK (kB (g := gb232) (o := o5 a0_0 a0_1 a0_2 a0_3 a0_4 120) (by (with_reducible repeat (first | refine kN ?_ _ | refine kD ?_ | refine kA ?_ _)); exact BK232.out) hb); have n1_ := mK (bP (by repeat (first | (with_reducible first | exact HB.out | apply bA | apply bN | apply bD | refine bS ?_ GE232.out) | exact HB.out)) hb); clear BK232; clear HB; have BK232 := n0_; have HB := n1_; clear n0_ n1_; (try clear hb); obtain ⟨hcz9_0, hcz9_1, hcz9_2, hcz9_3, hcz9_4, hfz9_0, hfz9_1, hfz9_2, hfz9_3, hfz9_4⟩ := cf5 BK232.out) | ((with_reducible refine gate_callee (f := 65) rfl ?_); refine goesL_ (some 15) rfl rfl Try.func65 (by kernel_rfl) rfl #[.int .i64 a0_0] rfl (by (try simp only [List.map_toArray, List.map_cons, List.map_nil]); first | done | rfl) ?_; (with_reducible refine (instr_Name.calls a0_0 t234 _ A4.out).mono ?_); rintro e w10 ⟨rfl, hb⟩; refine ⟨_, rfl, ?_⟩; have n0_ := mK (kB (g := gb232) (o := o5 a0_0 a0_1 a0_2 a0_3 a0_4 120) (by (with_reducible repeat (first | refine kN ?_ _ | refine kD ?_ | refine kA ?_ _)); exact BK232.out) hb); have n1_ := mK (bP (by repeat (first | (with_reducible first | exact HB.out | apply bA | apply bN | apply bD | refine bS ?_ GE232.out) | exact HB.out)) hb); clear BK232; clear HB; have BK232 := n0_; have HB := n1_; clear n0_ n1_; (try clear hb); obtain ⟨hcz11_0, hcz11_1, hcz11_2, hcz11_3, hcz11_4, hfz11_0, hfz11_1, hfz11_2, hfz11_3, hfz11_4⟩ := cf5 BK232.out) | ((with_reducible refine gate_callee (f := 66) rfl ?_); refine goesL_ (some 17) rfl rfl Try.func66 (by kernel_rfl) rfl #[.agg #[.int .i64 a0_0, .int .i64 a0_1, .int .i64 a0_2, .int .i64 a0_3, .int .i64 a0_4]] rfl (by (try simp only [List.map_toArray, List.map_cons, List.map_nil]); first | done | rfl) ?_; (with_reducible refine (instr_fields.calls k a0_0 a0_1 a0_2 a0_3 a0_4 t235 _ A5.out).mono ?_); rintro e w12 ⟨v236, rfl, ho0, hb⟩; refine ⟨_, rfl, ?_⟩; have n0_ := mK (Kd.R_lower ho0 (bZ (by repeat (first | (with_reducible first | exact HB.out | apply bA | apply bN | apply bD | refine bS ?_ GE232.out) | exact HB.out)))); have n1_ := mK (kB (g := gb232) (o := o5 a0_0 a0_1 a0_2 a0_3 a0_4 120) (by (with_reducible repeat (first | refine kN ?_ _ | refine kD ?_ | refine kA ?_ _)); exact BK232.out) hb); have n2_ := mK (bP (by repeat (first | (with_reducible first | exact HB.out | apply bA | apply bN | apply bD | refine bS ?_ GE232.out) | exact HB.out)) hb); clear BK232; clear HB; have HO237 := n0_; have BK232 := n1_; have HB := n2_; clear n0_ n1_ n2_; (try clear hb); (try clear ho0); obtain ⟨Ao13, co13, eo13⟩ := Kd.R_slice HO237.out; subst eo13))
  go_loopg [5, 19] k (fun kq v5 v19 w' => ∃ (x5_1 : ByteArray) (x19_1 : Int), v5 = .string x5_1 ∧ v19 = .int .i64 x19_1 ∧ Aside0 (instr_Text.l0 kq x5_1 t235 (t235.length : Int) x19_1 = some (r1, r2)) ∧ Aside0 (kq ≤ k) ∧ Aside0 (Kd.R Kd.string 9 w' w.heap.size (fun _ => True) (.slice Ao13 t235.length co13) t235) ∧ Aside0 (w'.heap[gb232]? = some (o5 a0_0 a0_1 a0_2 a0_3 a0_4 120)) ∧ Aside0 (Below w.heap.size w w'))
  case atStart => exact ⟨(t234), (0), (by first | rfl | (simp; done) | (simp [*]; done)), (by first | rfl | (simp; done) | (simp [*]; done)), H', ⟨Nat.le_refl _⟩, ⟨by (with_reducible repeat (first | apply Kd.R_alloc | apply Kd.R_drewN | apply Kd.R_drew)); exact HO237.out⟩, ⟨by (with_reducible repeat (first | refine kN ?_ _ | refine kD ?_ | refine kA ?_ _)); exact BK232.out⟩, ⟨by repeat (first | (with_reducible first | exact HB.out | apply bA | apply bN | apply bD | refine bS ?_ GE232.out) | exact HB.out)⟩⟩
  case round =>
   clear H'
   (try clear c3); (try clear c3b0); (try clear c3b1); (try clear hcz11_0); (try clear hcz11_1); (try clear hcz11_2); (try clear hcz11_3); (try clear hcz11_4); (try clear hcz7_0); (try clear hcz7_1); (try clear hcz7_2); (try clear hcz7_3); (try clear hcz7_4); (try clear hcz9_0); (try clear hcz9_1); (try clear hcz9_2); (try clear hcz9_3); (try clear hcz9_4); (try clear hfz11_0); (try clear hfz11_1); (try clear hfz11_2); (try clear hfz11_3); (try clear hfz11_4); (try clear hfz7_0); (try clear hfz7_1); (try clear hfz7_2); (try clear hfz7_3); (try clear hfz7_4); (try clear hfz9_0); (try clear hfz9_1); (try clear hfz9_2); (try clear hfz9_3); (try clear hfz9_4)
   obtain ⟨x5_1, x19_1, rfl, rfl, HA, HK1, HO_17, BK232, HB⟩ := hrel
   cases gk with
   | zero => exact absurd HA.out (by simp [instr_Text.l0])
   | succ k1 =>
    have H := HA.out
    clear HA
    simp only [instr_Text.l0] at H
    by_cases c14 : x19_1 < (t235.length : Int)
    ·
     rw [if_pos c14] at H
     have c14b0 : decide (x19_1 < (t235.length : Int)) = true := decide_eq_true c14
     clear c14
     by_cases c15 : 0 ≤ x19_1
     ·
      rw [if_pos c15] at H
      have c15b0 : decide (0 ≤ x19_1) = true := decide_eq_true c15
      clear c15
      by_cases c16 : x19_1 < (t235.length : Int)
      ·
       rw [if_pos c16] at H
       have c16b0 : decide (x19_1 < (t235.length : Int)) = true := decide_eq_true c16
       clear c16
       by_cases c17 : x19_1 > 0
       ·
        rw [if_pos c17] at H
        have c17b0 : decide (0 < x19_1) = true := decide_eq_true c17
        clear c17
        by_cases c18 : x5_1.size + 1 ≤ 9223372036854775807
        ·
         rw [if_pos c18] at H
         have c18b0 := eq_true c18
         have c18b1 : decide (x5_1.size + 1 ≤ 9223372036854775807) = true := decide_eq_true c18
         try have c18b2 : (9223372036854775807 < x5_1.size + 1) = False := eq_false (Nat.not_lt.2 c18)
         by_cases c19 : 1 + (rdOf ByteArray.empty t235 x19_1).size ≤ 9223372036854775807
         ·
          rw [if_pos c19] at H
          have c19b0 := eq_true c19
          have c19b1 : decide (1 + (rdOf ByteArray.empty t235 x19_1).size ≤ 9223372036854775807) = true := decide_eq_true c19
          try have c19b2 : (9223372036854775807 < 1 + (rdOf ByteArray.empty t235 x19_1).size) = False := eq_false (Nat.not_lt.2 c19)
          by_cases c20 : (x5_1 ++ (⟨#[44]⟩ : ByteArray)).size + ((⟨#[32]⟩ : ByteArray) ++ (rdOf ByteArray.empty t235 x19_1)).size ≤ 9223372036854775807
          ·
           rw [if_pos c20] at H
           have c20b0 := eq_true c20
           have c20b1 : decide ((x5_1 ++ (⟨#[44]⟩ : ByteArray)).size + ((⟨#[32]⟩ : ByteArray) ++ (rdOf ByteArray.empty t235 x19_1)).size ≤ 9223372036854775807) = true := decide_eq_true c20
           try have c20b2 : (9223372036854775807 < (x5_1 ++ (⟨#[44]⟩ : ByteArray)).size + ((⟨#[32]⟩ : ByteArray) ++ (rdOf ByteArray.empty t235 x19_1)).size) = False := eq_false (Nat.not_lt.2 c20)
           have H' := mK H
           clear H
           have p238 : 0 ≤ (x19_1 : Int) := of_decide_eq_true (by first | (with_reducible assumption) | assumption)
           have q238 : x19_1 < (t235.length : Int) := of_decide_eq_true (by first | (with_reducible assumption) | assumption)
           obtain ⟨ad238, e238, hx238_0⟩ := Kd.at_string (Kd.R_reads' HO_17.out).2.2 x19_1 p238 q238
           cases e238
           replace p238 := eq_true p238
           replace q238 := eq_true q238
           go_wp2
           go_roundg k1
           case measure => have := HK1.out; omega
           case rel => exact ⟨((x5_1 ++ (⟨#[44]⟩ : ByteArray)) ++ ((⟨#[32]⟩ : ByteArray) ++ (rdOf ByteArray.empty t235 x19_1))), (wrap64 (x19_1 + 1)), (by first | rfl | (simp; done) | (simp [*]; done)), (by first | rfl | (simp; done) | (simp [*]; done)), H', ⟨by have := HK1.out; omega⟩, ⟨by (with_reducible repeat (first | apply Kd.R_alloc | apply Kd.R_drewN | apply Kd.R_drew)); exact HO_17.out⟩, ⟨by (with_reducible repeat (first | refine kN ?_ _ | refine kD ?_ | refine kA ?_ _)); exact BK232.out⟩, ⟨by repeat (first | (with_reducible first | exact HB.out | apply bA | apply bN | apply bD | refine bS ?_ GE232.out) | exact HB.out)⟩⟩
          ·
           rw [if_neg c20] at H
           exact absurd H (by simp)
         ·
          rw [if_neg c19] at H
          exact absurd H (by simp)
        ·
         rw [if_neg c18] at H
         exact absurd H (by simp)
       ·
        rw [if_neg c17] at H
        have c17b0 : decide (0 < x19_1) = false := decide_eq_false c17
        clear c17
        by_cases c21 : 1 + (rdOf ByteArray.empty t235 x19_1).size ≤ 9223372036854775807
        ·
         rw [if_pos c21] at H
         have c21b0 := eq_true c21
         have c21b1 : decide (1 + (rdOf ByteArray.empty t235 x19_1).size ≤ 9223372036854775807) = true := decide_eq_true c21
         try have c21b2 : (9223372036854775807 < 1 + (rdOf ByteArray.empty t235 x19_1).size) = False := eq_false (Nat.not_lt.2 c21)
         by_cases c22 : x5_1.size + ((⟨#[32]⟩ : ByteArray) ++ (rdOf ByteArray.empty t235 x19_1)).size ≤ 9223372036854775807
         ·
          rw [if_pos c22] at H
          have c22b0 := eq_true c22
          have c22b1 : decide (x5_1.size + ((⟨#[32]⟩ : ByteArray) ++ (rdOf ByteArray.empty t235 x19_1)).size ≤ 9223372036854775807) = true := decide_eq_true c22
          try have c22b2 : (9223372036854775807 < x5_1.size + ((⟨#[32]⟩ : ByteArray) ++ (rdOf ByteArray.empty t235 x19_1)).size) = False := eq_false (Nat.not_lt.2 c22)
          have H' := mK H
          clear H
          have p238 : 0 ≤ (x19_1 : Int) := of_decide_eq_true (by first | (with_reducible assumption) | assumption)
          have q238 : x19_1 < (t235.length : Int) := of_decide_eq_true (by first | (with_reducible assumption) | assumption)
          obtain ⟨ad238, e238, hx238_0⟩ := Kd.at_string (Kd.R_reads' HO_17.out).2.2 x19_1 p238 q238
          cases e238
          replace p238 := eq_true p238
          replace q238 := eq_true q238
          go_wp2
          go_roundg k1
          case measure => have := HK1.out; omega
          case rel => exact ⟨(x5_1 ++ ((⟨#[32]⟩ : ByteArray) ++ (rdOf ByteArray.empty t235 x19_1))), (wrap64 (x19_1 + 1)), (by first | rfl | (simp; done) | (simp [*]; done)), (by first | rfl | (simp; done) | (simp [*]; done)), H', ⟨by have := HK1.out; omega⟩, ⟨by (with_reducible repeat (first | apply Kd.R_alloc | apply Kd.R_drewN | apply Kd.R_drew)); exact HO_17.out⟩, ⟨by (with_reducible repeat (first | refine kN ?_ _ | refine kD ?_ | refine kA ?_ _)); exact BK232.out⟩, ⟨by repeat (first | (with_reducible first | exact HB.out | apply bA | apply bN | apply bD | refine bS ?_ GE232.out) | exact HB.out)⟩⟩
         ·
          rw [if_neg c22] at H
          exact absurd H (by simp)
        ·
         rw [if_neg c21] at H
         exact absurd H (by simp)
      ·
       rw [if_neg c16] at H
       exact absurd H (by simp)
     ·
      rw [if_neg c15] at H
      exact absurd H (by simp)
    ·
     rw [if_neg c14] at H
     have c14b0 : decide (x19_1 < (t235.length : Int)) = false := decide_eq_false c14
     clear c14
     simp only [Option.some.injEq, Prod.mk.injEq] at H
     obtain ⟨rfl, rfl⟩ := H
     go_wp2
     go_ret2
     exact ⟨by first | rfl | (simp [errW_none, errW_some] <;> rfl) | (simp [*, errW_none, errW_some] <;> rfl), by repeat (first | (with_reducible first | exact HB.out | apply bA | apply bN | apply bD | refine bS ?_ GE232.out) | exact HB.out)⟩
 ·
  rw [if_neg c3] at H
  have c3b0 : (t233 == 0) = false := bQ c3
  have c3b1 : (t233 != 0) = true := bne_iff_ne.mpr c3
  simp only [Option.some.injEq, Prod.mk.injEq] at H
  obtain ⟨rfl, rfl⟩ := H
  go_enter Try.func57, Try.ntmps57
  go_wp2_with (first | ((with_reducible refine gate_dst (N := 1) rfl ?_); refine box_event ?hg (N := 1) ?hd (cs := #[.int .i64 a0_0, .int .i64 a0_1, .int .i64 a0_2, .int .i64 a0_3, .int .i64 a0_4]) (t := 120) ?hr ?_; (case hd => rfl); (case hg => rfl); (case hr => first | (go_simp; done) | (go_simp; rfl)); intro gb232 hg w23 hbox hb; have n0_ := mK (bP (by repeat (first | (with_reducible first | exact HB.out | apply bA | apply bN | apply bD) | exact HB.out)) hb); have n1_ := mK (hbox); have n2_ := mK ((by rw [hg]; exact (bZ (by repeat (first | (with_reducible first | exact HB.out | apply bA | apply bN | apply bD) | exact HB.out))) : w.heap.size ≤ gb232)); have n3_ := mK ((by rw [hg]; exact (bZ (by repeat (first | (with_reducible first | exact HB.out | apply bA | apply bN | apply bD) | exact HB.out))) : w.heap.size ≤ gb232)); clear HB; have HB := n0_; have BK232 := n1_; have GW232 := n2_; have GE232 := n3_; clear n0_ n1_ n2_ n3_; clear hb hbox hg; obtain ⟨hcz24_0, hcz24_1, hcz24_2, hcz24_3, hcz24_4, hfz24_0, hfz24_1, hfz24_2, hfz24_3, hfz24_4⟩ := cf5 BK232.out) | ((with_reducible refine gate_callee (f := 64) rfl ?_); refine goesL_ (some 9) rfl rfl Try.func64 (by kernel_rfl) rfl #[.agg #[.int .i64 a0_0, .int .i64 a0_1, .int .i64 a0_2, .int .i64 a0_3, .int .i64 a0_4]] rfl (by (try simp only [List.map_toArray, List.map_cons, List.map_nil]); first | done | rfl) ?_; (with_reducible refine (instr_Check.calls k a0_0 a0_1 a0_2 a0_3 a0_4 t233 _ A2.out).mono ?_); rintro e w25 ⟨rfl, hb⟩; refine ⟨_, rfl, ?_⟩; have n0_ := mK (kB (g := gb232) (o := o5 a0_0 a0_1 a0_2 a0_3 a0_4 120) (by (with_reducible repeat (first | refine kN ?_ _ | refine kD ?_ | refine kA ?_ _)); exact BK232.out) hb); have n1_ := mK (bP (by repeat (first | (with_reducible first | exact HB.out | apply bA | apply bN | apply bD | refine bS ?_ GE232.out) | exact HB.out)) hb); clear BK232; clear HB; have BK232 := n0_; have HB := n1_; clear n0_ n1_; (try clear hb)))
  go_ret2
  exact ⟨by first | rfl | (simp [errW_none, errW_some] <;> rfl) | (simp [*, errW_none, errW_some] <;> rfl), by repeat (first | (with_reducible first | exact HB.out | apply bA | apply bN | apply bD | refine bS ?_ GE232.out) | exact HB.out)⟩


/-! ### listing_Target: function 58 -/
def listing_Target.f (a0 : Int) (a1_0 : Int) (a1_1 : Int) (a1_2 : Int) (a1_3 : Int) (a1_4 : Int) : Option (Int × Bool) := if a1_0 = 20 then (some ((((a0 + 4) % 4294967296) + ((wrap64 (4 * a1_4)) % 4294967296)) % 4294967296, true)) else (if a1_0 = 21 then (some ((((a0 + 4) % 4294967296) + ((wrap64 (4 * a1_4)) % 4294967296)) % 4294967296, true)) else (if a1_0 = 22 then (some ((((a0 + 4) % 4294967296) + ((wrap64 (4 * a1_4)) % 4294967296)) % 4294967296, true)) else (if a1_0 = 23 then (some ((((a0 + 4) % 4294967296) + ((wrap64 (4 * a1_4)) % 4294967296)) % 4294967296, true)) else (some (0, false)))))
set_option maxHeartbeats 8000000 in
set_option maxRecDepth 100000 in
theorem listing_Target.calls (a0 : Int) (a1_0 : Int) (a1_1 : Int) (a1_2 : Int) (a1_3 : Int) (a1_4 : Int) (r1 : Int) (r2 : Bool) (w : World) (h : listing_Target.f a0 a1_0 a1_1 a1_2 a1_3 a1_4 = some (r1, r2)) :
 Calls Try.prog 58 #[.int .u32 a0, .agg #[.int .i64 a1_0, .int .i64 a1_1, .int .i64 a1_2, .int .i64 a1_3, .int .i64 a1_4]] w fun e w' => e = .returned (.tuple #[.int .u32 r1, .bool r2]) ∧ Below w.heap.size w w' := by
 have hu120 := Try.underlying120
 have HB := mK (Below.refl w.heap.size w)
 have H : (if a1_0 = 20 then (some ((((a0 + 4) % 4294967296) + ((wrap64 (4 * a1_4)) % 4294967296)) % 4294967296, true)) else (if a1_0 = 21 then (some ((((a0 + 4) % 4294967296) + ((wrap64 (4 * a1_4)) % 4294967296)) % 4294967296, true)) else (if a1_0 = 22 then (some ((((a0 + 4) % 4294967296) + ((wrap64 (4 * a1_4)) % 4294967296)) % 4294967296, true)) else (if a1_0 = 23 then (some ((((a0 + 4) % 4294967296) + ((wrap64 (4 * a1_4)) % 4294967296)) % 4294967296, true)) else (some (0, false)))))) = some (r1, r2) := h
 clear h
 by_cases c3 : a1_0 = 20
 ·
  rw [if_pos c3] at H
  have c3b0 : (a1_0 == 20) = true := beq_iff_eq.mpr c3
  have c3b1 : (a1_0 != 20) = false := bR c3
  clear c3
  simp only [Option.some.injEq, Prod.mk.injEq] at H
  obtain ⟨rfl, rfl⟩ := H
  go_enter Try.func58, Try.ntmps58
  go_wp2_with (first | ((with_reducible refine gate_dst (N := 3) rfl ?_); refine box_event ?hg (N := 3) ?hd (cs := #[.int .i64 a1_0, .int .i64 a1_1, .int .i64 a1_2, .int .i64 a1_3, .int .i64 a1_4]) (t := 120) ?hr ?_; (case hd => rfl); (case hg => rfl); (case hr => first | (go_simp; done) | (go_simp; rfl)); intro gb239 hg w4 hbox hb; have n0_ := mK (bP (by repeat (first | (with_reducible first | exact HB.out | apply bA | apply bN | apply bD) | exact HB.out)) hb); have n1_ := mK (hbox); have n2_ := mK ((by rw [hg]; exact (bZ (by repeat (first | (with_reducible first | exact HB.out | apply bA | apply bN | apply bD) | exact HB.out))) : w.heap.size ≤ gb239)); have n3_ := mK ((by rw [hg]; exact (bZ (by repeat (first | (with_reducible first | exact HB.out | apply bA | apply bN | apply bD) | exact HB.out))) : w.heap.size ≤ gb239)); clear HB; have HB := n0_; have BK239 := n1_; have GW239 := n2_; have GE239 := n3_; clear n0_ n1_ n2_ n3_; clear hb hbox hg; obtain ⟨hcz5_0, hcz5_1, hcz5_2, hcz5_3, hcz5_4, hfz5_0, hfz5_1, hfz5_2, hfz5_3, hfz5_4⟩ := cf5 BK239.out))
  go_ret2
  exact ⟨by first | rfl | (simp [errW_none, errW_some] <;> rfl) | (simp [*, errW_none, errW_some] <;> rfl), by repeat (first | (with_reducible first | exact HB.out | apply bA | apply bN | apply bD | refine bS ?_ GE239.out) | exact HB.out)⟩
 ·
  rw [if_neg c3] at H
  have c3b0 : (a1_0 == 20) = false := bQ c3
  have c3b1 : (a1_0 != 20) = true := bne_iff_ne.mpr c3
  by_cases c6 : a1_0 = 21
  ·
   rw [if_pos c6] at H
   have c6b0 : (a1_0 == 21) = true := beq_iff_eq.mpr c6
   have c6b1 : (a1_0 != 21) = false := bR c6
   clear c6
   simp only [Option.some.injEq, Prod.mk.injEq] at H
   obtain ⟨rfl, rfl⟩ := H
   go_enter Try.func58, Try.ntmps58
   go_wp2_with (first | ((with_reducible refine gate_dst (N := 3) rfl ?_); refine box_event ?hg (N := 3) ?hd (cs := #[.int .i64 a1_0, .int .i64 a1_1, .int .i64 a1_2, .int .i64 a1_3, .int .i64 a1_4]) (t := 120) ?hr ?_; (case hd => rfl); (case hg => rfl); (case hr => first | (go_simp; done) | (go_simp; rfl)); intro gb239 hg w7 hbox hb; have n0_ := mK (bP (by repeat (first | (with_reducible first | exact HB.out | apply bA | apply bN | apply bD) | exact HB.out)) hb); have n1_ := mK (hbox); have n2_ := mK ((by rw [hg]; exact (bZ (by repeat (first | (with_reducible first | exact HB.out | apply bA | apply bN | apply bD) | exact HB.out))) : w.heap.size ≤ gb239)); have n3_ := mK ((by rw [hg]; exact (bZ (by repeat (first | (with_reducible first | exact HB.out | apply bA | apply bN | apply bD) | exact HB.out))) : w.heap.size ≤ gb239)); clear HB; have HB := n0_; have BK239 := n1_; have GW239 := n2_; have GE239 := n3_; clear n0_ n1_ n2_ n3_; clear hb hbox hg; obtain ⟨hcz8_0, hcz8_1, hcz8_2, hcz8_3, hcz8_4, hfz8_0, hfz8_1, hfz8_2, hfz8_3, hfz8_4⟩ := cf5 BK239.out))
   go_ret2
   exact ⟨by first | rfl | (simp [errW_none, errW_some] <;> rfl) | (simp [*, errW_none, errW_some] <;> rfl), by repeat (first | (with_reducible first | exact HB.out | apply bA | apply bN | apply bD | refine bS ?_ GE239.out) | exact HB.out)⟩
  ·
   rw [if_neg c6] at H
   have c6b0 : (a1_0 == 21) = false := bQ c6
   have c6b1 : (a1_0 != 21) = true := bne_iff_ne.mpr c6
   by_cases c9 : a1_0 = 22
   ·
    rw [if_pos c9] at H
    have c9b0 : (a1_0 == 22) = true := beq_iff_eq.mpr c9
    have c9b1 : (a1_0 != 22) = false := bR c9
    clear c9
    simp only [Option.some.injEq, Prod.mk.injEq] at H
    obtain ⟨rfl, rfl⟩ := H
    go_enter Try.func58, Try.ntmps58
    go_wp2_with (first | ((with_reducible refine gate_dst (N := 3) rfl ?_); refine box_event ?hg (N := 3) ?hd (cs := #[.int .i64 a1_0, .int .i64 a1_1, .int .i64 a1_2, .int .i64 a1_3, .int .i64 a1_4]) (t := 120) ?hr ?_; (case hd => rfl); (case hg => rfl); (case hr => first | (go_simp; done) | (go_simp; rfl)); intro gb239 hg w10 hbox hb; have n0_ := mK (bP (by repeat (first | (with_reducible first | exact HB.out | apply bA | apply bN | apply bD) | exact HB.out)) hb); have n1_ := mK (hbox); have n2_ := mK ((by rw [hg]; exact (bZ (by repeat (first | (with_reducible first | exact HB.out | apply bA | apply bN | apply bD) | exact HB.out))) : w.heap.size ≤ gb239)); have n3_ := mK ((by rw [hg]; exact (bZ (by repeat (first | (with_reducible first | exact HB.out | apply bA | apply bN | apply bD) | exact HB.out))) : w.heap.size ≤ gb239)); clear HB; have HB := n0_; have BK239 := n1_; have GW239 := n2_; have GE239 := n3_; clear n0_ n1_ n2_ n3_; clear hb hbox hg; obtain ⟨hcz11_0, hcz11_1, hcz11_2, hcz11_3, hcz11_4, hfz11_0, hfz11_1, hfz11_2, hfz11_3, hfz11_4⟩ := cf5 BK239.out))
    go_ret2
    exact ⟨by first | rfl | (simp [errW_none, errW_some] <;> rfl) | (simp [*, errW_none, errW_some] <;> rfl), by repeat (first | (with_reducible first | exact HB.out | apply bA | apply bN | apply bD | refine bS ?_ GE239.out) | exact HB.out)⟩
   ·
    rw [if_neg c9] at H
    have c9b0 : (a1_0 == 22) = false := bQ c9
    have c9b1 : (a1_0 != 22) = true := bne_iff_ne.mpr c9
    by_cases c12 : a1_0 = 23
    ·
     rw [if_pos c12] at H
     have c12b0 : (a1_0 == 23) = true := beq_iff_eq.mpr c12
     have c12b1 : (a1_0 != 23) = false := bR c12
     clear c12
     simp only [Option.some.injEq, Prod.mk.injEq] at H
     obtain ⟨rfl, rfl⟩ := H
     go_enter Try.func58, Try.ntmps58
     go_wp2_with (first | ((with_reducible refine gate_dst (N := 3) rfl ?_); refine box_event ?hg (N := 3) ?hd (cs := #[.int .i64 a1_0, .int .i64 a1_1, .int .i64 a1_2, .int .i64 a1_3, .int .i64 a1_4]) (t := 120) ?hr ?_; (case hd => rfl); (case hg => rfl); (case hr => first | (go_simp; done) | (go_simp; rfl)); intro gb239 hg w13 hbox hb; have n0_ := mK (bP (by repeat (first | (with_reducible first | exact HB.out | apply bA | apply bN | apply bD) | exact HB.out)) hb); have n1_ := mK (hbox); have n2_ := mK ((by rw [hg]; exact (bZ (by repeat (first | (with_reducible first | exact HB.out | apply bA | apply bN | apply bD) | exact HB.out))) : w.heap.size ≤ gb239)); have n3_ := mK ((by rw [hg]; exact (bZ (by repeat (first | (with_reducible first | exact HB.out | apply bA | apply bN | apply bD) | exact HB.out))) : w.heap.size ≤ gb239)); clear HB; have HB := n0_; have BK239 := n1_; have GW239 := n2_; have GE239 := n3_; clear n0_ n1_ n2_ n3_; clear hb hbox hg; obtain ⟨hcz14_0, hcz14_1, hcz14_2, hcz14_3, hcz14_4, hfz14_0, hfz14_1, hfz14_2, hfz14_3, hfz14_4⟩ := cf5 BK239.out))
     go_ret2
     exact ⟨by first | rfl | (simp [errW_none, errW_some] <;> rfl) | (simp [*, errW_none, errW_some] <;> rfl), by repeat (first | (with_reducible first | exact HB.out | apply bA | apply bN | apply bD | refine bS ?_ GE239.out) | exact HB.out)⟩
    ·
     rw [if_neg c12] at H
     have c12b0 : (a1_0 == 23) = false := bQ c12
     have c12b1 : (a1_0 != 23) = true := bne_iff_ne.mpr c12
     simp only [Option.some.injEq, Prod.mk.injEq] at H
     obtain ⟨rfl, rfl⟩ := H
     go_enter Try.func58, Try.ntmps58
     go_wp2_with (first | ((with_reducible refine gate_dst (N := 3) rfl ?_); refine box_event ?hg (N := 3) ?hd (cs := #[.int .i64 a1_0, .int .i64 a1_1, .int .i64 a1_2, .int .i64 a1_3, .int .i64 a1_4]) (t := 120) ?hr ?_; (case hd => rfl); (case hg => rfl); (case hr => first | (go_simp; done) | (go_simp; rfl)); intro gb239 hg w15 hbox hb; have n0_ := mK (bP (by repeat (first | (with_reducible first | exact HB.out | apply bA | apply bN | apply bD) | exact HB.out)) hb); have n1_ := mK (hbox); have n2_ := mK ((by rw [hg]; exact (bZ (by repeat (first | (with_reducible first | exact HB.out | apply bA | apply bN | apply bD) | exact HB.out))) : w.heap.size ≤ gb239)); have n3_ := mK ((by rw [hg]; exact (bZ (by repeat (first | (with_reducible first | exact HB.out | apply bA | apply bN | apply bD) | exact HB.out))) : w.heap.size ≤ gb239)); clear HB; have HB := n0_; have BK239 := n1_; have GW239 := n2_; have GE239 := n3_; clear n0_ n1_ n2_ n3_; clear hb hbox hg; obtain ⟨hcz16_0, hcz16_1, hcz16_2, hcz16_3, hcz16_4, hfz16_0, hfz16_1, hfz16_2, hfz16_3, hfz16_4⟩ := cf5 BK239.out))
     go_ret2
     exact ⟨by first | rfl | (simp [errW_none, errW_some] <;> rfl) | (simp [*, errW_none, errW_some] <;> rfl), by repeat (first | (with_reducible first | exact HB.out | apply bA | apply bN | apply bD | refine bS ?_ GE239.out) | exact HB.out)⟩


/-! ### listing_Line: function 48 -/
def listing_Line.f (k : Nat) (a0 : Int) (a1 : Int) : Option (ByteArray) := (word_Hex.f a0).bind fun t240 => (if t240.size + 1 ≤ 9223372036854775807 then ((word_Hex.f a1).bind fun t241 => (if (t240 ++ (⟨#[32]⟩ : ByteArray)).size + t241.size ≤ 9223372036854775807 then (if ((t240 ++ (⟨#[32]⟩ : ByteArray)) ++ t241).size + 1 ≤ 9223372036854775807 then ((instr_Decode.f k a1).bind fun bt242 => (if bt242.2.2.2.2.2 = 0 then ((instr_Text.f k bt242.1 bt242.2.1 bt242.2.2.1 bt242.2.2.2.1 bt242.2.2.2.2.1).bind fun bt249 => (if (((t240 ++ (⟨#[32]⟩ : ByteArray)) ++ t241) ++ (⟨#[32]⟩ : ByteArray)).size + bt249.1.size ≤ 9223372036854775807 then ((listing_Target.f a0 bt242.1 bt242.2.1 bt242.2.2.1 bt242.2.2.2.1 bt242.2.2.2.2.1).bind fun bt251 => (if bt251.2 = true then ((word_Hex.f bt251.1).bind fun t253 => (if 4 + t253.size ≤ 9223372036854775807 then (if ((((t240 ++ (⟨#[32]⟩ : ByteArray)) ++ t241) ++ (⟨#[32]⟩ : ByteArray)) ++ bt249.1).size + ((⟨#[32, 45, 62, 32]⟩ : ByteArray) ++ t253).size ≤ 9223372036854775807 then (some (((((t240 ++ (⟨#[32]⟩ : ByteArray)) ++ t241) ++ (⟨#[32]⟩ : ByteArray)) ++ bt249.1) ++ ((⟨#[32, 45, 62, 32]⟩ : ByteArray) ++ t253))) else (none)) else (none))) else (some ((((t240 ++ (⟨#[32]⟩ : ByteArray)) ++ t241) ++ (⟨#[32]⟩ : ByteArray)) ++ bt249.1)))) else (none))) else (if (((t240 ++ (⟨#[32]⟩ : ByteArray)) ++ t241) ++ (⟨#[32]⟩ : ByteArray)).size + 1 ≤ 9223372036854775807 then (some ((((t240 ++ (⟨#[32]⟩ : ByteArray)) ++ t241) ++ (⟨#[32]⟩ : ByteArray)) ++ (⟨#[63]⟩ : ByteArray))) else (none)))) else (none)) else (none))) else (none))
theorem listing_Line.mono : ∀ a0 a1 k, LeO (listing_Line.f k a0 a1) (listing_Line.f (k + 1) a0 a1) := by
 intro a0 a1 k
 unfold listing_Line.f
 repeat' first
  | (with_reducible exact instr_Decode.mono _ _)
  | (with_reducible exact instr_Text.mono _ _ _ _ _ _)
  | (with_reducible exact LeO.refl _)
  | (with_reducible exact LeO.none _)
  | (with_reducible refine LeO.ite ?_ ?_)
  | (with_reducible refine LeO.bind ?_ (fun _ => ?_))
  | exact LeO.none _
  | refine LeO.ite ?_ ?_
  | refine LeO.bind ?_ (fun _ => ?_)
set_option maxHeartbeats 8000000 in
set_option maxRecDepth 100000 in
theorem listing_Line.calls (k : Nat) (a0 : Int) (a1 : Int) (r : ByteArray) (w : World) (h : listing_Line.f k a0 a1 = some r) :
 Calls Try.prog 48 #[.int .u32 a0, .int .u32 a1] w fun e w' => e = .returned (.string r) ∧ Below w.heap.size w w' := by
 have hu120 := Try.underlying120
 have HB := mK (Below.refl w.heap.size w)
 have H : ((word_Hex.f a0).bind fun t240 => (if t240.size + 1 ≤ 9223372036854775807 then ((word_Hex.f a1).bind fun t241 => (if (t240 ++ (⟨#[32]⟩ : ByteArray)).size + t241.size ≤ 9223372036854775807 then (if ((t240 ++ (⟨#[32]⟩ : ByteArray)) ++ t241).size + 1 ≤ 9223372036854775807 then ((instr_Decode.f k a1).bind fun bt242 => (if bt242.2.2.2.2.2 = 0 then ((instr_Text.f k bt242.1 bt242.2.1 bt242.2.2.1 bt242.2.2.2.1 bt242.2.2.2.2.1).bind fun bt249 => (if (((t240 ++ (⟨#[32]⟩ : ByteArray)) ++ t241) ++ (⟨#[32]⟩ : ByteArray)).size + bt249.1.size ≤ 9223372036854775807 then ((listing_Target.f a0 bt242.1 bt242.2.1 bt242.2.2.1 bt242.2.2.2.1 bt242.2.2.2.2.1).bind fun bt251 => (if bt251.2 = true then ((word_Hex.f bt251.1).bind fun t253 => (if 4 + t253.size ≤ 9223372036854775807 then (if ((((t240 ++ (⟨#[32]⟩ : ByteArray)) ++ t241) ++ (⟨#[32]⟩ : ByteArray)) ++ bt249.1).size + ((⟨#[32, 45, 62, 32]⟩ : ByteArray) ++ t253).size ≤ 9223372036854775807 then (some (((((t240 ++ (⟨#[32]⟩ : ByteArray)) ++ t241) ++ (⟨#[32]⟩ : ByteArray)) ++ bt249.1) ++ ((⟨#[32, 45, 62, 32]⟩ : ByteArray) ++ t253))) else (none)) else (none))) else (some ((((t240 ++ (⟨#[32]⟩ : ByteArray)) ++ t241) ++ (⟨#[32]⟩ : ByteArray)) ++ bt249.1)))) else (none))) else (if (((t240 ++ (⟨#[32]⟩ : ByteArray)) ++ t241) ++ (⟨#[32]⟩ : ByteArray)).size + 1 ≤ 9223372036854775807 then (some ((((t240 ++ (⟨#[32]⟩ : ByteArray)) ++ t241) ++ (⟨#[32]⟩ : ByteArray)) ++ (⟨#[63]⟩ : ByteArray))) else (none)))) else (none)) else (none))) else (none))) = some r := h
 clear h
 replace H := oB H
 obtain ⟨t240, A30, H⟩ := H
 replace H : (if t240.size + 1 ≤ 9223372036854775807 then ((word_Hex.f a1).bind fun t241 => (if (t240 ++ (⟨#[32]⟩ : ByteArray)).size + t241.size ≤ 9223372036854775807 then (if ((t240 ++ (⟨#[32]⟩ : ByteArray)) ++ t241).size + 1 ≤ 9223372036854775807 then ((instr_Decode.f k a1).bind fun bt242 => (if bt242.2.2.2.2.2 = 0 then ((instr_Text.f k bt242.1 bt242.2.1 bt242.2.2.1 bt242.2.2.2.1 bt242.2.2.2.2.1).bind fun bt249 => (if (((t240 ++ (⟨#[32]⟩ : ByteArray)) ++ t241) ++ (⟨#[32]⟩ : ByteArray)).size + bt249.1.size ≤ 9223372036854775807 then ((listing_Target.f a0 bt242.1 bt242.2.1 bt242.2.2.1 bt242.2.2.2.1 bt242.2.2.2.2.1).bind fun bt251 => (if bt251.2 = true then ((word_Hex.f bt251.1).bind fun t253 => (if 4 + t253.size ≤ 9223372036854775807 then (if ((((t240 ++ (⟨#[32]⟩ : ByteArray)) ++ t241) ++ (⟨#[32]⟩ : ByteArray)) ++ bt249.1).size + ((⟨#[32, 45, 62, 32]⟩ : ByteArray) ++ t253).size ≤ 9223372036854775807 then (some (((((t240 ++ (⟨#[32]⟩ : ByteArray)) ++ t241) ++ (⟨#[32]⟩ : ByteArray)) ++ bt249.1) ++ ((⟨#[32, 45, 62, 32]⟩ : ByteArray) ++ t253))) else (none)) else (none))) else (some ((((t240 ++ (⟨#[32]⟩ : ByteArray)) ++ t241) ++ (⟨#[32]⟩ : ByteArray)) ++ bt249.1)))) else (none))) else (if (((t240 ++ (⟨#[32]⟩ : ByteArray)) ++ t241) ++ (⟨#[32]⟩ : ByteArray)).size + 1 ≤ 9223372036854775807 then (some ((((t240 ++ (⟨#[32]⟩ : ByteArray)) ++ t241) ++ (⟨#[32]⟩ : ByteArray)) ++ (⟨#[63]⟩ : ByteArray))) else (none)))) else (none)) else (none))) else (none)) = some r := H
 have A3 := mK A30
 clear A30
 by_cases c4 : t240.size + 1 ≤ 9223372036854775807
 ·
  rw [if_pos c4] at H
  have c4b0 := eq_true c4
  have c4b1 : decide (t240.size + 1 ≤ 9223372036854775807) = true := decide_eq_true c4
  try have c4b2 : (9223372036854775807 < t240.size + 1) = False := eq_false (Nat.not_lt.2 c4)
  try (have c4s2 := c4b2; simp only [ByteArray.size_append, Go.Proofs.Ytmebogkhdbbbbaa.C.ba_lit, List.size_toArray, List.length_cons, List.length_nil, Nat.zero_add, Nat.reduceAdd] at c4s2)
  replace H := oB H
  obtain ⟨t241, A50, H⟩ := H
  replace H : (if (t240 ++ (⟨#[32]⟩ : ByteArray)).size + t241.size ≤ 9223372036854775807 then (if ((t240 ++ (⟨#[32]⟩ : ByteArray)) ++ t241).size + 1 ≤ 9223372036854775807 then ((instr_Decode.f k a1).bind fun bt242 => (if bt242.2.2.2.2.2 = 0 then ((instr_Text.f k bt242.1 bt242.2.1 bt242.2.2.1 bt242.2.2.2.1 bt242.2.2.2.2.1).bind fun bt249 => (if (((t240 ++ (⟨#[32]⟩ : ByteArray)) ++ t241) ++ (⟨#[32]⟩ : ByteArray)).size + bt249.1.size ≤ 9223372036854775807 then ((listing_Target.f a0 bt242.1 bt242.2.1 bt242.2.2.1 bt242.2.2.2.1 bt242.2.2.2.2.1).bind fun bt251 => (if bt251.2 = true then ((word_Hex.f bt251.1).bind fun t253 => (if 4 + t253.size ≤ 9223372036854775807 then (if ((((t240 ++ (⟨#[32]⟩ : ByteArray)) ++ t241) ++ (⟨#[32]⟩ : ByteArray)) ++ bt249.1).size + ((⟨#[32, 45, 62, 32]⟩ : ByteArray) ++ t253).size ≤ 9223372036854775807 then (some (((((t240 ++ (⟨#[32]⟩ : ByteArray)) ++ t241) ++ (⟨#[32]⟩ : ByteArray)) ++ bt249.1) ++ ((⟨#[32, 45, 62, 32]⟩ : ByteArray) ++ t253))) else (none)) else (none))) else (some ((((t240 ++ (⟨#[32]⟩ : ByteArray)) ++ t241) ++ (⟨#[32]⟩ : ByteArray)) ++ bt249.1)))) else (none))) else (if (((t240 ++ (⟨#[32]⟩ : ByteArray)) ++ t241) ++ (⟨#[32]⟩ : ByteArray)).size + 1 ≤ 9223372036854775807 then (some ((((t240 ++ (⟨#[32]⟩ : ByteArray)) ++ t241) ++ (⟨#[32]⟩ : ByteArray)) ++ (⟨#[63]⟩ : ByteArray))) else (none)))) else (none)) else (none)) = some r := H
  have A5 := mK A50
  clear A50
  by_cases c6 : (t240 ++ (⟨#[32]⟩ : ByteArray)).size + t241.size ≤ 9223372036854775807
  ·
   rw [if_pos c6] at H
   have c6b0 := eq_true c6
   have c6b1 : decide ((t240 ++ (⟨#[32]⟩ : ByteArray)).size + t241.size ≤ 9223372036854775807) = true := decide_eq_true c6
   try have c6b2 : (9223372036854775807 < (t240 ++ (⟨#[32]⟩ : ByteArray)).size + t241.size) = False := eq_false (Nat.not_lt.2 c6)
   try (have c6s2 := c6b2; simp only [ByteArray.size_append, Go.Proofs.Ytmebogkhdbbbbaa.C.ba_lit, List.size_toArray, List.length_cons, List.length_nil, Nat.zero_add, Nat.reduceAdd] at c6s2)
   by_cases c7 : ((t240 ++ (⟨#[32]⟩ : ByteArray)) ++ t241).size + 1 ≤ 9223372036854775807
   ·
    rw [if_pos c7] at H
    have c7b0 := eq_true c7
    have c7b1 : decide (((t240 ++ (⟨#[32]⟩ : ByteArray)) ++ t241).size + 1 ≤ 9223372036854775807) = true := decide_eq_true c7
    try have c7b2 : (9223372036854775807 < ((t240 ++ (⟨#[32]⟩ : ByteArray)) ++ t241).size + 1) = False := eq_false (Nat.not_lt.2 c7)
    try (have c7s2 := c7b2; simp only [ByteArray.size_append, Go.Proofs.Ytmebogkhdbbbbaa.C.ba_lit, List.size_toArray, List.length_cons, List.length_nil, Nat.zero_add, Nat.reduceAdd] at c7s2)
    replace H := oB H
    obtain ⟨⟨t242, t243, t244, t245, t246, t247⟩, A80, H⟩ := H
    replace H : (if t247 = 0 then ((instr_Text.f k t242 t243 t244 t245 t246).bind fun bt249 => (if (((t240 ++ (⟨#[32]⟩ : ByteArray)) ++ t241) ++ (⟨#[32]⟩ : ByteArray)).size + bt249.1.size ≤ 9223372036854775807 then ((listing_Target.f a0 t242 t243 t244 t245 t246).bind fun bt251 => (if bt251.2 = true then ((word_Hex.f bt251.1).bind fun t253 => (if 4 + t253.size ≤ 9223372036854775807 then (if ((((t240 ++ (⟨#[32]⟩ : ByteArray)) ++ t241) ++ (⟨#[32]⟩ : ByteArray)) ++ bt249.1).size + ((⟨#[32, 45, 62, 32]⟩ : ByteArray) ++ t253).size ≤ 9223372036854775807 then (some (((((t240 ++ (⟨#[32]⟩ : ByteArray)) ++ t241) ++ (⟨#[32]⟩ : ByteArray)) ++ bt249.1) ++ ((⟨#[32, 45, 62, 32]⟩ : ByteArray) ++ t253))) else (none)) else (none))) else (some ((((t240 ++ (⟨#[32]⟩ : ByteArray)) ++ t241) ++ (⟨#[32]⟩ : ByteArray)) ++ bt249.1)))) else (none))) else (if (((t240 ++ (⟨#[32]⟩ : ByteArray)) ++ t241) ++ (⟨#[32]⟩ : ByteArray)).size + 1 ≤ 9223372036854775807 then (some ((((t240 ++ (⟨#[32]⟩ : ByteArray)) ++ t241) ++ (⟨#[32]⟩ : ByteArray)) ++ (⟨#[63]⟩ : ByteArray))) else (none))) = some r := H
    have A8 := mK A80
    clear A80
    by_cases c9 : t247 = 0
    ·
     rw [if_pos c9] at H
     have c9b0 : (t247 == 0) = true := beq_iff_eq.mpr c9
     have c9b1 : (t247 != 0) = false := bR c9
     clear c9
     replace H := oB H
     obtain ⟨⟨t249, t250⟩, A100, H⟩ := H
     replace H : (if (((t240 ++ (⟨#[32]⟩ : ByteArray)) ++ t241) ++ (⟨#[32]⟩ : ByteArray)).size + t249.size ≤ 9223372036854775807 then ((listing_Target.f a0 t242 t243 t244 t245 t246).bind fun bt251 => (if bt251.2 = true then ((word_Hex.f bt251.1).bind fun t253 => (if 4 + t253.size ≤ 9223372036854775807 then (if ((((t240 ++ (⟨#[32]⟩ : ByteArray)) ++ t241) ++ (⟨#[32]⟩ : ByteArray)) ++ t249).size + ((⟨#[32, 45, 62, 32]⟩ : ByteArray) ++ t253).size ≤ 9223372036854775807 then (some (((((t240 ++ (⟨#[32]⟩ : ByteArray)) ++ t241) ++ (⟨#[32]⟩ : ByteArray)) ++ t249) ++ ((⟨#[32, 45, 62, 32]⟩ : ByteArray) ++ t253))) else (none)) else (none))) else (some ((((t240 ++ (⟨#[32]⟩ : ByteArray)) ++ t241) ++ (⟨#[32]⟩ : ByteArray)) ++ t249)))) else (none)) = some r := H
     have A10 := mK A100
     clear A100
     by_cases c11 : (((t240 ++ (⟨#[32]⟩ : ByteArray)) ++ t241) ++ (⟨#[32]⟩ : ByteArray)).size + t249.size ≤ 9223372036854775807
     ·
      rw [if_pos c11] at H
      have c11b0 := eq_true c11
      have c11b1 : decide ((((t240 ++ (⟨#[32]⟩ : ByteArray)) ++ t241) ++ (⟨#[32]⟩ : ByteArray)).size + t249.size ≤ 9223372036854775807) = true := decide_eq_true c11
      try have c11b2 : (9223372036854775807 < (((t240 ++ (⟨#[32]⟩ : ByteArray)) ++ t241) ++ (⟨#[32]⟩ : ByteArray)).size + t249.size) = False := eq_false (Nat.not_lt.2 c11)
      try (have c11s2 := c11b2; simp only [ByteArray.size_append, Go.Proofs.Ytmebogkhdbbbbaa.C.ba_lit, List.size_toArray, List.length_cons, List.length_nil, Nat.zero_add, Nat.reduceAdd] at c11s2)
      replace H := oB H
      obtain ⟨⟨t251, t252⟩, A120, H⟩ := H
      replace H : (if t252 = true then ((word_Hex.f t251).bind fun t253 => (if 4 + t253.size ≤ 9223372036854775807 then (if ((((t240 ++ (⟨#[32]⟩ : ByteArray)) ++ t241) ++ (⟨#[32]⟩ : ByteArray)) ++ t249).size + ((⟨#[32, 45, 62, 32]⟩ : ByteArray) ++ t253).size ≤ 9223372036854775807 then (some (((((t240 ++ (⟨#[32]⟩ : ByteArray)) ++ t241) ++ (⟨#[32]⟩ : ByteArray)) ++ t249) ++ ((⟨#[32, 45, 62, 32]⟩ : ByteArray) ++ t253))) else (none)) else (none))) else (some ((((t240 ++ (⟨#[32]⟩ : ByteArray)) ++ t241) ++ (⟨#[32]⟩ : ByteArray)) ++ t249))) = some r := H
      have A12 := mK A120
      clear A120
      by_cases c13 : t252 = true
      ·
       subst c13
       have H1 : ((word_Hex.f t251).bind fun t253 => (if 4 + t253.size ≤ 9223372036854775807 then (if ((((t240 ++ (⟨#[32]⟩ : ByteArray)) ++ t241) ++ (⟨#[32]⟩ : ByteArray)) ++ t249).size + ((⟨#[32, 45, 62, 32]⟩ : ByteArray) ++ t253).size ≤ 9223372036854775807 then (some (((((t240 ++ (⟨#[32]⟩ : ByteArray)) ++ t241) ++ (⟨#[32]⟩ : ByteArray)) ++ t249) ++ ((⟨#[32, 45, 62, 32]⟩ : ByteArray) ++ t253))) else (none)) else (none))) = some r := by rw [if_pos rfl] at H; exact H
       clear H
       have H := H1
       clear H1
       replace H := oB H
       obtain ⟨t253, A140, H⟩ := H
       replace H : (if 4 + t253.size ≤ 9223372036854775807 then (if ((((t240 ++ (⟨#[32]⟩ : ByteArray)) ++ t241) ++ (⟨#[32]⟩ : ByteArray)) ++ t249).size + ((⟨#[32, 45, 62, 32]⟩ : ByteArray) ++ t253).size ≤ 9223372036854775807 then (some (((((t240 ++ (⟨#[32]⟩ : ByteArray)) ++ t241) ++ (⟨#[32]⟩ : ByteArray)) ++ t249) ++ ((⟨#[32, 45, 62, 32]⟩ : ByteArray) ++ t253))) else (none)) else (none)) = some r := H
       have A14 := mK A140
       clear A140
       by_cases c15 : 4 + t253.size ≤ 9223372036854775807
       ·
        rw [if_pos c15] at H
        have c15b0 := eq_true c15
        have c15b1 : decide (4 + t253.size ≤ 9223372036854775807) = true := decide_eq_true c15
        try have c15b2 : (9223372036854775807 < 4 + t253.size) = False := eq_false (Nat.not_lt.2 c15)
        try (have c15s2 := c15b2; simp only [ByteArray.size_append, Go.Proofs.Ytmebogkhdbbbbaa.C.ba_lit, List.size_toArray, List.length_cons, List.length_nil, Nat.zero_add, Nat.reduceAdd] at c15s2)
        by_cases c16 : ((((t240 ++ (⟨#[32]⟩ : ByteArray)) ++ t241) ++ (⟨#[32]⟩ : ByteArray)) ++ t249).size + ((⟨#[32, 45, 62, 32]⟩ : ByteArray) ++ t253).size ≤ 9223372036854775807
        ·
         rw [if_pos c16] at H
         have c16b0 := eq_true c16
         have c16b1 : decide (((((t240 ++ (⟨#[32]⟩ : ByteArray)) ++ t241) ++ (⟨#[32]⟩ : ByteArray)) ++ t249).size + ((⟨#[32, 45, 62, 32]⟩ : ByteArray) ++ t253).size ≤ 9223372036854775807) = true := decide_eq_true c16
         try have c16b2 : (9223372036854775807 < ((((t240 ++ (⟨#[32]⟩ : ByteArray)) ++ t241) ++ (⟨#[32]⟩ : ByteArray)) ++ t249).size + ((⟨#[32, 45, 62, 32]⟩ : ByteArray) ++ t253).size) = False := eq_false (Nat.not_lt.2 c16)
         try (have c16s2 := c16b2; simp only [ByteArray.size_append, Go.Proofs.Ytmebogkhdbbbbaa.C.ba_lit, List.size_toArray, List.length_cons, List.length_nil, Nat.zero_add, Nat.reduceAdd] at c16s2)
         obtain rfl := Option.some.inj H
         go_enter Try.func48, Try.ntmps48
         go_wp2_with (first | ((with_reducible refine gate_callee (f := 32) rfl ?_); refine goesL_ (some 13) rfl rfl Try.func32 (by kernel_rfl) rfl #[.int .u32 a0] rfl (by (try simp only [List.map_toArray, List.map_cons, List.map_nil]); first | done | rfl) ?_; (with_reducible refine (word_Hex.calls a0 t240 _ A3.out).mono ?_); rintro e w17 ⟨rfl, hb⟩; refine ⟨_, rfl, ?_⟩; have n0_ := mK (bP (by repeat (first | (with_reducible first | exact HB.out | apply bA | apply bN | apply bD) | exact HB.out)) hb); clear HB; have HB := n0_; clear n0_; (try clear hb)) | ((with_reducible refine gate_callee (f := 32) rfl ?_); refine goesL_ (some 16) rfl rfl Try.func32 (by kernel_rfl) rfl #[.int .u32 a1] rfl (by (try simp only [List.map_toArray, List.map_cons, List.map_nil]); first | done | rfl) ?_; (with_reducible refine (word_Hex.calls a1 t241 _ A5.out).mono ?_); rintro e w18 ⟨rfl, hb⟩; refine ⟨_, rfl, ?_⟩; have n0_ := mK (bP (by repeat (first | (with_reducible first | exact HB.out | apply bA | apply bN | apply bD) | exact HB.out)) hb); clear HB; have HB := n0_; clear n0_; (try clear hb)) | ((with_reducible refine gate_callee (f := 56) rfl ?_); refine goesL_ (some 21) rfl rfl Try.func56 (by kernel_rfl) rfl #[.int .u32 a1] rfl (by (try simp only [List.map_toArray, List.map_cons, List.map_nil]); first | done | rfl) ?_; (with_reducible refine (instr_Decode.calls k a1 t242 t243 t244 t245 t246 t247 _ A8.out).mono ?_); rintro e w19 ⟨rfl, hb⟩; refine ⟨_, rfl, ?_⟩; have n0_ := mK (bP (by repeat (first | (with_reducible first | exact HB.out | apply bA | apply bN | apply bD) | exact HB.out)) hb); clear HB; have HB := n0_; clear n0_; (try clear hb)) | ((with_reducible refine gate_dst (N := 6) rfl ?_); refine box_event ?hg (N := 6) ?hd (cs := #[.int .i64 0, .int .i64 0, .int .i64 0, .int .i64 0, .int .i64 0]) (t := 120) ?hr ?_; (case hd => rfl); (case hg => rfl); (case hr => first | (go_simp; done) | (go_simp; rfl)); intro gb248 hg w20 hbox hb; have n0_ := mK (bP (by repeat (first | (with_reducible first | exact HB.out | apply bA | apply bN | apply bD) | exact HB.out)) hb); have n1_ := mK (hbox); have n2_ := mK ((by rw [hg]; exact (bZ (by repeat (first | (with_reducible first | exact HB.out | apply bA | apply bN | apply bD) | exact HB.out))) : w.heap.size ≤ gb248)); have n3_ := mK ((by rw [hg]; exact (bZ (by repeat (first | (with_reducible first | exact HB.out | apply bA | apply bN | apply bD) | exact HB.out))) : w.heap.size ≤ gb248)); clear HB; have HB := n0_; have BK248 := n1_; have GW248 := n2_; have GE248 := n3_; clear n0_ n1_ n2_ n3_; clear hb hbox hg; obtain ⟨hcz21_0, hcz21_1, hcz21_2, hcz21_3, hcz21_4, hfz21_0, hfz21_1, hfz21_2, hfz21_3, hfz21_4⟩ := cf5 BK248.out) | ((with_reducible refine gate_callee (f := 57) rfl ?_); refine goesL_ (some 30) rfl rfl Try.func57 (by kernel_rfl) rfl #[.agg #[.int .i64 t242, .int .i64 t243, .int .i64 t244, .int .i64 t245, .int .i64 t246]] rfl (by (try simp only [List.map_toArray, List.map_cons, List.map_nil]); first | done | rfl) ?_; (with_reducible refine (instr_Text.calls k t242 t243 t244 t245 t246 t249 t250 _ A10.out).mono ?_); rintro e w22 ⟨rfl, hb⟩; refine ⟨_, rfl, ?_⟩; have n0_ := mK (kB (g := gb248) (o := o5 t242 t243 t244 t245 t246 120) (by (with_reducible repeat (first | refine kN ?_ _ | refine kD ?_ | refine kA ?_ _)); refine kP (cs := #[.int .i64 t242, .int .i64 t243, .int .i64 t244, .int .i64 t245, .int .i64 0]) ?_ 4 _ rfl; (with_reducible repeat (first | refine kN ?_ _ | refine kD ?_ | refine kA ?_ _)); refine kP (cs := #[.int .i64 t242, .int .i64 t243, .int .i64 t244, .int .i64 0, .int .i64 0]) ?_ 3 _ rfl; (with_reducible repeat (first | refine kN ?_ _ | refine kD ?_ | refine kA ?_ _)); refine kP (cs := #[.int .i64 t242, .int .i64 t243, .int .i64 0, .int .i64 0, .int .i64 0]) ?_ 2 _ rfl; (with_reducible repeat (first | refine kN ?_ _ | refine kD ?_ | refine kA ?_ _)); refine kP (cs := #[.int .i64 t242, .int .i64 0, .int .i64 0, .int .i64 0, .int .i64 0]) ?_ 1 _ rfl; (with_reducible repeat (first | refine kN ?_ _ | refine kD ?_ | refine kA ?_ _)); refine kP (cs := #[.int .i64 0, .int .i64 0, .int .i64 0, .int .i64 0, .int .i64 0]) ?_ 0 _ rfl; (with_reducible repeat (first | refine kN ?_ _ | refine kD ?_ | refine kA ?_ _)); exact BK248.out) hb); have n1_ := mK (bP (by repeat (first | (with_reducible first | exact HB.out | apply bA | apply bN | apply bD | refine bS ?_ GE248.out) | exact HB.out)) hb); clear BK248; clear HB; have BK248 := n0_; have HB := n1_; clear n0_ n1_; (try clear hb); obtain ⟨hcz23_0, hcz23_1, hcz23_2, hcz23_3, hcz23_4, hfz23_0, hfz23_1, hfz23_2, hfz23_3, hfz23_4⟩ := cf5 BK248.out) | ((with_reducible refine gate_callee (f := 58) rfl ?_); refine goesL_ (some 39) rfl rfl Try.func58 (by kernel_rfl) rfl #[.int .u32 a0, .agg #[.int .i64 t242, .int .i64 t243, .int .i64 t244, .int .i64 t245, .int .i64 t246]] rfl (by (try simp only [List.map_toArray, List.map_cons, List.map_nil]); first | done | rfl) ?_; (with_reducible refine (listing_Target.calls a0 t242 t243 t244 t245 t246 t251 true _ A12.out).mono ?_); rintro e w24 ⟨rfl, hb⟩; refine ⟨_, rfl, ?_⟩; have n0_ := mK (kB (g := gb248) (o := o5 t242 t243 t244 t245 t246 120) (by (with_reducible repeat (first | refine kN ?_ _ | refine kD ?_ | refine kA ?_ _)); exact BK248.out) hb); have n1_ := mK (bP (by repeat (first | (with_reducible first | exact HB.out | apply bA | apply bN | apply bD | refine bS ?_ GE248.out) | exact HB.out)) hb); clear BK248; clear HB; have BK248 := n0_; have HB := n1_; clear n0_ n1_; (try clear hb)) | ((with_reducible refine gate_callee (f := 32) rfl ?_); refine goesL_ (some 45) rfl rfl Try.func32 (by kernel_rfl) rfl #[.int .u32 t251] rfl (by (try simp only [List.map_toArray, List.map_cons, List.map_nil]); first | done | rfl) ?_; (with_reducible refine (word_Hex.calls t251 t253 _ A14.out).mono ?_); rintro e w25 ⟨rfl, hb⟩; refine ⟨_, rfl, ?_⟩; have n0_ := mK (kB (g := gb248) (o := o5 t242 t243 t244 t245 t246 120) (by (with_reducible repeat (first | refine kN ?_ _ | refine kD ?_ | refine kA ?_ _)); exact BK248.out) hb); have n1_ := mK (bP (by repeat (first | (with_reducible first | exact HB.out | apply bA | apply bN | apply bD | refine bS ?_ GE248.out) | exact HB.out)) hb); clear BK248; clear HB; have BK248 := n0_; have HB := n1_; clear n0_ n1_; (try clear hb)))
         go_ret
         exact ⟨by first | rfl | (simp [errW_none, errW_some] <;> rfl) | (simp [*, errW_none, errW_some] <;> rfl), by repeat (first | (with_reducible first | exact HB.out | apply bA | apply bN | apply bD | refine bS ?_ GE248.out) | exact HB.out)⟩
        ·
         rw [if_neg c16] at H
         exact absurd H (by simp)
       ·
        rw [if_neg c15] at H
        exact absurd H (by simp)
      ·
       replace c13 := Bool.eq_false_iff.mpr c13
       subst c13
       have H1 : (some ((((t240 ++ (⟨#[32]⟩ : ByteArray)) ++ t241) ++ (⟨#[32]⟩ : ByteArray)) ++ t249)) = some r := by rw [if_neg (show ¬ (false = true) by decide)] at H; exact H
       clear H
       have H := H1
       clear H1
       obtain rfl := Option.some.inj H
       go_enter Try.func48, Try.ntmps48
       go_wp2_with (first | ((with_reducible refine gate_callee (f := 32) rfl ?_); refine goesL_ (some 13) rfl rfl Try.func32 (by kernel_rfl) rfl #[.int .u32 a0] rfl (by (try simp only [List.map_toArray, List.map_cons, List.map_nil]); first | done | rfl) ?_; (with_reducible refine (word_Hex.calls a0 t240 _ A3.out).mono ?_); rintro e w26 ⟨rfl, hb⟩; refine ⟨_, rfl, ?_⟩; have n0_ := mK (bP (by repeat (first | (with_reducible first | exact HB.out | apply bA | apply bN | apply bD) | exact HB.out)) hb); clear HB; have HB := n0_; clear n0_; (try clear hb)) | ((with_reducible refine gate_callee (f := 32) rfl ?_); refine goesL_ (some 16) rfl rfl Try.func32 (by kernel_rfl) rfl #[.int .u32 a1] rfl (by (try simp only [List.map_toArray, List.map_cons, List.map_nil]); first | done | rfl) ?_; (with_reducible refine (word_Hex.calls a1 t241 _ A5.out).mono ?_); rintro e w27 ⟨rfl, hb⟩; refine ⟨_, rfl, ?_⟩; have n0_ := mK (bP (by repeat (first | (with_reducible first | exact HB.out | apply bA | apply bN | apply bD) | exact HB.out)) hb); clear HB; have HB := n0_; clear n0_; (try clear hb)) | ((with_reducible refine gate_callee (f := 56) rfl ?_); refine goesL_ (some 21) rfl rfl Try.func56 (by kernel_rfl) rfl #[.int .u32 a1] rfl (by (try simp only [List.map_toArray, List.map_cons, List.map_nil]); first | done | rfl) ?_; (with_reducible refine (instr_Decode.calls k a1 t242 t243 t244 t245 t246 t247 _ A8.out).mono ?_); rintro e w28 ⟨rfl, hb⟩; refine ⟨_, rfl, ?_⟩; have n0_ := mK (bP (by repeat (first | (with_reducible first | exact HB.out | apply bA | apply bN | apply bD) | exact HB.out)) hb); clear HB; have HB := n0_; clear n0_; (try clear hb)) | ((with_reducible refine gate_dst (N := 6) rfl ?_); refine box_event ?hg (N := 6) ?hd (cs := #[.int .i64 0, .int .i64 0, .int .i64 0, .int .i64 0, .int .i64 0]) (t := 120) ?hr ?_; (case hd => rfl); (case hg => rfl); (case hr => first | (go_simp; done) | (go_simp; rfl)); intro gb248 hg w29 hbox hb; have n0_ := mK (bP (by repeat (first | (with_reducible first | exact HB.out | apply bA | apply bN | apply bD) | exact HB.out)) hb); have n1_ := mK (hbox); have n2_ := mK ((by rw [hg]; exact (bZ (by repeat (first | (with_reducible first | exact HB.out | apply bA | apply bN | apply bD) | exact HB.out))) : w.heap.size ≤ gb248)); have n3_ := mK ((by rw [hg]; exact (bZ (by repeat (first | (with_reducible first | exact HB.out | apply bA | apply bN | apply bD) | exact HB.out))) : w.heap.size ≤ gb248)); clear HB; have HB := n0_; have BK248 := n1_; have GW248 := n2_; have GE248 := n3_; clear n0_ n1_ n2_ n3_; clear hb hbox hg; obtain ⟨hcz30_0, hcz30_1, hcz30_2, hcz30_3, hcz30_4, hfz30_0, hfz30_1, hfz30_2, hfz30_3, hfz30_4⟩ := cf5 BK248.out) | ((with_reducible refine gate_callee (f := 57) rfl ?_); refine goesL_ (some 30) rfl rfl Try.func57 (by kernel_rfl) rfl #[.agg #[.int .i64 t242, .int .i64 t243, .int .i64 t244, .int .i64 t245, .int .i64 t246]] rfl (by (try simp only [List.map_toArray, List.map_cons, List.map_nil]); first | done | rfl) ?_; (with_reducible refine (instr_Text.calls k t242 t243 t244 t245 t246 t249 t250 _ A10.out).mono ?_); rintro e w31 ⟨rfl, hb⟩; refine ⟨_, rfl, ?_⟩; have n0_ := mK (kB (g := gb248) (o := o5 t242 t243 t244 t245 t246 120) (by (with_reducible repeat (first | refine kN ?_ _ | refine kD ?_ | refine kA ?_ _)); refine kP (cs := #[.int .i64 t242, .int .i64 t243, .int .i64 t244, .int .i64 t245, .int .i64 0]) ?_ 4 _ rfl; (with_reducible repeat (first | refine kN ?_ _ | refine kD ?_ | refine kA ?_ _)); refine kP (cs := #[.int .i64 t242, .int .i64 t243, .int .i64 t244, .int .i64 0, .int .i64 0]) ?_ 3 _ rfl; (with_reducible repeat (first | refine kN ?_ _ | refine kD ?_ | refine kA ?_ _)); refine kP (cs := #[.int .i64 t242, .int .i64 t243, .int .i64 0, .int .i64 0, .int .i64 0]) ?_ 2 _ rfl; (with_reducible repeat (first | refine kN ?_ _ | refine kD ?_ | refine kA ?_ _)); refine kP (cs := #[.int .i64 t242, .int .i64 0, .int .i64 0, .int .i64 0, .int .i64 0]) ?_ 1 _ rfl; (with_reducible repeat (first | refine kN ?_ _ | refine kD ?_ | refine kA ?_ _)); refine kP (cs := #[.int .i64 0, .int .i64 0, .int .i64 0, .int .i64 0, .int .i64 0]) ?_ 0 _ rfl; (with_reducible repeat (first | refine kN ?_ _ | refine kD ?_ | refine kA ?_ _)); exact BK248.out) hb); have n1_ := mK (bP (by repeat (first | (with_reducible first | exact HB.out | apply bA | apply bN | apply bD | refine bS ?_ GE248.out) | exact HB.out)) hb); clear BK248; clear HB; have BK248 := n0_; have HB := n1_; clear n0_ n1_; (try clear hb); obtain ⟨hcz32_0, hcz32_1, hcz32_2, hcz32_3, hcz32_4, hfz32_0, hfz32_1, hfz32_2, hfz32_3, hfz32_4⟩ := cf5 BK248.out) | ((with_reducible refine gate_callee (f := 58) rfl ?_); refine goesL_ (some 39) rfl rfl Try.func58 (by kernel_rfl) rfl #[.int .u32 a0, .agg #[.int .i64 t242, .int .i64 t243, .int .i64 t244, .int .i64 t245, .int .i64 t246]] rfl (by (try simp only [List.map_toArray, List.map_cons, List.map_nil]); first | done | rfl) ?_; (with_reducible refine (listing_Target.calls a0 t242 t243 t244 t245 t246 t251 false _ A12.out).mono ?_); rintro e w33 ⟨rfl, hb⟩; refine ⟨_, rfl, ?_⟩; have n0_ := mK (kB (g := gb248) (o := o5 t242 t243 t244 t245 t246 120) (by (with_reducible repeat (first | refine kN ?_ _ | refine kD ?_ | refine kA ?_ _)); exact BK248.out) hb); have n1_ := mK (bP (by repeat (first | (with_reducible first | exact HB.out | apply bA | apply bN | apply bD | refine bS ?_ GE248.out) | exact HB.out)) hb); clear BK248; clear HB; have BK248 := n0_; have HB := n1_; clear n0_ n1_; (try clear hb)))
       go_ret
       exact ⟨by first | rfl | (simp [errW_none, errW_some] <;> rfl) | (simp [*, errW_none, errW_some] <;> rfl), by repeat (first | (with_reducible first | exact HB.out | apply bA | apply bN | apply bD | refine bS ?_ GE248.out) | exact HB.out)⟩
     ·
      rw [if_neg c11] at H
      exact absurd H (by simp)
    ·
     rw [if_neg c9] at H
     have c9b0 : (t247 == 0) = false := bQ c9
     have c9b1 : (t247 != 0) = true := bne_iff_ne.mpr c9
     by_cases c34 : (((t240 ++ (⟨#[32]⟩ : ByteArray)) ++ t241) ++ (⟨#[32]⟩ : ByteArray)).size + 1 ≤ 9223372036854775807
     ·
      rw [if_pos c34] at H
      have c34b0 := eq_true c34
      have c34b1 : decide ((((t240 ++ (⟨#[32]⟩ : ByteArray)) ++ t241) ++ (⟨#[32]⟩ : ByteArray)).size + 1 ≤ 9223372036854775807) = true := decide_eq_true c34
      try have c34b2 : (9223372036854775807 < (((t240 ++ (⟨#[32]⟩ : ByteArray)) ++ t241) ++ (⟨#[32]⟩ : ByteArray)).size + 1) = False := eq_false (Nat.not_lt.2 c34)
      try (have c34s2 := c34b2; simp only [ByteArray.size_append, Go.Proofs.Ytmebogkhdbbbbaa.C.ba_lit, List.size_toArray, List.length_cons, List.length_nil, Nat.zero_add, Nat.reduceAdd] at c34s2)
      obtain rfl := Option.some.inj H
      go_enter Try.func48, Try.ntmps48
      go_wp2_with (first | ((with_reducible refine gate_callee (f := 32) rfl ?_); refine goesL_ (some 13) rfl rfl Try.func32 (by kernel_rfl) rfl #[.int .u32 a0] rfl (by (try simp only [List.map_toArray, List.map_cons, List.map_nil]); first | done | rfl) ?_; (with_reducible refine (word_Hex.calls a0 t240 _ A3.out).mono ?_); rintro e w35 ⟨rfl, hb⟩; refine ⟨_, rfl, ?_⟩; have n0_ := mK (bP (by repeat (first | (with_reducible first | exact HB.out | apply bA | apply bN | apply bD) | exact HB.out)) hb); clear HB; have HB := n0_; clear n0_; (try clear hb)) | ((with_reducible refine gate_callee (f := 32) rfl ?_); refine goesL_ (some 16) rfl rfl Try.func32 (by kernel_rfl) rfl #[.int .u32 a1] rfl (by (try simp only [List.map_toArray, List.map_cons, List.map_nil]); first | done | rfl) ?_; (with_reducible refine (word_Hex.calls a1 t241 _ A5.out).mono ?_); rintro e w36 ⟨rfl, hb⟩; refine ⟨_, rfl, ?_⟩; have n0_ := mK (bP (by repeat (first | (with_reducible first | exact HB.out | apply bA | apply bN | apply bD) | exact HB.out)) hb); clear HB; have HB := n0_; clear n0_; (try clear hb)) | ((with_reducible refine gate_callee (f := 56) rfl ?_); refine goesL_ (some 21) rfl rfl Try.func56 (by kernel_rfl) rfl #[.int .u32 a1] rfl (by (try simp only [List.map_toArray, List.map_cons, List.map_nil]); first | done | rfl) ?_; (with_reducible refine (instr_Decode.calls k a1 t242 t243 t244 t245 t246 t247 _ A8.out).mono ?_); rintro e w37 ⟨rfl, hb⟩; refine ⟨_, rfl, ?_⟩; have n0_ := mK (bP (by repeat (first | (with_reducible first | exact HB.out | apply bA | apply bN | apply bD) | exact HB.out)) hb); clear HB; have HB := n0_; clear n0_; (try clear hb)) | ((with_reducible refine gate_dst (N := 6) rfl ?_); refine box_event ?hg (N := 6) ?hd (cs := #[.int .i64 0, .int .i64 0, .int .i64 0, .int .i64 0, .int .i64 0]) (t := 120) ?hr ?_; (case hd => rfl); (case hg => rfl); (case hr => first | (go_simp; done) | (go_simp; rfl)); intro gb248 hg w38 hbox hb; have n0_ := mK (bP (by repeat (first | (with_reducible first | exact HB.out | apply bA | apply bN | apply bD) | exact HB.out)) hb); have n1_ := mK (hbox); have n2_ := mK ((by rw [hg]; exact (bZ (by repeat (first | (with_reducible first | exact HB.out | apply bA | apply bN | apply bD) | exact HB.out))) : w.heap.size ≤ gb248)); have n3_ := mK ((by rw [hg]; exact (bZ (by repeat (first | (with_reducible first | exact HB.out | apply bA | apply bN | apply bD) | exact HB.out))) : w.heap.size ≤ gb248)); clear HB; have HB := n0_; have BK248 := n1_; have GW248 := n2_; have GE248 := n3_; clear n0_ n1_ n2_ n3_; clear hb hbox hg; obtain ⟨hcz39_0, hcz39_1, hcz39_2, hcz39_3, hcz39_4, hfz39_0, hfz39_1, hfz39_2, hfz39_3, hfz39_4⟩ := cf5 BK248.out))
      go_ret
      exact ⟨by first | rfl | (simp [errW_none, errW_some] <;> rfl) | (simp [*, errW_none, errW_some] <;> rfl), by repeat (first | (with_reducible first | exact HB.out | apply bA | apply bN | apply bD | refine bS ?_ GE248.out) | exact HB.out)⟩
     ·
      rw [if_neg c34] at H
      exact absurd H (by simp)
   ·
    rw [if_neg c7] at H
    exact absurd H (by simp)
  ·
   rw [if_neg c6] at H
   exact absurd H (by simp)
 ·
  rw [if_neg c4] at H
  exact absurd H (by simp)


/-! ### listing_Print: function 34 -/
theorem sb_sized : (Try.prog.info? 81).map (·.size) = some 2 := by kernel_rfl
theorem sb_lies : liesAt Try.prog Try.prog.depth 81 (2 / Try.prog.cellsOf 81) 0 81 1 = true := by kernel_rfl
theorem sb_info : (Try.prog.info? 5).map (fun i => (i.zero, i.size, i.bytes)) = some (some (.int .u8 0), 1, 1) := by kernel_rfl
set_option maxHeartbeats 1000000 in
set_option maxRecDepth 100000 in
theorem sb_check_used (b : Nat) (w : World) (h0 : w.cell? ⟨b, 0, none⟩ = some (.pointer (some ⟨b, 0, none⟩))) :
 Calls Try.prog 39 #[.pointer (some ⟨b, 0, none⟩)] w fun e w' => e = .returned (.tuple #[]) ∧ w' = w := by
 obtain ⟨j, hj, _⟩ := Option.map_eq_some_iff.1 sb_sized
 go_enter Try.func39, Try.ntmps39
 go_wp2
 rw [Lib.run_neq_ptr_same w _ Try.underlying78 hj]
 go_wp2
 go_end0
 exact ⟨rfl, rfl⟩
set_option maxHeartbeats 1000000 in
set_option maxRecDepth 100000 in
theorem sb_check_fresh (b : Nat) (w : World) (h0 : w.cell? ⟨b, 0, none⟩ = some (.pointer none)) (hsh : w.shape? b = some (81, 2)) (hfz : w.frozen? ⟨b, 0, none⟩ = false) :
 Calls Try.prog 39 #[.pointer (some ⟨b, 0, none⟩)] w fun e w' => e = .returned (.tuple #[]) ∧ w' = w.setCell ⟨b, 0, none⟩ (.pointer (some ⟨b, 0, none⟩)) := by
 obtain ⟨j, hj, hjs⟩ := Option.map_eq_some_iff.1 sb_sized
 go_enter Try.func39, Try.ntmps39
 go_wp2
 rw [Lib.run_to_unsafe w ⟨b, 0, none⟩ Try.underlying78 Try.underlying110 hj (by rw [hjs]; decide) hsh (Nat.zero_lt_succ 1)]
 simp only [Result.andThen]
 rw [Oper.upon_value]
 go_wp2
 rw [run_callFunc_extern Try.func46 (by kernel_rfl) (by kernel_rfl) (by kernel_rfl) (e := Extern.AbiNoEscape.same) (by kernel_rfl)]
 rw [Lib.run_noEscape]
 simp only [Result.andThen]
 rw [Oper.upon_value]
 go_wp2
 rw [Lib.run_from_unsafe w ⟨b, 0, none⟩ Try.underlying110 Try.underlying78 hj hsh sb_lies]
 simp only [Result.andThen]
 rw [Oper.upon_value]
 go_wp2
 go_end0
 exact ⟨rfl, rfl⟩
theorem sb_check (B b : Nat) (bs : List Value) (w : World) (h : Lib.IsBuilderF 81 5 B b bs w) :
 Calls Try.prog 39 #[.pointer (some ⟨b, 0, none⟩)] w fun e w' => e = .returned (.tuple #[]) ∧ Lib.BuilderAtF 81 5 B b (.pointer (some ⟨b, 0, none⟩)) bs w' ∧ Below B w w' ∧ Lib.OthersKept 5 (some b) w w' := by
 rcases h with h | h
 ·
  refine (sb_check_fresh b w h.cell0 h.shape h.frozen0).mono ?_
  rintro e w' ⟨rfl, rfl⟩
  exact ⟨rfl, h.used _, (Below.refl B w).setCell (p := ⟨b, 0, none⟩) h.1 _, (Lib.OthersKept.refl _ _ w).setCell ⟨b, 0, none⟩ rfl _⟩
 ·
  refine (sb_check_used b w h.cell0).mono ?_
  rintro e w' ⟨rfl, rfl⟩
  exact ⟨rfl, h, Below.refl B _, Lib.OthersKept.refl _ _ _⟩
set_option maxHeartbeats 2000000 in
set_option maxRecDepth 100000 in
theorem sb_byte (B b : Nat) (bs : List Value) (c : Int) (w : World) (h : Lib.IsBuilderF 81 5 B b bs w) (hlen : bs.length + 1 ≤ 140737488355328) (hBw : B ≤ w.heap.size) :
 Calls Try.prog 41 #[.pointer (some ⟨b, 0, none⟩), .int .u8 c] w fun e w' => e = .returned .nilIface ∧ (Lib.BuilderAtF 81 5 B b (.pointer (some ⟨b, 0, none⟩)) (bs ++ [.int .u8 c]) w' ∧ Below B w w' ∧ Lib.OthersKept 5 (some b) w w') := by
 obtain ⟨i0, hi, hz0, hz1, hz2⟩ := info_parts sb_info
 go_enter Try.func41, Try.ntmps41
 go_wp2_with (go_at_call 39; refine (sb_check B b bs _ h).mono ?_)
 rintro e w1 ⟨rfl, h1, hb1, hk1⟩
 obtain ⟨hB, v, hbk, hown, hne⟩ := h1
 have c0 : w1.cell? ⟨b, 0, none⟩ = some (.pointer (some ⟨b, 0, none⟩)) := by rw [Lib.cell_of_heap hbk]; rfl
 have c1 : w1.cell? ⟨b, 1, none⟩ = some v := by rw [Lib.cell_of_heap hbk]; rfl
 go_wp2_with (at_builtin; refine wpList_append_ownF _ rfl _ _ 79 rfl B 5 i0 (.int .u8 0) 1 1 Try.underlying79 hi hz0 hz1 hz2 rfl (by decide) _ _ _ rfl (hown.alloc _) ⟨w1.heap.size, 0, none⟩ 1 1 [.int .u8 c] rfl rfl ?c1 ?c2 ?c3 ?c4 ?c5 ?_)
 case c1 =>
  intro j u hj
  match j, hj with
  | 0, hj => simp at hj; subst hj; simp [Addr.add]
 case c2 => intro u hu; simp at hu; subst hu; rfl
 case c3 => unfold maxLen; omega
 case c4 => omega
 case c5 => have := hb1.size; simp; omega
 intro v' w2 hown' hgrow _
 have hlt : b < w1.heap.size := blk_lt hbk
 have hb2 : w2.heap[b]? = some (.cells #[.pointer (some ⟨b, 0, none⟩), v] 81 (0, 0)) := by
  rw [hgrow.block b (by simp; omega) (fun e => hne e.symm), Lib.alloc_old w1 _ b hlt]
  exact hbk
 have d0 : w2.cell? ⟨b, 0, none⟩ = some (.pointer (some ⟨b, 0, none⟩)) := by rw [Lib.cell_of_heap hb2]; rfl
 have d1 : w2.cell? ⟨b, 1, none⟩ = some v := by rw [Lib.cell_of_heap hb2]; rfl
 have f1 : w2.frozen? ⟨b, 1, none⟩ = false := Lib.frozen_of_heap hb2 1
 obtain ⟨g, cap, rfl⟩ : ∃ g cap, v' = .slice (some ⟨g, 0, none⟩) (bs.length + 1) cap := by
  rcases hown'.2 with ⟨_, h0⟩ | ⟨g, cap, cur, fz, hv, _⟩
  ·
   omega
  ·
   exact ⟨g, cap, hv⟩
 go_wp2
 go_ret
 refine ⟨rfl, ?_, ?_, ((hk1.alloc _).grown hgrow (Lib.ownsRowF_kind (hown.alloc _))).setCell ⟨b, 1, none⟩ rfl _⟩
 ·
  exact Lib.BuilderAtF.put (T := 81) (e := 5) hB hb2 (bs' := bs ++ [.int .u8 c]) (by simpa using hown') (by decide)
 ·
  exact ((hb1.alloc (by have := hb1.size; omega) _).grown hgrow (by have := hb1.size; simp; omega) (fun k hk => (hown.lt k hk).1)).setCell (p := ⟨b, 1, none⟩) hB _
set_option maxHeartbeats 2000000 in
set_option maxRecDepth 100000 in
theorem sb_str (B b : Nat) (bs : List Value) (s : ByteArray) (w : World) (h : Lib.IsBuilderF 81 5 B b bs w) (hlen : bs.length + s.size ≤ 140737488355328) (hBw : B ≤ w.heap.size) :
 Calls Try.prog 29 #[.pointer (some ⟨b, 0, none⟩), .string s] w fun e w' => e = .returned (.tuple #[.int .i64 s.size, .nilIface]) ∧ (Lib.BuilderAtF 81 5 B b (.pointer (some ⟨b, 0, none⟩)) (bs ++ Lib.strCells s) w' ∧ Below B w w' ∧ Lib.OthersKept 5 (some b) w w') := by
 obtain ⟨i0, hi, hz0, hz1, hz2⟩ := info_parts sb_info
 go_enter Try.func29, Try.ntmps29
 go_wp2_with (go_at_call 39; refine (sb_check B b bs _ h).mono ?_)
 rintro e w1 ⟨rfl, h1, hb1, hk1⟩
 obtain ⟨hB, v, hbk, hown, hne⟩ := h1
 have c0 : w1.cell? ⟨b, 0, none⟩ = some (.pointer (some ⟨b, 0, none⟩)) := by rw [Lib.cell_of_heap hbk]; rfl
 have c1 : w1.cell? ⟨b, 1, none⟩ = some v := by rw [Lib.cell_of_heap hbk]; rfl
 go_wp2_with (at_builtin; refine Lib.wpList_append_own_stringF _ rfl _ _ 79 9 rfl B 5 i0 Try.underlying79 Try.underlying9 hi hz0 hz1 hz2 _ _ _ rfl hown s rfl ?c3 ?c4 ?c5 ?_)
 case c3 => unfold maxLen; omega
 case c4 => omega
 case c5 => have := hb1.size; omega
 intro v' w2 hown' hgrow _
 have hlt : b < w1.heap.size := blk_lt hbk
 have hb2 : w2.heap[b]? = some (.cells #[.pointer (some ⟨b, 0, none⟩), v] 81 (0, 0)) := by
  rw [hgrow.block b hlt (fun e => hne e.symm)]
  exact hbk
 have d0 : w2.cell? ⟨b, 0, none⟩ = some (.pointer (some ⟨b, 0, none⟩)) := by rw [Lib.cell_of_heap hb2]; rfl
 have d1 : w2.cell? ⟨b, 1, none⟩ = some v := by rw [Lib.cell_of_heap hb2]; rfl
 have f1 : w2.frozen? ⟨b, 1, none⟩ = false := Lib.frozen_of_heap hb2 1
 obtain ⟨ao, n', cap, rfl⟩ : ∃ ao n' cap, v' = .slice ao n' cap := by
  rcases hown'.2 with ⟨hv, _⟩ | ⟨g, cap, cur, fz, hv, _⟩
  ·
   exact ⟨_, _, _, hv⟩
  ·
   exact ⟨_, _, _, hv⟩
 go_wp2
 go_ret2
 refine ⟨rfl, ?_, ?_, (hk1.grown hgrow (Lib.ownsRowF_kind hown)).setCell ⟨b, 1, none⟩ rfl _⟩
 ·
  exact Lib.BuilderAtF.put (T := 81) (e := 5) hB hb2 (bs' := bs ++ Lib.strCells s) (by simpa [Lib.strCells_length] using hown') (by decide)
 ·
  exact (hb1.grown hgrow (by have := hb1.size; omega) (fun k hk => (hown.lt k hk).1)).setCell (p := ⟨b, 1, none⟩) hB _

/-- A line of a listing, short. -/
abbrev LS := { x : ByteArray // x.size ≤ 1000 }
/-- What a round's body keeps: what lay below n₀, and the iterator's two boxes. -/
def KpL (n₀ BL BA : Nat) (W W' : World) : Prop := Below n₀ W W' ∧ (∀ o, W.heap[BL]? = some o → W'.heap[BL]? = some o) ∧ (∀ o, W.heap[BA]? = some o → W'.heap[BA]? = some o)
theorem KpL.refl (n₀ BL BA : Nat) (W : World) : KpL n₀ BL BA W W := ⟨Below.refl _ _, fun _ h => h, fun _ h => h⟩
theorem KpL.trans {n₀ BL BA : Nat} {A B C : World} (h : KpL n₀ BL BA A B) (k : KpL n₀ BL BA B C) : KpL n₀ BL BA A C := ⟨h.1.trans k.1, fun o e => k.2.1 o (h.2.1 o e), fun o e => k.2.2 o (h.2.2 o e)⟩
def lp_at (a0 : Int) (j : Nat) : Int := (a0 + 4 * (j : Int)) % 4294967296
theorem lp_grown {w w' : World} (h : Below w.heap.size w w') : w.grownBy w' none := ⟨h.os, h.tape, h.output, h.size, fun k hk _ => h.block k hk⟩
theorem lp_kp {n₀ BL BA : Nat} {w w' : World} (h : Below w.heap.size w w') (hn : n₀ ≤ w.heap.size) : KpL n₀ BL BA w w' := ⟨h.mono hn, fun o e => (h.block BL (blk_lt e)).trans e, fun o e => (h.block BA (blk_lt e)).trans e⟩
/-- The lines of words from an address on. -/
def lp_lines (k : Nat) (a0 : Int) : List Int → Nat → Option (List ByteArray)
 | [], _ => some []
 | x :: t, j => (listing_Line.f k (lp_at a0 j) x).bind fun s => if s.size ≤ 1000 then (lp_lines k a0 t (j + 1)).bind fun L => some (s :: L) else none
theorem lp_len (k : Nat) (a0 : Int) : ∀ (l : List Int) (j : Nat) (L : List ByteArray), lp_lines k a0 l j = some L → L.length = l.length
 | [], _, L, h => by simp [lp_lines] at h; subst h; rfl
 | x :: t, j, L, h => by
  unfold lp_lines at h
  obtain ⟨s, _, h⟩ := oB h
  split at h
  ·
   obtain ⟨L2, h2, h⟩ := oB h
   injection h with h
   subst h
   simp [lp_len k a0 t (j + 1) L2 h2]
  ·
   cases h
theorem lp_get (k : Nat) (a0 : Int) : ∀ (l : List Int) (j : Nat) (L : List ByteArray), lp_lines k a0 l j = some L → ∀ (i : Nat) (hi : i < l.length), ∃ s, listing_Line.f k (lp_at a0 (j + i)) l[i] = some s ∧ s.size ≤ 1000 ∧ L[i]? = some s
 | [], _, L, h, i, hi => by simp at hi
 | x :: t, j, L, h, i, hi => by
  unfold lp_lines at h
  obtain ⟨s, hs, h⟩ := oB h
  split at h
  ·
   rename_i hsz
   obtain ⟨L2, h2, h⟩ := oB h
   injection h with h
   subst h
   cases i with
   | zero => exact ⟨s, hs, hsz, rfl⟩
   | succ i =>
    obtain ⟨s2, e1, e2, e3⟩ := lp_get k a0 t (j + 1) L2 h2 i (by simpa using hi)
    refine ⟨s2, ?_, e2, by simpa using e3⟩
    rw [show j + (i + 1) = j + 1 + i from by omega]
    simpa using e1
  ·
   cases h
section
attribute [local go_sem] Oper.semAt_some
set_option maxRecDepth 100000 in
set_option maxHeartbeats 2000000 in
theorem lp_iter (n k : Nat) (hn : 1 ≤ n) (a0 : Int) (A1 : Option Addr) (c1 : Nat) (l1 : List Int) (L : List ByteArray) (w0 w : World) (BL BA : Nat) (HC : Aside0 (Kd.C (Kd.int .u32) w0 A1 l1.length l1)) (hlen : l1.length ≤ 1000) (HL : Aside0 (lp_lines k a0 l1 0 = some L))
 (hB : Below w0.heap.size w0 w) (hbl : w.heap[BL]? = some (.cells #[.slice A1 l1.length c1] 35 (0, 0))) (hba : w.heap[BA]? = some (.cells #[.int .u32 a0] 32 (0, 0))) :
 SeqStopsK Fence.wide n Try.prog 47 #[.pointer (some ⟨BL, 0, none⟩), .pointer (some ⟨BA, 0, none⟩)] (fun x : LS => #[.string x.1]) (KpL w0.heap.size BL BA) (fun xs => xs.map (·.1) = L) (fun _ => True) l1.length w := fun l J Jx W hW hJ hJx hY h0 => by
 refine callsIn_of_wp Try.func47 rfl trivial ?_ rfl
 simp only [Try.ntmps47, List.size_toArray, List.length_cons, List.length_nil, Nat.reduceAdd, Nat.reduceSub, Array.replicate_succ, Array.replicate_zero, List.push_toArray, List.append_toArray, List.nil_append, List.cons_append]
 have HBL := mK ((hW.block BL (blk_lt hbl)).trans hbl)
 have HBA := mK ((hW.block BA (blk_lt hba)).trans hba)
 have HW := mK (hB.trans (hW.mono hB.size))
 have cbl : W.cell? ⟨BL, 0, none⟩ = some (.slice A1 l1.length c1) := kC HBL.out 0
 clear hbl hba hB hW
 gi_wp2
 gi_loopw [8] (fun v wr => ∃ (i : Nat) (pre : List LS), v = .int .i64 i ∧ i ≤ l1.length ∧ pre.map (·.1) = L.take i ∧ pre.length = i ∧ J pre wr ∧ KpL w0.heap.size BL BA W wr) (fun v _ => l1.length - (intOf v).toNat)
 case atStart => exact ⟨0, [], rfl, Nat.zero_le _, rfl, rfl, h0, KpL.refl _ _ _ _⟩
 case round =>
  obtain ⟨i, pre, rfl, hi, hpre, hpl, hJs, hk⟩ := hrel
  have HBL2 := mK (hk.2.1 _ HBL.out)
  have HBA2 := mK (hk.2.2 _ HBA.out)
  have HW2 := mK (HW.out.trans hk.1)
  have HK := mK hk
  have HPre := mK hpre
  have HPl := mK hpl
  clear hk hpre hpl cbl
  by_cases hlt : i < l1.length
  ·
   obtain ⟨s, hs, hsz, hget⟩ := lp_get k a0 l1 0 L HL.out i hlt
   have HLn := mK hs
   have HGet := mK hget
   have HSz := mK hsz
   have HJ := mK hJs
   obtain ⟨ad, e, hx⟩ := Kd.at_int HC.out (i : Int) (by omega) (by omega)
   cases e
   have cba : wr.cell? ⟨BA, 0, none⟩ = some (.int .u32 a0) := kC HBA2.out 0
   rw [Int.toNat_natCast, show rd l1 (i : Int) = l1[i] from by unfold rd; simp [hlt]] at hx
   have hx2 := kW HW2.out hx
   have p1 : (0 ≤ (i : Int)) = True := eq_true (by omega)
   have p3 : ((i : Int) < (l1.length : Int)) = True := eq_true (by omega)
   have p4 : decide ((i : Int) < (l1.length : Int)) = true := decide_eq_true (by omega)
   have p5 : decide (i < l1.length) = true := decide_eq_true hlt
   have p7 : (i < l1.length) = True := eq_true hlt
   have hw1 : wrap64 ((i : Int) + 1) = ((i + 1 : Nat) : Int) := by unfold wrap64; omega
   have HLt := mK hlt
   have HY := mK hY
   rw [Nat.zero_add] at hs
   replace HLn := mK (show listing_Line.f k ((a0 + 4 * (i : Int)) % 4294967296) l1[i] = some s from hs)
   generalize l1[i] = x at HLn hx2 hs hx
   clear hs hx hsz hget hJs hlt hY
   gi_wp2_with (first | (refine ⟨trivial, ?_⟩; gi_at_call 48; refine (callsIn_wide.2 (listing_Line.calls k _ _ s _ HLn.out)).mono ?_; rintro e w3 ⟨rfl, hb⟩; obtain ⟨fn, tmps, assign, body, hy, hR⟩ := HY.out pre ⟨s, HSz.out⟩ w3 (hJ _ _ _ none HJ.out (lp_grown hb) (fun r e => by cases e)) (by rw [HPl.out]; exact HLt.out); dsimp only at hy; have HK3 := mK (HK.out.trans (lp_kp (BL := BL) (BA := BA) hb HW2.out.size)); clear hb))
   refine hR.mono ?_
   rintro e W3 (⟨rfl, hJ3, hk3⟩ | ⟨rfl, hJx3⟩)
   ·
    gi_wp2
    go_roundw
    case rel => exact ⟨i + 1, pre ++ [⟨s, HSz.out⟩], by first | rfl | (rw [← hw1]) | simp, by have := HLt.out; omega, by rw [List.map_append, HPre.out, List.take_add_one, HGet.out]; rfl, by rw [List.length_append, HPl.out]; rfl, hJ3, HK3.out.trans hk3⟩
    case measure => have := HLt.out; simp [intOf]; omega
   ·
    gi_wp2
    refine bodyPost_ret (results_none rfl _ _ _) rfl ?_
    exact ⟨⟨_, rfl⟩, .inr ⟨_, trivial, hJx3⟩⟩
  ·
   have e : i = l1.length := by omega
   subst e
   have hp := HPre.out
   rw [List.take_of_length_le (by rw [lp_len k a0 l1 0 L HL.out]; exact Nat.le_refl _)] at hp
   have HPre2 := mK hp
   clear hp
   gi_wp2
   go_end0
   exact ⟨⟨_, rfl⟩, .inl ⟨pre, HPre2.out, hJs⟩⟩
theorem lp_Lines (a0 : Int) (v : Value) (w : World) (hv : ∃ A n c, v = .slice A n c) :
 Calls Try.prog 40 #[.int .u32 a0, v] w fun e w' => e = .returned (.func (.func 47) #[] #[.pointer (some ⟨w.heap.size + 1, 0, none⟩), .pointer (some ⟨w.heap.size, 0, none⟩)]) ∧ w' = (w.alloc (.cells #[.int .u32 a0] 32)).alloc (.cells #[v] 35) := by
 obtain ⟨A, n, c, rfl⟩ := hv
 go_enter Try.func40, Try.ntmps40
 go_wp2
 go_ret
 exact ⟨rfl, rfl⟩
def lp_bytes (L : List ByteArray) : List UInt8 := L.flatMap (fun s => s.data.toList ++ [10])
theorem lp_bytes_snoc (L : List ByteArray) (s : ByteArray) : lp_bytes (L ++ [s]) = lp_bytes L ++ s.data.toList ++ [10] := by unfold lp_bytes; simp
def lp_text (L : List ByteArray) : ByteArray := ⟨(lp_bytes L).toArray⟩
theorem sb_grown {T e B b : Nat} {bs : List Value} {w w' : World} {row : Option Nat} (h : Lib.IsBuilderF T e B b bs w) (hg : w.grownBy w' row) (hr : ∀ r, row = some r → ∃ o : Obj, w.heap[r]? = some o ∧ o.isCells = false) : Lib.IsBuilderF T e B b bs w' := by
 have ne : ∀ k c t f, w.heap[k]? = some (.cells c t f) → some k ≠ row := by
  intro k c t f hk e
  obtain ⟨o, ho, hc⟩ := hr k e.symm
  rw [hk] at ho
  cases ho
  cases hc
 have one : ∀ p, Lib.BuilderAtF T e B b p bs w → Lib.BuilderAtF T e B b p bs w' := by
  intro p ⟨hB, v, hbk, ⟨hl, hown⟩, hne⟩
  refine ⟨hB, v, (hg.block b (blk_lt hbk) (ne _ _ _ _ hbk)).trans hbk, ⟨hl, ?_⟩, hne⟩
  rcases hown with hn | ⟨g, cap, cur, fz, hv, hg2, hgk, rest⟩
  ·
   exact .inl hn
  ·
   exact .inr ⟨g, cap, cur, fz, hv, hg2, (hg.block g (blk_lt hgk) (ne _ _ _ _ hgk)).trans hgk, rest⟩
 rcases h with h | h
 ·
  exact .inl (one _ h)
 ·
  exact .inr (one _ h)
theorem sb_below {T e B b : Nat} {bs : List Value} {w w' : World} (h : Lib.IsBuilderF T e B b bs w) (hb : Below w.heap.size w w') : Lib.IsBuilderF T e B b bs w' := by
 have one : ∀ p, Lib.BuilderAtF T e B b p bs w → Lib.BuilderAtF T e B b p bs w' := by
  intro p ⟨hB, v, hbk, ⟨hl, hown⟩, hne⟩
  refine ⟨hB, v, (hb.block b (blk_lt hbk)).trans hbk, ⟨hl, ?_⟩, hne⟩
  rcases hown with hn | ⟨g, cap, cur, fz, hv, hg, hgk, rest⟩
  ·
   exact .inl hn
  ·
   exact .inr ⟨g, cap, cur, fz, hv, hg, (hb.block g (blk_lt hgk)).trans hgk, rest⟩
 rcases h with h | h
 ·
  exact .inl (one _ h)
 ·
  exact .inr (one _ h)
theorem sb_blk {T e B b : Nat} {bs : List Value} {w : World} (h : Lib.IsBuilderF T e B b bs w) : ∃ cs, w.heap[b]? = some (.cells cs T (0, 0)) := by
 rcases h with ⟨_, v, hbk, _⟩ | ⟨_, v, hbk, _⟩
 ·
  exact ⟨_, hbk⟩
 ·
  exact ⟨_, hbk⟩
theorem blk_grown2 {w w' : World} {g : Nat} {cs : Array Value} {t : TypeId} {f : Nat × Nat} {row : Option Nat} (h : w.heap[g]? = some (.cells cs t f)) (hg : w.grownBy w' row) (hr : ∀ r, row = some r → ∃ o : Obj, w.heap[r]? = some o ∧ o.isCells = false) : w'.heap[g]? = some (.cells cs t f) := by
 refine (hg.block g (blk_lt h) (fun e => ?_)).trans h
 obtain ⟨o, ho, hc⟩ := hr g e.symm
 rw [h] at ho
 cases ho
 cases hc
theorem sb_keeps {T e : TypeId} {b : Nat} {cs : Array Value} {w w' : World} (h : Lib.OthersKept e (some b) w w') (hb : w.heap[b]? = some (.cells cs T (0, 0))) (hs : w.heap.size ≤ w'.heap.size) : KeepsOthers w w' := by
 refine ⟨hs, fun k o hk ho => h k o hk (fun he => ?_) (fun c fz he => ?_)⟩
 ·
  injection he with he
  subst he
  rw [hb] at hk
  cases hk
  cases ho
 ·
  subst he; cases ho
theorem sb_cellsKept {T e : TypeId} {b g : Nat} {cs : Array Value} {w w' : World} (h : Lib.OthersKept e (some b) w w') (hg : w.heap[g]? = some (.cells cs T (0, 0))) (hne : g ≠ b) (ht : T ≠ e) : w'.heap[g]? = some (.cells cs T (0, 0)) :=
 h g _ hg (fun he => hne (by injection he)) (fun c fz he => ht (by injection he))
theorem sb_cells (s : ByteArray) : Lib.strCells s = Lib.byteCells s.data.toList := by
 unfold Lib.strCells Lib.byteCells
 rfl
theorem lp_start (w : World) (OA OL : Obj) : (((w.alloc (.cells #[.pointer none, .slice none 0 0] 81)).alloc OA).alloc OL).heap[w.heap.size + 1]? = some OA ∧ (((w.alloc (.cells #[.pointer none, .slice none 0 0] 81)).alloc OA).alloc OL).heap[w.heap.size + 1 + 1]? = some OL ∧
 Lib.IsBuilderF 81 5 w.heap.size w.heap.size [] (((w.alloc (.cells #[.pointer none, .slice none 0 0] 81)).alloc OA).alloc OL) ∧ Below w.heap.size w (((w.alloc (.cells #[.pointer none, .slice none 0 0] 81)).alloc OA).alloc OL) := by
 have e : (w.alloc (.cells #[.pointer none, .slice none 0 0] 81)).heap.size = w.heap.size + 1 := by simp
 have h1 := blk_new (w.alloc (.cells #[.pointer none, .slice none 0 0] 81)) OA
 rw [e] at h1
 have h2 := blk_new ((w.alloc (.cells #[.pointer none, .slice none 0 0] 81)).alloc OA) OL
 have e2 : ((w.alloc (.cells #[.pointer none, .slice none 0 0] 81)).alloc OA).heap.size = w.heap.size + 1 + 1 := by simp
 rw [e2] at h2
 refine ⟨kA h1 _, h2, ?_, bA (bA (bA (Below.refl _ _) _) _) _⟩
 exact sb_below (Lib.IsBuilderF.of (Lib.fresh_isBuilder 81 5 w)) (bA (bA (Below.refl _ _) _) _)
theorem lp_kb {n₀ BL BA : Nat} {W0 : World} (hl : BL < W0.heap.size) (ha : BA < W0.heap.size) (hn : n₀ ≤ W0.heap.size) (W : World) (l : Nat) (o o' : Obj) (h0 : W0.heap.size ≤ l) (h : W.heap[l]? = some o) (hc : o.isCells = false) (hw : o.isWalk = false) : KpL n₀ BL BA W (W.putObj l o') :=
 ⟨belowK_b hn W l o o' h0 h hc hw, fun q e => (World.putObj_heap_other (by omega)).trans e, fun q e => (World.putObj_heap_other (by omega)).trans e⟩
theorem lp_room {l : List UInt8} {x : ByteArray} {n : Nat} (h : l.length ≤ 1001 * n) (hx : x.size ≤ 1000) (hn : n ≤ 1000) : (Lib.byteCells l).length + x.size ≤ 140737488355328 := by
 have : (Lib.byteCells l).length = l.length := by simp [Lib.byteCells]
 omega
theorem lp_room2 {l : List UInt8} {x : ByteArray} {n : Nat} (h : l.length ≤ 1001 * n) (hx : x.size ≤ 1000) (hn : n ≤ 1000) : (Lib.byteCells l ++ Lib.strCells x).length + 1 ≤ 140737488355328 := by
 have h1 : (Lib.byteCells l).length = l.length := by simp [Lib.byteCells]
 rw [List.length_append, h1, Lib.strCells_length]
 omega
set_option maxRecDepth 100000 in
set_option maxHeartbeats 2000000 in
theorem lp_Print (k : Nat) (a0 : Int) (A1 : Option Addr) (c1 : Nat) (l1 : List Int) (L : List ByteArray) (w : World) (HC : Aside0 (Kd.C (Kd.int .u32) w A1 l1.length l1)) (hlen : l1.length ≤ 1000) (HL : Aside0 (lp_lines k a0 l1 0 = some L)) :
 Calls Try.prog 34 #[.int .u32 a0, .slice A1 l1.length c1] w fun e w' => e = .returned (.string (lp_text L)) ∧ Below w.heap.size w w' := by
 refine (callsIn_wide (n := 5)).1 ?_
 refine callsIn_of_wp_marks Try.func34 rfl trivial ?_ rfl
 simp only [Try.ntmps34, List.size_toArray, List.length_cons, List.length_nil, Nat.reduceAdd, Nat.reduceSub, Array.replicate_succ, Array.replicate_zero, List.push_toArray, List.append_toArray, List.nil_append, List.cons_append]
 gi_wp2_with (first | (refine ⟨trivial, ?_⟩; gi_at_call 40; refine (callsIn_wide.2 (lp_Lines a0 _ _ ⟨_, _, _, rfl⟩)).mono ?_; rintro e w3 ⟨rfl, rfl⟩))
 obtain ⟨g1, g2, g3, g4⟩ := lp_start w (.cells #[.int .u32 a0] 32) (.cells #[.slice A1 l1.length c1] 35)
 obtain ⟨W0, hW0⟩ : ∃ W0, (((w.alloc (.cells #[.pointer none, .slice none 0 0] 81)).alloc (.cells #[.int .u32 a0] 32)).alloc (.cells #[.slice A1 l1.length c1] 35)) = W0 := ⟨_, rfl⟩
 rw [hW0] at g1 g2 g3 g4 ⊢
 clear hW0
 have hlt := blk_lt g2
 have hlt1 := blk_lt g1
 refine wpIn_rangeFunc_ownF rfl (by omega) (gf := 47) (lb := #[.pointer (some ⟨w.heap.size + 1 + 1, 0, none⟩), .pointer (some ⟨w.heap.size + 1, 0, none⟩)]) rfl trivial (enters_of Try.func47 (by kernel_rfl) rfl)
  (lp_iter (5 - 1) k (by omega) a0 A1 c1 l1 L w W0 (w.heap.size + 1 + 1) (w.heap.size + 1) HC hlen HL g4 g2 g1) (fun h k => KpL.trans h k) (lp_kb hlt hlt1 (by omega)) (Below.refl _ _) (fun _ => rfl)
  (fun pre W => (Lib.IsBuilderF 81 5 w.heap.size w.heap.size (Lib.byteCells (lp_bytes (pre.map (·.1)))) W ∧ W.heap[w.heap.size + 1 + 1]? = some (.cells #[.slice A1 l1.length c1] 35 (0, 0)) ∧ W.heap[w.heap.size + 1]? = some (.cells #[.int .u32 a0] 32 (0, 0)) ∧ (lp_bytes (pre.map (·.1))).length ≤ 1001 * pre.length) ∧ Below w.heap.size w W)
  (fun _ _ _ => False)
  (OwnFrom.and (by intro s A B row hs hg hr; exact ⟨sb_grown hs.1 hg (fun r e => (hr r e).2), blk_grown2 hs.2.1 hg (fun r e => (hr r e).2), blk_grown2 hs.2.2.1 hg (fun r e => (hr r e).2), hs.2.2.2⟩) (ownFrom_below (Nat.le_refl _) (by omega)))
  (fun _ _ _ _ _ hs _ _ => hs)
  ⟨⟨g3, g2, g1, by simp [lp_bytes]⟩, g4⟩
  (fun x => { tmps := #[.int .u32 a0, .slice A1 l1.length c1, undef, undef, .string ⟨#[]⟩, .pointer (some ⟨w.heap.size, 0, none⟩), .string x.1, .int .u32 a0, .slice A1 l1.length c1, .func (.func 47) #[] #[.pointer (some ⟨w.heap.size + 1 + 1, 0, none⟩), .pointer (some ⟨w.heap.size + 1, 0, none⟩)], .string x.1, undef, undef, undef, undef], defers := [] }) ?assign ?body ?done ?stop
 case assign =>
  intro l x W K hK
  gi_wp2
  exact hK
 case body =>
  rintro l pre x W ⟨⟨hbd, hl2, ha2, hsz⟩, hB⟩ hlen2
  obtain ⟨x, hx⟩ := x
  have HSZ := mK hsz; have HB := mK hB; have HBD := mK hbd; have HL2 := mK hl2; have HA2 := mK ha2; have HX := mK hx; have HLN := mK hlen2
  clear hsz hB hbd hl2 ha2 hlen2
  have hd : 1 ≤ 5 - 1 - 1 := by omega
  gi_wp2_with (first | (refine ⟨trivial, ?_⟩; gi_at_call 29; refine (CallsIn.inRound l (callsIn_wide.2 (sb_str w.heap.size w.heap.size _ x _ HBD.out (lp_room HSZ.out HX.out (Nat.le_trans (Nat.le_of_lt HLN.out) hlen)) HB.out.size))).mono ?_; rintro e w5 ⟨rfl, hb1, hb2, hb3⟩; have H1 := mK hb1; have H2 := mK hb2; have H3 := mK hb3; clear hb1 hb2 hb3) | (refine ⟨trivial, ?_⟩; gi_at_call 41; refine (CallsIn.inRound l (callsIn_wide.2 (sb_byte w.heap.size w.heap.size _ 10 _ (.inr H1.out) (lp_room2 HSZ.out HX.out (Nat.le_trans (Nat.le_of_lt HLN.out) hlen)) (HB.out.trans H2.out).size))).mono ?_; rintro e w6 ⟨rfl, hb1, hb2, hb3⟩; have H4 := mK hb1; have H5 := mK hb2; have H6 := mK hb3; clear hb1 hb2 hb3))
  obtain ⟨cs, hcs⟩ := sb_blk HBD.out
  have ho := Lib.OthersKept.trans H3.out H6.out
  have hbb := H2.out.trans H5.out
  refine ⟨sb_keeps ho hcs hbb.size, ⟨hbb, fun o e => ?_, fun o e => ?_⟩, ⟨⟨?_, sb_cellsKept ho HL2.out (by omega) (by decide), sb_cellsKept ho HA2.out (by omega) (by decide), ?_⟩, HB.out.trans hbb⟩⟩
  ·
   rw [HL2.out] at e; cases e; exact sb_cellsKept ho HL2.out (by omega) (by decide)
  ·
   rw [HA2.out] at e; cases e; exact sb_cellsKept ho HA2.out (by omega) (by decide)
  ·
   have := H4.out
   rw [sb_cells] at this
   rw [List.map_append, List.map_cons, List.map_nil, lp_bytes_snoc, Lib.byteCells_append, Lib.byteCells_append]
   exact .inr this
  ·
   have h1 := HSZ.out
   have h2 := HX.out
   have h3 : x.data.toList.length = x.size := data_length _
   rw [List.map_append, List.map_cons, List.map_nil, lp_bytes_snoc, List.length_append, List.length_append, List.length_append, h3]
   simp only [List.length_cons, List.length_nil]
   omega
 case done =>
  rintro D xs W hD hS ⟨⟨hbd, hl2, ha2, hsz⟩, hB⟩ hK
  have HBD := mK hbd; have HB := mK hB; have HS := mK hS; have HK := mK hK
  clear hbd hB hS hK hl2 ha2 hsz
  gi_wp2_with (first | (refine ⟨trivial, ?_⟩; gi_at_call 30; refine (callsIn_wide.2 (Go.Proofs.Ytmebogkhdbbbbaa.C.sh_Builder_String_any_k w.heap.size w.heap.size _ _ HBD.out HB.out.size)).mono ?_; rintro e w7 ⟨rfl, _, hb2, hb3⟩; have H2 := mK hb2; have H3 := mK hb3; clear hb2 hb3))
  obtain ⟨cs, hcs⟩ := sb_blk HBD.out
  have hK7 := (sb_keeps H3.out hcs H2.out.size).same D _ HK.out rfl
  refine ⟨by simp, .inl ⟨_, _, rfl, run_takeDeferred hK7, ?_⟩⟩
  have hq : xs.unattach = L := HS.out
  subst hq
  refine ⟨_, results_tmp rfl _ _ _, rfl, (HB.out.trans H2.out).trans (belowK_b (w := w) (Nat.le_refl _) _ D _ _ (by omega) hK7 rfl rfl)⟩
 case stop =>
  rintro D c pre W _ _ h _
  exact h.elim
end
theorem lp_lines_mono (k : Nat) (a0 : Int) : ∀ (l : List Int) (j : Nat), LeO (lp_lines k a0 l j) (lp_lines (k + 1) a0 l j)
 | [], _ => LeO.refl _
 | x :: t, j => by
  unfold lp_lines
  exact LeO.bind (listing_Line.mono _ _ _) (fun s => LeO.ite (LeO.bind (lp_lines_mono k a0 t (j + 1)) (fun L => LeO.refl _)) (LeO.refl _))
def listing_Print.f (k : Nat) (a0 : Int) (l1 : List Int) : Option ByteArray := if l1.length ≤ 1000 then (lp_lines k a0 l1 0).bind fun L => some (lp_text L) else none
theorem listing_Print.mono : ∀ a0 a1 k, LeO (listing_Print.f k a0 a1) (listing_Print.f (k + 1) a0 a1) := by
 intro a0 l k
 unfold listing_Print.f
 exact LeO.ite (LeO.bind (lp_lines_mono k a0 l 0) (fun L => LeO.refl _)) (LeO.refl _)
theorem listing_Print.calls (k : Nat) (a0 : Int) (A1 : Option Addr) (c1 : Nat) (l1 : List Int) (r : ByteArray) (w : World) (hr1 : Kd.C (Kd.int .u32) w A1 l1.length l1) (hc1 : l1.length ≤ c1) (h : listing_Print.f k a0 l1 = some r) :
 Calls Try.prog 34 #[.int .u32 a0, .slice A1 l1.length c1] w fun e w' => e = .returned (.string r) ∧ Below w.heap.size w w' := by
 unfold listing_Print.f at h
 by_cases hl : l1.length ≤ 1000
 ·
  rw [if_pos hl] at h
  obtain ⟨L, hL, h⟩ := oB h
  injection h with h
  subst h
  exact lp_Print k a0 A1 c1 l1 L w ⟨hr1⟩ hl ⟨hL⟩
 ·
  rw [if_neg hl] at h
  cases h

end Go.Proofs.Ytmebogkhdbbbbaa.P
