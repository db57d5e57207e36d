/- ReportLists: a module's words are listed as the document says, or there is no such module. For every image and every name; no condition. -/
import Derived.Test.YtmebogkhdbbbbaaPx1
import Derived.Test.YtmebogkhdbbbbaaPx34
import Derived.Test.YtmebogkhdbbbbaaPx41
import Derived.Test.YtmebogkhdbbbbaaPx54
import Derived.Test.YtmebogkhdbbbbaaQPrn
import Derived.Test.YtmebogkhdbbbbaaPsReportLists
namespace Go.Proofs.Ytmebogkhdbbbbaa.Pure
set_option linter.unusedSimpArgs false
set_option linter.unusedVariables false
open Go Go.RowKit Go.Proofs.Ytmebogkhdbbbbaa.P Go.Proofs.Ytmebogkhdbbbbaa.Q Go.Proofs.Ytmebogkhdbbbbaa.C Go.Proofs.YtmebogkhdbbbbaaW.PrintWords

theorem u32_of {n : Int} (h : (Lit.int .u32 n).wf = true) : U32 n := by
  have h2 := h
  simp [Lit.wf, IntKind.min, IntKind.max, IntKind.bits, IntKind.signed] at h2
  unfold U32
  omega
/-- Is a module the one that is asked for, and its words within the code? -/
def rlOk (nm : ByteArray) (C : List Int) (m : S49) : Prop := m.f0.toList = nm.toList ∧ m.f1 ≥ 0 ∧ m.f2 ≥ 0 ∧ m.f1 ≤ (C.length : Int) ∧ m.f2 ≤ (C.length : Int) - m.f1
instance (nm : ByteArray) (C : List Int) (m : S49) : Decidable (rlOk nm C m) := by unfold rlOk; infer_instance
def rlFind (nm : ByteArray) (C : List Int) (M : List S49) : Option S49 := M.find? (fun m => decide (rlOk nm C m))
def rlPart (C : List Int) (m : S49) : List Int := (C.take (wrap64 (m.f1 + m.f2)).toNat).drop m.f1.toNat
def rlText (C : List Int) (m : S49) : ByteArray := lp_text (lnOf (wrap64 (4 * m.f1) % 4294967296) (rlPart C m) 0)
def rlRes (C : List Int) : Option S49 → ByteArray × Int
  | none => (⟨#[]⟩, 144)
  | some m => (rlText C m, 0)
theorem rl_cons (nm : ByteArray) (C : List Int) (m : S49) (M : List S49) : rlFind nm C (m :: M) = if rlOk nm C m then some m else rlFind nm C M := by
  unfold rlFind
  rw [List.find?_cons]
  by_cases h : rlOk nm C m
  · rw [if_pos h, decide_eq_true h]
  · rw [if_neg h, decide_eq_false h]
theorem rl_part (C : List Int) (hC : C.length ≤ 300) (hw : ∀ x ∈ C, U32 x) (m : S49) : (rlPart C m).length ≤ 1000 ∧ ∀ x ∈ rlPart C m, U32 x := by
  unfold rlPart
  constructor
  · rw [List.length_drop, List.length_take]; omega
  · intro x hx
    exact hw x (List.mem_of_mem_take (List.mem_of_mem_drop hx))
theorem rd_at (M : List S49) (i : Nat) (h : i < M.length) : rd_T49 M (i : Int) = M[i] := by
  unfold rd_T49; rw [Int.toNat_natCast]; simp [List.getD_eq_getElem?_getD, h]
theorem rl_list (nm : ByteArray) (C l6 l13 l14 : List Int) (l12 : List S46) (M : List S49) (b0 b1 b2 b3 b4 b7 b8 b9 b10 : Int) (hC : C.length ≤ 300) (hM : M.length ≤ 80) (hw : ∀ x ∈ C, U32 x) (d : Nat) :
    ∀ (k i : Nat), M.length - i = d → i ≤ M.length → d + 3000 < k → report_Listing.l0 k nm M (M.length : Int) (i : Int) b0 b1 b2 b3 b4 C l6 b7 b8 b9 b10 M l12 l13 l14 = some (rlRes C (rlFind nm C (M.drop i))) := by
  induction d with
  | zero =>
    intro k i hd hi hk
    obtain ⟨k, rfl⟩ : ∃ q, k = q + 1 := ⟨k - 1, by omega⟩
    rw [report_Listing.l0, if_neg (by omega), List.drop_eq_nil_of_le (by omega)]
    rfl
  | succ d ih =>
    intro k i hd hi hk
    obtain ⟨k, rfl⟩ : ∃ q, k = q + 1 := ⟨k - 1, by omega⟩
    have hlt : i < M.length := by omega
    have hn := ih k (i + 1) (by omega) (by omega) (by omega)
    have e1 : wrap64 ((i : Int) + 1) = ((i + 1 : Nat) : Int) := by unfold wrap64; omega
    rw [report_Listing.l0, if_pos (by omega), if_pos (by omega), if_pos (by omega), rd_at M i hlt, e1, List.drop_eq_getElem_cons hlt, rl_cons]
    generalize M[i] = m
    by_cases c1 : m.f0.toList = nm.toList
    · by_cases c2 : m.f1 ≥ 0
      · by_cases c3 : m.f2 ≥ 0
        · by_cases c4 : m.f1 ≤ (C.length : Int)
          · have e2 : wrap64 ((C.length : Int) - m.f1) = (C.length : Int) - m.f1 := by unfold wrap64; omega
            by_cases c5 : m.f2 ≤ (C.length : Int) - m.f1
            · have e3 : wrap64 (m.f1 + m.f2) = m.f1 + m.f2 := by unfold wrap64; omega
              have hp := rl_part C hC hw m
              have := (print_same k (wrap64 (4 * m.f1) % 4294967296) (rlPart C m) (by omega) hp.1 hp.2).1
              rw [if_pos (show rlOk nm C m from ⟨c1, c2, c3, c4, c5⟩)]
              rw [if_pos c1, if_pos c2, if_pos c3, if_pos c4, if_pos (by rw [e2]; exact c5), if_pos c2, if_pos (by rw [e3]; omega), if_pos (by rw [e3]; omega)]
              unfold rlPart at this
              rw [this]
              rfl
            · rw [if_neg (fun (h : rlOk nm C m) => c5 h.2.2.2.2), if_pos c1, if_pos c2, if_pos c3, if_pos c4, if_neg (by rw [e2]; exact c5)]; exact hn
          · rw [if_neg (fun (h : rlOk nm C m) => c4 h.2.2.2.1), if_pos c1, if_pos c2, if_pos c3, if_neg c4]; exact hn
        · rw [if_neg (fun (h : rlOk nm C m) => c3 h.2.2.1), if_pos c1, if_pos c2, if_neg c3]; exact hn
      · rw [if_neg (fun (h : rlOk nm C m) => c2 h.2.1), if_pos c1, if_neg c2]; exact hn
    · rw [if_neg (fun (h : rlOk nm C m) => c1 h.1), if_neg c1]; exact hn
theorem rl_law (nm : ByteArray) (C l6 : List Int) (M : List S49) (b0 b1 b2 b3 b4 b7 b8 b9 b10 : Int) (s : ByteArray) (e : Int) (hC : C.length ≤ 300) (hM : M.length ≤ 80) (hw : ∀ x ∈ C, U32 x) (d : Nat) :
    ∀ (k i : Nat), M.length - i = d → i ≤ M.length → d + 3000 < k → (s, e) = rlRes C (rlFind nm C (M.drop i)) → pascalinelaw31_ReportLists.l0 k nm s e (i : Int) b0 b1 b2 b3 b4 C l6 b7 b8 b9 b10 M = some true := by
  induction d with
  | zero =>
    intro k i hd hi hk hs
    obtain ⟨k, rfl⟩ : ∃ q, k = q + 1 := ⟨k - 1, by omega⟩
    rw [List.drop_eq_nil_of_le (by omega)] at hs
    injection hs with h1 h2
    subst h1 h2
    rw [pascalinelaw31_ReportLists.l0, if_neg (by omega), if_pos rfl, show ((⟨#[]⟩ : ByteArray).toList == ([] : List UInt8)) = true from by rw [toList_data]; rfl]
  | succ d ih =>
    intro k i hd hi hk hs
    obtain ⟨k, rfl⟩ : ∃ q, k = q + 1 := ⟨k - 1, by omega⟩
    have hlt : i < M.length := by omega
    have hn := fun h => ih k (i + 1) (by omega) (by omega) (by omega) h
    have e1 : wrap64 ((i : Int) + 1) = ((i + 1 : Nat) : Int) := by unfold wrap64; omega
    rw [List.drop_eq_getElem_cons hlt, rl_cons] at hs
    rw [pascalinelaw31_ReportLists.l0, if_pos (by omega), if_pos (by omega), rd_at M i hlt, e1]
    generalize M[i] = m at hs
    by_cases c1 : m.f0.toList = nm.toList
    · by_cases c2 : m.f1 ≥ 0
      · by_cases c3 : m.f2 ≥ 0
        · by_cases c4 : m.f1 ≤ (C.length : Int)
          · have e2 : wrap64 ((C.length : Int) - m.f1) = (C.length : Int) - m.f1 := by unfold wrap64; omega
            by_cases c5 : m.f2 ≤ (C.length : Int) - m.f1
            · have e3 : wrap64 (m.f1 + m.f2) = m.f1 + m.f2 := by unfold wrap64; omega
              have hp := rl_part C hC hw m
              have := (print_same k (wrap64 (4 * m.f1) % 4294967296) (rlPart C m) (by omega) hp.1 hp.2).2
              rw [if_pos (show rlOk nm C m from ⟨c1, c2, c3, c4, c5⟩)] at hs
              injection hs with h1 h2
              subst h1 h2
              rw [if_pos c1, if_pos c2, if_pos c3, if_pos c4, if_pos (by rw [e2]; exact c5), if_pos rfl, if_pos c2, if_pos (by rw [e3]; omega), if_pos (by rw [e3]; omega)]
              unfold rlPart at this
              rw [this, Option.bind_some]
              show some ((rlText C m).toList == (rlText C m).toList) = some true
              rw [beq_self_eq_true]
            · rw [if_neg (fun (h : rlOk nm C m) => c5 h.2.2.2.2)] at hs
              rw [if_pos c1, if_pos c2, if_pos c3, if_pos c4, if_neg (by rw [e2]; exact c5)]; exact hn hs
          · rw [if_neg (fun (h : rlOk nm C m) => c4 h.2.2.2.1)] at hs
            rw [if_pos c1, if_pos c2, if_pos c3, if_neg c4]; exact hn hs
        · rw [if_neg (fun (h : rlOk nm C m) => c3 h.2.2.1)] at hs
          rw [if_pos c1, if_pos c2, if_neg c3]; exact hn hs
      · rw [if_neg (fun (h : rlOk nm C m) => c2 h.2.1)] at hs
        rw [if_pos c1, if_neg c2]; exact hn hs
    · rw [if_neg (fun (h : rlOk nm C m) => c1 h.1)] at hs
      rw [if_neg c1]; exact hn hs
theorem rl_awake : pascalinelaw31_awake.f 7000 = some true := by kernel_rfl
theorem ReportLists : pascalinelaw31_ReportLists.Pure := by
  intro b0 b1 b2 b3 b4 C l6 b7 b8 b9 b10 M nm _ _ _ _ _ hC _ _ _ _ _ hM _
  have hw := fun x hx => u32_of (hC.2 x hx)
  refine ⟨7000, ?_⟩
  unfold pascalinelaw31_ReportLists.f
  rw [rl_awake, Option.bind_some, if_pos rfl]
  have hj : ∀ k, pascalinelaw31_ReportLists.j0 (k + 1) nm true b0 b1 b2 b3 b4 C l6 b7 b8 b9 b10 M = some true := fun k => by rw [pascalinelaw31_ReportLists.j0, if_pos rfl]
  by_cases h3 : (C.length : Int) > 300
  · rw [if_pos h3]; exact hj 6999
  · rw [if_neg h3]
    by_cases h8 : (M.length : Int) > 80
    · rw [decide_eq_true h8]; exact hj 6999
    · rw [decide_eq_false h8, show (7000 : Nat) = 6999 + 1 from rfl, pascalinelaw31_ReportLists.j0, if_neg (by simp)]
      have hl := rl_list nm C l6 [] [] [] M b0 b1 b2 b3 b4 b7 b8 b9 b10 (by omega) (by omega) hw M.length 6999 0 (by omega) (by omega) (by omega)
      have hl2 : report_Listing.f 6999 b0 b1 b2 b3 b4 C l6 b7 b8 b9 b10 M [] [] [] nm = some (rlRes C (rlFind nm C M)) := hl
      rw [hl2, Option.bind_some]
      exact rl_law nm C l6 M b0 b1 b2 b3 b4 b7 b8 b9 b10 _ _ (by omega) (by omega) hw M.length 6999 0 (by omega) (by omega) (by omega) rfl
end Go.Proofs.Ytmebogkhdbbbbaa.Pure
