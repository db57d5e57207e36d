/- Pointers held against each other. No program in sight. -/
import Derived.LaidEqlPtr
namespace Go.Proofs.Ytmajngcgejkghaa.C
open Go
variable {P : Program} (w : World)
theorem pt_neq_same {tp te : TypeId} {j : TypeInfo} (a : Addr) (hp : P.underlying tp = some (.pointer te)) (hte : P.info? te = some j) :
    (binOp .neq tp (.pointer (some a)) (.pointer (some a))).run P w = .ok (.bool false) w := by
  have h : ∀ d : Nat, (Op.equalIn (d + 1) tp (.pointer (some a)) (.pointer (some a))).run P w = .ok true w := fun d => by
    simp [Op.equalIn, run_underlying hp, sizeOf, typeInfo, hte, run_sameAddr_same]
  simp only [binOp]
  simp [Op.equal, Op.maxDepth, h 9999]
theorem pt_neq_other {tp te : TypeId} {j : TypeInfo} {a b : Addr} {ca cb : Array Value} {ta tb : TypeId} (hp : P.underlying tp = some (.pointer te)) (hte : P.info? te = some j) (hsz : j.size ≠ 0)
    (hne : a ≠ b) (ha : w.heap[a.block]? = some (.cells ca ta (0, 0))) (hb : w.heap[b.block]? = some (.cells cb tb (0, 0))) :
    (binOp .neq tp (.pointer (some a)) (.pointer (some b))).run P w = .ok (.bool true) w := by
  have h : ∀ d : Nat, (Op.equalIn (d + 1) tp (.pointer (some a)) (.pointer (some b))).run P w = .ok false w := fun d => by
    simp [Op.equalIn, run_underlying hp, sizeOf, typeInfo, hte, hsz, run_sameAddr_other w hne ha hb]
  simp only [binOp]
  simp [Op.equal, Op.maxDepth, h 9999]
theorem pt_info {te : TypeId} (h : (P.info? te).map (·.size) = some 1) : ∃ j : TypeInfo, P.info? te = some j ∧ j.size ≠ 0 := by
  cases e : P.info? te with
  | none => rw [e] at h; cases h
  | some j => rw [e] at h; exact ⟨j, rfl, by have : j.size = 1 := by simpa using h
                                             omega⟩
theorem pt_nes {tp te : TypeId} (a : Addr) (hp : P.underlying tp = some (.pointer te)) (h : (P.info? te).map (·.size) = some 1) : (binOp .neq tp (.pointer (some a)) (.pointer (some a))).run P w = .ok (.bool false) w := by
  obtain ⟨j, hj, _⟩ := pt_info h
  exact pt_neq_same w a hp hj
theorem pt_eqs {tp te : TypeId} (a : Addr) (hp : P.underlying tp = some (.pointer te)) (h : (P.info? te).map (·.size) = some 1) : (binOp .eql tp (.pointer (some a)) (.pointer (some a))).run P w = .ok (.bool true) w := by
  obtain ⟨j, hj, _⟩ := pt_info h
  exact run_eql_ptr_same w a hp hj
/-- Two places of one block. -/
theorem pt_neo {tp te : TypeId} {g i k : Nat} {ca : Array Value} {ta : TypeId} (hp : P.underlying tp = some (.pointer te)) (h : (P.info? te).map (·.size) = some 1) (hne : i ≠ k) (ha : w.heap[g]? = some (.cells ca ta (0, 0))) :
    (binOp .neq tp (.pointer (some ⟨g, i, none⟩)) (.pointer (some ⟨g, k, none⟩))).run P w = .ok (.bool true) w := by
  obtain ⟨j, hj, hz⟩ := pt_info h
  exact pt_neq_other w hp hj hz (fun e => hne (by injection e)) ha ha
theorem pt_eqo {tp te : TypeId} {g i k : Nat} {ca : Array Value} {ta : TypeId} (hp : P.underlying tp = some (.pointer te)) (h : (P.info? te).map (·.size) = some 1) (hne : i ≠ k) (ha : w.heap[g]? = some (.cells ca ta (0, 0))) :
    (binOp .eql tp (.pointer (some ⟨g, i, none⟩)) (.pointer (some ⟨g, k, none⟩))).run P w = .ok (.bool false) w := by
  obtain ⟨j, hj, hz⟩ := pt_info h
  exact run_eql_ptr_other w hp hj hz (fun e => hne (by injection e)) ha ha
end Go.Proofs.Ytmajngcgejkghaa.C
