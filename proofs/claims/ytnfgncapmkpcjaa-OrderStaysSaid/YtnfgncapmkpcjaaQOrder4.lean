/- What is right of the order, without the reference's answer: each module once, behind all that it uses; or a way that comes back. -/
import Derived.Test.YtnfgncapmkpcjaaPx1
import Derived.Test.YtnfgncapmkpcjaaPx15
import Derived.Test.YtnfgncapmkpcjaaPx16
import Derived.Test.YtnfgncapmkpcjaaQOrder3
namespace Go.Proofs.Ytnfgncapmkpcjaa.Q
set_option linter.unusedSimpArgs false
set_option linter.unusedVariables false
open Go Go.RowKit Go.Proofs.Ytnfgncapmkpcjaa.P Go.Proofs.Ytnfgncapmkpcjaa.C Go.Proofs.YtnfgncapmkpcjaaW.PrintWords Go.Proofs.YtnfgncapmkpcjaaW.PrintLast Go.Proofs.YtnfgncapmkpcjaaW.PrintMore
theorem og_rd (xs : List Int) (i : Nat) (h : i < xs.length) : rd xs (i : Int) = xs[i] := by
  unfold rd; rw [Int.toNat_natCast]; simp [List.getD_eq_getElem?_getD, h]
def og_nm (l : List S41) (j : Nat) : ByteArray := (rd_T41 l (j : Int)).f0
/-- The way from one name's place comes to. -/
def og_R (l : List S41) (j : Nat) : List Bool := or_all l (og_nm l j)
theorem og_self (l : List S41) (h : OdOk l) (j : Nat) (hj : j < l.length) : (og_R l j)[j]? = some true := (or_least l (og_nm l j)).start j (h.uniq j hj)
theorem og_sub (l : List S41) (h : OdOk l) (a b : Nat) (hb : b < l.length) (hab : (og_R l a)[b]? = some true) (i : Nat) (hi : (og_R l b)[i]? = some true) : (og_R l a)[i]? = some true := by
  refine (or_least l (og_nm l b)).least (fun m => (og_R l a)[m]? = some true) (fun m hm => ?_) (fun x y hx hE => (or_least l (og_nm l a)).closed x y hx hE) i hi
  have : (m : Int) = (b : Int) := hm.symm.trans (h.uniq b hb)
  obtain rfl : m = b := by omega
  exact hab
theorem og_out_mem (l : List S41) (name : ByteArray) (s : List Bool) (v : Nat) (hs : s[v]? = some true) (hn : ¬ (rd_T41 l (v : Int)).f0.toList = name.toList) : ∀ d i, i ≤ v → v < i + d → (v : Int) ∈ or_out l name s d i
  | 0, i, h1, h2 => by omega
  | d + 1, i, h1, h2 => by
    rw [or_out]
    by_cases e : i = v
    · subst e
      rw [if_pos ((or_rdt s i).mpr hs), if_neg hn]
      exact List.mem_append_left _ (List.mem_singleton.mpr rfl)
    · exact List.mem_append_right _ (og_out_mem l name s v hs hn d (i + 1) (by omega) (by omega))
theorem og_out_range (l : List S41) (name : ByteArray) (s : List Bool) : ∀ d i, ∀ x ∈ or_out l name s d i, ∃ j : Nat, x = (j : Int) ∧ i ≤ j ∧ j < i + d
  | 0, i, x, h => by simp [or_out] at h
  | d + 1, i, x, h => by
    rw [or_out] at h
    rcases List.mem_append.1 h with h | h
    · by_cases e : rdOf false s (i : Int) = true
      · rw [if_pos e] at h
        by_cases e2 : (rd_T41 l (i : Int)).f0.toList = name.toList
        · rw [if_pos e2] at h; cases h
        · rw [if_neg e2, List.mem_singleton] at h
          exact ⟨i, h, by omega, by omega⟩
      · rw [if_neg e] at h; cases h
    · obtain ⟨j, h1, h2, h3⟩ := og_out_range l name s d (i + 1) x h
      exact ⟨j, h1, by omega, by omega⟩
theorem og_names (l : List S41) (h : OdOk l) (a b : Nat) (ha : a < l.length) (hb : b < l.length) (e : (rd_T41 l (a : Int)).f0.toList = (rd_T41 l (b : Int)).f0.toList) : a = b := by
  have h1 := h.uniq a ha
  have h2 := h.uniq b hb
  have h3 : os_is (rd_T41 l (a : Int)).f0 = os_is (rd_T41 l (b : Int)).f0 := by funext x; unfold os_is; rw [e]
  unfold os_find at h1 h2
  rw [h3] at h1
  omega
/-- A way on from one comes back to it. -/
def OgHit (l : List S41) (x : Int) (u : ByteArray) : Prop := ∃ j : Nat, os_find l u = (j : Int) ∧ ((j : Int) = x ∨ x ∈ or_out l (og_nm l j) (og_R l j) l.length 0)
theorem og_back (l : List S41) (h : OdOk l) (D : List Bool) (hD : D.length = l.length) (hst : od_first (od_rdy l D) l.length 0 = none) (n0 : Nat) (d : Nat) :
    ∀ v : Nat, v < l.length → rdOf false D (v : Int) = false → (og_R l n0)[v]? = some true → l.length ≤ (og_R l v).count false + d → ∃ w : Nat, w < l.length ∧ (og_R l n0)[w]? = some true ∧ ∃ u ∈ (rd_T41 l (w : Int)).f1, OgHit l (w : Int) u := by
  induction d with
  | zero =>
    intro v hv hf hr hc
    have hs := og_self l h v hv
    have hlen : (og_R l v).length = l.length := or_all_len l _
    have h1 := List.count_eq_length.mp (show (og_R l v).count false = (og_R l v).length by have := rc_count_le (og_R l v); omega)
    obtain ⟨hlt, he⟩ := List.getElem?_eq_some_iff.1 hs
    have := h1 _ (List.getElem_mem hlt)
    rw [he] at this
    cases this
  | succ d ih =>
    intro v hv hf hr hc
    have hn := od_first_none _ _ _ hst v (by omega) (by omega)
    unfold od_rdy at hn
    rw [hf, Bool.not_false, Bool.and_true] at hn
    obtain ⟨u, hu, hx⟩ := List.all_eq_false.mp hn
    have h0 := h.has v hv u hu
    have hlt := od_find_lt l u
    obtain ⟨j, hj⟩ : ∃ j : Nat, os_find l u = (j : Int) := ⟨(os_find l u).toNat, by omega⟩
    have hjl : j < l.length := by omega
    have hDj : rdOf false D (j : Int) = false := by rw [← hj]; simpa using hx
    have hvj : (og_R l v)[j]? = some true := (or_least l (og_nm l v)).closed v j (og_self l h v hv) ⟨hv, u, hu, hj⟩
    by_cases e : (og_R l j)[v]? = some true
    · refine ⟨v, hv, hr, u, hu, j, hj, ?_⟩
      by_cases ejv : j = v
      · left; omega
      · right
        exact og_out_mem l _ _ v e (fun hh => ejv (og_names l h v j hv hjl hh).symm) l.length 0 (by omega) (by omega)
    · have hle := rc_le (og_R l j) (og_R l v) (by rw [show (og_R l v).length = l.length from or_all_len l _, show (og_R l j).length = l.length from or_all_len l _]) (fun i hi => og_sub l h v j hjl hvj i hi)
      refine ih j hjl hDj (og_sub l h n0 v hv hr j hvj) ?_
      rcases Nat.lt_or_eq_of_le hle.1 with h1 | h1
      · omega
      · exact absurd (by rw [← hle.2 h1]; exact og_self l h v hv) e
set_option maxRecDepth 100000 in
theorem og_c2 (l : List S41) (op back : List Int) (i : Nat) (hi : i < op.length) (j : Int) (nm : ByteArray) (us : List ByteArray) (K : Nat) (hb : back.length ≤ 1000) (d : Nat) :
    ∀ (k m : Nat), m + d = back.length → K + 2 * d + 2 < k → ((∀ k, K ≤ k → pascalinelaw25_cycles.l1 k (l.map od_toR) op (i : Int) (wrap64 (j + 1)) nm us = some true) ∨ ∃ c : Nat, m ≤ c ∧ c < back.length ∧ rd back (c : Int) = rd op (i : Int)) →
    pascalinelaw25_cycles.l2 k (l.map od_toR) op (i : Int) j back (m : Int) nm us = some true := by
  induction d with
  | zero =>
    intro k m hm hk H
    obtain ⟨k, rfl⟩ : ∃ m, k = m + 1 := ⟨k - 1, by omega⟩
    simp only [pascalinelaw25_cycles.l2]
    rw [if_neg (by omega)]
    rcases H with H | ⟨c, h1, h2, _⟩
    · exact H k (by omega)
    · omega
  | succ d ih =>
    intro k m hm hk H
    obtain ⟨k, rfl⟩ : ∃ m, k = m + 1 := ⟨k - 1, by omega⟩
    simp only [pascalinelaw25_cycles.l2]
    rw [if_pos (by omega), if_pos (by omega), if_pos (by omega), if_pos (by omega)]
    by_cases e : rd back (m : Int) = rd op (i : Int)
    · rw [if_pos e]
    · rw [if_neg e, od_wrap (by omega) (by omega)]
      refine ih k (m + 1) (by omega) (by omega) ?_
      rcases H with H | ⟨c, h1, h2, h3⟩
      · exact .inl H
      · by_cases hc : c = m
        · subst hc; exact absurd h3 e
        · exact .inr ⟨c, by omega, h2, h3⟩
set_option maxRecDepth 100000 in
theorem og_c1 (l : List S41) (h : OdOk l) (hu : ∀ i : Nat, i < l.length → (rd_T41 l (i : Int)).f1.length ≤ 1000) (op : List Int) (i : Nat) (hi : i < op.length) (nm : ByteArray) (us : List ByteArray) (hus : us.length ≤ 1000) (K : Nat) (d : Nat) :
    ∀ (k j : Nat), j + d = us.length → 100000001 + K + 3000 * (d + 1) < k → ((∀ k, K ≤ k → pascalinelaw25_cycles.l0 k (l.map od_toR) op (wrap64 ((i : Int) + 1)) = some true) ∨ ∃ b : Nat, j ≤ b ∧ b < us.length ∧ OgHit l (rd op (i : Int)) (rdOf ByteArray.empty us (b : Int))) →
    pascalinelaw25_cycles.l1 k (l.map od_toR) op (i : Int) (j : Int) nm us = some true := by
  have hl := h.len
  induction d with
  | zero =>
    intro k j hj hk H
    obtain ⟨k, rfl⟩ : ∃ m, k = m + 1 := ⟨k - 1, by omega⟩
    simp only [pascalinelaw25_cycles.l1]
    rw [if_neg (by omega)]
    rcases H with H | ⟨c, h1, h2, _⟩
    · exact H k (by omega)
    · omega
  | succ d ih =>
    intro k j hj hk H
    obtain ⟨k, rfl⟩ : ∃ m, k = m + 1 := ⟨k - 1, by omega⟩
    have hnx : ∀ k, 100000001 + K + 3000 * (d + 1) < k → (∀ c : Nat, c = j → ¬ (c < us.length ∧ OgHit l (rd op (i : Int)) (rdOf ByteArray.empty us (c : Int)))) → pascalinelaw25_cycles.l1 k (l.map od_toR) op (i : Int) (wrap64 ((j : Int) + 1)) nm us = some true := by
      intro k' hk' hno
      rw [od_wrap (by omega) (by omega)]
      refine ih k' (j + 1) (by omega) hk' ?_
      rcases H with H | ⟨b, h1, h2, h3⟩
      · exact .inl H
      · by_cases hb : b = j
        · exact absurd ⟨h2, h3⟩ (hno b hb)
        · exact .inr ⟨b, by omega, h2, h3⟩
    simp only [pascalinelaw25_cycles.l1]
    rw [if_pos (by omega), if_pos (by omega), od_Find l _ (by omega) k (by omega), Option.bind_some]
    generalize hU : rdOf ByteArray.empty us (j : Int) = u at hnx ⊢
    have hlt := od_find_lt l u
    by_cases e : os_find l u < 0
    · rw [if_pos e]
      refine hnx k (by omega) ?_
      rintro c rfl ⟨_, j', h1, _⟩
      rw [hU] at h1
      omega
    · rw [if_neg e, if_pos (by omega), if_pos (by omega)]
      obtain ⟨t, ht⟩ : ∃ t : Nat, os_find l u = (t : Int) := ⟨(os_find l u).toNat, by omega⟩
      rw [ht]
      by_cases e2 : (t : Int) = rd op (i : Int)
      · rw [if_pos e2]
      · rw [if_neg e2, if_pos (by omega), if_pos (by rw [List.length_map]; omega), od_rdR, show (od_toR (rd_T41 l (t : Int))).f0 = og_nm l t from rfl, or_refReach l (by omega) hu (og_nm l t) k (by omega), Option.bind_some]
        have hbl := or_out_len l (og_nm l t) (or_all l (og_nm l t)) l.length 0
        have hB : or_out l (og_nm l t) (og_R l t) l.length 0 = or_out l (og_nm l t) (or_all l (og_nm l t)) l.length 0 := rfl
        generalize or_out l (og_nm l t) (or_all l (og_nm l t)) l.length 0 = back at hB hbl ⊢
        refine og_c2 l op back i hi (j : Int) nm us (100000001 + K + 3000 * (d + 1) + 1) (by omega) back.length k 0 (by omega) (by omega) ?_
        by_cases hit : rd op (i : Int) ∈ back
        · right
          obtain ⟨c, hc, he⟩ := List.getElem_of_mem hit
          exact ⟨c, by omega, hc, by rw [og_rd back c hc]; exact he⟩
        · left
          intro k' hk'
          refine hnx k' (by omega) ?_
          rintro c rfl ⟨_, j', h1, h2⟩
          rw [hU, ht] at h1
          obtain rfl : t = j' := by omega
          rcases h2 with h2 | h2
          · exact e2 h2
          · exact hit (hB ▸ h2)
def og_B : Nat → Nat
  | 0 => 200000000
  | d + 1 => og_B d + 200000000
theorem og_B_succ (d : Nat) : og_B (d + 1) = og_B d + 200000000 := rfl
theorem og_B_le (d : Nat) : og_B d ≤ 200000000 * (d + 1) := by
  induction d with
  | zero => exact Nat.le_refl _
  | succ d ih => rw [og_B_succ]; omega
theorem og_B_ge (d : Nat) : 200000000 ≤ og_B d := by
  induction d with
  | zero => exact Nat.le_refl _
  | succ d ih => rw [og_B_succ]; omega
set_option maxRecDepth 100000 in
theorem og_c0 (l : List S41) (h : OdOk l) (hu : ∀ i : Nat, i < l.length → (rd_T41 l (i : Int)).f1.length ≤ 1000) (op : List Int) (hop : ∀ x ∈ op, ∃ j : Nat, x = (j : Int) ∧ j < l.length) (hol : op.length ≤ 1000) (d : Nat) :
    ∀ (k i : Nat), i + d = op.length → og_B d < k → (∃ a : Nat, i ≤ a ∧ a < op.length ∧ ∃ u ∈ (rd_T41 l (rd op (a : Int))).f1, OgHit l (rd op (a : Int)) u) →
    pascalinelaw25_cycles.l0 k (l.map od_toR) op (i : Int) = some true := by
  have hl := h.len
  induction d with
  | zero => intro k i hi hk ⟨a, h1, h2, _⟩; omega
  | succ d ih =>
    intro k i hi hk ⟨a, h1, h2, u, hu1, hu2⟩
    rw [og_B_succ] at hk
    have hge := og_B_ge d
    obtain ⟨k, rfl⟩ : ∃ m, k = m + 1 := ⟨k - 1, by omega⟩
    obtain ⟨x, hx, hxl⟩ := hop (rd op (i : Int)) (by rw [og_rd op i (by omega)]; exact List.getElem_mem _)
    simp only [pascalinelaw25_cycles.l0]
    rw [if_pos (by omega), if_pos (by omega), if_pos (by omega), if_pos (by rw [List.length_map]; omega), od_rdR]
    have hux := hu x hxl
    rw [show (od_toR (rd_T41 l (rd op (i : Int)))).f1 = (rd_T41 l (rd op (i : Int))).f1 from rfl]
    rw [← hx] at hux
    by_cases e : a = i
    · subst e
      refine og_c1 l h hu op a (by omega) _ _ hux 0 (rd_T41 l (rd op (a : Int))).f1.length k 0 (by omega) (by omega) (.inr ?_)
      obtain ⟨b, hb, he⟩ := List.getElem_of_mem hu1
      exact ⟨b, by omega, hb, by rw [od_rds _ b hb, he]; exact hu2⟩
    · refine og_c1 l h hu op i (by omega) _ _ hux (og_B d + 1) (rd_T41 l (rd op (i : Int))).f1.length k 0 (by omega) (by omega) (.inl fun k' hk' => ?_)
      · rw [od_wrap (by omega) (by omega)]
        exact ih k' (i + 1) (by omega) (by omega) ⟨a, by omega, h2, u, hu1, hu2⟩
set_option maxRecDepth 100000 in
theorem og_cycles (l : List S41) (h : OdOk l) (hu : ∀ i : Nat, i < l.length → (rd_T41 l (i : Int)).f1.length ≤ 1000) (D : List Bool) (hD : D.length = l.length) (hst : od_first (od_rdy l D) l.length 0 = none) (n : Nat) (hn : n < l.length) (hf : rdOf false D (n : Int) = false) (k : Nat) (hk : 200000000000 < k) : pascalinelaw25_cycles.f k l (n : Int) = some true := by
  have hl := h.len
  obtain ⟨w, hw, hr, u, hu1, hu2⟩ := og_back l h D hD hst n l.length n hn hf (og_self l h n hn) (by omega)
  unfold pascalinelaw25_cycles.f
  rw [od_Ref l (by omega) k (by omega), Option.bind_some, Option.bind_some, if_pos (by omega), if_pos (by omega), show (rd_T41 l (n : Int)).f0 = og_nm l n from rfl, or_refReach l (by omega) hu (og_nm l n) k (by omega), Option.bind_some]
  have hlen := or_out_len l (og_nm l n) (or_all l (og_nm l n)) l.length 0
  have hrange := og_out_range l (og_nm l n) (or_all l (og_nm l n)) l.length 0
  have hmem : (w : Int) = (n : Int) ∨ (w : Int) ∈ or_out l (og_nm l n) (or_all l (og_nm l n)) l.length 0 := by
    by_cases e : w = n
    · left; omega
    · right; exact og_out_mem l _ _ w hr (fun hh => e (og_names l h w n hw hn hh)) l.length 0 (by omega) (by omega)
  generalize or_out l (og_nm l n) (or_all l (og_nm l n)) l.length 0 = back at hlen hrange hmem ⊢
  rw [if_pos (by rw [List.length_singleton]; omega)]
  have hop : ∀ x ∈ [(n : Int)] ++ back, ∃ j : Nat, x = (j : Int) ∧ j < l.length := by
    intro x hx
    rcases List.mem_append.1 hx with hx | hx
    · exact ⟨n, List.mem_singleton.1 hx, hn⟩
    · obtain ⟨j, h1, _, h3⟩ := hrange x hx
      exact ⟨j, h1, by omega⟩
  have hin : (w : Int) ∈ [(n : Int)] ++ back := by
    rcases hmem with e | e
    · rw [e]; exact List.mem_append_left _ (List.mem_singleton.mpr rfl)
    · exact List.mem_append_right _ e
  obtain ⟨a, ha, he⟩ := List.getElem_of_mem hin
  have hlo : ([(n : Int)] ++ back).length ≤ 100 := by rw [List.length_append, List.length_singleton]; omega
  have hB := og_B_le ([(n : Int)] ++ back).length
  generalize [(n : Int)] ++ back = op at *
  refine og_c0 l h hu op hop (by omega) op.length k 0 (by omega) (by omega) ⟨a, by omega, ha, ?_⟩
  rw [og_rd op a ha, he]
  exact ⟨u, hu1, hu2⟩
/-- What holds while the order is put together. -/
structure OgInv (l : List S41) (D : List Bool) (out : List Int) : Prop where
  len : D.length = l.length
  same : ∀ j : Nat, rdOf false D (j : Int) = true ↔ (j : Int) ∈ out
  range : ∀ x ∈ out, ∃ j : Nat, x = (j : Int) ∧ j < l.length
  nodup : out.Nodup
  count : D.count true = out.length
  behind : ∀ (p : Nat) (hp : p < out.length), ∀ u ∈ (rd_T41 l out[p]).f1, os_find l u ∈ out.take p
theorem og_srt (l : List S41) (h : OdOk l) (d : Nat) : ∀ (D : List Bool) (out : List Int), OgInv l D out → out.length + d = l.length →
    (∃ D' out', od_srt l d D out = (out', 0, 0) ∧ OgInv l D' out' ∧ out'.length = l.length) ∨ (∃ D' m, D'.length = l.length ∧ od_first (od_rdy l D') l.length 0 = none ∧ m < l.length ∧ rdOf false D' (m : Int) = false ∧ od_srt l d D out = ([], (m : Int), 143)) := by
  induction d with
  | zero => intro D out hI hd; exact .inl ⟨D, out, rfl, hI, by omega⟩
  | succ d ih =>
    intro D out hI hd
    rw [od_srt]
    cases e : od_first (od_rdy l D) l.length 0 with
    | none =>
      right
      obtain ⟨m, hm⟩ := od_left D l.length hI.len (by rw [hI.count]; omega)
      obtain ⟨_, h2, h3, _⟩ := od_first_some _ _ _ _ hm
      refine ⟨D, m, hI.len, e, by omega, by simpa using h3, ?_⟩
      show ([], od_n (od_first (fun j => !(rdOf false D (j : Int))) l.length 0) (-1), 143) = _
      rw [hm]
      rfl
    | some j =>
      obtain ⟨_, hj, hr, _⟩ := od_first_some _ _ _ _ e
      unfold od_rdy at hr
      rw [Bool.and_eq_true] at hr
      have hf : rdOf false D (j : Int) = false := by simpa using hr.2
      have hno : (j : Int) ∉ out := fun hx => by rw [(hI.same j).mpr hx] at hf; cases hf
      have hset : ∀ i : Nat, rdOf false (D.set j true) (i : Int) = true ↔ (i = j ∨ rdOf false D (i : Int) = true) := by
        intro i
        rw [or_rdt, or_rdt, List.getElem?_set]
        by_cases ei : j = i
        · subst ei; rw [if_pos rfl, if_pos (by have := hI.len; omega)]; simp
        · rw [if_neg ei]
          constructor
          · intro hx; exact .inr hx
          · rintro (hx | hx)
            · exact absurd hx.symm ei
            · exact hx
      refine ih (D.set j true) (out ++ [(j : Int)]) ⟨by rw [List.length_set]; exact hI.len, fun i => ?_, fun x hx => ?_, ?_, by rw [od_count D j (by have := hI.len; omega) hf, hI.count, List.length_append, List.length_singleton], fun p hp u hu => ?_⟩ (by rw [List.length_append, List.length_singleton]; omega)
      · rw [hset i, List.mem_append, List.mem_singleton]
        constructor
        · rintro (hx | hx)
          · right; omega
          · exact .inl ((hI.same i).mp hx)
        · rintro (hx | hx)
          · exact .inr ((hI.same i).mpr hx)
          · left; omega
      · rcases List.mem_append.1 hx with hx | hx
        · exact hI.range x hx
        · exact ⟨j, List.mem_singleton.1 hx, by omega⟩
      · rw [List.nodup_append]
        refine ⟨hI.nodup, by simp, fun x hx y hy => ?_⟩
        rw [List.mem_singleton] at hy
        subst hy
        rintro rfl
        exact hno hx
      · rw [List.length_append, List.length_singleton] at hp
        by_cases hpl : p < out.length
        · rw [List.getElem_append_left hpl] at hu
          rw [List.take_append_of_le_length (by omega)]
          exact hI.behind p hpl u hu
        · obtain rfl : p = out.length := by omega
          rw [List.getElem_append_right (by omega)] at hu
          simp only [Nat.sub_self, List.getElem_singleton] at hu
          rw [List.take_left']
          · have hx := List.all_eq_true.mp hr.1 u hu
            have h0 := h.has j (by omega) u hu
            obtain ⟨t, ht⟩ : ∃ t : Nat, os_find l u = (t : Int) := ⟨(os_find l u).toNat, by omega⟩
            rw [ht] at hx ⊢
            exact (hI.same t).mp hx
          · rfl
theorem og_start (l : List S41) : OgInv l (List.replicate l.length false) [] := by
  refine ⟨List.length_replicate, (fun j => ?_), (fun x hx => absurd hx (by simp)), List.nodup_nil, (by simp [List.count_replicate]), (fun p hp => absurd hp (by simp))⟩
  rw [or_rdt, List.getElem?_replicate]
  constructor
  · intro h; split at h <;> simp at h
  · intro h; cases h
theorem og_full (l : List S41) (D : List Bool) (out : List Int) (hI : OgInv l D out) (ho : out.length = l.length) (j : Nat) (hj : j < l.length) : (j : Int) ∈ out := by
  have h1 := List.count_eq_length.mp (show D.count true = D.length by rw [hI.count, hI.len, ho])
  refine (hI.same j).mp ?_
  rw [od_rdD D j (by rw [hI.len]; exact hj)]
  exact (h1 _ (List.getElem_mem _)).symm
/-- The places' places, so far. -/
structure OgAt (l : List S41) (out at_ : List Int) (i : Nat) : Prop where
  len : at_.length = l.length
  has : ∀ (p : Nat) (hp : p < out.length), p < i → rd at_ out[p] = (p : Int) + 1
  no : ∀ j : Nat, j < l.length → (j : Int) ∉ out.take i → rd at_ (j : Int) = 0
theorem og_set (xs : List Int) (j i : Nat) (v : Int) (hj : j < xs.length) : rd (xs.set j v) (i : Int) = if i = j then v else rd xs (i : Int) := by
  unfold rd
  rw [Int.toNat_natCast, List.getD_eq_getElem?_getD, List.getD_eq_getElem?_getD, List.getElem?_set]
  by_cases e : j = i
  · subst e; rw [if_pos rfl, if_pos hj, if_pos rfl]; rfl
  · rw [if_neg e, if_neg (fun x => e x.symm)]
theorem og_l0 (l : List S41) (hl : l.length ≤ 64) (D : List Bool) (out : List Int) (hI : OgInv l D out) (ho : out.length = l.length) (R : Option Bool) (K : Nat) (hnext : ∀ k at_, K ≤ k → OgAt l out at_ l.length → pascalinelaw25_OrderRight.l1 k l at_ 0 = R) (d : Nat) :
    ∀ (k i : Nat) (at_ : List Int), i + d = out.length → K + d < k → OgAt l out at_ i → pascalinelaw25_OrderRight.l0 k l out at_ (i : Int) = R := by
  induction d with
  | zero =>
    intro k i at_ hi hk hA
    obtain ⟨k, rfl⟩ : ∃ m, k = m + 1 := ⟨k - 1, by omega⟩
    simp only [pascalinelaw25_OrderRight.l0]
    rw [if_neg (by omega)]
    obtain rfl : i = l.length := by omega
    exact hnext k at_ (by omega) hA
  | succ d ih =>
    intro k i at_ hi hk hA
    obtain ⟨k, rfl⟩ : ∃ m, k = m + 1 := ⟨k - 1, by omega⟩
    have hlt : i < out.length := by omega
    obtain ⟨x, hx, hxl⟩ := hI.range out[i] (List.getElem_mem hlt)
    have hlen := hA.len
    have hni : (x : Int) ∉ out.take i := by
      rw [← hx]
      intro hm
      obtain ⟨q, hq, he⟩ := List.getElem_of_mem hm
      rw [List.getElem_take] at he
      rw [List.length_take] at hq
      have := (List.getElem_inj hI.nodup).mp he
      omega
    have h0 := hA.no x hxl hni
    simp only [pascalinelaw25_OrderRight.l0]
    rw [if_pos (by omega), if_pos (by omega), og_rd out i hlt, hx, if_neg (by omega), if_neg (by omega), if_pos (by omega), if_pos (by omega), if_pos h0, od_wrap (by omega) (by omega), Int.toNat_natCast]
    refine ih k (i + 1) _ (by omega) (by omega) ⟨by rw [List.length_set]; exact hlen, fun p hp hpi => ?_, fun j hj hjn => ?_⟩
    · obtain ⟨y, hy, hyl⟩ := hI.range out[p] (List.getElem_mem hp)
      rw [hy, og_set _ _ _ _ (by omega)]
      by_cases e : y = x
      · rw [if_pos e]
        subst e
        have := (List.getElem_inj hI.nodup).mp (hy.trans hx.symm)
        omega
      · rw [if_neg e, ← hy]
        refine hA.has p hp ?_
        rcases Nat.lt_or_eq_of_le (show p ≤ i by omega) with h1 | h1
        · exact h1
        · subst h1; rw [hx] at hy; omega
    · rw [List.take_succ_eq_append_getElem hlt, List.mem_append, List.mem_singleton, hx] at hjn
      rw [og_set _ _ _ _ (by omega), if_neg (fun e => hjn (.inr (by omega)))]
      exact hA.no j hj (fun hm => hjn (.inl hm))
theorem og_l2 (l : List S41) (h : OdOk l) (D : List Bool) (out at_ : List Int) (hI : OgInv l D out) (ho : out.length = l.length) (hA : OgAt l out at_ l.length) (i : Nat) (hi : i < l.length) (hu : (rd_T41 l (i : Int)).f1.length ≤ 1000) (K : Nat) (hnext : ∀ k, K ≤ k → pascalinelaw25_OrderRight.l1 k l at_ ((i + 1 : Nat) : Int) = some true) (d : Nat) :
    ∀ (k j : Nat), j + d = (rd_T41 l (i : Int)).f1.length → K + 2000 + d < k → pascalinelaw25_OrderRight.l2 k l at_ (i : Int) (j : Int) = some true := by
  have hl := h.len
  have hlen := hA.len
  induction d with
  | zero =>
    intro k j hj hk
    obtain ⟨k, rfl⟩ : ∃ m, k = m + 1 := ⟨k - 1, by omega⟩
    simp only [pascalinelaw25_OrderRight.l2]
    rw [if_pos (by omega), if_pos (by omega), if_neg (by omega), od_wrap (by omega) (by omega)]
    exact hnext k (by omega)
  | succ d ih =>
    intro k j hj hk
    obtain ⟨k, rfl⟩ : ∃ m, k = m + 1 := ⟨k - 1, by omega⟩
    have hjl : j < (rd_T41 l (i : Int)).f1.length := by omega
    have hmem := List.getElem_mem hjl
    have h0 := h.has i hi _ hmem
    have hlt := od_find_lt l (rd_T41 l (i : Int)).f1[j]
    obtain ⟨p, hp, hpe⟩ := List.getElem_of_mem (og_full l D out hI ho i hi)
    have hbeh := hI.behind p hp (rd_T41 l (i : Int)).f1[j] (by rw [hpe]; exact hmem)
    obtain ⟨q, hq, hqe⟩ := List.getElem_of_mem hbeh
    rw [List.length_take] at hq
    rw [List.getElem_take] at hqe
    have h1 := hA.has p hp (by omega)
    have h2 := hA.has q (by omega) (by omega)
    rw [hpe] at h1
    rw [hqe] at h2
    simp only [pascalinelaw25_OrderRight.l2]
    rw [if_pos (by omega), if_pos (by omega), if_pos (by omega), od_Ref l (by omega) k (by omega), Option.bind_some, if_pos (by omega), od_rds _ _ hjl, od_Find l _ (by omega) k (by omega), Option.bind_some, if_neg (by omega), if_pos (by omega), if_pos (by omega), if_pos (by omega), if_neg (by omega), od_wrap (by omega) (by omega)]
    exact ih k (j + 1) (by omega) (by omega)
theorem og_l1 (l : List S41) (h : OdOk l) (hu : ∀ i : Nat, i < l.length → (rd_T41 l (i : Int)).f1.length ≤ 1000) (D : List Bool) (out at_ : List Int) (hI : OgInv l D out) (ho : out.length = l.length) (hA : OgAt l out at_ l.length) (d : Nat) :
    ∀ (k i : Nat), i + d = l.length → 4000 * (d + 1) < k → pascalinelaw25_OrderRight.l1 k l at_ (i : Int) = some true := by
  have hl := h.len
  induction d with
  | zero =>
    intro k i hi hk
    obtain ⟨k, rfl⟩ : ∃ m, k = m + 1 := ⟨k - 1, by omega⟩
    simp only [pascalinelaw25_OrderRight.l1]
    rw [if_neg (by omega)]
  | succ d ih =>
    intro k i hi hk
    obtain ⟨k, rfl⟩ : ∃ m, k = m + 1 := ⟨k - 1, by omega⟩
    have hui := hu i (by omega)
    simp only [pascalinelaw25_OrderRight.l1]
    rw [if_pos (by omega)]
    exact og_l2 l h D out at_ hI ho hA i (by omega) hui (4000 * (d + 1) + 1) (fun k' hk' => ih k' (i + 1) (by omega) (by omega)) (rd_T41 l (i : Int)).f1.length k 0 (by omega) (by omega)
end Go.Proofs.Ytnfgncapmkpcjaa.Q
