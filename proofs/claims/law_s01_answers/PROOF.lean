import PyProof.Rows.All
import Wide.All
import OpenK.AllK
import Wide.FinOn
import KE.KStateDown
import KE.OsHead
import Open.SpecLaws
import KE.OsGo
import HandS.ForSpec
import HandS.ForMost
import HandS.ExcInit
import HandS.ExcField
import HandS.Defaults
import HandS.Head0
import HandS.Head1
import HandS.Head2
import HandS.Head3
import HandS.Head4
import HandS.HeadHook1
import HandS.HeadHook2
import HandS.HeadHook3
import HandS.HeadHook4
import HandS.CallSlots
import HandS.Wide
import HandS.WideBits
import HandS.Style
import HandS.NoneIn
import HandS.Zip
import HandS.TupSets
import HandS.SortRule
import HandS.SortInts
import HandS.Walk
import HandS.Steps
import KE.LtSeq
import KE.DatumOrd
import KE.KRevSl
import PyProof.Rows.TupMore
import PyProof.InstEq
import PySem.Challenge.RW_swapplanner_s01_answers
set_option Elab.async false
set_option linter.all false
/-! Order: which sets of rules are plans; the order in which the rules are applied. -/
namespace Pl
open SubstitutionSpec
/-- some rule of the list feeds r -/
def fedBy (rs : List Rule) (r : Rule) : Bool := rs.any fun o => o.feeds r

theorem fedBy_iff {rs : List Rule} {r : Rule} : fedBy rs r = true ↔ ∃ o ∈ rs, o.feeds r = true := by
  unfold fedBy; exact List.any_eq_true
theorem fedBy_congr {rs ss : List Rule} {r : Rule} (h : ∀ x, x ∈ rs ↔ x ∈ ss) : fedBy rs r = fedBy ss r := by
  rw [Bool.eq_iff_iff, fedBy_iff, fedBy_iff]
  exact ⟨fun ⟨o, a, b⟩ => ⟨o, (h o).mp a, b⟩, fun ⟨o, a, b⟩ => ⟨o, (h o).mpr a, b⟩⟩
theorem nodup_of_mats {rs : List Rule} (h : (rs.map fun r => r.material).Nodup) : rs.Nodup := by
  induction rs with
  | nil => simp
  | cons a l ih =>
    rw [List.map_cons, List.nodup_cons] at h
    exact List.nodup_cons.mpr ⟨fun m => h.1 (List.mem_map.mpr ⟨a, m, rfl⟩), ih h.2⟩

/-! ### used rules -/
theorem used_succ {rules : List Rule} {mix : Mixture} {k : Nat} {r : Rule} : r ∈ usedRules rules mix (k + 1) ↔ r ∈ rules ∧ (r ∈ usedRules rules mix k ∨ fedBy (usedRules rules mix k) r = true) := by
  show r ∈ rules.filter _ ↔ _
  rw [List.mem_filter]
  simp [fedBy]
theorem used_sub {rules : List Rule} {mix : Mixture} {k : Nat} {r : Rule} (h : r ∈ usedRules rules mix k) : r ∈ rules := by
  cases k with
  | zero => exact (List.mem_filter.mp h).1
  | succ k => exact (used_succ.mp h).1
theorem used_le {rules : List Rule} {mix : Mixture} {k j : Nat} {r : Rule} (hj : k ≤ j) (h : r ∈ usedRules rules mix k) : r ∈ usedRules rules mix j := by
  induction j with
  | zero => obtain rfl : k = 0 := by omega
            exact h
  | succ j ih =>
    by_cases e : k = j + 1
    · subst e; exact h
    · exact used_succ.mpr ⟨used_sub h, .inl (ih (by omega))⟩
theorem used_nodup {rules : List Rule} {mix : Mixture} (hn : rules.Nodup) (k : Nat) : (usedRules rules mix k).Nodup := by
  cases k with
  | zero => exact List.Pairwise.filter _ hn
  | succ k => exact List.Pairwise.filter _ hn
/-- closed at k: the same from there on -/
theorem used_closed {rules : List Rule} {mix : Mixture} {k : Nat} (hc : ∀ r ∈ rules, fedBy (usedRules rules mix k) r = true → r ∈ usedRules rules mix k) :
    ∀ j, k ≤ j → ∀ r, r ∈ usedRules rules mix j ↔ r ∈ usedRules rules mix k := by
  intro j
  induction j with
  | zero => intro h r
            obtain rfl : k = 0 := by omega
            exact Iff.rfl
  | succ j ih =>
    intro h r
    by_cases e : k = j + 1
    · subst e; exact Iff.rfl
    · have ih' := ih (by omega)
      rw [used_succ, ih' r, fedBy_congr ih']
      constructor
      · rintro ⟨a, b | b⟩
        · exact b
        · exact hc r a b
      · exact fun a => ⟨used_sub a, .inl a⟩
/-- the loop's list behind k turns -/
structure UsedAt (rules : List Rule) (mix : Mixture) (k : Nat) (u : List Rule) : Prop where
  nd : u.Nodup
  mem : ∀ r, r ∈ u ↔ r ∈ usedRules rules mix k
  le : k ≤ u.length
def moreOf (rules u : List Rule) : List Rule := rules.filter fun r => !u.contains r && fedBy u r
theorem mem_more {rules u : List Rule} {r : Rule} : r ∈ moreOf rules u ↔ r ∈ rules ∧ r ∉ u ∧ fedBy u r = true := by
  unfold moreOf
  rw [List.mem_filter]
  simp
theorem UsedAt.start {rules : List Rule} {mix : Mixture} (hn : rules.Nodup) : UsedAt rules mix 0 (rules.filter fun r => (presentMaterials mix).contains r.material) :=
  ⟨List.Pairwise.filter _ hn, fun r => Iff.rfl, Nat.zero_le _⟩
theorem UsedAt.len {rules : List Rule} {mix : Mixture} {k : Nat} {u : List Rule} (h : UsedAt rules mix k u) : u.length ≤ rules.length :=
  List.Nodup.length_le_of_subset h.nd fun r hr => used_sub ((h.mem r).mp hr)
theorem UsedAt.step {rules : List Rule} {mix : Mixture} {k : Nat} {u : List Rule} (hn : rules.Nodup) (h : UsedAt rules mix k u) (hm : moreOf rules u ≠ []) : UsedAt rules mix (k + 1) (u ++ moreOf rules u) := by
  refine ⟨?_, fun r => ?_, ?_⟩
  · refine List.nodup_append.mpr ⟨h.nd, List.Pairwise.filter _ hn, fun a ha b hb e => ?_⟩
    subst e
    exact (mem_more.mp hb).2.1 ha
  · rw [List.mem_append, mem_more, used_succ, h.mem r, fedBy_congr h.mem]
    by_cases e : r ∈ usedRules rules mix k
    · simp [e, used_sub e]
    · simp [e]
  · rw [List.length_append]
    have := h.le
    have : 0 < (moreOf rules u).length := List.length_pos_iff.mpr hm
    omega
theorem UsedAt.done {rules : List Rule} {mix : Mixture} {k : Nat} {u : List Rule} (hn : rules.Nodup) (h : UsedAt rules mix k u) (hm : moreOf rules u = []) : u.length = (usedRules rules mix rules.length).length := by
  have hc : ∀ r ∈ rules, fedBy (usedRules rules mix k) r = true → r ∈ usedRules rules mix k := fun r hr hf => by
    rw [← h.mem r]
    by_cases e : r ∈ u
    · exact e
    · have : r ∈ moreOf rules u := mem_more.mpr ⟨hr, e, by rw [fedBy_congr h.mem]; exact hf⟩
      rw [hm] at this
      cases this
  have q := used_closed hc rules.length (Nat.le_trans h.le h.len)
  have hp : u.Perm (usedRules rules mix rules.length) := (List.perm_ext_iff_of_nodup h.nd (used_nodup hn _)).mpr fun r => by rw [h.mem r, q r]
  exact hp.length_eq

/-! ### the topological loop -/
def topo : Nat → List Rule → List Rule → Option (List Rule)
  | 0, found, _ => some found
  | n + 1, found, left =>
    if left.isEmpty = true then some found
    else if (left.filter fun r => !fedBy left r).isEmpty = true then none
    else topo n (found ++ left.filter fun r => !fedBy left r) (left.filter fun r => !(left.filter fun r => !fedBy left r).contains r)
theorem left_next (left : List Rule) : (left.filter fun r => !(left.filter fun r => !fedBy left r).contains r) = left.filter fun r => fedBy left r := by
  refine List.filter_congr fun r hr => ?_
  rw [Bool.eq_iff_iff]
  simp only [Bool.not_eq_true', List.contains_eq_mem, List.mem_filter, decide_eq_false_iff_not, not_and]
  constructor
  · intro h
    have := h hr
    cases e : fedBy left r <;> simp_all
  · intro h _
    rw [h]; simp
theorem topo_empty (n : Nat) (found : List Rule) : topo n found [] = some found := by
  cases n <;> rfl
theorem topo_stuck {n : Nat} {found left : List Rule} (h : left ≠ []) (hf : (left.filter fun r => !fedBy left r) = []) : topo (n + 1) found left = none := by
  show (if left.isEmpty = true then _ else if (left.filter fun r => !fedBy left r).isEmpty = true then none else _) = none
  rw [if_neg (by simpa using h), if_pos (by rw [hf]; rfl)]
theorem topo_go {n : Nat} {found left : List Rule} (h : left ≠ []) (hf : (left.filter fun r => !fedBy left r) ≠ []) :
    topo (n + 1) found left = topo n (found ++ left.filter fun r => !fedBy left r) (left.filter fun r => !(left.filter fun r => !fedBy left r).contains r) := by
  show (if left.isEmpty = true then _ else if (left.filter fun r => !fedBy left r).isEmpty = true then none else _) = _
  rw [if_neg (by simpa using h), if_neg (by simpa using hf)]
theorem left_len {left : List Rule} (hf : (left.filter fun r => !fedBy left r) ≠ []) : (left.filter fun r => !(left.filter fun r => !fedBy left r).contains r).length < left.length := by
  rw [left_next]
  have e : (left.filter fun r => fedBy left r).length + (left.filter fun r => !fedBy left r).length = left.length := by
    rw [← List.length_append]
    exact (List.filter_append_perm _ left).length_eq
  have : 0 < (left.filter fun r => !fedBy left r).length := List.length_pos_iff.mpr hf
  omega
/-- what the loop keeps -/
structure TopAt (rules found left : List Rule) (k : Nat) : Prop where
  perm : (found ++ left).Perm rules
  lft : left = removeUnfed rules k
  pw : found.Pairwise fun a b => b.feeds a = false
  own : ∀ a ∈ found, a.feeds a = false
  cross : ∀ a ∈ found, ∀ b ∈ left, b.feeds a = false
  le : k ≤ found.length
theorem unfed_succ (rules : List Rule) (k : Nat) : removeUnfed rules (k + 1) = (removeUnfed rules k).filter fun r => fedBy (removeUnfed rules k) r := rfl
theorem unfed_stuck {rules : List Rule} {k : Nat} (h : removeUnfed rules (k + 1) = removeUnfed rules k) : ∀ j, k ≤ j → removeUnfed rules j = removeUnfed rules k := by
  intro j
  induction j with
  | zero => intro hj
            obtain rfl : k = 0 := by omega
            rfl
  | succ j ih =>
    intro hj
    by_cases e : k = j + 1
    · subst e; rfl
    · rw [unfed_succ, ih (by omega), ← unfed_succ, h]
theorem unfed_nil {rules : List Rule} {k : Nat} (h : removeUnfed rules k = []) (j : Nat) (hj : k ≤ j) : removeUnfed rules j = [] := by
  rw [unfed_stuck (k := k) (by rw [unfed_succ, h]; rfl) j hj, h]
theorem TopAt.start (rules : List Rule) : TopAt rules [] rules 0 :=
  ⟨by simp, rfl, .nil, by simp, by simp, Nat.le_refl _⟩
theorem not_fed {left : List Rule} {a b : Rule} (ha : a ∈ left.filter fun r => !fedBy left r) (hb : b ∈ left) : b.feeds a = false := by
  have h := (List.mem_filter.mp ha).2
  cases e : b.feeds a with
  | false => rfl
  | true =>
    have : fedBy left a = true := fedBy_iff.mpr ⟨b, hb, e⟩
    simp [this] at h
theorem TopAt.step {rules found left : List Rule} {k : Nat} (h : TopAt rules found left k) (hf : (left.filter fun r => !fedBy left r) ≠ []) :
    TopAt rules (found ++ left.filter fun r => !fedBy left r) (left.filter fun r => !(left.filter fun r => !fedBy left r).contains r) (k + 1) := by
  have sub : ∀ x ∈ left.filter (fun r => !fedBy left r), x ∈ left := fun x hx => (List.mem_filter.mp hx).1
  rw [left_next]
  refine ⟨?_, ?_, ?_, ?_, ?_, ?_⟩
  · refine List.Perm.trans ?_ h.perm
    rw [List.append_assoc]
    refine List.Perm.append_left _ ?_
    have := List.filter_append_perm (fun r => fedBy left r) left
    exact List.perm_append_comm.trans this
  · rw [unfed_succ, ← h.lft]
  · refine List.pairwise_append.mpr ⟨h.pw, ?_, fun a ha b hb => h.cross a ha b (sub b hb)⟩
    refine List.pairwise_of_forall_mem_list fun a ha b hb => not_fed ha (sub b hb)
  · intro a ha
    rcases List.mem_append.mp ha with ha | ha
    · exact h.own a ha
    · exact not_fed ha (sub a ha)
  · intro a ha b hb
    have hb' : b ∈ left := (List.mem_filter.mp hb).1
    rcases List.mem_append.mp ha with ha | ha
    · exact h.cross a ha b hb'
    · exact not_fed ha hb'
  · rw [List.length_append]
    have := h.le
    have : 0 < (left.filter fun r => !fedBy left r).length := List.length_pos_iff.mpr hf
    omega
/-- a good order: each rule behind those that feed it -/
structure Good (rules ord : List Rule) : Prop where
  perm : ord.Perm rules
  pw : ord.Pairwise fun a b => b.feeds a = false
  own : ∀ a ∈ ord, a.feeds a = false
theorem topo_some {rules : List Rule} : ∀ (n : Nat) {found left : List Rule} {k : Nat}, left.length ≤ n → TopAt rules found left k →
    (isAcyclic rules = true → ∃ ord, topo n found left = some ord ∧ Good rules ord) ∧ (isAcyclic rules = false → topo n found left = none)
  | n, found, left, k, hn, h => by
    have hlen : found.length + left.length = rules.length := by rw [← List.length_append]; exact h.perm.length_eq
    by_cases hl : left = []
    · subst hl
      have hac : isAcyclic rules = true := by
        unfold isAcyclic
        rw [unfed_nil h.lft.symm rules.length (by have := h.le; simp at hlen; omega)]
        rfl
      refine ⟨fun _ => ⟨found, topo_empty n found, ⟨by simpa using h.perm, h.pw, h.own⟩⟩, fun e => ?_⟩
      rw [hac] at e; cases e
    · cases n with
      | zero => exact absurd (List.length_eq_zero_iff.mp (by omega)) hl
      | succ n =>
        by_cases hf : (left.filter fun r => !fedBy left r) = []
        · have hac : isAcyclic rules = false := by
            unfold isAcyclic
            have hs : removeUnfed rules (k + 1) = removeUnfed rules k := by
              rw [unfed_succ, ← h.lft]
              refine List.filter_eq_self.mpr fun r hr => ?_
              cases e : fedBy left r with
              | true => rfl
              | false =>
                have : r ∈ left.filter fun r => !fedBy left r := List.mem_filter.mpr ⟨hr, by rw [e]; rfl⟩
                rw [hf] at this; cases this
            rw [unfed_stuck hs rules.length (by have := h.le; omega), ← h.lft]
            simpa using hl
          refine ⟨fun e => ?_, fun _ => topo_stuck hl hf⟩
          rw [hac] at e; cases e
        · rw [topo_go hl hf]
          exact topo_some n (by have := left_len hf; omega) (h.step hf)
/-- the mirror of Store.order -/
def orderM (rules : List Rule) (mix : Mixture) : Option (List Rule) :=
  if (rules.map fun r => r.material).Nodup then
    if (usedRules rules mix rules.length).length < rules.length then none else topo rules.length [] rules
  else none
theorem orderM_some {rules : List Rule} {mix : Mixture} (h : isPlan rules mix = true) : ∃ ord, orderM rules mix = some ord ∧ Good rules ord := by
  unfold isPlan at h
  simp only [Bool.and_eq_true, decide_eq_true_eq, beq_iff_eq] at h
  obtain ⟨h1, h2, h3⟩ := h
  unfold orderM
  rw [if_pos h1, if_neg (by omega)]
  exact (topo_some rules.length (Nat.le_refl _) (TopAt.start rules)).1 h2
theorem orderM_none {rules : List Rule} {mix : Mixture} (h : isPlan rules mix = false) : orderM rules mix = none := by
  unfold orderM
  split
  · rename_i h1
    split
    · rfl
    · rename_i h3
      refine (topo_some rules.length (Nat.le_refl _) (TopAt.start rules)).2 ?_
      have hle : (usedRules rules mix rules.length).length ≤ rules.length :=
        List.Nodup.length_le_of_subset (used_nodup (nodup_of_mats h1) _) fun r hr => used_sub hr
      unfold isPlan at h
      cases e : isAcyclic rules with
      | false => rfl
      | true =>
        have e3 : (usedRules rules mix rules.length).length = rules.length := by omega
        rw [e, e3] at h
        simp [h1] at h
  · rfl
theorem isPlan_nodup {rules : List Rule} {mix : Mixture} (h : isPlan rules mix = true) : (rules.map fun r => r.material).Nodup := by
  unfold isPlan at h
  simp only [Bool.and_eq_true, decide_eq_true_eq] at h
  exact h.1
end Pl
/-! Results: applying the rules once each in a good order gives what the specification's passes give. -/
namespace Pl
open SubstitutionSpec
/-! ### lists of pairs with different keys, in any order -/
section
variable {α : Type}
def getA (es : List (Nat × α)) (k : Nat) : Option α := (es.find? fun e => decide (e.1 = k)).map fun e => e.2
def putA (es : List (Nat × α)) (k : Nat) (x : α) : List (Nat × α) :=
  if (es.any fun e => decide (e.1 = k)) = true then es.map (fun e => if e.1 = k then (e.1, x) else e) else es ++ [(k, x)]
def dropA (es : List (Nat × α)) (k : Nat) : List (Nat × α) := es.filter fun e => decide (e.1 ≠ k)
def keysA (es : List (Nat × α)) : List Nat := es.map fun e => e.1
theorem getA_nil {k : Nat} : getA ([] : List (Nat × α)) k = none := rfl
theorem getA_pos {e : Nat × α} {r : List (Nat × α)} {k : Nat} (h : e.1 = k) : getA (e :: r) k = some e.2 := by simp [getA, List.find?_cons, h]
theorem getA_neg {e : Nat × α} {r : List (Nat × α)} {k : Nat} (h : ¬ e.1 = k) : getA (e :: r) k = getA r k := by simp [getA, List.find?_cons, h]
theorem getA_none {k : Nat} : ∀ {es : List (Nat × α)}, getA es k = none ↔ k ∉ keysA es
  | [] => by simp [getA, keysA]
  | e :: r => by
    by_cases h : e.1 = k
    · rw [getA_pos h]
      simp [keysA, h]
    · rw [getA_neg h, getA_none (es := r)]
      simp only [keysA, List.map_cons, List.mem_cons, not_or]
      exact ⟨fun a => ⟨fun z => h z.symm, a⟩, fun a => a.2⟩
theorem getA_mem {k : Nat} {x : α} : ∀ {es : List (Nat × α)}, getA es k = some x → (k, x) ∈ es
  | [], h => by cases h
  | e :: r, h => by
    by_cases q : e.1 = k
    · rw [getA_pos q] at h
      cases h
      subst q
      exact List.mem_cons_self
    · rw [getA_neg q] at h
      exact List.mem_cons_of_mem _ (getA_mem h)
theorem mem_getA {k : Nat} {x : α} : ∀ {es : List (Nat × α)}, (keysA es).Nodup → (k, x) ∈ es → getA es k = some x
  | [], _, h => by cases h
  | e :: r, hn, h => by
    have hn' : e.1 ∉ keysA r ∧ (keysA r).Nodup := List.nodup_cons.mp hn
    rcases List.mem_cons.mp h with rfl | h
    · exact getA_pos rfl
    · have : ¬ e.1 = k := fun q => hn'.1 (List.mem_map.mpr ⟨_, h, q.symm⟩)
      rw [getA_neg this]
      exact mem_getA hn'.2 h
theorem any_key {es : List (Nat × α)} {k : Nat} : (es.any fun e => decide (e.1 = k)) = true ↔ k ∈ keysA es := by
  rw [List.any_eq_true]
  simp [keysA]
theorem getA_map (k j : Nat) (y : α) : ∀ es : List (Nat × α), getA (es.map fun e => if e.1 = k then (e.1, y) else e) j = (getA es j).map fun x => if j = k then y else x
  | [] => rfl
  | e :: r => by
    have ih := getA_map k j y r
    rw [List.map_cons]
    by_cases h : e.1 = k
    · rw [if_pos h]
      by_cases q : e.1 = j
      · rw [getA_pos (e := (e.1, y)) q, getA_pos q]
        simp [q.symm.trans h]
      · rw [getA_neg (e := (e.1, y)) q, getA_neg q, ih]
    · rw [if_neg h]
      by_cases q : e.1 = j
      · rw [getA_pos q, getA_pos q]
        have : ¬ j = k := fun z => h (q.trans z)
        simp [this]
      · rw [getA_neg q, getA_neg q, ih]
theorem getA_append {es fs : List (Nat × α)} {k : Nat} : getA (es ++ fs) k = (getA es k).or (getA fs k) := by
  unfold getA
  rw [List.find?_append]
  cases es.find? fun e => decide (e.1 = k) <;> simp
theorem getA_put (es : List (Nat × α)) (k j : Nat) (y : α) : getA (putA es k y) j = if j = k then some y else getA es j := by
  unfold putA
  by_cases h : (es.any fun e => decide (e.1 = k)) = true
  · rw [if_pos h, getA_map]
    by_cases q : j = k
    · subst q
      cases e : getA es j with
      | none => exact absurd (any_key.mp h) (getA_none.mp e)
      | some x => simp
    · simp [q]
  · rw [if_neg h, getA_append]
    by_cases q : j = k
    · subst q
      have : getA es j = none := getA_none.mpr fun z => h (any_key.mpr z)
      rw [this]
      simp [getA]
    · have : getA [(k, y)] j = none := getA_none.mpr (by simp [keysA, q])
      rw [this]
      simp [q]
theorem getA_drop (k j : Nat) : ∀ es : List (Nat × α), getA (dropA es k) j = if j = k then none else getA es j
  | [] => by simp [dropA, getA]
  | e :: r => by
    have ih := getA_drop k j r
    unfold dropA at ih ⊢
    rw [List.filter_cons]
    by_cases h : e.1 = k
    · rw [if_neg (by simp [h]), ih]
      by_cases q : j = k
      · simp [q]
      · rw [if_neg q, if_neg q, getA_neg]
        exact fun z => q (z.symm.trans h)
    · rw [if_pos (by simp [h])]
      by_cases z : e.1 = j
      · rw [getA_pos z, getA_pos z, if_neg fun w => h (z.trans w)]
      · rw [getA_neg z, getA_neg z, ih]
theorem keys_put (es : List (Nat × α)) (k : Nat) (y : α) : keysA (putA es k y) = if k ∈ keysA es then keysA es else keysA es ++ [k] := by
  unfold putA
  by_cases h : (es.any fun e => decide (e.1 = k)) = true
  · rw [if_pos h, if_pos (any_key.mp h)]
    unfold keysA
    rw [List.map_map]
    refine List.map_congr_left fun e _ => ?_
    simp only [Function.comp]
    split <;> rfl
  · rw [if_neg h, if_neg fun z => h (any_key.mpr z)]
    simp [keysA]
theorem nodup_put {es : List (Nat × α)} (k : Nat) (y : α) (h : (keysA es).Nodup) : (keysA (putA es k y)).Nodup := by
  rw [keys_put]
  split
  · exact h
  · rename_i q
    exact List.nodup_append.mpr ⟨h, by simp, fun a ha b hb e => by simp at hb; subst hb; exact q (e ▸ ha)⟩
theorem nodup_drop {es : List (Nat × α)} (k : Nat) (h : (keysA es).Nodup) : (keysA (dropA es k)).Nodup :=
  List.Pairwise.sublist (List.Sublist.map _ List.filter_sublist) h
theorem len_put (es : List (Nat × α)) (k : Nat) (y : α) : (putA es k y).length ≤ es.length + 1 := by
  unfold putA
  split <;> simp
end
/-! ### sums with weights -/
def tot (W : Nat → Rat) (es : List (Nat × Rat)) : Rat := sumRat (es.map fun e => e.2 * W e.1)
theorem sumRat_cons (a : Rat) (l : List Rat) : sumRat (a :: l) = a + sumRat l := rfl
theorem sumRat_append (l m : List Rat) : sumRat (l ++ m) = sumRat l + sumRat m := by
  induction l with
  | nil => show sumRat m = 0 + sumRat m; grind
  | cons a l ih => rw [List.cons_append, sumRat_cons, sumRat_cons, ih]; grind
theorem sumRat_perm {l m : List Rat} (h : l.Perm m) : sumRat l = sumRat m := by
  induction h with
  | nil => rfl
  | cons a _ ih => rw [sumRat_cons, sumRat_cons, ih]
  | swap a b l => simp only [sumRat_cons]; grind
  | trans _ _ ih1 ih2 => exact ih1.trans ih2
theorem tot_nil (W : Nat → Rat) : tot W [] = 0 := rfl
theorem tot_cons (W : Nat → Rat) (e : Nat × Rat) (es : List (Nat × Rat)) : tot W (e :: es) = e.2 * W e.1 + tot W es := rfl
theorem tot_append (W : Nat → Rat) (es fs : List (Nat × Rat)) : tot W (es ++ fs) = tot W es + tot W fs := by
  unfold tot; rw [List.map_append, sumRat_append]
theorem tot_perm (W : Nat → Rat) {es fs : List (Nat × Rat)} (h : es.Perm fs) : tot W es = tot W fs := sumRat_perm (h.map _)
theorem tot_map (W : Nat → Rat) (k : Nat) (y : Rat) : ∀ es : List (Nat × Rat), (keysA es).Nodup →
    tot W (es.map fun e => if e.1 = k then (e.1, y) else e) = tot W es + (match getA es k with | some x => (y - x) * W k | none => 0)
  | [], _ => by rw [List.map_nil, tot_nil]; show (0 : Rat) = 0 + 0; grind
  | e :: r, hn => by
    have hn' : e.1 ∉ keysA r ∧ (keysA r).Nodup := List.nodup_cons.mp hn
    have ih := tot_map W k y r hn'.2
    rw [List.map_cons]
    by_cases h : e.1 = k
    · rw [if_pos h, tot_cons, tot_cons, ih, getA_pos h]
      have : getA r k = none := getA_none.mpr (h ▸ hn'.1)
      rw [this]
      show y * W e.1 + (tot W r + 0) = e.2 * W e.1 + tot W r + (y - e.2) * W k
      rw [h]
      grind
    · rw [if_neg h, tot_cons, tot_cons, ih, getA_neg h]
      grind
theorem tot_put (W : Nat → Rat) (es : List (Nat × Rat)) (k : Nat) (y : Rat) (hn : (keysA es).Nodup) : tot W (putA es k y) = tot W es + (y - (getA es k).getD 0) * W k := by
  unfold putA
  by_cases h : (es.any fun e => decide (e.1 = k)) = true
  · rw [if_pos h, tot_map W k y es hn]
    cases e : getA es k with
    | none => exact absurd (any_key.mp h) (getA_none.mp e)
    | some x => rfl
  · rw [if_neg h, tot_append]
    have : getA es k = none := getA_none.mpr fun z => h (any_key.mpr z)
    rw [this, tot_cons, tot_nil]
    show _ = tot W es + (y - 0) * W k
    grind
theorem tot_drop (W : Nat → Rat) (k : Nat) : ∀ es : List (Nat × Rat), (keysA es).Nodup → tot W (dropA es k) = tot W es - (getA es k).getD 0 * W k
  | [], _ => by show (0 : Rat) = 0 - 0 * W k; grind
  | e :: r, hn => by
    have hn' : e.1 ∉ keysA r ∧ (keysA r).Nodup := List.nodup_cons.mp hn
    have ih := tot_drop W k r hn'.2
    unfold dropA at ih ⊢
    rw [List.filter_cons]
    by_cases h : e.1 = k
    · rw [if_neg (by simp [h]), ih, getA_pos h, tot_cons]
      have : getA r k = none := getA_none.mpr (h ▸ hn'.1)
      rw [this]
      show tot W r - 0 * W k = e.2 * W e.1 + tot W r - e.2 * W k
      rw [h]
      grind
    · rw [if_pos (by simp [h]), tot_cons, ih, getA_neg h, tot_cons]
      grind
/-! ### tables -/
def Asc {α : Type} (t : List (Nat × α)) : Prop := (keysA t).Pairwise (· < ·)
theorem Asc.nodup {α : Type} {t : List (Nat × α)} (h : Asc t) : (keysA t).Nodup := h.imp fun h => Nat.ne_of_lt h
theorem lookup_getA {α : Type} (t : List (Nat × α)) (k : Nat) : Table.lookup t k = getA t k := by
  unfold Table.lookup getA
  congr 1
theorem mem_insert_key {α : Type} {k : Nat} {x : α} : ∀ {t : List (Nat × α)} {j : Nat}, j ∈ keysA (Table.insert k x t) ↔ j = k ∨ j ∈ keysA t
  | [], j => by simp [Table.insert, keysA]
  | e :: r, j => by
    unfold Table.insert
    split
    · simp [keysA]
    · split
      · rename_i h
        simp [keysA, h]
      · have ih := mem_insert_key (k := k) (x := x) (t := r) (j := j)
        simp only [keysA, List.map_cons, List.mem_cons] at ih ⊢
        rw [ih]
        constructor
        · rintro (a | a | a) <;> simp [a]
        · rintro (a | a | a) <;> simp [a]
theorem asc_insert {α : Type} {k : Nat} {x : α} : ∀ {t : List (Nat × α)}, Asc t → Asc (Table.insert k x t)
  | [], _ => by simp [Asc, Table.insert, keysA]
  | e :: r, h => by
    obtain ⟨h1, h2⟩ := List.pairwise_cons.mp (show (e.1 :: keysA r).Pairwise (· < ·) from h)
    unfold Table.insert
    split
    · rename_i c
      refine List.pairwise_cons.mpr ⟨fun j hj => ?_, h⟩
      rcases List.mem_cons.mp hj with rfl | hj
      · exact c
      · exact Nat.lt_trans c (h1 j hj)
    · split
      · rename_i c
        show (k :: keysA r).Pairwise (· < ·)
        rw [← c]
        exact h
      · refine List.pairwise_cons.mpr ⟨fun j hj => ?_, asc_insert h2⟩
        rcases mem_insert_key.mp hj with rfl | hj
        · show e.1 < j
          omega
        · exact h1 j hj
theorem getA_insert {α : Type} (k j : Nat) (x : α) : ∀ t : List (Nat × α), getA (Table.insert k x t) j = if j = k then some x else getA t j
  | [] => by
    unfold Table.insert
    by_cases q : j = k
    · rw [if_pos q, getA_pos q.symm]
    · rw [if_neg q, getA_neg fun z => q z.symm]
  | e :: r => by
    have ih := getA_insert k j x r
    unfold Table.insert
    split
    · by_cases q : j = k
      · rw [if_pos q, getA_pos q.symm]
      · rw [if_neg q, getA_neg fun z => q z.symm]
    · split
      · rename_i c
        by_cases q : j = k
        · rw [if_pos q, getA_pos q.symm]
        · rw [if_neg q, getA_neg fun z => q z.symm, getA_neg fun z => q (z.symm.trans c)]
      · rename_i c
        by_cases z : e.1 = j
        · rw [getA_pos z, getA_pos z, if_neg fun w => c (z.trans w)]
        · rw [getA_neg z, getA_neg z, ih]
theorem amount_insert (t : Mixture) (k j : Nat) (x : Rat) : amountOf (Table.insert k x t) j = if j = k then x else amountOf t j := by
  unfold amountOf
  rw [lookup_getA, lookup_getA, getA_insert]
  split <;> rfl
theorem tot_insert (W : Nat → Rat) (k : Nat) (y : Rat) : ∀ t : Mixture, Asc t → tot W (Table.insert k y t) = tot W t + (y - amountOf t k) * W k
  | [], _ => by
    show y * W k + 0 = 0 + (y - 0) * W k
    grind
  | e :: r, h => by
    obtain ⟨h1, h2⟩ := List.pairwise_cons.mp (show (e.1 :: keysA r).Pairwise (· < ·) from h)
    have ih := tot_insert W k y r h2
    unfold Table.insert
    unfold amountOf at ih ⊢
    rw [lookup_getA] at ih ⊢
    split
    · rename_i c
      have : getA (e :: r) k = none := getA_none.mpr fun z => by
        rcases List.mem_cons.mp z with z | z
        · have z : k = e.1 := z
          omega
        · exact absurd (h1 k z) (by omega)
      rw [this, tot_cons]
      show y * W k + tot W (e :: r) = tot W (e :: r) + (y - 0) * W k
      grind
    · split
      · rename_i c
        rw [getA_pos c, tot_cons, tot_cons, c]
        show y * W k + tot W r = e.2 * W k + tot W r + (y - e.2) * W k
        grind
      · rename_i c
        rw [getA_neg c, tot_cons, tot_cons, ih]
        grind
/-! ### weights -/
def Wof : List Rule → Nat → Nat → Rat
  | [], t, m => if m = t then 1 else 0
  | r :: rest, t, m => if m = r.material then sumRat (r.replacements.map fun p => Wof rest t p.1 * (p.2 : Rat) / (r.parts : Rat)) else Wof rest t m
def Wrule (W : Nat → Rat) (r : Rule) : Prop := W r.material = sumRat (r.replacements.map fun p => W p.1 * (p.2 : Rat) / (r.parts : Rat))
theorem not_feeds {a b : Rule} (h : a.feeds b = false) {p : Nat × Nat} (hp : p ∈ a.replacements) : p.1 ≠ b.material := fun e => by
  have : a.feeds b = true := List.any_eq_true.mpr ⟨p, hp, by simp [e]⟩
  rw [h] at this; cases this
theorem W_rule : ∀ {ord : List Rule} {t : Nat}, (ord.map fun r => r.material).Nodup → (ord.Pairwise fun a b => b.feeds a = false) → (∀ a ∈ ord, a.feeds a = false) → ∀ r ∈ ord, Wrule (Wof ord t) r
  | [], _, _, _, _, _, h => by cases h
  | r0 :: rest, t, hn, hp, ho, r, hr => by
    obtain ⟨n1, n2⟩ := List.nodup_cons.mp (show (r0.material :: rest.map fun r => r.material).Nodup from hn)
    obtain ⟨p1, p2⟩ := List.pairwise_cons.mp hp
    unfold Wrule
    rcases List.mem_cons.mp hr with rfl | hr'
    · show (if r.material = r.material then _ else _) = _
      rw [if_pos rfl]
      congr 1
      refine List.map_congr_left fun p hpm => ?_
      show _ = (if p.1 = r.material then _ else _) * _ / _
      rw [if_neg (not_feeds (ho r hr) hpm)]
    · have ne : ¬ r.material = r0.material := fun e => n1 (List.mem_map.mpr ⟨r, hr', e⟩)
      show (if r.material = r0.material then _ else _) = _
      rw [if_neg ne]
      have ih : Wrule (Wof rest t) r := W_rule n2 p2 (fun a ha => ho a (List.mem_cons_of_mem _ ha)) r hr'
      rw [show Wof rest t r.material = _ from ih]
      congr 1
      refine List.map_congr_left fun p hpm => ?_
      show _ = (if p.1 = r0.material then _ else _) * _ / _
      rw [if_neg (not_feeds (p1 r hr') hpm)]
theorem W_else : ∀ {ord : List Rule} {t m : Nat}, m ∉ (ord.map fun r => r.material) → Wof ord t m = if m = t then 1 else 0
  | [], _, _, _ => rfl
  | r0 :: rest, t, m, h => by
    have h' : ¬ (m = r0.material ∨ m ∈ rest.map fun r => r.material) := fun z => h (by simpa using z)
    show (if m = r0.material then _ else _) = _
    rw [if_neg fun e => h' (.inl e)]
    exact W_else fun e => h' (.inr e)
/-- with nothing left of the rules' materials the weighted sum is the amount -/
theorem tot_at {ord : List Rule} {t : Nat} (ht : t ∉ ord.map fun r => r.material) : ∀ (es : List (Nat × Rat)), (keysA es).Nodup → (∀ e ∈ es, e.1 ∈ (ord.map fun r => r.material) → e.2 = 0) → tot (Wof ord t) es = (getA es t).getD 0
  | [], _, _ => rfl
  | e :: r, hn, h => by
    have hn' : e.1 ∉ keysA r ∧ (keysA r).Nodup := List.nodup_cons.mp hn
    have ih := tot_at ht r hn'.2 fun x hx => h x (List.mem_cons_of_mem _ hx)
    rw [tot_cons, ih]
    by_cases c : e.1 = t
    · rw [getA_pos c, W_else (by rw [c]; exact ht), if_pos c]
      have : getA r t = none := getA_none.mpr (c ▸ hn'.1)
      rw [this]
      show e.2 * 1 + 0 = e.2
      grind
    · rw [getA_neg c]
      by_cases m : e.1 ∈ ord.map fun r => r.material
      · rw [h e List.mem_cons_self m]
        grind
      · rw [W_else m, if_neg c]
        grind
/-! ### the specification's side -/
theorem foldl_add (W : Nat → Rat) (x d : Rat) : ∀ (reps : List (Nat × Nat)) (t : Mixture), Asc t →
    Asc (reps.foldl (fun result replacement => addAmount result replacement.1 (x * (replacement.2 : Rat) / d)) t) ∧
    tot W (reps.foldl (fun result replacement => addAmount result replacement.1 (x * (replacement.2 : Rat) / d)) t) = tot W t + x * sumRat (reps.map fun p => W p.1 * (p.2 : Rat) / d)
  | [], t, h => ⟨h, by show tot W t = tot W t + x * 0; grind⟩
  | p :: r, t, h => by
    obtain ⟨a, b⟩ := foldl_add W x d r (addAmount t p.1 (x * (p.2 : Rat) / d)) (asc_insert h)
    refine ⟨a, b.trans ?_⟩
    rw [List.map_cons, sumRat_cons]
    show tot W (Table.insert p.1 _ t) + _ = _
    rw [tot_insert W _ _ t h]
    grind
theorem apply_asc {r : Rule} {t : Mixture} (h : Asc t) : Asc (r.apply t) := (foldl_add (fun _ => 0) _ _ _ _ (asc_insert h)).1
theorem apply_tot {W : Nat → Rat} {r : Rule} {t : Mixture} (h : Asc t) (hW : Wrule W r) : tot W (r.apply t) = tot W t := by
  refine (foldl_add W _ _ _ _ (asc_insert h)).2.trans ?_
  rw [tot_insert W _ _ t h, ← hW]
  grind
theorem foldl_amount (x d : Rat) (m : Nat) : ∀ (reps : List (Nat × Nat)) (t : Mixture), (∀ p ∈ reps, p.1 ≠ m) →
    amountOf (reps.foldl (fun result replacement => addAmount result replacement.1 (x * (replacement.2 : Rat) / d)) t) m = amountOf t m
  | [], _, _ => rfl
  | p :: r, t, h => by
    rw [List.foldl_cons, foldl_amount x d m r _ fun q hq => h q (List.mem_cons_of_mem _ hq)]
    unfold addAmount
    rw [amount_insert, if_neg fun e => h p List.mem_cons_self e.symm]
theorem apply_other {r : Rule} {t : Mixture} {m : Nat} (h1 : m ≠ r.material) (h2 : ∀ p ∈ r.replacements, p.1 ≠ m) : amountOf (r.apply t) m = amountOf t m := by
  refine (foldl_amount _ _ m _ _ h2).trans ?_
  rw [amount_insert, if_neg h1]
theorem apply_self {r : Rule} {t : Mixture} (h : r.feeds r = false) : amountOf (r.apply t) r.material = 0 := by
  refine (foldl_amount _ _ _ _ _ fun p hp => not_feeds h hp).trans ?_
  rw [amount_insert, if_pos rfl]
def stepS (t : Mixture) (r : Rule) : Mixture := if amountOf t r.material = 0 then t else r.apply t
theorem stepS_keep {ord pre post : List Rule} (he : ord = pre ++ post) (hp : ord.Pairwise fun a b => b.feeds a = false) {r : Rule} (hr : r ∈ ord) {t : Mixture} (hz : ∀ a ∈ pre, amountOf t a.material = 0) :
    ∀ a ∈ pre, amountOf (stepS t r) a.material = 0 := by
  intro a ha
  unfold stepS
  split
  · exact hz a ha
  · rename_i c
    have hpost : r ∈ post := by
      rw [he] at hr
      rcases List.mem_append.mp hr with h | h
      · exact absurd (hz r h) c
      · exact h
    rw [he] at hp
    have nf := (List.pairwise_append.mp hp).2.2 a ha r hpost
    rw [apply_other (fun e => c (e ▸ hz a ha)) fun p hpm => not_feeds nf hpm]
    exact hz a ha
theorem fold_keep {ord pre post : List Rule} (he : ord = pre ++ post) (hp : ord.Pairwise fun a b => b.feeds a = false) : ∀ (l : List Rule) (t : Mixture), (∀ r ∈ l, r ∈ ord) → (∀ a ∈ pre, amountOf t a.material = 0) →
    ∀ a ∈ pre, amountOf (l.foldl stepS t) a.material = 0
  | [], _, _, hz => hz
  | r :: l, t, hl, hz => fold_keep he hp l (stepS t r) (fun x hx => hl x (List.mem_cons_of_mem _ hx)) (stepS_keep he hp (hl r List.mem_cons_self) hz)
theorem stepS_self {r : Rule} {t : Mixture} (h : r.feeds r = false) : amountOf (stepS t r) r.material = 0 := by
  unfold stepS
  split
  · assumption
  · exact apply_self h
/-- a pass empties one more -/
theorem fold_more {ord pre post : List Rule} {b : Rule} (he : ord = pre ++ b :: post) (hp : ord.Pairwise fun a b => b.feeds a = false) (ho : ∀ a ∈ ord, a.feeds a = false) :
    ∀ (l : List Rule) (t : Mixture), (∀ r ∈ l, r ∈ ord) → b ∈ l → (∀ a ∈ pre, amountOf t a.material = 0) → ∀ a ∈ pre ++ [b], amountOf (l.foldl stepS t) a.material = 0
  | [], _, _, hb, _ => by cases hb
  | r :: l, t, hl, hb, hz => by
    have hl' : ∀ x ∈ l, x ∈ ord := fun x hx => hl x (List.mem_cons_of_mem _ hx)
    have hk := stepS_keep he hp (hl r List.mem_cons_self) hz
    by_cases c : b ∈ l
    · exact fold_more he hp ho l (stepS t r) hl' c hk
    · have e : b = r := (List.mem_cons.mp hb).resolve_right c
      subst e
      have he2 : ord = (pre ++ [b]) ++ post := by rw [he]; simp
      refine fold_keep he2 hp l (stepS t b) hl' fun a ha => ?_
      rcases List.mem_append.mp ha with h | h
      · exact hk a h
      · obtain rfl : a = b := by simpa using h
        exact stepS_self (ho a (hl a List.mem_cons_self))
theorem applyRules_succ (rules : List Rule) (t : Mixture) (n : Nat) : applyRules rules t (n + 1) = applyRules rules (rules.foldl stepS t) n := rfl
theorem passes_zero {rules ord : List Rule} (g : Good rules ord) : ∀ (n : Nat) (pre post : List Rule) (t : Mixture), ord = pre ++ post → post.length = n → (∀ a ∈ pre, amountOf t a.material = 0) →
    ∀ a ∈ ord, amountOf (applyRules rules t n) a.material = 0
  | 0, pre, post, t, he, hl, hz => by
    have : post = [] := List.length_eq_zero_iff.mp hl
    subst this
    rw [List.append_nil] at he
    subst he
    exact hz
  | n + 1, pre, [], t, he, hl, hz => by simp at hl
  | n + 1, pre, b :: post, t, he, hl, hz => by
    rw [applyRules_succ]
    have hb : b ∈ rules := g.perm.mem_iff.mp (by rw [he]; simp)
    refine passes_zero g n (pre ++ [b]) post _ (by rw [he]; simp) (by simpa using hl) ?_
    exact fold_more he g.pw g.own rules t (fun r hr => g.perm.mem_iff.mpr hr) hb hz
theorem fold_tot {W : Nat → Rat} : ∀ (l : List Rule) (t : Mixture), Asc t → (∀ r ∈ l, Wrule W r) → Asc (l.foldl stepS t) ∧ tot W (l.foldl stepS t) = tot W t
  | [], _, h, _ => ⟨h, rfl⟩
  | r :: l, t, h, hW => by
    have h1 : Asc (stepS t r) ∧ tot W (stepS t r) = tot W t := by
      unfold stepS
      split
      · exact ⟨h, rfl⟩
      · exact ⟨apply_asc h, apply_tot h (hW r List.mem_cons_self)⟩
    obtain ⟨a, b⟩ := fold_tot l (stepS t r) h1.1 fun x hx => hW x (List.mem_cons_of_mem _ hx)
    exact ⟨a, b.trans h1.2⟩
theorem passes_tot {W : Nat → Rat} {rules : List Rule} (hW : ∀ r ∈ rules, Wrule W r) : ∀ (n : Nat) (t : Mixture), Asc t → Asc (applyRules rules t n) ∧ tot W (applyRules rules t n) = tot W t
  | 0, _, h => ⟨h, rfl⟩
  | n + 1, t, h => by
    rw [applyRules_succ]
    obtain ⟨a, b⟩ := fold_tot rules t h hW
    obtain ⟨c, d⟩ := passes_tot hW n _ a
    exact ⟨c, d.trans b⟩
/-- the specification's end, by weights -/
theorem spec_amount {rules ord : List Rule} (g : Good rules ord) (hn : (rules.map fun r => r.material).Nodup) {t : Mixture} (h : Asc t) (m : Nat) :
    amountOf (applyRules rules t rules.length) m = if m ∈ (ord.map fun r => r.material) then 0 else tot (Wof ord m) t := by
  have hz := passes_zero g rules.length [] ord t rfl g.perm.length_eq (by simp)
  have hno : (ord.map fun r => r.material).Nodup := (g.perm.map _).nodup_iff.mpr hn
  split
  · rename_i c
    obtain ⟨r, hr, e⟩ := List.mem_map.mp c
    rw [← e]
    exact hz r hr
  · rename_i c
    have hW : ∀ r ∈ rules, Wrule (Wof ord m) r := fun r hr => W_rule hno g.pw g.own r (g.perm.mem_iff.mpr hr)
    obtain ⟨a, b⟩ := passes_tot hW rules.length t h
    have q := tot_at c (applyRules rules t rules.length) a.nodup fun e he hm => by
      obtain ⟨r, hr, e2⟩ := List.mem_map.mp hm
      have q2 := hz r hr
      unfold amountOf at q2
      rw [lookup_getA, e2, mem_getA (x := e.2) a.nodup he] at q2
      exact q2
    rw [b] at q
    unfold amountOf
    rw [lookup_getA]
    exact q.symm
/-! ### the program's side -/
def addP (x : Rat) (d : Nat) (es : List (Nat × Rat)) (p : Nat × Nat) : List (Nat × Rat) := putA es p.1 ((getA es p.1).getD 0 + x * (p.2 : Rat) / (d : Rat))
def stepP (es : List (Nat × Rat)) (r : Rule) : List (Nat × Rat) := match getA es r.material with
  | none => es
  | some x => r.replacements.foldl (addP x r.parts) (dropA es r.material)
def RuleOk (r : Rule) : Prop := 0 < r.parts ∧ ∀ p ∈ r.replacements, 0 < p.2
structure AmtsOk (es : List (Nat × Rat)) : Prop where
  nd : (keysA es).Nodup
  pos : ∀ e ∈ es, 0 < e.2
theorem pos_getD {es : List (Nat × Rat)} (h : ∀ e ∈ es, 0 < e.2) (k : Nat) : 0 ≤ (getA es k).getD 0 := by
  cases e : getA es k with
  | none => show (0 : Rat) ≤ 0; grind
  | some x => exact Rat.le_of_lt (h _ (getA_mem e))
theorem mem_put {α : Type} {es : List (Nat × α)} {k : Nat} {y : α} {e : Nat × α} (h : e ∈ putA es k y) : e ∈ es ∨ e = (k, y) := by
  unfold putA at h
  split at h
  · obtain ⟨a, ha, q⟩ := List.mem_map.mp h
    split at q
    · rename_i c
      right
      rw [← q, c]
    · left
      rw [← q]; exact ha
  · rcases List.mem_append.mp h with h | h
    · exact .inl h
    · exact .inr (by simpa using h)
theorem natpos {n : Nat} (h : 0 < n) : (0 : Rat) < (n : Rat) := by
  have : ((0 : Nat) : Rat) < (n : Rat) := Rat.natCast_lt_natCast.mpr h
  simpa using this
theorem divpos {a b : Rat} (ha : 0 < a) (hb : 0 < b) : 0 < a / b := by
  rw [Rat.div_def]
  exact Rat.mul_pos ha (Rat.inv_pos.mpr hb)
theorem addP_ok {x : Rat} {d : Nat} {es : List (Nat × Rat)} {p : Nat × Nat} (h : AmtsOk es) (hx : 0 < x) (hd : 0 < d) (hp : 0 < p.2) : AmtsOk (addP x d es p) := by
  refine ⟨nodup_put _ _ h.nd, fun e he => ?_⟩
  rcases mem_put he with q | q
  · exact h.pos e q
  · rw [q]
    have h1 := pos_getD h.pos p.1
    have h2 : 0 < x * (p.2 : Rat) / (d : Rat) := divpos (Rat.mul_pos hx (natpos hp)) (natpos hd)
    show 0 < _ + _
    grind
theorem addP_tot (W : Nat → Rat) {x : Rat} {d : Nat} {es : List (Nat × Rat)} {p : Nat × Nat} (h : AmtsOk es) : tot W (addP x d es p) = tot W es + x * (W p.1 * (p.2 : Rat) / (d : Rat)) := by
  unfold addP
  rw [tot_put W _ _ _ h.nd]
  grind
theorem foldP {W : Nat → Rat} {x : Rat} {d : Nat} (hx : 0 < x) (hd : 0 < d) : ∀ (reps : List (Nat × Nat)) (es : List (Nat × Rat)), AmtsOk es → (∀ p ∈ reps, 0 < p.2) →
    AmtsOk (reps.foldl (addP x d) es) ∧ tot W (reps.foldl (addP x d) es) = tot W es + x * sumRat (reps.map fun p => W p.1 * (p.2 : Rat) / (d : Rat))
  | [], es, h, _ => ⟨h, by show tot W es = tot W es + x * 0; grind⟩
  | p :: r, es, h, hp => by
    obtain ⟨a, b⟩ := foldP (W := W) hx hd r (addP x d es p) (addP_ok h hx hd (hp p List.mem_cons_self)) fun q hq => hp q (List.mem_cons_of_mem _ hq)
    refine ⟨a, b.trans ?_⟩
    rw [addP_tot W h, List.map_cons, sumRat_cons]
    grind
theorem foldP_keys {x : Rat} {d : Nat} : ∀ (reps : List (Nat × Nat)) (es : List (Nat × Rat)) {k : Nat}, k ∈ keysA (reps.foldl (addP x d) es) → k ∈ keysA es ∨ ∃ p ∈ reps, p.1 = k
  | [], _, _, h => .inl h
  | p :: r, es, k, h => by
    rcases foldP_keys r (addP x d es p) h with q | ⟨q, hq, e⟩
    · unfold addP at q
      rw [keys_put] at q
      split at q
      · exact .inl q
      · rcases List.mem_append.mp q with q | q
        · exact .inl q
        · exact .inr ⟨p, List.mem_cons_self, by simp at q; exact q.symm⟩
    · exact .inr ⟨q, List.mem_cons_of_mem _ hq, e⟩
theorem drop_ok {es : List (Nat × Rat)} (h : AmtsOk es) (k : Nat) : AmtsOk (dropA es k) := ⟨nodup_drop k h.nd, fun e he => h.pos e (List.mem_filter.mp he).1⟩
theorem drop_keys {α : Type} {es : List (Nat × α)} {k j : Nat} : j ∈ keysA (dropA es k) ↔ j ∈ keysA es ∧ j ≠ k := by
  unfold keysA dropA
  simp only [List.mem_map, List.mem_filter, decide_eq_true_eq]
  constructor
  · rintro ⟨e, ⟨a, b⟩, rfl⟩
    exact ⟨⟨e, a, rfl⟩, b⟩
  · rintro ⟨⟨e, a, rfl⟩, b⟩
    exact ⟨e, ⟨a, b⟩, rfl⟩
theorem stepP_ok {W : Nat → Rat} {es : List (Nat × Rat)} {r : Rule} (h : AmtsOk es) (hr : RuleOk r) (hW : Wrule W r) : AmtsOk (stepP es r) ∧ tot W (stepP es r) = tot W es := by
  unfold stepP
  cases e : getA es r.material with
  | none => exact ⟨h, rfl⟩
  | some x =>
    have hx : 0 < x := h.pos _ (getA_mem e)
    obtain ⟨a, b⟩ := foldP (W := W) hx hr.1 r.replacements (dropA es r.material) (drop_ok h _) hr.2
    refine ⟨a, b.trans ?_⟩
    rw [tot_drop W _ _ h.nd, e, ← hW]
    show tot W es - x * W r.material + x * W r.material = tot W es
    grind
/-- behind the rules pre none of their materials is left -/
theorem stepP_keys {es : List (Nat × Rat)} {r : Rule} {k : Nat} (h : k ∈ keysA (stepP es r)) (hs : r.feeds r = false) : (k ∈ keysA es ∧ k ≠ r.material) ∨ ∃ p ∈ r.replacements, p.1 = k := by
  unfold stepP at h
  cases e : getA es r.material with
  | none =>
    rw [e] at h
    exact .inl ⟨h, fun q => getA_none.mp e (q ▸ h)⟩
  | some x =>
    rw [e] at h
    rcases foldP_keys _ _ h with q | q
    · exact .inl (drop_keys.mp q)
    · exact .inr q
theorem prog_fold {W : Nat → Rat} {ord : List Rule} (hp : ord.Pairwise fun a b => b.feeds a = false) (ho : ∀ a ∈ ord, a.feeds a = false) (hok : ∀ r ∈ ord, RuleOk r) (hW : ∀ r ∈ ord, Wrule W r) :
    ∀ (post pre : List Rule) (es : List (Nat × Rat)), ord = pre ++ post → AmtsOk es → (∀ a ∈ pre, a.material ∉ keysA es) →
      AmtsOk (post.foldl stepP es) ∧ tot W (post.foldl stepP es) = tot W es ∧ ∀ a ∈ ord, a.material ∉ keysA (post.foldl stepP es)
  | [], pre, es, he, h, hk => by
    rw [List.append_nil] at he
    subst he
    exact ⟨h, rfl, hk⟩
  | r :: post, pre, es, he, h, hk => by
    have hr : r ∈ ord := by rw [he]; simp
    obtain ⟨a, b⟩ := stepP_ok h (hok r hr) (hW r hr)
    obtain ⟨c, d, e⟩ := prog_fold hp ho hok hW post (pre ++ [r]) (stepP es r) (by rw [he]; simp) a fun x hx hm => by
      have hxr : ∀ p ∈ r.replacements, p.1 ≠ x.material := by
        rcases List.mem_append.mp hx with q | q
        · rw [he] at hp
          exact fun p hp' => not_feeds ((List.pairwise_append.mp hp).2.2 x q r List.mem_cons_self) hp'
        · obtain rfl : x = r := by simpa using q
          exact fun p hp' => not_feeds (ho x hr) hp'
      rcases stepP_keys hm (ho r hr) with ⟨q1, q2⟩ | ⟨p, hp1, q⟩
      · rcases List.mem_append.mp hx with q | q
        · exact hk x q q1
        · obtain rfl : x = r := by simpa using q
          exact q2 rfl
      · exact hxr p hp1 q
    exact ⟨c, d.trans b, e⟩
/-! ### both -/
def amtsA (ord : List Rule) (mix : Mixture) : List (Nat × Rat) := ord.foldl stepP mix
theorem amts_ok {rules ord : List Rule} (g : Good rules ord) (hn : (rules.map fun r => r.material).Nodup) (hok : ∀ r ∈ rules, RuleOk r) {mix : Mixture} (ha : Asc mix) (hpos : ∀ e ∈ mix, 0 < e.2) :
    AmtsOk (amtsA ord mix) ∧ ∀ m, (getA (amtsA ord mix) m).getD 0 = amountOf (applyRules rules mix rules.length) m := by
  have hno : (ord.map fun r => r.material).Nodup := (g.perm.map _).nodup_iff.mpr hn
  have key : ∀ m, AmtsOk (amtsA ord mix) ∧ tot (Wof ord m) (amtsA ord mix) = tot (Wof ord m) mix ∧ ∀ a ∈ ord, a.material ∉ keysA (amtsA ord mix) := fun m =>
    prog_fold g.pw g.own (fun r hr => hok r (g.perm.mem_iff.mp hr)) (fun r hr => W_rule hno g.pw g.own r hr) ord [] mix rfl ⟨ha.nodup, hpos⟩ (by simp)
  refine ⟨(key 0).1, fun m => ?_⟩
  obtain ⟨h1, h2, h3⟩ := key m
  rw [spec_amount g hn ha]
  split
  · rename_i c
    obtain ⟨r, hr, e⟩ := List.mem_map.mp c
    rw [getA_none.mpr (e ▸ h3 r hr)]
    rfl
  · rename_i c
    rw [← h2, tot_at c _ h1.nd fun e he hm => ?_]
    obtain ⟨r, hr, q⟩ := List.mem_map.mp hm
    exact absurd (List.mem_map.mpr ⟨e, he, q.symm⟩) (h3 r hr)
end Pl
/-! Sizes of fractions: common denominators. -/
namespace Pl
open SubstitutionSpec
theorem lowest (n : Int) (d : Nat) (h : 0 < d) : n / ((Nat.gcd d n.natAbs : Nat) : Int) = ((n : Rat) / (d : Rat)).num ∧ d / Nat.gcd d n.natAbs = ((n : Rat) / (d : Rat)).den := by
  have e : (n : Rat) / (d : Rat) = mkRat n d := by rw [Rat.mkRat_eq_div]
  have : ¬ d = 0 := by omega
  rw [e, Rat.num_mkRat, Rat.den_mkRat, if_neg this, if_neg this, Nat.gcd_comm]
  exact ⟨rfl, rfl⟩
/-- numerator and denominator below 2 ^ 4000 -/
def Sm (q : Rat) : Prop := q.num.natAbs < 2 ^ 4000 ∧ q.den < 2 ^ 4000
/-- q is n / D, n at most M -/
def Bd (D M : Nat) (q : Rat) : Prop := 0 < D ∧ ∃ n : Nat, q = (n : Rat) / (D : Rat) ∧ n ≤ M
theorem dpos {D : Nat} (h : 0 < D) : (D : Rat) ≠ 0 := by
  have : D ≠ 0 := by omega
  exact_mod_cast this
theorem Bd.sm {D M : Nat} {q : Rat} (h : Bd D M q) (hD : D < 2 ^ 4000) (hM : M < 2 ^ 4000) : Sm q := by
  obtain ⟨h0, n, e, hn⟩ := h
  obtain ⟨e1, e2⟩ := lowest (n : Int) D h0
  rw [Rat.intCast_natCast, ← e] at e1 e2
  constructor
  · rw [← e1, Int.natAbs_natCast]
    have : ((n : Int) / ((Nat.gcd D n : Nat) : Int)).natAbs ≤ n := by
      rw [← Int.natCast_ediv, Int.natAbs_natCast]
      exact Nat.div_le_self _ _
    exact Nat.lt_of_le_of_lt (Nat.le_trans this hn) hM
  · rw [← e2]
    exact Nat.lt_of_le_of_lt (Nat.div_le_self _ _) hD
theorem Bd.zero {D : Nat} (h : 0 < D) (M : Nat) : Bd D M 0 := ⟨h, 0, by have := dpos h; grind, Nat.zero_le _⟩
theorem Bd.mono {D M M' : Nat} {q : Rat} (h : Bd D M q) (hm : M ≤ M') : Bd D M' q := let ⟨a, n, e, b⟩ := h; ⟨a, n, e, Nat.le_trans b hm⟩
theorem Bd.add {D M M' : Nat} {q r : Rat} (h : Bd D M q) (h' : Bd D M' r) : Bd D (M + M') (q + r) := by
  obtain ⟨h0, n, e, hn⟩ := h
  obtain ⟨_, m, e', hm⟩ := h'
  refine ⟨h0, n + m, ?_, Nat.add_le_add hn hm⟩
  have := dpos h0
  rw [e, e', Rat.natCast_add]
  grind
theorem Bd.mul {D M k k' : Nat} {q : Rat} (h : Bd D M q) (hk : k ≤ k') : Bd D (M * k') (q * (k : Rat)) := by
  obtain ⟨h0, n, e, hn⟩ := h
  refine ⟨h0, n * k, ?_, Nat.mul_le_mul hn hk⟩
  have := dpos h0
  rw [e, Rat.natCast_mul]
  grind
theorem Bd.scale {D M P : Nat} {q : Rat} (h : Bd D M q) (hP : 0 < P) : Bd (D * P) (M * P) q := by
  obtain ⟨h0, n, e, hn⟩ := h
  refine ⟨Nat.mul_pos h0 hP, n * P, ?_, Nat.mul_le_mul_right _ hn⟩
  have := dpos h0
  have := dpos hP
  rw [e, Rat.natCast_mul, Rat.natCast_mul]
  grind
theorem Bd.div {D M P : Nat} {q : Rat} (h : Bd D M q) (hP : 0 < P) : Bd (D * P) M (q / (P : Rat)) := by
  obtain ⟨h0, n, e, hn⟩ := h
  refine ⟨Nat.mul_pos h0 hP, n, ?_, hn⟩
  have := dpos h0
  have := dpos hP
  rw [e, Rat.natCast_mul]
  grind
theorem Bd.nonneg {D M : Nat} {q : Rat} (h : Bd D M q) : 0 ≤ q := by
  obtain ⟨h0, n, e, hn⟩ := h
  rw [e, Rat.div_def]
  have h1 : (0 : Rat) ≤ (n : Rat) := by exact_mod_cast Nat.zero_le n
  have h2 : (0 : Rat) < (D : Rat) := natpos h0
  exact Rat.mul_nonneg h1 (Rat.le_of_lt (Rat.inv_pos.mpr h2))
theorem absD_eq (a b : Rat) : (absDifference a b).num = ((a - b).num.natAbs : Int) ∧ (absDifference a b).den = (a - b).den := by
  unfold absDifference
  split
  · rename_i h
    have e : b - a = -(a - b) := by grind
    have hn : (a - b).num < 0 := by
      have : a - b < 0 := by grind
      have := (Rat.lt_iff _ _).mp this
      simpa using this
    rw [e, Rat.neg_num, Rat.neg_den]
    exact ⟨by omega, rfl⟩
  · rename_i h
    have hn : 0 ≤ (a - b).num := by
      have : 0 ≤ a - b := by grind
      exact Rat.num_nonneg.mpr this
    exact ⟨by omega, rfl⟩
theorem Bd.abs {D D' M M' : Nat} {q r : Rat} (h : Bd D M q) (h' : Bd D' M' r) : Bd (D * D') (M * D' + M' * D) (absDifference q r) := by
  obtain ⟨h0, n, e, hn⟩ := h
  obtain ⟨h0', m, e', hm⟩ := h'
  have d1 := dpos h0
  have d2 := dpos h0'
  have p1 := natpos h0
  have p2 := natpos h0'
  refine ⟨Nat.mul_pos h0 h0', ?_⟩
  have b1 : n * D' ≤ M * D' := Nat.mul_le_mul_right _ hn
  have b2 : m * D ≤ M' * D := Nat.mul_le_mul_right _ hm
  unfold absDifference
  split
  · rename_i c
    have hc : n * D' ≤ m * D := by
      have : (n : Rat) * (D' : Rat) < (m : Rat) * (D : Rat) := by
        rw [e, e'] at c
        have := Rat.mul_lt_mul_of_pos_right c (Rat.mul_pos p1 p2)
        have e1 : (n : Rat) / (D : Rat) * ((D : Rat) * (D' : Rat)) = (n : Rat) * (D' : Rat) := by grind
        have e2 : (m : Rat) / (D' : Rat) * ((D : Rat) * (D' : Rat)) = (m : Rat) * (D : Rat) := by grind
        rw [e1, e2] at this
        exact this
      have : ((n * D' : Nat) : Rat) < ((m * D : Nat) : Rat) := by rw [Rat.natCast_mul, Rat.natCast_mul]; exact this
      exact Nat.le_of_lt (Rat.natCast_lt_natCast.mp this)
    refine ⟨m * D - n * D', ?_, by omega⟩
    have : ((m * D - n * D' : Nat) : Rat) = (m : Rat) * (D : Rat) - (n : Rat) * (D' : Rat) := by
      have z : ((m * D - n * D' : Nat) : Rat) + ((n * D' : Nat) : Rat) = ((m * D : Nat) : Rat) := by
        rw [← Rat.natCast_add]; congr 1; omega
      rw [Rat.natCast_mul, Rat.natCast_mul] at z
      grind
    rw [this, e, e', Rat.natCast_mul]
    grind
  · rename_i c
    have hc : m * D ≤ n * D' := by
      have : ¬ (n : Rat) * (D' : Rat) < (m : Rat) * (D : Rat) := by
        intro z
        apply c
        rw [e, e']
        have hp := Rat.inv_pos.mpr (Rat.mul_pos p1 p2)
        have := Rat.mul_lt_mul_of_pos_right z hp
        have e1 : (n : Rat) * (D' : Rat) * ((D : Rat) * (D' : Rat))⁻¹ = (n : Rat) / (D : Rat) := by grind
        have e2 : (m : Rat) * (D : Rat) * ((D : Rat) * (D' : Rat))⁻¹ = (m : Rat) / (D' : Rat) := by grind
        rw [e1, e2] at this
        exact this
      have z : ¬ ((n * D' : Nat) : Rat) < ((m * D : Nat) : Rat) := by rw [Rat.natCast_mul, Rat.natCast_mul]; exact this
      rw [Rat.natCast_lt_natCast] at z
      omega
    refine ⟨n * D' - m * D, ?_, by omega⟩
    have : ((n * D' - m * D : Nat) : Rat) = (n : Rat) * (D' : Rat) - (m : Rat) * (D : Rat) := by
      have z : ((n * D' - m * D : Nat) : Rat) + ((m * D : Nat) : Rat) = ((n * D' : Nat) : Rat) := by
        rw [← Rat.natCast_add]; congr 1; omega
      rw [Rat.natCast_mul, Rat.natCast_mul] at z
      grind
    rw [this, e, e', Rat.natCast_mul]
    grind
end Pl
/-! Amounts: their sizes, their shares, sorted. -/
namespace Pl
open SubstitutionSpec
/-- ascending -/
def sortT (es : List (Nat × Rat)) : List (Nat × Rat) := es.foldl (fun t e => Table.insert e.1 e.2 t) []
theorem insert_perm {α : Type} {k : Nat} {x : α} : ∀ {t : List (Nat × α)}, k ∉ keysA t → (Table.insert k x t).Perm ((k, x) :: t)
  | [], _ => List.Perm.refl _
  | e :: r, h => by
    have h1 : k ≠ e.1 := fun q => h (List.mem_map.mpr ⟨e, List.mem_cons_self, q.symm⟩)
    have h2 : k ∉ keysA r := fun q => h (List.mem_cons_of_mem _ q)
    show (if k < e.1 then (k, x) :: e :: r else if e.1 = k then (k, x) :: r else e :: Table.insert k x r).Perm _
    by_cases c : k < e.1
    · rw [if_pos c]
    · rw [if_neg c, if_neg fun q => h1 q.symm]
      exact ((insert_perm h2).cons e).trans (List.Perm.swap _ _ _)
theorem keys_perm {α : Type} {es fs : List (Nat × α)} (h : es.Perm fs) : (keysA es).Perm (keysA fs) := h.map _
theorem sortT_perm {es : List (Nat × Rat)} (h : (keysA es).Nodup) : (sortT es).Perm es ∧ Asc (sortT es) := by
  have key : ∀ (es t : List (Nat × Rat)), (keysA (es ++ t)).Nodup → Asc t → (es.foldl (fun t e => Table.insert e.1 e.2 t) t).Perm (es ++ t) ∧ Asc (es.foldl (fun t e => Table.insert e.1 e.2 t) t) := by
    intro es
    induction es with
    | nil => intro t _ ha; exact ⟨List.Perm.refl _, ha⟩
    | cons e es ih =>
      intro t hn ha
      have hn' : (e.1 :: keysA (es ++ t)).Nodup := hn
      rw [List.nodup_cons] at hn'
      have hk : e.1 ∉ keysA t := fun q => hn'.1 (by unfold keysA; rw [List.map_append]; exact List.mem_append_right _ q)
      have hp := insert_perm (x := e.2) hk
      have hn2 : (keysA (es ++ Table.insert e.1 e.2 t)).Nodup := by
        have : (es ++ Table.insert e.1 e.2 t).Perm (e :: (es ++ t)) := (hp.append_left es).trans List.perm_middle
        exact (keys_perm this).nodup_iff.mpr hn
      obtain ⟨a, b⟩ := ih (Table.insert e.1 e.2 t) hn2 (asc_insert ha)
      exact ⟨a.trans ((hp.append_left es).trans List.perm_middle), b⟩
  have := key es [] (by rwa [List.append_nil]) List.Pairwise.nil
  rwa [List.append_nil] at this
/-- the sum of the amounts, one by one -/
def totA (es : List (Nat × Rat)) : Rat := es.foldl (fun a e => a + e.2) 0
def shareA (es : List (Nat × Rat)) : List (Nat × Rat) := (sortT es).map fun e => (e.1, e.2 / totA es)
theorem foldl_sum (es : List (Nat × Rat)) (a : Rat) : es.foldl (fun a e => a + e.2) a = a + sumRat (es.map fun e => e.2) := by
  induction es generalizing a with
  | nil => show a = a + 0; grind
  | cons e es ih =>
    rw [List.foldl_cons, ih, List.map_cons]
    show a + e.2 + _ = a + (e.2 + sumRat _)
    grind
theorem totA_sum (es : List (Nat × Rat)) : totA es = sumRat (es.map fun e => e.2) := by
  unfold totA
  rw [foldl_sum]
  grind
theorem totA_bd {D M : Nat} (hD : 0 < D) {es : List (Nat × Rat)} (h : ∀ e ∈ es, Bd D M e.2) : Bd D (es.length * M) (totA es) := by
  have key : ∀ (es : List (Nat × Rat)) (a : Rat) (A : Nat), Bd D A a → (∀ e ∈ es, Bd D M e.2) → Bd D (A + es.length * M) (es.foldl (fun a e => a + e.2) a) := by
    intro es
    induction es with
    | nil => intro a A ha _; simpa using ha
    | cons e es ih =>
      intro a A ha h
      refine (ih (a + e.2) (A + M) (ha.add (h e List.mem_cons_self)) fun x hx => h x (List.mem_cons_of_mem _ hx)).mono ?_
      rw [List.length_cons, Nat.succ_mul]
      omega
  have := key es 0 0 (Bd.zero hD 0) h
  rwa [Nat.zero_add] at this
theorem mem_le_tot {es : List (Nat × Rat)} (h : ∀ e ∈ es, 0 ≤ e.2) {e : Nat × Rat} (he : e ∈ es) : e.2 ≤ totA es := by
  rw [totA_sum]
  induction es with
  | nil => cases he
  | cons x es ih =>
    have hs : ∀ l : List (Nat × Rat), (∀ e ∈ l, 0 ≤ e.2) → 0 ≤ sumRat (l.map fun e => e.2) := by
      intro l
      induction l with
      | nil => intro _; show (0 : Rat) ≤ 0; grind
      | cons y l ih2 =>
        intro hl
        have h1 := ih2 fun e he => hl e (List.mem_cons_of_mem _ he)
        have h2 := hl y List.mem_cons_self
        show 0 ≤ y.2 + sumRat _
        grind
    rw [List.map_cons]
    show e.2 ≤ x.2 + sumRat _
    rcases List.mem_cons.mp he with q | q
    · subst q
      have := hs es fun e he => h e (List.mem_cons_of_mem _ he)
      grind
    · have h1 := ih (fun e he => h e (List.mem_cons_of_mem _ he)) q
      have h2 := h x List.mem_cons_self
      grind
theorem tot_pos {es : List (Nat × Rat)} (h : AmtsOk es) {e : Nat × Rat} (he : e ∈ es) : 0 < totA es := by
  have h1 := mem_le_tot (fun e he => Rat.le_of_lt (h.pos e he)) he
  have h2 := h.pos e he
  grind
/-- the shares are over one denominator -/
theorem share_bd {D M : Nat} {es : List (Nat × Rat)} (ok : AmtsOk es) (h : ∀ e ∈ es, Bd D M e.2) (hne : es ≠ []) : ∃ m, m ≤ es.length * M ∧ ∀ e ∈ es, Bd m m (e.2 / totA es) := by
  obtain ⟨e0, he0⟩ := List.exists_mem_of_ne_nil es hne
  have hD := (h e0 he0).1
  obtain ⟨_, m, hm, hmM⟩ := totA_bd hD h
  have ht := tot_pos ok he0
  have dp := natpos hD
  have hm0 : 0 < m := by
    rcases Nat.eq_zero_or_pos m with z | z
    · rw [z] at hm
      rw [hm] at ht
      have : ((0 : Nat) : Rat) / (D : Rat) = 0 := by
        have : ((0 : Nat) : Rat) = 0 := rfl
        rw [this]; grind
      rw [this] at ht
      grind
    · exact z
  refine ⟨m, hmM, fun e he => ?_⟩
  obtain ⟨_, n, hn, _⟩ := h e he
  refine ⟨hm0, n, ?_, ?_⟩
  · have mp := natpos hm0
    rw [hm, hn]
    grind
  · have h1 := mem_le_tot (fun e he => Rat.le_of_lt (ok.pos e he)) he
    rw [hm, hn] at h1
    have h2 := Rat.mul_le_mul_of_nonneg_right h1 (Rat.le_of_lt dp)
    have e1 : (n : Rat) / (D : Rat) * (D : Rat) = (n : Rat) := by grind
    have e2 : (m : Rat) / (D : Rat) * (D : Rat) = (m : Rat) := by grind
    rw [e1, e2] at h2
    exact_mod_cast h2
end Pl
/-! Reachable materials: the rounds end at the closure. -/
namespace Pl
open SubstitutionSpec
def reachL (rs : List (Nat × Rule)) (m : Nat) : Nat → List Nat
  | 0 => []
  | steps + 1 => (List.range materialCount).filter fun (target : Nat) => rs.any fun (entry : Nat × Rule) => (entry.2.material == m || (reachL rs m steps).contains entry.2.material) && entry.2.replacements.any fun (replacement : Nat × Nat) => replacement.1 == target
theorem reach_spec (c : Catalogue) (m : Nat) : ∀ k, c.reachable m k = reachL c.rules m k
  | 0 => rfl
  | k + 1 => by
    simp only [Catalogue.reachable, reachL, reach_spec c m k]
theorem mem_reach {rs : List (Nat × Rule)} {m k t : Nat} : t ∈ reachL rs m (k + 1) ↔ t < 24 ∧ ∃ e ∈ rs, (e.2.material = m ∨ e.2.material ∈ reachL rs m k) ∧ ∃ p ∈ e.2.replacements, p.1 = t := by
  show t ∈ (List.range materialCount).filter _ ↔ _
  rw [List.mem_filter, List.mem_range, List.any_eq_true]
  show t < 24 ∧ _ ↔ _
  constructor
  · rintro ⟨h1, e, he, h2⟩
    rw [Bool.and_eq_true, Bool.or_eq_true, beq_iff_eq, List.contains_iff_mem, List.any_eq_true] at h2
    obtain ⟨h2, p, hp, h3⟩ := h2
    exact ⟨h1, e, he, h2, p, hp, beq_iff_eq.mp h3⟩
  · rintro ⟨h1, e, he, h2, p, hp, h3⟩
    refine ⟨h1, e, he, ?_⟩
    rw [Bool.and_eq_true, Bool.or_eq_true, beq_iff_eq, List.contains_iff_mem, List.any_eq_true]
    exact ⟨h2, p, hp, beq_iff_eq.mpr h3⟩
theorem reach_mono {rs : List (Nat × Rule)} {m : Nat} : ∀ {k t}, t ∈ reachL rs m k → t ∈ reachL rs m (k + 1)
  | 0, _, h => by cases h
  | k + 1, t, h => by
    rw [mem_reach] at h ⊢
    obtain ⟨h1, e, he, h2, h3⟩ := h
    exact ⟨h1, e, he, h2.imp id reach_mono, h3⟩
theorem reach_asc {rs : List (Nat × Rule)} {m : Nat} : ∀ k, (reachL rs m k).Pairwise (· < ·)
  | 0 => List.Pairwise.nil
  | k + 1 => List.Pairwise.filter _ List.pairwise_lt_range
theorem reach_lt {rs : List (Nat × Rule)} {m : Nat} : ∀ {k t}, t ∈ reachL rs m k → t < 24
  | 0, _, h => by cases h
  | k + 1, t, h => (mem_reach.mp h).1
theorem reach_len {rs : List (Nat × Rule)} {m : Nat} (k : Nat) : (reachL rs m k).length ≤ 24 := by
  have := List.Nodup.length_le_of_subset (l₂ := List.range 24) ((reach_asc (rs := rs) (m := m) k).imp fun h => Nat.ne_of_lt h) fun t ht => List.mem_range.mpr (reach_lt ht)
  rwa [List.length_range] at this
theorem asc_ext : ∀ {l m : List Nat}, l.Pairwise (· < ·) → m.Pairwise (· < ·) → (∀ x, x ∈ l ↔ x ∈ m) → l = m := fun {l m} hl hm h => by
  have hp : l.Perm m := (List.perm_ext_iff_of_nodup (hl.imp fun h => Nat.ne_of_lt h) (hm.imp fun h => Nat.ne_of_lt h)).mpr h
  exact hp.eq_of_pairwise (le := (· < ·)) (fun a b _ _ h1 h2 => absurd h1 (by omega)) hl hm
theorem reach_stop {rs : List (Nat × Rule)} {m k : Nat} (h : reachL rs m (k + 1) = reachL rs m k) : ∀ j, k ≤ j → reachL rs m j = reachL rs m k := by
  intro j hj
  induction j with
  | zero => rw [show k = 0 by omega]
  | succ j ih =>
    rcases Nat.lt_or_ge k (j + 1) with c | c
    · have := ih (by omega)
      show (List.range materialCount).filter _ = _
      rw [this]
      exact h
    · rw [show k = j + 1 by omega]
theorem reach_grow {rs : List (Nat × Rule)} {m : Nat} : ∀ k, (∀ j, j < k → reachL rs m (j + 1) ≠ reachL rs m j) → k ≤ (reachL rs m k).length
  | 0, _ => Nat.zero_le _
  | k + 1, h => by
    have ih := reach_grow k fun j hj => h j (by omega)
    have hne := h k (by omega)
    have hle := List.Nodup.length_le_of_subset ((reach_asc (rs := rs) (m := m) k).imp fun h => Nat.ne_of_lt h) fun t ht => reach_mono ht
    rcases Nat.lt_or_ge (reachL rs m k).length (reachL rs m (k + 1)).length with c | c
    · omega
    · exfalso
      apply hne
      refine (asc_ext (reach_asc k) (reach_asc (k + 1)) fun x => ⟨reach_mono, fun hx => ?_⟩).symm
      by_cases q : x ∈ reachL rs m k
      · exact q
      · have h1 : (x :: reachL rs m k).Nodup := List.nodup_cons.mpr ⟨q, (reach_asc (rs := rs) (m := m) k).imp fun h => Nat.ne_of_lt h⟩
        have h2 := List.Nodup.length_le_of_subset h1 (l₂ := reachL rs m (k + 1)) fun t ht => (List.mem_cons.mp ht).elim (fun e => e ▸ hx) reach_mono
        rw [List.length_cons] at h2
        omega
theorem reach_end {rs : List (Nat × Rule)} {m : Nat} : reachL rs m 25 = reachL rs m 24 := by
  by_cases h : ∀ j, j < 25 → reachL rs m (j + 1) ≠ reachL rs m j
  · have h1 := reach_grow 25 h
    have h2 := reach_len (rs := rs) (m := m) 25
    omega
  · simp only [Classical.not_forall, Classical.not_imp, Decidable.not_not] at h
    obtain ⟨j, hj, e⟩ := h
    rw [reach_stop e 25 (by omega), reach_stop e 24 (by omega)]
/-- closed, and within all that is closed -/
theorem reach_closed {rs : List (Nat × Rule)} {m : Nat} (hb : ∀ e ∈ rs, ∀ p ∈ e.2.replacements, p.1 < 24) {e : Nat × Rule} (he : e ∈ rs) (h : e.2.material = m ∨ e.2.material ∈ reachL rs m 24) {p : Nat × Nat} (hp : p ∈ e.2.replacements) : p.1 ∈ reachL rs m 24 := by
  rw [← reach_end]
  exact mem_reach.mpr ⟨hb e he p hp, e, he, h, p, hp, rfl⟩
theorem reach_least {rs : List (Nat × Rule)} {m : Nat} {C : List Nat} (hC : ∀ e ∈ rs, (e.2.material = m ∨ e.2.material ∈ C) → ∀ p ∈ e.2.replacements, p.1 ∈ C) : ∀ k, ∀ t ∈ reachL rs m k, t ∈ C
  | 0, _, h => by cases h
  | k + 1, t, h => by
    obtain ⟨_, e, he, h2, p, hp, rfl⟩ := mem_reach.mp h
    exact hC e he (h2.imp id (reach_least hC k _)) p hp
end Pl
set_option maxRecDepth 100000
set_option maxHeartbeats 0
namespace Sw
open PySem PySem.Spec PyProof.Rows L2
def top (i : Nat) : Stmt := PySem.Challenge.pw_swapplanner_s01_answers.main.body.getD i (.Pass ⟨0, 0, 0, 0⟩)
abbrev s_common : Stmt := top 1
abbrev s_fraction : Stmt := top 2
abbrev s_plus : Stmt := top 3
abbrev s_minus : Stmt := top 4
abbrev s_times : Stmt := top 5
abbrev s_quotient : Stmt := top 6
abbrev s_is_less : Stmt := top 7
abbrev s_Material_init : Stmt := inClass (top 11) 0
abbrev s_Rule_init : Stmt := inClass (top 12) 0
abbrev s_Rule_feeds : Stmt := inClass (top 12) 1
abbrev s_Store_init : Stmt := inClass (top 13) 0
abbrev s_Store_twin : Stmt := inClass (top 13) 1
abbrev s_Store_mixture : Stmt := inClass (top 13) 2
abbrev s_Store_cost_told : Stmt := inClass (top 13) 3
abbrev s_Store_profile_told : Stmt := inClass (top 13) 4
abbrev s_Store_distance_told : Stmt := inClass (top 13) 5
abbrev s_Store_fault : Stmt := inClass (top 13) 6
abbrev s_Store_order : Stmt := inClass (top 13) 7
abbrev s_Store_result : Stmt := inClass (top 13) 8
abbrev s_Store_plans : Stmt := inClass (top 13) 9
abbrev s_Store_acceptable : Stmt := inClass (top 13) 10
abbrev s_Store_reached : Stmt := inClass (top 13) 11
abbrev s_Store_cycle : Stmt := inClass (top 13) 12
abbrev s_Store_cycle_from : Stmt := inClass (top 13) 13
abbrev s_Choice_init : Stmt := inClass (top 14) 0
abbrev s_Choice_is_before : Stmt := inClass (top 14) 1
abbrev s_chosen : Stmt := top 15
abbrev s_Refused_init : Stmt := inClass (top 23) 0
abbrev s_need : Stmt := top 24
abbrev s_are_within : Stmt := top 25
abbrev s_pairs : Stmt := top 26
abbrev s_Desk_init : Stmt := inClass (top 27) 0
abbrev s_Desk_put : Stmt := inClass (top 27) 1
abbrev s_Desk_put_material : Stmt := inClass (top 27) 2
abbrev s_Desk_put_rule : Stmt := inClass (top 27) 3
abbrev s_Desk_put_formula : Stmt := inClass (top 27) 4
abbrev s_add_material : Stmt := top 28
abbrev s_change_material : Stmt := top 29
abbrev s_add_rule : Stmt := top 30
abbrev s_remove_rule : Stmt := top 31
abbrev s_set_formula : Stmt := top 32
abbrev s_formula : Stmt := top 33
abbrev s_flat : Stmt := top 34
abbrev s_check : Stmt := top 35
abbrev s_result : Stmt := top 36
abbrev s_apply_plan : Stmt := top 37
abbrev s_save_result : Stmt := top 38
abbrev s_count_plans : Stmt := top 39
abbrev s_best : Stmt := top 40
abbrev s_material_told : Stmt := top 41
abbrev s_dependent : Stmt := top 42
abbrev s_cycle : Stmt := top 43
abbrev s_undo : Stmt := top 44
abbrev s_summary : Stmt := top 45
abbrev s_of_changes : Stmt := top 46
abbrev s_of_formula : Stmt := top 47
abbrev s_done : Stmt := top 48
abbrev s_answer_of : Stmt := top 49
abbrev s_answers : Stmt := top 50
def d_common : He.DefD := ⟨("common", none), "common", "common", defArgs s_common, defBody s_common, defScope s_common, [], []⟩
def d_fraction : He.DefD := ⟨("fraction", none), "fraction", "fraction", defArgs s_fraction, defBody s_fraction, defScope s_fraction, [], []⟩
def d_plus : He.DefD := ⟨("plus", none), "plus", "plus", defArgs s_plus, defBody s_plus, defScope s_plus, [], []⟩
def d_minus : He.DefD := ⟨("minus", none), "minus", "minus", defArgs s_minus, defBody s_minus, defScope s_minus, [], []⟩
def d_times : He.DefD := ⟨("times", none), "times", "times", defArgs s_times, defBody s_times, defScope s_times, [], []⟩
def d_quotient : He.DefD := ⟨("quotient", none), "quotient", "quotient", defArgs s_quotient, defBody s_quotient, defScope s_quotient, [], []⟩
def d_is_less : He.DefD := ⟨("is_less", none), "is_less", "is_less", defArgs s_is_less, defBody s_is_less, defScope s_is_less, [], []⟩
def d_Material_init : He.DefD := ⟨("Material", some "__init__"), "__init__", "Material.__init__", defArgs s_Material_init, defBody s_Material_init, defScope s_Material_init, [], []⟩
def d_Rule_init : He.DefD := ⟨("Rule", some "__init__"), "__init__", "Rule.__init__", defArgs s_Rule_init, defBody s_Rule_init, defScope s_Rule_init, [], []⟩
def d_Rule_feeds : He.DefD := ⟨("Rule", some "feeds"), "feeds", "Rule.feeds", defArgs s_Rule_feeds, defBody s_Rule_feeds, defScope s_Rule_feeds, [], []⟩
def d_Store_init : He.DefD := ⟨("Store", some "__init__"), "__init__", "Store.__init__", defArgs s_Store_init, defBody s_Store_init, defScope s_Store_init, [], []⟩
def d_Store_twin : He.DefD := ⟨("Store", some "twin"), "twin", "Store.twin", defArgs s_Store_twin, defBody s_Store_twin, defScope s_Store_twin, [], []⟩
def d_Store_mixture : He.DefD := ⟨("Store", some "mixture"), "mixture", "Store.mixture", defArgs s_Store_mixture, defBody s_Store_mixture, defScope s_Store_mixture, [], []⟩
def d_Store_cost_told : He.DefD := ⟨("Store", some "cost_told"), "cost_told", "Store.cost_told", defArgs s_Store_cost_told, defBody s_Store_cost_told, defScope s_Store_cost_told, [], []⟩
def d_Store_profile_told : He.DefD := ⟨("Store", some "profile_told"), "profile_told", "Store.profile_told", defArgs s_Store_profile_told, defBody s_Store_profile_told, defScope s_Store_profile_told, [], []⟩
def d_Store_distance_told : He.DefD := ⟨("Store", some "distance_told"), "distance_told", "Store.distance_told", defArgs s_Store_distance_told, defBody s_Store_distance_told, defScope s_Store_distance_told, [], []⟩
def d_Store_fault : He.DefD := ⟨("Store", some "fault"), "fault", "Store.fault", defArgs s_Store_fault, defBody s_Store_fault, defScope s_Store_fault, [], []⟩
def d_Store_order : He.DefD := ⟨("Store", some "order"), "order", "Store.order", defArgs s_Store_order, defBody s_Store_order, defScope s_Store_order, [], []⟩
def d_Store_result : He.DefD := ⟨("Store", some "result"), "result", "Store.result", defArgs s_Store_result, defBody s_Store_result, defScope s_Store_result, [], []⟩
def d_Store_plans : He.DefD := ⟨("Store", some "plans"), "plans", "Store.plans", defArgs s_Store_plans, defBody s_Store_plans, defScope s_Store_plans, [], []⟩
def d_Store_acceptable : He.DefD := ⟨("Store", some "acceptable"), "acceptable", "Store.acceptable", defArgs s_Store_acceptable, defBody s_Store_acceptable, defScope s_Store_acceptable, [], []⟩
def d_Store_reached : He.DefD := ⟨("Store", some "reached"), "reached", "Store.reached", defArgs s_Store_reached, defBody s_Store_reached, defScope s_Store_reached, [], []⟩
def d_Store_cycle : He.DefD := ⟨("Store", some "cycle"), "cycle", "Store.cycle", defArgs s_Store_cycle, defBody s_Store_cycle, defScope s_Store_cycle, [], []⟩
def d_Store_cycle_from : He.DefD := ⟨("Store", some "cycle_from"), "cycle_from", "Store.cycle_from", defArgs s_Store_cycle_from, defBody s_Store_cycle_from, defScope s_Store_cycle_from, [], []⟩
def d_Choice_init : He.DefD := ⟨("Choice", some "__init__"), "__init__", "Choice.__init__", defArgs s_Choice_init, defBody s_Choice_init, defScope s_Choice_init, [], []⟩
def d_Choice_is_before : He.DefD := ⟨("Choice", some "is_before"), "is_before", "Choice.is_before", defArgs s_Choice_is_before, defBody s_Choice_is_before, defScope s_Choice_is_before, [], []⟩
def d_chosen : He.DefD := ⟨("chosen", none), "chosen", "chosen", defArgs s_chosen, defBody s_chosen, defScope s_chosen, [], []⟩
def d_Refused_init : He.DefD := ⟨("Refused", some "__init__"), "__init__", "Refused.__init__", defArgs s_Refused_init, defBody s_Refused_init, defScope s_Refused_init, [], []⟩
def d_need : He.DefD := ⟨("need", none), "need", "need", defArgs s_need, defBody s_need, defScope s_need, [], []⟩
def d_are_within : He.DefD := ⟨("are_within", none), "are_within", "are_within", defArgs s_are_within, defBody s_are_within, defScope s_are_within, [], []⟩
def d_pairs : He.DefD := ⟨("pairs", none), "pairs", "pairs", defArgs s_pairs, defBody s_pairs, defScope s_pairs, [], []⟩
def d_Desk_init : He.DefD := ⟨("Desk", some "__init__"), "__init__", "Desk.__init__", defArgs s_Desk_init, defBody s_Desk_init, defScope s_Desk_init, [], []⟩
def d_Desk_put : He.DefD := ⟨("Desk", some "put"), "put", "Desk.put", defArgs s_Desk_put, defBody s_Desk_put, defScope s_Desk_put, [], []⟩
def d_Desk_put_material : He.DefD := ⟨("Desk", some "put_material"), "put_material", "Desk.put_material", defArgs s_Desk_put_material, defBody s_Desk_put_material, defScope s_Desk_put_material, [], []⟩
def d_Desk_put_rule : He.DefD := ⟨("Desk", some "put_rule"), "put_rule", "Desk.put_rule", defArgs s_Desk_put_rule, defBody s_Desk_put_rule, defScope s_Desk_put_rule, [], []⟩
def d_Desk_put_formula : He.DefD := ⟨("Desk", some "put_formula"), "put_formula", "Desk.put_formula", defArgs s_Desk_put_formula, defBody s_Desk_put_formula, defScope s_Desk_put_formula, [], []⟩
def d_add_material : He.DefD := ⟨("add_material", none), "add_material", "add_material", defArgs s_add_material, defBody s_add_material, defScope s_add_material, [], []⟩
def d_change_material : He.DefD := ⟨("change_material", none), "change_material", "change_material", defArgs s_change_material, defBody s_change_material, defScope s_change_material, [], []⟩
def d_add_rule : He.DefD := ⟨("add_rule", none), "add_rule", "add_rule", defArgs s_add_rule, defBody s_add_rule, defScope s_add_rule, [], []⟩
def d_remove_rule : He.DefD := ⟨("remove_rule", none), "remove_rule", "remove_rule", defArgs s_remove_rule, defBody s_remove_rule, defScope s_remove_rule, [], []⟩
def d_set_formula : He.DefD := ⟨("set_formula", none), "set_formula", "set_formula", defArgs s_set_formula, defBody s_set_formula, defScope s_set_formula, [], []⟩
def d_formula : He.DefD := ⟨("formula", none), "formula", "formula", defArgs s_formula, defBody s_formula, defScope s_formula, [], []⟩
def d_flat : He.DefD := ⟨("flat", none), "flat", "flat", defArgs s_flat, defBody s_flat, defScope s_flat, [], []⟩
def d_check : He.DefD := ⟨("check", none), "check", "check", defArgs s_check, defBody s_check, defScope s_check, [], []⟩
def d_result : He.DefD := ⟨("result", none), "result", "result", defArgs s_result, defBody s_result, defScope s_result, [], []⟩
def d_apply_plan : He.DefD := ⟨("apply_plan", none), "apply_plan", "apply_plan", defArgs s_apply_plan, defBody s_apply_plan, defScope s_apply_plan, [], []⟩
def d_save_result : He.DefD := ⟨("save_result", none), "save_result", "save_result", defArgs s_save_result, defBody s_save_result, defScope s_save_result, [], []⟩
def d_count_plans : He.DefD := ⟨("count_plans", none), "count_plans", "count_plans", defArgs s_count_plans, defBody s_count_plans, defScope s_count_plans, [], []⟩
def d_best : He.DefD := ⟨("best", none), "best", "best", defArgs s_best, defBody s_best, defScope s_best, [], []⟩
def d_material_told : He.DefD := ⟨("material_told", none), "material_told", "material_told", defArgs s_material_told, defBody s_material_told, defScope s_material_told, [], []⟩
def d_dependent : He.DefD := ⟨("dependent", none), "dependent", "dependent", defArgs s_dependent, defBody s_dependent, defScope s_dependent, [], []⟩
def d_cycle : He.DefD := ⟨("cycle", none), "cycle", "cycle", defArgs s_cycle, defBody s_cycle, defScope s_cycle, [], []⟩
def d_undo : He.DefD := ⟨("undo", none), "undo", "undo", defArgs s_undo, defBody s_undo, defScope s_undo, [], []⟩
def d_summary : He.DefD := ⟨("summary", none), "summary", "summary", defArgs s_summary, defBody s_summary, defScope s_summary, [], []⟩
def d_of_changes : He.DefD := ⟨("of_changes", none), "of_changes", "of_changes", defArgs s_of_changes, defBody s_of_changes, defScope s_of_changes, [], []⟩
def d_of_formula : He.DefD := ⟨("of_formula", none), "of_formula", "of_formula", defArgs s_of_formula, defBody s_of_formula, defScope s_of_formula, [], []⟩
def d_done : He.DefD := ⟨("done", none), "done", "done", defArgs s_done, defBody s_done, defScope s_done, [], []⟩
def d_answer_of : He.DefD := ⟨("answer_of", none), "answer_of", "answer_of", defArgs s_answer_of, defBody s_answer_of, defScope s_answer_of, [], []⟩
def d_answers : He.DefD := ⟨("answers", none), "answers", "answers", defArgs s_answers, defBody s_answers, defScope s_answers, [], []⟩
def fn : List He.DefD := [d_common, d_fraction, d_plus, d_minus, d_times, d_quotient, d_is_less, d_Material_init, d_Rule_init, d_Rule_feeds, d_Store_init, d_Store_twin, d_Store_mixture, d_Store_cost_told, d_Store_profile_told, d_Store_distance_told, d_Store_fault, d_Store_order, d_Store_result, d_Store_plans, d_Store_acceptable, d_Store_reached, d_Store_cycle, d_Store_cycle_from, d_Choice_init, d_Choice_is_before, d_chosen, d_Refused_init, d_need, d_are_within, d_pairs, d_Desk_init, d_Desk_put, d_Desk_put_material, d_Desk_put_rule, d_Desk_put_formula, d_add_material, d_change_material, d_add_rule, d_remove_rule, d_set_formula, d_formula, d_flat, d_check, d_result, d_apply_plan, d_save_result, d_count_plans, d_best, d_material_told, d_dependent, d_cycle, d_undo, d_summary, d_of_changes, d_of_formula, d_done, d_answer_of, d_answers]
def fa : List He.Fa := [.glo "common", .glo "fraction", .glo "plus", .glo "minus", .glo "times", .glo "quotient", .glo "is_less", .glo "Material", .glo "Rule", .glo "Store", .glo "Choice", .glo "chosen", .glo "Refused", .glo "need", .glo "are_within", .glo "pairs", .glo "Desk", .glo "add_material", .glo "change_material", .glo "add_rule", .glo "remove_rule", .glo "set_formula", .glo "formula", .glo "flat", .glo "check", .glo "result", .glo "apply_plan", .glo "save_result", .glo "count_plans", .glo "best", .glo "material_told", .glo "dependent", .glo "cycle", .glo "undo", .glo "summary", .glo "of_changes", .glo "of_formula", .glo "done", .glo "answer_of", .glo "answers", .glo "NUMBERS", .glo "LISTED", .free "abs", .free "sum", .free "sorted", .free "len", .free "set", .free "any", .free "all", .free "zip", .free "range", .free "enumerate", .free "dict", .free "list", .free "tuple", .free "ValueError", .int "WHOLE" 1000000, .int "ATTRIBUTES" 6, .int "MATERIALS" 23, .int "RULES" 9, .int "FORMULAS" 7, .int "MOST" 1000000, .cls "Material", .mkr "Material", .noat "Material" "price", .noat "Material" "profile", .noat "Material" "is_available", .noat "Material" "most", .cls "Rule", .mkr "Rule", .noat "Rule" "material", .noat "Rule" "parts", .noat "Rule" "replacements", .cls "Store", .mkr "Store", .noat "Store" "materials", .noat "Store" "rules", .noat "Store" "formulas", .cls "Choice", .mkr "Choice", .noat "Choice" "numbers", .noat "Choice" "cost", .noat "Choice" "distance", .cls "Desk", .mkr "Desk", .noat "Desk" "store", .noat "Desk" "before", .noat "Refused" "code", .meth "Rule" "feeds", .meth "Store" "twin", .meth "Store" "mixture", .meth "Store" "cost_told", .meth "Store" "profile_told", .meth "Store" "distance_told", .meth "Store" "fault", .meth "Store" "order", .meth "Store" "result", .meth "Store" "plans", .meth "Store" "acceptable", .meth "Store" "reached", .meth "Store" "cycle", .meth "Store" "cycle_from", .meth "Choice" "is_before", .meth "Desk" "put", .meth "Desk" "put_material", .meth "Desk" "put_rule", .meth "Desk" "put_formula", .keep "Refused", .exm "Refused" "Refused" true]
def nms1 : List PySem.Str := ["common", "fraction", "plus", "minus", "times", "quotient", "is_less", "WHOLE", "ATTRIBUTES", "Material", "Rule", "Store", "Choice", "chosen", "NUMBERS", "LISTED", "MATERIALS", "RULES", "FORMULAS", "MOST", "Refused", "need", "are_within", "pairs", "Desk"]
def nms2 : List PySem.Str := ["add_material", "change_material", "add_rule", "remove_rule", "set_formula", "formula", "flat", "check", "result", "apply_plan", "save_result", "count_plans", "best", "material_told", "dependent", "cycle", "undo", "summary", "of_changes", "of_formula", "done", "answer_of"]
def nms : List PySem.Str := nms1 ++ nms2

/-! the class of the error -/
def oexB (K : PySem.W.Frag) (C : Addr) : Bool := match K.lookup C with
  | some ⟨.type "type", _, .cls cd, sl⟩ => (match cd.mro, sl.toList with
    | .ref C' :: bm, [_, _, _, _, some (.builtin n), _] => C' == C && n == "ValueError.__new__" && !cd.hasDel && cd.hasDict && PySem.HandSPX.refsVE bm
    | _, _ => false)
  | _ => false
theorem oexB_ok {K : PySem.W.Frag} {C : Addr} (q : oexB K C = true) : ∃ nm q N bs bm sn sub ab col dd k0 k1 k2 k3 k5, K.lookup C = some (excClassObj nm q C N bs bm true sn sub ab col dd k0 k1 k2 k3 k5 "ValueError.__new__") ∧ PySem.HandSPX.refsVE bm = true := by
  unfold oexB at q
  split at q
  · rename_i dd cd sl ho
    split at q
    · rename_i C' bm k0 k1 k2 k3 n k5 hm hs
      simp only [Bool.and_eq_true, beq_iff_eq, Bool.not_eq_true'] at q
      obtain ⟨⟨⟨⟨rfl, rfl⟩, hdel⟩, hdc⟩, ht⟩ := q
      obtain ⟨nm, bs, mro, ns, qn, hd, sn, sub, ab, col, del⟩ := cd
      dsimp only at hm hdel hdc
      subst hm hdel hdc
      have hsl : sl = #[k0, k1, k2, k3, some (.builtin "ValueError.__new__"), k5] := by
        obtain ⟨l⟩ := sl
        simp only at hs
        rw [hs]
      subst hsl
      exact ⟨nm, qn, ns, bs, bm, sn, sub, ab, col, dd, k0, k1, k2, k3, k5, ho, ht⟩
    · cases q
  · cases q
def numbersL : List Int := [0, 2, 1, 1, 2, 2, 3, 1, 1, 1, 1, 1, 2, 1, 1, 1, 1, 2, 1, 2, 1, 0, 1, 0, 0]
def listedL : List Int := [1, 6, 8, 14, 19]
def refA (K : PySem.W.Frag) : Addr := He.ga K "Refused"
def refI (K : PySem.W.Frag) : Addr := He.fAd K ("Refused", some "__init__")
def exB (K : PySem.W.Frag) : Bool := He.lstB K "NUMBERS" (numbersL.map He.Dv.int) && (He.tupB K "LISTED" (listedL.map He.Dv.int) && (oexB K (refA K) && (xfB K (refA K) &&
  (decide (PySem.W.findIn K (.ref (refA K)) "__setattr__" = some (some (.builtin "object.__setattr__"))) && (decide (PySem.W.typeIn K (.ref (refA K)) = some (.type "type")) && 
  (decide (PySem.W.findIn K (.ref (refA K)) "__init__" = some (some (.ref (refI K)))) && (decide (PySem.W.typeIn K (.ref (refI K)) = some (.type "function")) &&
  (decide (PySem.W.mroIn K (He.ga K "Rule") (.type "object") = some true) && decide (PySem.W.findIn K (.ref (He.ga K "Rule")) "__eq__" = some (some (.builtin "object.__eq__")))))))))))
abbrev R : PySem.W.OpenSpec := PySem.Challenge.rw_swapplanner_s01_answers
abbrev qv : Program := PySem.W.view R.prog [50]
abbrev hk : PySem.W.Hook := He.hookX 5 fa fn [] [] exB
def ob (s : PySem.W.SharedT) : He.AlX := He.obsX 5 fa fn [] [] exB (HandSHeadRun.getT s)
theorem ob_eq (s : PySem.W.SharedT) : ob s = hk.obs s.abs := He.obsX_eq (HandSHeadRun.getT_eq s)
theorem run (w : World) : HandSHeadRun.RunEqS R qv hk ob 4000 nms w := by
  intro os
  kernel_rfl
end Sw
set_option maxRecDepth 100000
set_option maxHeartbeats 0
section
open PySem PySem.W PySem.Calls PyProof.Rows
theorem Sw.head (call : WalkOS Sw.qv Sw.nms (XL Sw.qv []) Sw.hk.says Sw.R (HandSHeadRun.topDef Sw.R.prog 50) [] fun f vs => PySem.call f vs) : PySem.Challenge.rw_swapplanner_s01_answers.Holds := by
  w_on
  refine HandSHeadRun.head_spec (r := Sw.R) (q := Sw.qv) (H := Sw.hk) (ob := Sw.ob) (M := 4000) (loose := Sw.nms) (d := HandSHeadRun.topDef Sw.R.prog 50) (kwd := []) Sw.ob_eq
    (by kernel_rfl) (fun s => by kernel_rfl) Sw.run (by kernel_rfl) (by kernel_rfl) (by kernel_rfl) os_shapes (by decide +kernel) (by decide +kernel) ⟨rfl, rfl, rfl, rfl, rfl, by decide +kernel⟩ ?hw call
  case hw => exact ⟨[.list [.int 24]], by decide +kernel, by decide +kernel⟩
#print axioms Sw.head
end
set_option maxRecDepth 100000
set_option maxHeartbeats 2000000
/-! # Ghost heaps, types of values, what an expression evaluates to -/
namespace Sw
open PySem L2
/-! ### heaps -/
/-- all that stood stands -/
def Ex (H H' : Hp) : Prop := ∀ a o, H a = some o → H' a = some o
theorem Ex.refl (H : Hp) : Ex H H := fun _ _ h => h
theorem Ex.trans {H H1 H2 : Hp} (a : Ex H H1) (b : Ex H1 H2) : Ex H H2 := fun x o h => b x o (a x o h)
/-- no lock -/
def Plain : HO → Prop
  | .frz _ _ => False
  | _ => True
/-- F, what is known for good, stands in H (a dict may be locked there) -/
def Sub (F H : Hp) : Prop := ∀ a o, F a = some o → Plain o ∧ (H a = some o ∨ ∃ ob kvs, o = .dK kvs ∧ H a = some (.frz ob o))
theorem Sub.nil (H : Hp) : Sub (fun _ => none) H := fun _ _ h => nomatch h
theorem Sub.mono {F F' H : Hp} (e : Ex F F') (s : Sub F' H) : Sub F H := fun a o h => s a o (e a o h)
theorem Sub.ex {F H H' : Hp} (s : Sub F H) (e : Ex H H') : Sub F H' := fun a o h => by
  obtain ⟨p, q | ⟨ob, kvs, z, q⟩⟩ := s a o h
  · exact ⟨p, .inl (e a o q)⟩
  · exact ⟨p, .inr ⟨ob, kvs, z, e a _ q⟩⟩
theorem Sub.rd {F H : Hp} (s : Sub F H) {a : Addr} {o : HO} (h : F a = some o) : Rd H a o := by
  obtain ⟨_, q | ⟨ob, kvs, z, q⟩⟩ := s a o h
  · exact .inl q
  · exact .inr ⟨ob, q⟩
theorem Sub.lst {F H : Hp} (s : Sub F H) {a : Addr} {xs : List V} (h : F a = some (.lst xs)) : H a = some (.lst xs) := by
  obtain ⟨_, q | ⟨ob, kvs, z, q⟩⟩ := s a _ h
  · exact q
  · cases z
theorem Sub.tup {F H : Hp} (s : Sub F H) {a : Addr} {xs : List V} (h : F a = some (.tup xs)) : H a = some (.tup xs) := by
  obtain ⟨_, q | ⟨ob, kvs, z, q⟩⟩ := s a _ h
  · exact q
  · cases z
theorem Sub.ins {F H : Hp} (s : Sub F H) {a C dx : Addr} {fs : List (Str × V)} (h : F a = some (.ins C dx fs)) : H a = some (.ins C dx fs) := by
  obtain ⟨_, q | ⟨ob, kvs, z, q⟩⟩ := s a _ h
  · exact q
  · cases z
theorem Sub.free {F H : Hp} (s : Sub F H) {a : Addr} (h : H a = none) : F a = none := by
  cases q : F a with
  | none => rfl
  | some o =>
    obtain ⟨_, z | ⟨ob, kvs, _, z⟩⟩ := s a o q
    · rw [h] at z; cases z
    · rw [h] at z; cases z
theorem Sub.upd {F H : Hp} (s : Sub F H) {a : Addr} {o : HO} (h : F a = none) : Sub F (upd H a o) := fun b u e => by
  have : b ≠ a := fun z => by rw [z, h] at e; cases e
  rw [upd_ne this]
  exact s b u e
theorem Ex.upd {H : Hp} {a : Addr} {o : HO} (h : H a = none) : Ex H (upd H a o) := fun b u e => by
  rw [upd_ne (ne_of_none e h)]
  exact e
theorem Sub.upd2 {F H : Hp} (s : Sub F H) {a : Addr} {o : HO} (hp : Plain o) : Sub (L2.upd F a o) (L2.upd H a o) := fun b u e => by
  by_cases c : b = a
  · subst c
    rw [upd_same] at e ⊢
    exact ⟨Option.some.inj e ▸ hp, .inl e⟩
  · rw [upd_ne c] at e ⊢
    exact s b u e
/-- F2 is F and things that were new in H; N may have changed -/
structure NewX (N : Addr → Prop) (F H F2 H2 : Hp) : Prop where
  f : Ex F F2
  h : ∀ a o, ¬ N a → H a = some o → H2 a = some o
  s : Sub F2 H2
  n : ∀ a, F a = none → F2 a ≠ none → H a = none
abbrev New := NewX fun _ => False
section
variable {N : Addr → Prop} {F H F2 H2 F3 H3 : Hp}
theorem New.ex (n : New F H F2 H2) : Ex H H2 := fun a o h => n.h a o id h
theorem New.refl (s : Sub F H) : New F H F H := ⟨Ex.refl F, fun _ _ _ h => h, s, fun a h q => absurd h q⟩
theorem NewX.weak (n : New F H F2 H2) : NewX N F H F2 H2 := ⟨n.f, fun a o _ h => n.h a o id h, n.s, n.n⟩
theorem NewX.trans (a : NewX N F H F2 H2) (b : NewX N F2 H2 F3 H3) (hN : ∀ x, N x → F2 x = none → F3 x = none) : NewX N F H F3 H3 :=
  ⟨a.f.trans b.f, fun x o q h => b.h x o q (a.h x o q h), b.s, fun x h q => by
    cases e : F2 x with
    | some o => exact a.n x h (by rw [e]; simp)
    | none =>
      have h2 := b.n x e q
      by_cases c : N x
      · exact absurd (hN x c e) q
      · cases e3 : H x with
        | none => rfl
        | some o => rw [a.h x o c e3] at h2; cases h2⟩
theorem New.trans (a : New F H F2 H2) (b : New F2 H2 F3 H3) : New F H F3 H3 := NewX.trans a b fun _ z => z.elim
/-- a new thing, for good -/
theorem New.upd (s : Sub F H) {p : Addr} {o : HO} (h : H p = none) (hp : Plain o := by trivial) : New F H (upd F p o) (upd H p o) :=
  ⟨Ex.upd (s.free h), fun a u _ e => by rw [upd_ne (ne_of_none e h)]; exact e, s.upd2 hp, fun a e q => by
    by_cases c : a = p
    · rw [c]; exact h
    · rw [upd_ne c] at q; exact absurd e q⟩
/-- a new thing that may still change -/
theorem New.loc (s : Sub F H) {p : Addr} {o : HO} (h : H p = none) : New F H F (L2.upd H p o) :=
  ⟨Ex.refl F, fun a u _ e => by rw [upd_ne (ne_of_none e h)]; exact e, s.upd (s.free h), fun a e q => absurd e q⟩
end
/-- two ghosts over one heap -/
def un (F G : Hp) : Hp := fun a => match F a with
  | some o => some o
  | none => G a
theorem un_l (F G : Hp) : Ex F (un F G) := fun a o h => by unfold un; rw [h]
theorem un_cases {F G : Hp} {a : Addr} {o : HO} (h : un F G a = some o) : F a = some o ∨ (F a = none ∧ G a = some o) := by
  unfold un at h
  cases e : F a with
  | some u => rw [e] at h; exact .inl h
  | none => rw [e] at h; exact .inr ⟨rfl, h⟩
theorem Sub.one {F G H : Hp} (s : Sub F H) (t : Sub G H) {a : Addr} {o u : HO} (h : F a = some o) (h' : G a = some u) : o = u := by
  obtain ⟨p, q | ⟨ob, kvs, z, q⟩⟩ := s a o h <;> obtain ⟨p', q' | ⟨ob', kvs', z', q'⟩⟩ := t a u h'
  · rw [q] at q'; exact Option.some.inj q'
  · rw [q] at q'
    have := Option.some.inj q'
    subst this
    exact p.elim
  · rw [q] at q'
    have := Option.some.inj q'
    subst this
    exact p'.elim
  · rw [q] at q'
    have := Option.some.inj q'
    injection this
theorem un_r {F G H : Hp} (s : Sub F H) (t : Sub G H) : Ex G (un F G) := fun a o h => by
  unfold un
  cases e : F a with
  | none => exact h
  | some u => exact congrArg some (s.one t e h)
theorem Sub.un {F G H : Hp} (s : Sub F H) (t : Sub G H) : Sub (un F G) H := fun a o h => by
  rcases un_cases h with q | ⟨_, q⟩
  · exact s a o q
  · exact t a o q
/-! ### types of values -/
structure VP where
  p : V → Hp → Prop
  mono : ∀ {v F F'}, p v F → Ex F F' → p v F'
instance : CoeFun VP fun _ => V → Hp → Prop := ⟨VP.p⟩
def IntP (i : Int) : VP := ⟨fun v _ => v = .int i, fun h _ => h⟩
def BoolP (b : Bool) : VP := ⟨fun v _ => v = .bl b, fun h _ => h⟩
def NonP : VP := ⟨fun v _ => v = .non, fun h _ => h⟩
def StrP (x : Str) : VP := ⟨fun v _ => v = .str x, fun h _ => h⟩
/-- just this value -/
def IsP (x : V) : VP := ⟨fun v _ => v = x, fun h _ => h⟩
/-- a list of types -/
def AllP : List VP → List V → Hp → Prop
  | [], [], _ => True
  | P :: Ps, v :: vs, F => P v F ∧ AllP Ps vs F
  | _, _, _ => False
theorem AllP.mono : ∀ {Ps : List VP} {vs : List V} {F F' : Hp}, AllP Ps vs F → Ex F F' → AllP Ps vs F'
  | [], [], _, _, _, _ => trivial
  | P :: Ps, v :: vs, _, _, h, e => ⟨P.mono h.1 e, AllP.mono h.2 e⟩
  | [], _ :: _, _, _, h, _ => h.elim
  | _ :: _, [], _, _, h, _ => h.elim
theorem AllP.len : ∀ {Ps : List VP} {vs : List V} {F : Hp}, AllP Ps vs F → vs.length = Ps.length
  | [], [], _, _ => rfl
  | P :: Ps, v :: vs, _, h => congrArg Nat.succ (AllP.len h.2)
  | [], _ :: _, _, h => h.elim
  | _ :: _, [], _, h => h.elim
theorem AllP.get : ∀ {Ps : List VP} {vs : List V} {F : Hp} {i : Nat} {P : VP}, AllP Ps vs F → Ps[i]? = some P → ∃ v, vs[i]? = some v ∧ P v F
  | P :: Ps, v :: vs, _, 0, _, h, e => by cases e; exact ⟨v, rfl, h.1⟩
  | P :: Ps, v :: vs, _, i + 1, _, h, e => AllP.get (i := i) h.2 (by simpa using e)
  | [], [], _, _, _, _, e => by simp at e
  | [], _ :: _, _, _, _, h, _ => h.elim
  | _ :: _, [], _, _, _, h, _ => h.elim
theorem AllP.got : ∀ {Ps : List VP} {vs : List V} {F : Hp} {i : Nat} {v : V}, AllP Ps vs F → vs[i]? = some v → ∃ P, Ps[i]? = some P ∧ P v F
  | P :: Ps, v :: vs, _, 0, _, h, e => by cases e; exact ⟨P, rfl, h.1⟩
  | P :: Ps, v :: vs, _, i + 1, _, h, e => AllP.got (i := i) h.2 (by simpa using e)
  | [], [], _, _, _, _, e => by simp at e
  | [], _ :: _, _, _, _, h, _ => h.elim
  | _ :: _, [], _, _, _, h, _ => h.elim
theorem AllP.append : ∀ {Ps Qs : List VP} {vs ws : List V} {F : Hp}, AllP Ps vs F → AllP Qs ws F → AllP (Ps ++ Qs) (vs ++ ws) F
  | [], _, [], _, _, _, h => h
  | P :: Ps, _, v :: vs, _, _, h, h' => ⟨h.1, AllP.append h.2 h'⟩
  | [], _, _ :: _, _, _, h, _ => h.elim
  | _ :: _, _, [], _, _, h, _ => h.elim
theorem AllP.ints : ∀ {ns : List Int} {vs : List V} {F : Hp}, AllP (ns.map IntP) vs F → vs = ns.map V.int
  | [], [], _, _ => rfl
  | n :: ns, v :: vs, _, h => by rw [List.map_cons, ← AllP.ints (ns := ns) h.2, show v = V.int n from h.1]
  | [], _ :: _, _, h => h.elim
  | _ :: _, [], _, h => h.elim
theorem AllP.of_ints : ∀ (ns : List Int) (F : Hp), AllP (ns.map IntP) (ns.map V.int) F
  | [], _ => trivial
  | _ :: ns, F => ⟨rfl, AllP.of_ints ns F⟩
theorem AllP.bools : ∀ {bs : List Bool} {vs : List V} {F : Hp}, AllP (bs.map BoolP) vs F → vs = bs.map V.bl
  | [], [], _, _ => rfl
  | n :: ns, v :: vs, _, h => by rw [List.map_cons, ← AllP.bools (bs := ns) h.2, show v = V.bl n from h.1]
  | [], _ :: _, _, h => h.elim
  | _ :: _, [], _, h => h.elim
/-- a list, a tuple, never changed any more -/
def LstP (Ps : List VP) : VP := ⟨fun v F => ∃ a xs, v = .ref a ∧ F a = some (.lst xs) ∧ AllP Ps xs F, fun ⟨a, xs, h1, h2, h3⟩ e => ⟨a, xs, h1, e _ _ h2, h3.mono e⟩⟩
def TupP (Ps : List VP) : VP := ⟨fun v F => ∃ a xs, v = .ref a ∧ F a = some (.tup xs) ∧ AllP Ps xs F, fun ⟨a, xs, h1, h2, h3⟩ e => ⟨a, xs, h1, e _ _ h2, h3.mono e⟩⟩
/-- a fraction in lowest terms -/
def FrP (q : Rat) : VP := TupP [IntP q.num, IntP (q.den : Int)]
/-- the pairs of a dict -/
def Ents {α : Type} (R : α → VP) : List (Nat × α) → List (Key × V) → Hp → Prop
  | [], [], _ => True
  | e :: es, kv :: kvs, F => (kv.1 = Sum.inl (e.1 : Int) ∧ R e.2 kv.2 F) ∧ Ents R es kvs F
  | _, _, _ => False
section
variable {α : Type} {R : α → VP}
theorem Ents.mono : ∀ {es : List (Nat × α)} {kvs : List (Key × V)} {F F' : Hp}, Ents R es kvs F → Ex F F' → Ents R es kvs F'
  | [], [], _, _, _, _ => trivial
  | _ :: _, _ :: _, _, _, h, e => ⟨⟨h.1.1, (R _).mono h.1.2 e⟩, Ents.mono h.2 e⟩
  | [], _ :: _, _, _, h, _ => h.elim
  | _ :: _, [], _, _, h, _ => h.elim
theorem Ents.len : ∀ {es : List (Nat × α)} {kvs : List (Key × V)} {F : Hp}, Ents R es kvs F → kvs.length = es.length
  | [], [], _, _ => rfl
  | _ :: _, _ :: _, _, h => congrArg Nat.succ (Ents.len h.2)
  | [], _ :: _, _, h => h.elim
  | _ :: _, [], _, h => h.elim
end
def DctP {α : Type} (R : α → VP) (es : List (Nat × α)) : VP := ⟨fun v F => ∃ a kvs, v = .ref a ∧ F a = some (.dK kvs) ∧ Ents R es kvs F, fun ⟨a, kvs, h1, h2, h3⟩ e => ⟨a, kvs, h1, e _ _ h2, h3.mono e⟩⟩
/-- the attributes of an object -/
def Flds : List (Str × VP) → List (Str × V) → Hp → Prop
  | [], [], _ => True
  | P :: Ps, v :: vs, F => (v.1 = P.1 ∧ P.2 v.2 F) ∧ Flds Ps vs F
  | _, _, _ => False
theorem Flds.mono : ∀ {Ps : List (Str × VP)} {vs : List (Str × V)} {F F' : Hp}, Flds Ps vs F → Ex F F' → Flds Ps vs F'
  | [], [], _, _, _, _ => trivial
  | P :: Ps, v :: vs, _, _, h, e => ⟨⟨h.1.1, P.2.mono h.1.2 e⟩, Flds.mono h.2 e⟩
  | [], _ :: _, _, _, h, _ => h.elim
  | _ :: _, [], _, _, h, _ => h.elim
theorem Flds.get {f : Str} : ∀ {Ps : List (Str × VP)} {vs : List (Str × V)} {F : Hp} {P : VP}, Flds Ps vs F → Ps.lookup f = some P → ∃ v, vs.lookup f = some v ∧ P v F
  | P :: Ps, v :: vs, F, R, h, e => by
    obtain ⟨⟨h1, h2⟩, h3⟩ := h
    obtain ⟨n, v⟩ := v
    obtain ⟨m, P⟩ := P
    subst h1
    simp only [List.lookup] at e ⊢
    cases c : f == n with
    | true => rw [c] at e; cases e; exact ⟨v, rfl, h2⟩
    | false => rw [c] at e; exact Flds.get h3 e
  | [], [], _, _, _, e => by cases e
  | [], _ :: _, _, _, h, _ => h.elim
  | _ :: _, [], _, _, h, _ => h.elim
theorem Flds.no {f : Str} : ∀ {Ps : List (Str × VP)} {vs : List (Str × V)} {F : Hp}, Flds Ps vs F → (Ps.map (·.1)).contains f = false → vs.lookup f = none
  | P :: Ps, v :: vs, F, h, e => by
    obtain ⟨⟨h1, h2⟩, h3⟩ := h
    obtain ⟨n, v⟩ := v
    obtain ⟨m, P⟩ := P
    subst h1
    rw [List.map_cons, List.contains_cons, Bool.or_eq_false_iff] at e
    simp only [List.lookup]
    rw [show (f == n) = false from e.1]
    exact Flds.no h3 e.2
  | [], [], _, _, _ => rfl
  | [], _ :: _, _, h, _ => h.elim
  | _ :: _, [], _, h, _ => h.elim
def ObjP (C : Addr) (Ps : List (Str × VP)) : VP := ⟨fun v F => ∃ a dx vs, v = .ref a ∧ F a = some (.ins C dx vs) ∧ Flds Ps vs F, fun ⟨a, dx, vs, h1, h2, h3⟩ e => ⟨a, dx, vs, h1, e _ _ h2, h3.mono e⟩⟩
/-- that object, told besides -/
def AtP (x : V) (P : VP) : VP := ⟨fun v F => v = x ∧ P v F, fun h e => ⟨h.1, P.mono h.2 e⟩⟩
/-! ### what stands in the slots -/
def Typed : St → List (Option VP) → Hp → Prop
  | [], [], _ => True
  | s :: σ, p :: Γ, F => (match p with
    | none => True
    | some P => ∃ v, s = some v ∧ P v F) ∧ Typed σ Γ F
  | _, _, _ => False
theorem Typed.mono : ∀ {σ : St} {Γ : List (Option VP)} {F F' : Hp}, Typed σ Γ F → Ex F F' → Typed σ Γ F'
  | [], [], _, _, _, _ => trivial
  | s :: σ, p :: Γ, _, _, h, e => ⟨by
    cases p with
    | none => trivial
    | some P =>
      obtain ⟨v, h1, h2⟩ := h.1
      exact ⟨v, h1, P.mono h2 e⟩, Typed.mono h.2 e⟩
  | [], _ :: _, _, _, h, _ => h.elim
  | _ :: _, [], _, _, h, _ => h.elim
theorem Typed.get : ∀ {σ : St} {Γ : List (Option VP)} {F : Hp} {i : Nat} {P : VP}, Typed σ Γ F → Γ[i]? = some (some P) → ∃ v, σ[i]? = some (some v) ∧ P v F
  | s :: σ, p :: Γ, F, 0, P, h, e => by
    have e : p = some P := by simpa using e
    subst e
    obtain ⟨v, h1, h2⟩ := h.1
    exact ⟨v, by rw [h1]; rfl, h2⟩
  | s :: σ, p :: Γ, F, i + 1, P, h, e => Typed.get (i := i) h.2 (by simpa using e)
  | [], [], _, _, _, _, e => by simp at e
  | [], _ :: _, _, _, _, h, _ => h.elim
  | _ :: _, [], _, _, _, h, _ => h.elim
theorem Typed.set : ∀ {σ : St} {Γ : List (Option VP)} {F : Hp} {i : Nat} {v : V} {P : VP}, Typed σ Γ F → P v F → Typed (σ.set i (some v)) (Γ.set i (some P)) F
  | s :: σ, p :: Γ, F, 0, v, P, h, e => ⟨⟨v, rfl, e⟩, h.2⟩
  | s :: σ, p :: Γ, F, i + 1, v, P, h, e => ⟨h.1, Typed.set (i := i) h.2 e⟩
  | [], [], _, _, _, _, h, _ => h
  | [], _ :: _, _, _, _, _, h, _ => h.elim
  | _ :: _, [], _, _, _, _, h, _ => h.elim
theorem Typed.unset : ∀ {σ : St} {Γ : List (Option VP)} {F : Hp} {i : Nat}, Typed σ Γ F → Typed (σ.set i none) (Γ.set i none) F
  | s :: σ, p :: Γ, F, 0, h => ⟨trivial, h.2⟩
  | s :: σ, p :: Γ, F, i + 1, h => ⟨h.1, Typed.unset (i := i) h.2⟩
  | [], [], _, _, h => h
  | [], _ :: _, _, _, h => h.elim
  | _ :: _, [], _, _, h => h.elim
def wipeG (Γ : List (Option VP)) : List Nat → List (Option VP)
  | [] => Γ
  | v :: vs => (wipeG Γ vs).set v none
theorem Typed.wipe {σ : St} {Γ : List (Option VP)} {F : Hp} (h : Typed σ Γ F) : ∀ vs : List Nat, Typed (L2.wipe σ vs) (wipeG Γ vs) F
  | [] => h
  | v :: vs => (h.wipe vs).unset
/-- less is told -/
def LeG : List (Option VP) → List (Option VP) → Prop
  | [], [] => True
  | p :: Γ, q :: Δ => (q = none ∨ p = q) ∧ LeG Γ Δ
  | _, _ => False
theorem Typed.le : ∀ {σ : St} {Γ Δ : List (Option VP)} {F : Hp}, Typed σ Γ F → LeG Γ Δ → Typed σ Δ F
  | [], [], [], _, _, _ => trivial
  | s :: σ, p :: Γ, q :: Δ, F, h, l => ⟨by
    rcases l.1 with e | e
    · subst e; trivial
    · subst e; exact h.1, Typed.le h.2 l.2⟩
  | [], [], _ :: _, _, _, l => l.elim
  | _ :: _, _ :: _, [], _, _, l => l.elim
  | [], _ :: _, _, _, h, _ => h.elim
  | _ :: _, [], _, _, h, _ => h.elim
/-- a def's start -/
theorem Typed.start {N : List Str} : ∀ {Ps : List VP} {vs : List V} {F : Hp}, AllP Ps vs F → Typed (L2.start N vs) (Ps.map some ++ List.replicate (N.length - vs.length) none) F := by
  intro Ps vs F h
  have key : ∀ {Ps : List VP} {vs : List V} (k : Nat), AllP Ps vs F → Typed (vs.map some ++ List.replicate k none) (Ps.map some ++ List.replicate k none) F := by
    intro Ps
    induction Ps with
    | nil =>
      intro vs k h
      cases vs with
      | nil =>
        induction k with
        | zero => trivial
        | succ k ih => exact ⟨trivial, ih⟩
      | cons _ _ => exact h.elim
    | cons P Ps ih =>
      intro vs k h
      cases vs with
      | nil => exact h.elim
      | cons v vs => exact ⟨⟨v, rfl, h.1⟩, ih k h.2⟩
  exact key _ h
end Sw
set_option maxRecDepth 100000
set_option maxHeartbeats 2000000
/-! # Expressions: what each word of a reading asks, told by types -/
namespace Sw
open PySem L2
/-! ### names for some rules' readings -/
section
variable {X : Cx}
def rAbs : List V → Hp → VK → Prop := fun xs H Q => ∃ i, xs = [.int i] ∧ Q (.int (if i < 0 then -i else i)) H
theorem cr_abs : CallR X (.builtin "abs") rAbs := call_abs
def rListOf (K : PySem.W.Frag) : List V → Hp → VK → Prop := fun xs H Q => ∃ p ys, xs = [.ref p] ∧ (SqL K H p ys ∨ SqT K H p ys) ∧ ∀ l, H l = none → Q (.ref l) (upd H l (.lst ys))
theorem cr_listOf : CallR X (.type "list") (rListOf X.K) := call_list_of
def rTupOf (K : PySem.W.Frag) : List V → Hp → VK → Prop := fun xs H Q => ∃ p ys, xs = [.ref p] ∧ ((SqL K H p ys ∧ ∀ l, H l = none → Q (.ref l) (upd H l (.tup ys))) ∨ (SqT K H p ys ∧ Q (.ref p) H))
theorem cr_tupOf : CallR X (.type "tuple") (rTupOf X.K) := call_tuple_of
def rDictD : List V → Hp → VK → Prop := fun xs H Q => ∃ (a : Addr) (kvs : List (Key × V)), xs = [.ref a] ∧ Rd H a (.dK kvs) ∧ ∀ p, H p = none → Q (.ref p) (upd H p (.dK kvs))
theorem cr_dictD : CallR X (.type "dict") rDictD := call_dictD
def rDictP (K : PySem.W.Frag) : List V → Hp → VK → Prop := fun xs H Q => ∃ (a : Addr) (ps : List Addr) (kvs : List (Key × V)), xs = [.ref a] ∧ SqL K H a (ps.map V.ref) ∧ Paired (fun p kv => SqT K H p [kV kv.1, kv.2]) ps kvs ∧ ∀ p, H p = none → Q (.ref p) (upd H p (.dK (mergeK [] kvs)))
theorem cr_dictP (hc : X.calm = true) : CallR X (.type "dict") (rDictP X.K) := call_dictP hc
def rSortedDI : List V → Hp → VK → Prop := fun xs H Q => ∃ (a : Addr) (kvs : List (Key × V)) (ks : List Int), xs = [.ref a] ∧ Rd H a (.dK kvs) ∧ kvs.map (·.1) = ks.map Sum.inl ∧ ks.length < 64 ∧
  ∀ (ys : List Int) (p : Addr), ys.Perm ks → ys.Pairwise (· ≤ ·) → H p = none → Q (.ref p) (upd H p (.lst (ys.map V.int)))
theorem cr_sortedDI (hc : X.calm = true) : CallR X (.builtin "sorted") rSortedDI := call_sortedDI hc
def rLenSeq (K : PySem.W.Frag) : List V → Hp → VK → Prop := fun xs H Q => ∃ p ys, xs = [.ref p] ∧ (SqL K H p ys ∨ SqT K H p ys) ∧ Q (.int ys.length) H
theorem cr_lenSeq : CallR X (.builtin "len") (rLenSeq X.K) := call_len_seq
/-- len of a dict, locked or not -/
def rLenD : List V → Hp → VK → Prop := fun xs H Q => ∃ a kvs, xs = [V.ref a] ∧ Rd H a (.dK kvs) ∧ Q (.int kvs.length) H
theorem cr_lenD : CallR X (.builtin "len") rLenD := by
  intro pins s σ H xs us Q I r h
  obtain ⟨a, kvs, rfl, ha, q⟩ := h
  obtain ⟨u, rfl, ru⟩ := vals1 r
  cases ru
  exact d_len I ha fun t s' I' => ⟨.int kvs.length, H, I', ⟨t, rfl⟩, q⟩
theorem pt_tru {a : Expr} {ta : TE} (ha : PE X a ta) (he : ∀ whole, isTrue a X.env whole = (do let v ← whole; standAt a.pos; holding [v] (truthy v)) := by intro _; rfl) : PT X a (tTru X.K ta) := pt_truth ha he
/-- a loop, a comprehension over a dict, which is locked meanwhile (or was) -/
def tLk (t : TS) : TS := fun D σ H => tLock t D σ H ∨ t D σ H
theorem ps_lk {st : Stmt} {t : TS} (h : PS X st t) : PS X st (tLk t) := ⟨fun pins s σ H D I q => q.elim ((ps_lock h).run pins s σ H D I) (h.run pins s σ H D I)⟩
def tLkE (t : TE) : TE := fun σ H Q => tLockE t σ H Q ∨ t σ H Q
theorem pe_lk {e : Expr} {t : TE} (h : PE X e t) : PE X e (tLkE t) := ⟨fun pins s σ H Q I q => q.elim ((pe_lock h).run pins s σ H Q I) (h.run pins s σ H Q I)⟩
end
/-! ### the state of a body -/
/-- what is known beside the slots: X as it stands in the heap, loc may be changed, g -/
structure Wd where
  X : Hp := fun _ => none
  loc : Addr → Prop := fun _ => False
  g : Hp → Prop := fun _ => True
  mono : ∀ {F F'}, g F → Ex F F' → g F' := by exact fun h _ => h
def W0 : Wd := {}
structure Ok (Γ : List (Option VP)) (W : Wd) (σ : L2.St) (F H : Hp) : Prop where
  t : Typed σ Γ F
  s : Sub F H
  x : Ex W.X H
  g : W.g F
  xf : ∀ a, W.X a ≠ none → F a = none
theorem new_none {F H F2 H2 : Hp} {a : Addr} (n : New F H F2 H2) (h1 : F a = none) (h2 : H a ≠ none) : F2 a = none := by
  cases e : F2 a with
  | none => rfl
  | some o => exact absurd (n.n a h1 (by rw [e]; simp)) h2
theorem new_some {F H F2 H2 : Hp} {a : Addr} (n : New F H F2 H2) (h : H a ≠ none) : H2 a ≠ none := by
  cases e : H a with
  | none => exact absurd e h
  | some o => rw [n.ex a o e]; simp
theorem ex_some {F H : Hp} {a : Addr} (e : Ex F H) (h : F a ≠ none) : H a ≠ none := by
  cases q : F a with
  | none => exact absurd q h
  | some o => rw [e a o q]; simp
section
variable {Γ : List (Option VP)} {W : Wd} {σ : L2.St} {F H F2 H2 F3 H3 : Hp}
theorem Ok.next (o : Ok Γ W σ F H) (n : New F H F2 H2) : Ok Γ W σ F2 H2 := ⟨o.t.mono n.f, n.s, o.x.trans n.ex, W.mono o.g n.f, fun a ha => new_none n (o.xf a ha) (ex_some o.x ha)⟩
end
/-- what is wanted of a value -/
def Ret (F H : Hp) (Q : VK) (P : VP) : Prop := ∀ v F2 H2, New F H F2 H2 → P v F2 → Q v H2
theorem Ret.here {F H : Hp} {Q : VK} {P : VP} (k : Ret F H Q P) (s : Sub F H) {v : V} (h : P v F) : Q v H := k v F H (New.refl s) h
def EvG (te : TE) (Γ : List (Option VP)) (W : Wd) (P : VP) : Prop := ∀ σ F H, Ok Γ W σ F H → ∀ Q, Ret F H Q P → te σ H Q
def EvT (tt : TT) (Γ : List (Option VP)) (W : Wd) (b : Bool) : Prop := ∀ σ F H, Ok Γ W σ F H → ∀ Q : Bool → Hp → Prop, (∀ F2 H2, New F H F2 H2 → Q b H2) → tt σ H Q
def EvA (ta : TA) (Γ : List (Option VP)) (W : Wd) (Ps : List VP) : Prop := ∀ σ F H, Ok Γ W σ F H → ∀ Q : List V → Hp → Prop, (∀ vs F2 H2, New F H F2 H2 → AllP Ps vs F2 → Q vs H2) → ta σ H Q
/-- an operation by values, a call by values -/
def OpG (r : R2) (W : Wd) (P P' R : VP) : Prop := ∀ x y F H, P x F → P' y F → Sub F H → Ex W.X H → W.g F → ∀ Q, Ret F H Q R → r x y H Q
def CbG (r : List V → Hp → VK → Prop) (W : Wd) (Ps : List VP) (R : VP) : Prop := ∀ vs F H, AllP Ps vs F → Sub F H → Ex W.X H → W.g F → ∀ Q, Ret F H Q R → r vs H Q
/-- what a promise gives for such arguments -/
def SpG (sp : Sp) (W : Wd) (Ps : List VP) (R : VP) : Prop := ∀ vs F H, AllP Ps vs F → Sub F H → Ex W.X H → W.g F → ∀ Q E, Ret F H Q R → sp vs H Q E
section
variable {Γ : List (Option VP)} {W : Wd} {P P' R : VP} {ta tb te : TE} {r : R2} {K : PySem.W.Frag}
theorem ev_sub (h : EvG te Γ W P) (hp : ∀ v F, P v F → R v F) : EvG te Γ W R := fun σ F H o Q k => h σ F H o Q fun v F2 H2 n p => k v F2 H2 n (hp v F2 p)
theorem ev_var {i : Nat} (h : Γ[i]? = some (some P)) : EvG (tVar i) Γ W P := fun σ F H o Q k => by
  obtain ⟨v, h1, h2⟩ := o.t.get h
  exact ⟨v, h1, k.here o.s h2⟩
theorem ev_c {x : V} (h : ∀ F, P x F) : EvG (tC x) Γ W P := fun σ F H o Q k => k.here o.s (h F)
theorem ev_int {i : Int} : EvG (tC (.int i)) Γ W (IntP i) := ev_c fun _ => rfl
theorem ev_bl {b : Bool} : EvG (tC (.bl b)) Γ W (BoolP b) := ev_c fun _ => rfl
theorem ev_non : EvG (tC .non) Γ W NonP := ev_c fun _ => rfl
theorem ev_str {x : Str} : EvG (tC (.str x)) Γ W (StrP x) := ev_c fun _ => rfl
theorem ev_op (ha : EvG ta Γ W P) (hb : EvG tb Γ W P') (hr : OpG r W P P' R) : EvG (tOp r ta tb) Γ W R := fun σ F H o Q k => by
  refine ha σ F H o _ fun x F1 H1 n1 p1 => ?_
  refine hb σ F1 H1 (o.next n1) _ fun y F2 H2 n2 p2 => ?_
  have o2 := (o.next n1).next n2
  exact hr x y F2 H2 (P.mono p1 n2.f) p2 n2.s o2.x o2.g Q fun v F3 H3 n3 p3 => k v F3 H3 (New.trans (New.trans n1 n2) n3) p3
/-! operations on numbers -/
theorem og_I0 {g : Int → Int → V} {i j : Int} (h : ∀ F, R (g i j) F) : OpG (rI0 g) W (IntP i) (IntP j) R := fun x y F H hx hy s _ _ Q k => ⟨i, j, hx, hy, k.here s (h F)⟩
theorem og_I {C : Int → Int → Prop} {g : Int → Int → V} {i j : Int} (hc : C i j) (h : ∀ F, R (g i j) F) : OpG (rI C g) W (IntP i) (IntP j) R := fun x y F H hx hy s _ _ Q k => ⟨i, j, hx, hy, hc, k.here s (h F)⟩
theorem ev_add {i j : Int} (ha : EvG ta Γ W (IntP i)) (hb : EvG tb Γ W (IntP j)) : EvG (tOp (rI0 fun i j => .int (i + j)) ta tb) Γ W (IntP (i + j)) := ev_op ha hb (og_I0 fun _ => rfl)
theorem ev_subI {i j : Int} (ha : EvG ta Γ W (IntP i)) (hb : EvG tb Γ W (IntP j)) : EvG (tOp (rI0 fun i j => .int (i - j)) ta tb) Γ W (IntP (i - j)) := ev_op ha hb (og_I0 fun _ => rfl)
theorem ev_mulW {i j : Int} (ha : EvG ta Γ W (IntP i)) (hb : EvG tb Γ W (IntP j)) (hc : CMulW i j) : EvG (tOp (rI CMulW fun i j => .int (i * j)) ta tb) Γ W (IntP (i * j)) := ev_op ha hb (og_I hc fun _ => rfl)
theorem ev_divW {i j : Int} (ha : EvG ta Γ W (IntP i)) (hb : EvG tb Γ W (IntP j)) (hc : CDivW i j) : EvG (tOp (rI CDivW fun i j => .int (i / j)) ta tb) Γ W (IntP (i / j)) := ev_op ha hb (og_I hc fun _ => rfl)
theorem ev_modN {i j : Int} (ha : EvG ta Γ W (IntP i)) (hb : EvG tb Γ W (IntP j)) (hc : j ≠ 0) : EvG (tOp (rI (fun _ j => j ≠ 0) fun i j => .int (i.fmod j)) ta tb) Γ W (IntP (i.fmod j)) := ev_op ha hb (og_I hc fun _ => rfl)
theorem ev_lt {i j : Int} (ha : EvG ta Γ W (IntP i)) (hb : EvG tb Γ W (IntP j)) : EvG (tOp (rI0 fun i j => .bl (decide (i < j))) ta tb) Γ W (BoolP (decide (i < j))) := ev_op ha hb (og_I0 fun _ => rfl)
theorem ev_le {i j : Int} (ha : EvG ta Γ W (IntP i)) (hb : EvG tb Γ W (IntP j)) : EvG (tOp (rI0 fun i j => .bl (decide (i ≤ j))) ta tb) Γ W (BoolP (decide (i ≤ j))) := ev_op ha hb (og_I0 fun _ => rfl)
theorem ev_gt {i j : Int} (ha : EvG ta Γ W (IntP i)) (hb : EvG tb Γ W (IntP j)) : EvG (tOp (rI0 fun i j => .bl (decide (j < i))) ta tb) Γ W (BoolP (decide (j < i))) := ev_op ha hb (og_I0 fun _ => rfl)
theorem ev_ge {i j : Int} (ha : EvG ta Γ W (IntP i)) (hb : EvG tb Γ W (IntP j)) : EvG (tOp (rI0 fun i j => .bl (decide (j ≤ i))) ta tb) Γ W (BoolP (decide (j ≤ i))) := ev_op ha hb (og_I0 fun _ => rfl)
/-! equality of scalars -/
theorem ev_eqI {i j : Int} (ha : EvG ta Γ W (IntP i)) (hb : EvG tb Γ W (IntP j)) : EvG (tOp rEq ta tb) Γ W (BoolP (decide (i = j))) := ev_op ha hb fun x y F H hx hy s _ _ Q k => by
  obtain rfl : x = _ := hx
  obtain rfl : y = _ := hy
  exact ⟨rfl, k.here s (by show V.bl _ = V.bl _; congr 1; simp)⟩
theorem ev_neI {i j : Int} (ha : EvG ta Γ W (IntP i)) (hb : EvG tb Γ W (IntP j)) : EvG (tOp rNe ta tb) Γ W (BoolP (!decide (i = j))) := ev_op ha hb fun x y F H hx hy s _ _ Q k => by
  obtain rfl : x = _ := hx
  obtain rfl : y = _ := hy
  exact ⟨rfl, k.here s (by show V.bl _ = V.bl _; congr 1; simp)⟩
theorem ev_eqB {i j : Bool} (ha : EvG ta Γ W (BoolP i)) (hb : EvG tb Γ W (BoolP j)) : EvG (tOp rEq ta tb) Γ W (BoolP (decide (i = j))) := ev_op ha hb fun x y F H hx hy s _ _ Q k => by
  obtain rfl : x = _ := hx
  obtain rfl : y = _ := hy
  exact ⟨rfl, k.here s (by show V.bl _ = V.bl _; congr 1; simp)⟩
theorem ev_eqS {i j : Str} (ha : EvG ta Γ W (StrP i)) (hb : EvG tb Γ W (StrP j)) : EvG (tOp rEq ta tb) Γ W (BoolP (decide (i = j))) := ev_op ha hb fun x y F H hx hy s _ _ Q k => by
  obtain rfl : x = _ := hx
  obtain rfl : y = _ := hy
  exact ⟨rfl, k.here s (by show V.bl _ = V.bl _; congr 1; simp)⟩
/-! is None -/
theorem ev_isN {b : Bool} (ha : EvG ta Γ W P) (hp : ∀ v F, P v F → decide (v = .non) = b) : EvG (tOp rIsN ta (tC .non)) Γ W (BoolP b) := ev_op ha ev_non fun x y F H hx hy s _ _ Q k => ⟨hy, k.here s (by rw [hp x F hx]; rfl)⟩
theorem ev_notN {b : Bool} (ha : EvG ta Γ W P) (hp : ∀ v F, P v F → (!decide (v = .non)) = b) : EvG (tOp rNotN ta (tC .non)) Γ W (BoolP b) := ev_op ha ev_non fun x y F H hx hy s _ _ Q k => ⟨hy, k.here s (by rw [hp x F hx]; rfl)⟩
/-! subscripts -/
theorem ev_ixT {Ps : List VP} {i : Int} (ha : EvG ta Γ W (TupP Ps)) (hb : EvG tb Γ W (IntP i)) (hi : atI Ps i = some P) : EvG (tOp (rIxT K) ta tb) Γ W P := ev_op ha hb fun x y F H hx hy s _ _ Q k => by
  obtain ⟨a, xs, rfl, h2, h3⟩ := hx
  unfold atI at hi
  obtain ⟨j, hj, hi⟩ := Option.bind_eq_some_iff.mp hi
  obtain ⟨v, hv, pv⟩ := h3.get hi
  refine ⟨a, xs, i, v, rfl, hy, SqT.of (s.tup h2), ?_, k.here s pv⟩
  unfold atI
  rw [h3.len, hj]
  exact hv
theorem ev_ixL {Ps : List VP} {i : Int} (ha : EvG ta Γ W (LstP Ps)) (hb : EvG tb Γ W (IntP i)) (hi : atI Ps i = some P) : EvG (tOp (rIxL K) ta tb) Γ W P := ev_op ha hb fun x y F H hx hy s _ _ Q k => by
  obtain ⟨a, xs, rfl, h2, h3⟩ := hx
  unfold atI at hi
  obtain ⟨j, hj, hi⟩ := Option.bind_eq_some_iff.mp hi
  obtain ⟨v, hv, pv⟩ := h3.get hi
  refine ⟨a, xs, i, v, rfl, hy, SqL.of (s.lst h2), ?_, k.here s pv⟩
  unfold atI
  rw [h3.len, hj]
  exact hv
theorem ev_num {q : Rat} (ha : EvG ta Γ W (FrP q)) : EvG (tOp (rIxT K) ta (tC (.int 0))) Γ W (IntP q.num) := ev_ixT ha ev_int rfl
theorem ev_den {q : Rat} (ha : EvG ta Γ W (FrP q)) : EvG (tOp (rIxT K) ta (tC (.int 1))) Γ W (IntP (q.den : Int)) := ev_ixT ha ev_int rfl
/-! x in a list of numbers -/
theorem inV_ints (n : Int) (ns : List Int) : inV (.int n) (ns.map V.int) = decide (n ∈ ns) := by
  unfold inV
  rw [List.any_map, Bool.eq_iff_iff, List.any_eq_true, decide_eq_true_eq]
  constructor
  · rintro ⟨x, hx, e⟩
    have e : eqV (.int x) (.int n) = true := e
    have : x = n := by simpa [eqV] using e
    exact this ▸ hx
  · intro h
    exact ⟨n, h, by simp [eqV]⟩
theorem flat_ints (ns : List Int) : (ns.map V.int).all flatV = true := by
  rw [List.all_map]
  exact List.all_eq_true.mpr fun _ _ => rfl
theorem ev_inL {n : Int} {ns : List Int} (ha : EvG ta Γ W (IntP n)) (hb : EvG tb Γ W (LstP (ns.map IntP))) : EvG (tOp (rIn K false) ta tb) Γ W (BoolP (decide (n ∈ ns))) := ev_op ha hb fun x y F H hx hy s _ _ Q k => by
  obtain ⟨a, xs, rfl, h2, h3⟩ := hy
  obtain rfl : x = _ := hx
  rw [h3.ints] at h2
  exact ⟨a, ns.map V.int, rfl, .inl (SqL.of (s.lst h2)), rfl, flat_ints ns, k.here s (by show V.bl _ = V.bl _; rw [inV_ints]; rfl)⟩
theorem ev_niL {n : Int} {ns : List Int} (ha : EvG ta Γ W (IntP n)) (hb : EvG tb Γ W (LstP (ns.map IntP))) : EvG (tOp (rIn K true) ta tb) Γ W (BoolP (!decide (n ∈ ns))) := ev_op ha hb fun x y F H hx hy s _ _ Q k => by
  obtain ⟨a, xs, rfl, h2, h3⟩ := hy
  obtain rfl : x = _ := hx
  rw [h3.ints] at h2
  exact ⟨a, ns.map V.int, rfl, .inl (SqL.of (s.lst h2)), rfl, flat_ints ns, k.here s (by show V.bl _ = V.bl _; rw [inV_ints]; rfl)⟩
/-! lists put together -/
theorem ev_cat {Ps Qs : List VP} (ha : EvG ta Γ W (LstP Ps)) (hb : EvG tb Γ W (LstP Qs)) (hl : Ps.length + Qs.length ≤ sizeLine) : EvG (tOp rCat ta tb) Γ W (LstP (Ps ++ Qs)) := ev_op ha hb fun x y F H hx hy s _ _ Q k => by
  obtain ⟨a, xs, rfl, h2, h3⟩ := hx
  obtain ⟨b, ys, rfl, g2, g3⟩ := hy
  refine ⟨a, b, xs, ys, rfl, rfl, s.lst h2, s.lst g2, by rw [h3.len, g3.len]; exact hl, fun p hp => ?_⟩
  exact k _ _ _ (New.upd s hp) ⟨p, _, rfl, upd_same, (h3.append g3).mono (Ex.upd (s.free hp))⟩
theorem AllP.flat {Ps : List VP} {xs : List V} {F : Hp} (h : AllP Ps xs F) : ∀ n : Nat, AllP (List.replicate n Ps).flatten (List.replicate n xs).flatten F
  | 0 => trivial
  | n + 1 => by
    rw [List.replicate_succ, List.flatten_cons, List.replicate_succ, List.flatten_cons]
    exact h.append (AllP.flat h n)
theorem ev_rep {Ps : List VP} {n : Nat} (ha : EvG ta Γ W (LstP Ps)) (hb : EvG tb Γ W (IntP (n : Int))) (hl : Ps.length * n ≤ sizeLine) (hn : n < 1000000) : EvG (tOp rRep ta tb) Γ W (LstP (List.replicate n Ps).flatten) := ev_op ha hb fun x y F H hx hy s _ _ Q k => by
  obtain ⟨a, xs, rfl, h2, h3⟩ := hx
  refine ⟨a, (n : Int), xs, rfl, hy, s.lst h2, by omega, by omega, by rw [h3.len]; simpa using hl, fun p hp => ?_⟩
  exact k _ _ _ (New.upd s hp) ⟨p, _, rfl, upd_same, by simpa using (h3.flat n).mono (Ex.upd (s.free hp))⟩
/-! attributes -/
theorem ev_fld {C : Addr} {Ps : List (Str × VP)} {f : Str} (ha : EvG ta Γ W (ObjP C Ps)) (hc : Cls K C) (hn : NoAttr K C f) (hf : Ps.lookup f = some P) : EvG (tFld K ta f) Γ W P := fun σ F H o Q k => by
  refine ha σ F H o _ fun x F1 H1 n1 p1 => ?_
  obtain ⟨a, dx, vs, rfl, h2, h3⟩ := p1
  obtain ⟨v, h4, h5⟩ := h3.get hf
  exact ⟨a, C, dx, vs, v, rfl, n1.s.ins h2, hc, hn, h4, k _ _ _ n1 h5⟩
/-! displays, arguments -/
theorem ea_nil : EvA tNil Γ W [] := fun σ F H o Q k => k [] F H (New.refl o.s) trivial
theorem ea_cons {tr : TA} {Ps : List VP} (ha : EvG ta Γ W P) (hr : EvA tr Γ W Ps) : EvA (tCons ta tr) Γ W (P :: Ps) := fun σ F H o Q k => by
  refine ha σ F H o _ fun x F1 H1 n1 p1 => ?_
  refine hr σ F1 H1 (o.next n1) _ fun xs F2 H2 n2 p2 => ?_
  exact k (x :: xs) F2 H2 (New.trans n1 n2) ⟨P.mono p1 n2.f, p2⟩
theorem ev_tup {t : TA} {Ps : List VP} (h : EvA t Γ W Ps) (hl : Ps.length ≤ sizeLine := by decide) : EvG (tTup t) Γ W (TupP Ps) := fun σ F H o Q k => by
  refine h σ F H o _ fun xs F1 H1 n1 p1 => ⟨by rw [p1.len]; exact hl, fun p hp => ?_⟩
  exact k _ _ _ (New.trans n1 (New.upd n1.s hp)) ⟨p, xs, rfl, upd_same, p1.mono (Ex.upd (n1.s.free hp))⟩
theorem ev_lst {t : TA} {Ps : List VP} (h : EvA t Γ W Ps) (hl : Ps.length ≤ sizeLine := by decide) : EvG (tLst t) Γ W (LstP Ps) := fun σ F H o Q k => by
  refine h σ F H o _ fun xs F1 H1 n1 p1 => ⟨by rw [p1.len]; exact hl, fun p hp => ?_⟩
  exact k _ _ _ (New.trans n1 (New.upd n1.s hp)) ⟨p, xs, rfl, upd_same, p1.mono (Ex.upd (n1.s.free hp))⟩
theorem ev_fr {t : TA} {i : Int} {d : Nat} {q : Rat} (h : EvA t Γ W [IntP i, IntP (d : Int)]) (h1 : i = q.num) (h2 : d = q.den) : EvG (tTup t) Γ W (FrP q) := by
  subst h1 h2
  exact ev_tup h (by show 2 ≤ sizeLine; decide)
theorem ev_dnew {α : Type} {Rf : α → VP} : EvG tDNewK Γ W (DctP Rf []) := fun σ F H o Q k p hp => k _ _ _ (New.upd o.s hp) ⟨p, [], rfl, upd_same, trivial⟩
/-! calls -/
theorem ev_call {sp : Sp} {E : XK} {t : TA} {Ps : List VP} (h : EvA t Γ W Ps) (hs : SpG sp W Ps R) : EvG (tCall sp [] E t) Γ W R := fun σ F H o Q k => by
  refine h σ F H o _ fun xs F1 H1 n1 p1 => ?_
  have o1 := o.next n1
  show sp (xs ++ []) H1 Q E
  rw [List.append_nil]
  exact hs xs F1 H1 p1 n1.s o1.x o1.g Q E fun v F2 H2 n2 p2 => k v F2 H2 (New.trans n1 n2) p2
theorem ev_meth {C : Addr} {Fs : List (Str × VP)} {m : Str} {sp : Sp} {E : XK} {t : TA} {Ps : List VP} (ha : EvG ta Γ W (ObjP C Fs)) (hm : (Fs.map (·.1)).contains m = false) (h : EvA t Γ W Ps) (hs : SpG sp W (ObjP C Fs :: Ps) R) : EvG (tMeth C m sp [] E ta t) Γ W R := fun σ F H o Q k => by
  refine ha σ F H o _ fun x F0 H0 n0 p0 => ?_
  obtain ⟨a, dx, vs, rfl, h2, h3⟩ := id p0
  refine ⟨a, dx, vs, rfl, n0.s.ins h2, h3.no hm, ?_⟩
  refine h σ F0 H0 (o.next n0) _ fun xs F1 H1 n1 p1 => ?_
  have o1 := (o.next n0).next n1
  show sp (V.ref a :: (xs ++ [])) H1 Q E
  rw [List.append_nil]
  exact hs (V.ref a :: xs) F1 H1 (show AllP (_ :: _) (_ :: _) F1 from And.intro ((ObjP C Fs).mono p0 n1.f) p1) n1.s o1.x o1.g Q E fun v F2 H2 n2 p2 => k v F2 H2 (New.trans (New.trans n0 n1) n2) p2
theorem ev_cb {r : List V → Hp → VK → Prop} {t : TA} {Ps : List VP} (h : EvA t Γ W Ps) (hr : CbG r W Ps R) : EvG (tCB r t) Γ W R := fun σ F H o Q k => by
  refine h σ F H o _ fun xs F1 H1 n1 p1 => ?_
  have o1 := o.next n1
  exact hr xs F1 H1 p1 n1.s o1.x o1.g Q fun v F2 H2 n2 p2 => k v F2 H2 (New.trans n1 n2) p2
/-! built-in functions -/
theorem cb_one {r : List V → Hp → VK → Prop} (h : ∀ x F H, P x F → Sub F H → Ex W.X H → W.g F → ∀ Q, Ret F H Q R → r [x] H Q) : CbG r W [P] R := fun vs F H a s x g Q k => by
  match vs, a with
  | [v], a => exact h v F H a.1 s x g Q k
theorem cb_abs {i : Int} : CbG rAbs W [IntP i] (IntP (i.natAbs : Int)) := cb_one fun x F H h s _ _ Q k => by
  obtain rfl : x = _ := h
  refine ⟨i, rfl, k.here s ?_⟩
  show V.int _ = V.int _
  congr 1
  split <;> omega
theorem cb_lenL {Ps : List VP} : CbG (rLenSeq K) W [LstP Ps] (IntP (Ps.length : Int)) := cb_one fun x F H ⟨a, xs, h1, h2, h3⟩ s _ _ Q k => by
  subst h1
  exact ⟨a, xs, rfl, .inl (SqL.of (s.lst h2)), k.here s (by rw [h3.len]; rfl)⟩
theorem cb_lenD {α : Type} {Rf : α → VP} {es : List (Nat × α)} : CbG rLenD W [DctP Rf es] (IntP (es.length : Int)) := cb_one fun x F H ⟨a, kvs, h1, h2, h3⟩ s _ _ Q k => by
  subst h1
  exact ⟨a, kvs, rfl, s.rd h2, k.here s (by rw [h3.len]; rfl)⟩
theorem cb_listT {Ps : List VP} : CbG (rListOf K) W [TupP Ps] (LstP Ps) := cb_one fun x F H ⟨a, xs, h1, h2, h3⟩ s _ _ Q k => by
  subst h1
  exact ⟨a, xs, rfl, .inr (SqT.of (s.tup h2)), fun p hp => k _ _ _ (New.upd s hp) ⟨p, xs, rfl, upd_same, h3.mono (Ex.upd (s.free hp))⟩⟩
theorem cb_tupL {Ps : List VP} : CbG (rTupOf K) W [LstP Ps] (TupP Ps) := cb_one fun x F H ⟨a, xs, h1, h2, h3⟩ s _ _ Q k => by
  subst h1
  exact ⟨a, xs, rfl, .inl ⟨SqL.of (s.lst h2), fun p hp => k _ _ _ (New.upd s hp) ⟨p, xs, rfl, upd_same, h3.mono (Ex.upd (s.free hp))⟩⟩⟩
theorem cb_dict {α : Type} {Rf : α → VP} {es : List (Nat × α)} : CbG rDictD W [DctP Rf es] (DctP Rf es) := cb_one fun x F H ⟨a, kvs, h1, h2, h3⟩ s _ _ Q k => by
  subst h1
  exact ⟨a, kvs, rfl, s.rd h2, fun p hp => k _ _ _ (New.upd s hp) ⟨p, kvs, rfl, upd_same, h3.mono (Ex.upd (s.free hp))⟩⟩
theorem cb_sum {ns : List Int} : CbG (rSum K) W [LstP (ns.map IntP)] (IntP ns.sum) := cb_one fun x F H ⟨a, xs, h1, h2, h3⟩ s _ _ Q k => by
  subst h1
  rw [h3.ints] at h2
  exact ⟨a, ns, rfl, SqL.of (s.lst h2), k.here s rfl⟩
theorem cb_all {bs : List Bool} : CbG (rAll K) W [LstP (bs.map BoolP)] (BoolP (bs.all id)) := cb_one fun x F H ⟨a, xs, h1, h2, h3⟩ s _ _ Q k => by
  subst h1
  rw [h3.bools] at h2
  exact ⟨a, bs, rfl, SqL.of (s.lst h2), k.here s rfl⟩
theorem cb_any {bs : List Bool} : CbG (rAny K) W [LstP (bs.map BoolP)] (BoolP (bs.any id)) := cb_one fun x F H ⟨a, xs, h1, h2, h3⟩ s _ _ Q k => by
  subst h1
  rw [h3.bools] at h2
  exact ⟨a, bs, rfl, SqL.of (s.lst h2), k.here s rfl⟩
/-- sorted: any list that is a rearrangement and rises -/
theorem cb_sorted {ns : List Int} (ms : List Int) (hl : ns.length < 64) (hm : ∀ ys : List Int, ys.Perm ns → ys.Pairwise (· ≤ ·) → ys = ms) : CbG (rSorted K) W [LstP (ns.map IntP)] (LstP (ms.map IntP)) := cb_one fun x F H ⟨a, xs, h1, h2, h3⟩ s _ _ Q k => by
  subst h1
  rw [h3.ints] at h2
  refine ⟨a, ns, rfl, SqL.of (s.lst h2), hl, fun ys p h4 h5 hp => ?_⟩
  rw [hm ys h4 h5]
  exact k _ _ _ (New.upd s hp) ⟨p, _, rfl, upd_same, AllP.of_ints _ _⟩
theorem Ents.keys {α : Type} {Rf : α → VP} : ∀ {es : List (Nat × α)} {kvs : List (Key × V)} {F : Hp}, Ents Rf es kvs F → kvs.map (·.1) = (es.map fun e => (e.1 : Int)).map Sum.inl
  | [], [], _, _ => rfl
  | e :: es, kv :: kvs, _, h => by rw [List.map_cons, h.1.1, Ents.keys h.2]; rfl
  | [], _ :: _, _, h => h.elim
  | _ :: _, [], _, h => h.elim
theorem cb_sortedD {α : Type} {Rf : α → VP} {es : List (Nat × α)} (ms : List Int) (hl : es.length < 64) (hm : ∀ ys : List Int, ys.Perm (es.map fun e => (e.1 : Int)) → ys.Pairwise (· ≤ ·) → ys = ms) : CbG rSortedDI W [DctP Rf es] (LstP (ms.map IntP)) := cb_one fun x F H ⟨a, kvs, h1, h2, h3⟩ s _ _ Q k => by
  subst h1
  refine ⟨a, kvs, es.map fun e => (e.1 : Int), rfl, s.rd h2, h3.keys, by rw [List.length_map]; exact hl, fun ys p h4 h5 hp => ?_⟩
  rw [hm ys h4 h5]
  exact k _ _ _ (New.upd s hp) ⟨p, _, rfl, upd_same, AllP.of_ints _ _⟩
/-! dicts -/
theorem Ents.get {α : Type} {Rf : α → VP} {n : Nat} : ∀ {es : List (Nat × α)} {kvs : List (Key × V)} {F : Hp}, Ents Rf es kvs F →
    (∀ x, (es.find? fun e => decide (e.1 = n)).map (fun e => e.2) = some x → ∃ v, valV kvs (Sum.inl (n : Int)) = some v ∧ Rf x v F) ∧ ((es.find? fun e => decide (e.1 = n)).map (fun e => e.2) = none → valV kvs (Sum.inl (n : Int)) = none)
  | [], [], _, _ => ⟨fun x h => by simp at h, fun _ => rfl⟩
  | e :: es, kv :: kvs, F, h => by
    obtain ⟨⟨h1, h2⟩, h3⟩ := h
    by_cases c : e.1 = n
    · have q : kv.1 = Sum.inl (n : Int) := by rw [h1, c]
      rw [valV_pos q, List.find?_cons, show decide (e.1 = n) = true from decide_eq_true c]
      exact ⟨fun x hx => ⟨kv.2, rfl, by cases hx; exact h2⟩, fun hx => by cases hx⟩
    · have q : ¬ kv.1 = Sum.inl (n : Int) := by rw [h1]; intro z; exact c (by injection z with z; omega)
      rw [valV_neg q, List.find?_cons, show decide (e.1 = n) = false from decide_eq_false c]
      exact Ents.get h3
  | [], _ :: _, _, h => h.elim
  | _ :: _, [], _, h => h.elim
theorem ev_dget {α : Type} {Rf : α → VP} {es : List (Nat × α)} {n : Nat} {x : α} (ha : EvG ta Γ W (DctP Rf es)) (hb : EvG tb Γ W (IntP (n : Int))) (hx : Pl.getA es n = some x) : EvG (tDGet ta tb) Γ W (Rf x) := fun σ F H o Q k => by
  refine ha σ F H o _ fun u F1 H1 n1 p1 => ?_
  refine hb σ F1 H1 (o.next n1) _ fun y F2 H2 n2 p2 => ?_
  obtain ⟨a, kvs, rfl, h2, h3⟩ := (DctP Rf es).mono p1 n2.f
  obtain ⟨v, e1, e2⟩ := h3.get.1 x hx
  exact ⟨a, v, rfl, .inl ⟨kvs, Sum.inl (n : Int), n2.s.rd h2, p2, e1.symm⟩, k _ _ _ (New.trans n1 n2) e2⟩
theorem look_any {α : Type} {Rf : α → VP} {es : List (Nat × α)} {kvs : List (Key × V)} {F : Hp} (h : Ents Rf es kvs F) (n : Nat) : (valV kvs (Sum.inl (n : Int))).isSome = (Pl.getA es n).isSome := by
  cases e : Pl.getA es n with
  | some x => obtain ⟨v, e1, _⟩ := h.get.1 x e; rw [e1]; rfl
  | none => rw [h.get.2 e]; rfl
theorem ev_din {α : Type} {Rf : α → VP} {es : List (Nat × α)} {n : Nat} (hb : EvG tb Γ W (IntP (n : Int))) (ha : EvG ta Γ W (DctP Rf es)) : EvG (tDIn tb ta) Γ W (BoolP (Pl.getA es n).isSome) := fun σ F H o Q k => by
  refine hb σ F H o _ fun y F1 H1 n1 p1 => ?_
  refine ha σ F1 H1 (o.next n1) _ fun u F2 H2 n2 p2 => ?_
  obtain ⟨a, kvs, rfl, h2, h3⟩ := p2
  exact ⟨a, valV kvs (Sum.inl (n : Int)), rfl, .inl ⟨kvs, Sum.inl (n : Int), n2.s.rd h2, p1, rfl⟩, k _ _ _ (New.trans n1 n2) (by rw [look_any h3 n]; rfl)⟩
theorem ev_dnin {α : Type} {Rf : α → VP} {es : List (Nat × α)} {n : Nat} (hb : EvG tb Γ W (IntP (n : Int))) (ha : EvG ta Γ W (DctP Rf es)) : EvG (tDNotIn tb ta) Γ W (BoolP (!(Pl.getA es n).isSome)) := fun σ F H o Q k => by
  refine hb σ F H o _ fun y F1 H1 n1 p1 => ?_
  refine ha σ F1 H1 (o.next n1) _ fun u F2 H2 n2 p2 => ?_
  obtain ⟨a, kvs, rfl, h2, h3⟩ := p2
  exact ⟨a, valV kvs (Sum.inl (n : Int)), rfl, .inl ⟨kvs, Sum.inl (n : Int), n2.s.rd h2, p1, rfl⟩, k _ _ _ (New.trans n1 n2) (by rw [look_any h3 n]; rfl)⟩
/-! tests, truth values -/
variable {t u : TT} {a b c : Bool}
theorem et_test (h : EvG te Γ W (BoolP a)) : EvT (tTest te) Γ W a := fun σ F H o Q k => h σ F H o _ fun v F2 H2 n p => ⟨a, p, k F2 H2 n⟩
theorem et_B (h : EvG te Γ W (BoolP a)) : EvT (tB te) Γ W a := fun σ F H o Q k => h σ F H o _ fun v F2 H2 n p => ⟨a, p, k F2 H2 n⟩
theorem et_is (h : EvT t Γ W a) (e : a = b) : EvT t Γ W b := e ▸ h
theorem ev_is {n m : Int} (h : EvG te Γ W (IntP n)) (e : n = m) : EvG te Γ W (IntP m) := e ▸ h
theorem ev_isB (h : EvG te Γ W (BoolP a)) (e : a = b) : EvG te Γ W (BoolP b) := e ▸ h
theorem ev_isF {q r : Rat} (h : EvG te Γ W (FrP q)) (e : q = r) : EvG te Γ W (FrP r) := e ▸ h
theorem ev_isL {Ps Qs : List VP} (h : EvG te Γ W (LstP Ps)) (e : Ps = Qs) : EvG te Γ W (LstP Qs) := e ▸ h
theorem et_and (h1 : EvT t Γ W a) (h2 : a = true → EvT u Γ W b) : EvT (tAnd t u) Γ W (a && b) := fun σ F H o Q k => h1 σ F H o _ fun F2 H2 n => by
  cases a with
  | true => exact h2 rfl σ F2 H2 (o.next n) Q fun F3 H3 n3 => k F3 H3 (New.trans n n3)
  | false => exact k F2 H2 n
theorem et_or (h1 : EvT t Γ W a) (h2 : a = false → EvT u Γ W b) : EvT (tOr t u) Γ W (a || b) := fun σ F H o Q k => h1 σ F H o _ fun F2 H2 n => by
  cases a with
  | true => exact k F2 H2 n
  | false => exact h2 rfl σ F2 H2 (o.next n) Q fun F3 H3 n3 => k F3 H3 (New.trans n n3)
theorem et_not (h : EvT t Γ W a) : EvT (tNot t) Γ W (!a) := fun σ F H o Q k => h σ F H o _ fun F2 H2 n => k F2 H2 n
theorem ev_andV (h1 : EvG ta Γ W (BoolP a)) (h2 : a = true → EvG tb Γ W (BoolP b)) : EvG (tAndV ta tb) Γ W (BoolP (a && b)) := fun σ F H o Q k => h1 σ F H o _ fun v F2 H2 n p => ⟨a, p, by
  cases a with
  | true => exact h2 rfl σ F2 H2 (o.next n) Q fun w F3 H3 n3 p3 => k w F3 H3 (New.trans n n3) p3
  | false => exact k _ F2 H2 n rfl⟩
theorem ev_orV (h1 : EvG ta Γ W (BoolP a)) (h2 : a = false → EvG tb Γ W (BoolP b)) : EvG (tOrV ta tb) Γ W (BoolP (a || b)) := fun σ F H o Q k => h1 σ F H o _ fun v F2 H2 n p => ⟨a, p, by
  cases a with
  | true => exact k _ F2 H2 n rfl
  | false => exact h2 rfl σ F2 H2 (o.next n) Q fun w F3 H3 n3 p3 => k w F3 H3 (New.trans n n3) p3⟩
theorem ev_notV (h1 : EvG ta Γ W (BoolP a)) : EvG (tNotV ta) Γ W (BoolP (!a)) := fun σ F H o Q k => h1 σ F H o _ fun v F2 H2 n p => ⟨a, p, k _ F2 H2 n rfl⟩
theorem ev_if (h : EvT t Γ W c) (h1 : c = true → EvG ta Γ W P) (h2 : c = false → EvG tb Γ W P) : EvG (tIf t ta tb) Γ W P := fun σ F H o Q k => h σ F H o _ fun F2 H2 n => by
  cases c with
  | true => exact h1 rfl σ F2 H2 (o.next n) Q fun w F3 H3 n3 p3 => k w F3 H3 (New.trans n n3) p3
  | false => exact h2 rfl σ F2 H2 (o.next n) Q fun w F3 H3 n3 p3 => k w F3 H3 (New.trans n n3) p3
/-- l <= x <= m -/
theorem ev_chainI {i j l : Int} {tc : TE} (ha : EvG ta Γ W (IntP i)) (hb : EvG tb Γ W (IntP j)) (hc : EvG tc Γ W (IntP l)) :
    EvG (tChain (rI0 fun i j => .bl (decide (i ≤ j))) (rI0 fun i j => .bl (decide (i ≤ j))) ta tb tc) Γ W (BoolP (decide (i ≤ j) && decide (j ≤ l))) := fun σ F H o Q k => by
  refine ha σ F H o _ fun x F1 H1 n1 p1 => ?_
  refine hb σ F1 H1 (o.next n1) _ fun y F2 H2 n2 p2 => ?_
  refine ⟨i, j, p1, p2, decide (i ≤ j), rfl, ?_⟩
  cases c : decide (i ≤ j) with
  | true =>
    show tc σ H2 _
    refine hc σ F2 H2 ((o.next n1).next n2) _ fun z F3 H3 n3 p3 => ⟨j, l, p2, p3, ?_⟩
    exact k _ F3 H3 (New.trans (New.trans n1 n2) n3) (by rw [c]; rfl)
  | false => exact k _ F2 H2 (New.trans n1 n2) (by rw [c]; rfl)
theorem et_truI {n : Int} (h : EvG te Γ W (IntP n)) : EvT (tTru K te) Γ W (n != 0) := fun σ F H o Q k => h σ F H o _ fun v F2 H2 n2 p => by
  obtain rfl : v = _ := p
  exact ⟨_, rfl, k F2 H2 n2⟩
end
end Sw
set_option maxRecDepth 100000
set_option maxHeartbeats 2000000
/-! # Statements, loops, comprehensions -/
namespace Sw
open PySem L2
abbrev As := L2.St → Hp → Prop
/-- from A the statement goes on at B, or gives back what R says -/
def HT (A : As) (t : TS) (B : As) (R : VK) : Prop := ∀ σ H (D : Ends), A σ H → (∀ σ' H', B σ' H' → D.nx σ' H') → (∀ v H', R v H' → D.rt v H') → t D σ H
/-- the state of a body that was entered at F0, H0; N may be changed -/
structure TyS (N : Addr → Prop) (F0 H0 : Hp) (Γ : List (Option VP)) (W : Wd) (F : Hp) (σ : L2.St) (H : Hp) : Prop where
  n : NewX N F0 H0 F H
  ok : Ok Γ W σ F H
  l : ∀ a, W.loc a → F a = none ∧ (H0 a = none ∨ N a) ∧ H a ≠ none
  nn : ∀ a, N a → H a ≠ none ∧ F a = none
def TyA (N : Addr → Prop) (F0 H0 : Hp) (Γ : List (Option VP)) (W : Wd) : As := fun σ H => ∃ F, TyS N F0 H0 Γ W F σ H
/-- what is given back -/
def RetP (N : Addr → Prop) (F0 H0 : Hp) (P : VP) : VK := fun v H => ∃ F, NewX N F0 H0 F H ∧ P v F
abbrev No : Addr → Prop := fun _ => False
/-- what may be changed within a loop: the locals, too -/
def Nl (N : Addr → Prop) (W : Wd) : Addr → Prop := fun a => N a ∨ W.loc a
section
variable {N : Addr → Prop} {F0 H0 F1 H1 : Hp} {Γ Δ Θ : List (Option VP)} {W W' : Wd} {F H F2 H2 : Hp} {σ : L2.St} {A B C : As} {R : VK} {P P' : VP} {t u : TS} {te ta tb : TE} {tt : TT} {b : Bool} {K : PySem.W.Frag}
theorem TyS.next (s : TyS N F0 H0 Γ W F σ H) (n : New F H F2 H2) : TyS N F0 H0 Γ W F2 σ H2 :=
  ⟨s.n.trans n.weak fun x hx e => new_none n e (s.nn x hx).1, s.ok.next n, fun a ha => ⟨new_none n (s.l a ha).1 (s.l a ha).2.2, (s.l a ha).2.1, new_some n (s.l a ha).2.2⟩, fun a ha => ⟨new_some n (s.nn a ha).1, new_none n (s.nn a ha).2 (s.nn a ha).1⟩⟩
theorem TyS.slots {σ' : L2.St} (s : TyS N F0 H0 Γ W F σ H) (h : Typed σ' Δ F) : TyS N F0 H0 Δ W F σ' H := ⟨s.n, ⟨h, s.ok.s, s.ok.x, s.ok.g, s.ok.xf⟩, s.l, s.nn⟩
theorem TyS.set {i : Nat} {v : V} (s : TyS N F0 H0 Γ W F σ H) (h : P v F) : TyS N F0 H0 (Γ.set i (some P)) W F (σ.set i (some v)) H := s.slots (s.ok.t.set h)
theorem ht_seq (h1 : HT A t B R) (h2 : HT B u C R) : HT A (tSeq t u) C R := fun σ H D a nx rt => h1 σ H { D with nx := u D } a (fun σ' H' b => h2 σ' H' D b nx rt) rt
theorem ht_next : HT A tNext A R := fun σ H D a nx rt => nx σ H a
theorem ht_pre (k : ∀ σ H, A σ H → B σ H) (h : HT B t C R) : HT A t C R := fun σ H D a nx rt => h σ H D (k σ H a) nx rt
theorem ht_post (k : ∀ σ H, B σ H → C σ H) (h : HT A t B R) : HT A t C R := fun σ H D a nx rt => h σ H D a (fun σ' H' b => nx σ' H' (k σ' H' b)) rt
theorem ht_rt {R' : VK} (k : ∀ v H, R' v H → R v H) (h : HT A t B R') : HT A t B R := fun σ H D a nx rt => h σ H D a nx fun v H' r => rt v H' (k v H' r)
theorem ht_ex {α : Type} {A : α → As} (h : ∀ x, HT (A x) t B R) : HT (fun σ H => ∃ x, A x σ H) t B R := fun σ H D ⟨x, a⟩ nx rt => h x σ H D a nx rt
theorem TyA.le (h : LeG Γ Δ) : ∀ σ H, TyA N F0 H0 Γ W σ H → TyA N F0 H0 Δ W σ H := fun σ H ⟨F, s⟩ => ⟨F, s.slots (s.ok.t.le h)⟩
theorem ht_set {i : Nat} (h : EvG te Γ W P) (e : Γ.set i (some P) = Δ := by rfl) : HT (TyA N F0 H0 Γ W) (tAsg te (gName i)) (TyA N F0 H0 Δ W) R := fun σ H D ⟨F, s⟩ nx rt => by
  subst e
  exact h σ F H s.ok _ fun v F2 H2 n p => nx _ _ ⟨F2, (s.next n).set p⟩
theorem ht_par {i j : Nat} {ta : TA} (h : EvA ta Γ W [P, P']) (e : (Γ.set i (some P)).set j (some P') = Δ := by rfl) : HT (TyA N F0 H0 Γ W) (tPar i j ta) (TyA N F0 H0 Δ W) R := fun σ H D ⟨F, s⟩ nx rt => by
  subst e
  exact h σ F H s.ok _ fun vs F2 H2 n p => by
    match vs, p with
    | [v, w], p => exact ⟨v, w, rfl, nx _ _ ⟨F2, ((s.next n).set p.1).set p.2.1⟩⟩
theorem ht_ret (h : EvG te Γ W P) : HT (TyA N F0 H0 Γ W) (tRet te) B (RetP N F0 H0 P) := fun σ H D ⟨F, s⟩ nx rt =>
  h σ F H s.ok _ fun v F2 H2 n p => rt _ _ ⟨F2, (s.next n).n, p⟩
theorem ht_if (h : EvT tt Γ W b) (h1 : b = true → HT (TyA N F0 H0 Γ W) t B R) (h2 : b = false → HT (TyA N F0 H0 Γ W) u B R) : HT (TyA N F0 H0 Γ W) (tIfS tt t u) B R := fun σ H D ⟨F, s⟩ nx rt =>
  h σ F H s.ok _ fun F2 H2 n => by
    cases b with
    | true => exact h1 rfl σ H2 D ⟨F2, s.next n⟩ nx rt
    | false => exact h2 rfl σ H2 D ⟨F2, s.next n⟩ nx rt
theorem ht_drop (h : EvG te Γ W P) : HT (TyA N F0 H0 Γ W) (tDrop te) (TyA N F0 H0 Γ W) R := fun σ H D ⟨F, s⟩ nx rt =>
  h σ F H s.ok _ fun v F2 H2 n p => nx _ _ ⟨F2, s.next n⟩
/-- while: β what the loop carries -/
theorem ht_while {β : Type} (G : β → As) (μ : β → Nat) (b0 : β) (a0 : ∀ σ H, A σ H → G b0 σ H)
    (hs : ∀ b, ∃ Γ W go, G b = TyA N F0 H0 Γ W ∧ EvT tt Γ W go ∧ (go = true → HT (G b) t (fun σ H => ∃ b', μ b' < μ b ∧ G b' σ H) R) ∧ (go = false → ∀ σ H, G b σ H → B σ H)) :
    HT A (tWhile tt t) B R := fun σ H D a nx rt => by
  refine ⟨fun m σ H => ∃ b, m = μ b ∧ G b σ H, ⟨_, b0, rfl, a0 σ H a⟩, ?_⟩
  rintro m σ H ⟨b, rfl, g⟩
  obtain ⟨Γ, W, go, e, hc, h1, h2⟩ := hs b
  rw [e] at g
  obtain ⟨F, s⟩ := g
  refine hc σ F H s.ok _ fun F2 H2 n => ?_
  have g2 : G b σ H2 := by rw [e]; exact ⟨F2, s.next n⟩
  cases go with
  | true => exact ⟨_, fun σ' H' ⟨b', l, q⟩ => ⟨μ b', l, b', rfl, q⟩, h1 rfl σ H2 _ g2 (fun σ' H' q => q) rt⟩
  | false => exact nx σ H2 (h2 rfl σ H2 g2)
/-! ### into a loop and back -/
theorem TyS.into (s : TyS N F0 H0 Γ W F σ H) : TyS (Nl N W) F H Γ W F σ H :=
  ⟨⟨Ex.refl F, fun _ _ _ h => h, s.ok.s, fun a h q => absurd h q⟩, s.ok, fun a ha => ⟨(s.l a ha).1, .inr (.inr ha), (s.l a ha).2.2⟩, fun a ha => ha.elim (s.nn a) fun z => ⟨(s.l a z).2.2, (s.l a z).1⟩⟩
theorem TyS.none0 (s : TyS N F0 H0 Γ W F1 σ H1) {a : Addr} (h : H1 a = none) : H0 a = none := by
  cases e : H0 a with
  | none => rfl
  | some o =>
    by_cases c : N a
    · exact absurd h (s.nn a c).1
    · rw [s.n.h a o c e] at h; cases h
theorem TyS.back {σ' : L2.St} (s : TyS N F0 H0 Γ W F1 σ H1) (r : TyS (Nl N W) F1 H1 Δ W' F σ' H) : TyS N F0 H0 Δ W' F σ' H := by
  refine ⟨⟨s.n.f.trans r.n.f, fun a o c e => r.n.h a o (fun z => ?_) (s.n.h a o c e), r.n.s, fun a e q => ?_⟩, r.ok, fun a ha => ⟨(r.l a ha).1, ?_, (r.l a ha).2.2⟩, fun a ha => r.nn a (.inl ha)⟩
  · rcases z with z | z
    · exact c z
    · rcases (s.l a z).2.1 with q | q
      · rw [e] at q; cases q
      · exact c q
  · cases e1 : F1 a with
    | some o => exact s.n.n a e (by rw [e1]; simp)
    | none => exact s.none0 (r.n.n a e1 q)
  · rcases (r.l a ha).2.1 with q | q | q
    · exact .inl (s.none0 q)
    · exact .inr q
    · exact (s.l a q).2.1
theorem TyS.backR (s : TyS N F0 H0 Γ W F1 σ H1) {v : V} (r : RetP (Nl N W) F1 H1 P v H) : RetP N F0 H0 P v H := by
  obtain ⟨F, n, p⟩ := r
  refine ⟨F, ⟨s.n.f.trans n.f, fun a o c e => n.h a o (fun z => ?_) (s.n.h a o c e), n.s, fun a e q => ?_⟩, p⟩
  · rcases z with z | z
    · exact c z
    · rcases (s.l a z).2.1 with q | q
      · rw [e] at q; cases q
      · exact c q
  · cases e1 : F1 a with
    | some o => exact s.n.n a e (by rw [e1]; simp)
    | none => exact s.none0 (n.n a e1 q)
/-! ### targets -/
/-- the target g, given a value of type P, makes Δ of Γ; it stores to the slots js -/
def TgG (js : List Nat) (g : TG) (P : VP) (Γ Δ : List (Option VP)) : Prop := ∀ v σ F H, Typed σ Γ F → Sub F H → P v F → ∀ Q, (∀ σ', Typed σ' Δ F → (∀ vs, (∀ j ∈ js, j ∈ vs) → wipe σ' vs = wipe σ vs) → Q σ' H) → g v σ H Q
theorem wipe_set (σ : L2.St) (i : Nat) (y : Option V) : ∀ vs : List Nat, i ∈ vs → wipe (σ.set i y) vs = wipe σ vs
  | [], h => by cases h
  | v :: vs, h => by
    show (wipe (σ.set i y) vs).set v none = (wipe σ vs).set v none
    by_cases c : i ∈ vs
    · rw [wipe_set σ i y vs c]
    · have e : i = v := (List.mem_cons.mp h).resolve_right c
      subst e
      have key : ∀ ws : List Nat, i ∉ ws → wipe (σ.set i y) ws = (wipe σ ws).set i y := by
        intro ws
        induction ws with
        | nil => intro _; rfl
        | cons w ws ih =>
          intro hw
          simp only [List.mem_cons, not_or] at hw
          show (wipe (σ.set i y) ws).set w none = ((wipe σ ws).set w none).set i y
          rw [ih hw.2, List.set_comm _ _ hw.1]
      rw [key vs c, List.set_set]
theorem wipe_wipe (σ : L2.St) (ws : List Nat) : ∀ vs : List Nat, (∀ j ∈ vs, j ∈ ws) → wipe (wipe σ vs) ws = wipe σ ws
  | [], _ => rfl
  | v :: vs, h => by
    show wipe ((wipe σ vs).set v none) ws = _
    rw [wipe_set _ _ _ _ (h v List.mem_cons_self), wipe_wipe σ ws vs fun j hj => h j (List.mem_cons_of_mem _ hj)]
theorem tg_name {i : Nat} : TgG [i] (gName i) P Γ (Γ.set i (some P)) := fun v σ F H t s p Q k => k _ (t.set p) fun vs h => wipe_set _ _ _ _ (h i (by simp))
theorem tg_tup2 {i j : Nat} {P1 P2 : VP} : TgG [i, j] (gTup K 2 (gCons (gName i) (gCons (gName j) gNil))) (TupP [P1, P2]) Γ ((Γ.set i (some P1)).set j (some P2)) := fun v σ F H t s p Q k => by
  obtain ⟨a, xs, rfl, h2, h3⟩ := p
  match xs, h3 with
  | [x, y], h3 =>
    refine ⟨a, [x, y], rfl, SqT.of (s.tup h2), rfl, x, [y], rfl, y, [], rfl, rfl, ?_⟩
    exact k _ ((t.set h3.1).set h3.2.1) fun vs h => by rw [wipe_set _ _ _ _ (h j (by simp)), wipe_set _ _ _ _ (h i (by simp))]
theorem tg_lst2 {i j : Nat} {P1 P2 : VP} : TgG [i, j] (gLst K 2 (gCons (gName i) (gCons (gName j) gNil))) (LstP [P1, P2]) Γ ((Γ.set i (some P1)).set j (some P2)) := fun v σ F H t s p Q k => by
  obtain ⟨a, xs, rfl, h2, h3⟩ := p
  match xs, h3 with
  | [x, y], h3 =>
    refine ⟨a, [x, y], rfl, SqL.of (s.lst h2), rfl, x, [y], rfl, y, [], rfl, rfl, ?_⟩
    exact k _ ((t.set h3.1).set h3.2.1) fun vs h => by rw [wipe_set _ _ _ _ (h j (by simp)), wipe_set _ _ _ _ (h i (by simp))]
theorem tg_lst3 {i j l : Nat} {P1 P2 P3 : VP} : TgG [i, j, l] (gLst K 3 (gCons (gName i) (gCons (gName j) (gCons (gName l) gNil)))) (LstP [P1, P2, P3]) Γ (((Γ.set i (some P1)).set j (some P2)).set l (some P3)) := fun v σ F H t s p Q k => by
  obtain ⟨a, xs, rfl, h2, h3⟩ := p
  match xs, h3 with
  | [x, y, z], h3 =>
    refine ⟨a, [x, y, z], rfl, SqL.of (s.lst h2), rfl, x, [y, z], rfl, y, [z], rfl, z, [], rfl, rfl, ?_⟩
    exact k _ (((t.set h3.1).set h3.2.1).set h3.2.2.1) fun vs h => by rw [wipe_set _ _ _ _ (h l (by simp)), wipe_set _ _ _ _ (h j (by simp)), wipe_set _ _ _ _ (h i (by simp))]
/-- target = value -/
theorem ht_asg {js : List Nat} {g : TG} (h : EvG te Γ W P) (hg : TgG js g P Γ Δ) : HT (TyA N F0 H0 Γ W) (tAsg te g) (TyA N F0 H0 Δ W) R := fun σ H D ⟨F, s⟩ nx rt =>
  h σ F H s.ok _ fun v F2 H2 n p => hg v σ F2 H2 (s.next n).ok.t n.s p _ fun σ' t' _ => nx _ _ ⟨F2, (s.next n).slots t'⟩
/-! ### what is walked -/
/-- J walks n things of the types I while what F1 tells stands (and X as it is) -/
def TWk (J : It) (F1 X : Hp) (n : Nat) (I : Nat → VP) : Prop := ∃ G Y, Walk J n G Y ∧ (∀ F H, Ex F1 F → Sub F H → Ex X H → G H) ∧ ∀ i x F H H', i < n → Ex F1 F → Sub F H → Y i H x H' → ∃ F2, New F H F2 H' ∧ I i x F2
def NoX : Hp := fun _ => none
theorem NoX.ex (H : Hp) : Ex NoX H := fun _ _ h => nomatch h
def ItG (wi : TI) (Γ : List (Option VP)) (W : Wd) (n : Nat) (I : Nat → VP) : Prop := ∀ σ F H, Ok Γ W σ F H → ∀ R : It → Hp → Prop, (∀ J F1 H1, New F H F1 H1 → TWk J F1 NoX n I → R J H1) → wi σ H R
theorem it_list {tl : TE} {Ps : List VP} (h : EvG tl Γ W (LstP Ps)) : ItG (iList K tl) Γ W Ps.length fun i => Ps.getD i NonP := fun σ F H o R k => by
  refine h σ F H o _ fun v F1 H1 n p => ?_
  obtain ⟨a, xs, rfl, h2, h3⟩ := p
  refine ⟨a, rfl, ⟨xs, SqL.of (n.s.lst h2)⟩, k _ F1 H1 n ⟨_, _, h3.len ▸ walk_list (xs := xs), fun F' H' e s _ => SqL.of (s.lst (e a _ h2)), ?_⟩⟩
  rintro i x F' H' H'' hi e s ⟨rfl, hx⟩
  obtain ⟨P, hP, hp⟩ := h3.got hx
  exact ⟨F', New.refl s, by simp only [List.getD_eq_getElem?_getD, hP, Option.getD_some]; exact P.mono hp e⟩
theorem it_range1 {ta : TE} {n : Nat} (h : EvG ta Γ W (IntP (n : Int))) (hn : n < 2 ^ 62) : ItG (iRng1 (tCons ta tNil)) Γ W n fun i => IntP (i : Int) := fun σ F H o R k => by
  refine ea_cons h ea_nil σ F H o _ fun vs F1 H1 n1 p => ?_
  match vs, p with
  | [v], p =>
    obtain rfl : v = V.int (n : Int) := p.1
    refine ⟨(n : Int), rfl, by omega, by omega, k _ F1 H1 n1 ⟨_, _, walk_range, fun _ _ _ _ _ => trivial, ?_⟩⟩
    rintro i x F' H' H'' hi e s ⟨rfl, rfl⟩
    exact ⟨F', New.refl s, by show V.int _ = V.int _; congr 1; omega⟩
theorem it_range2 {ta tb : TE} {lo hi : Int} (ha : EvG ta Γ W (IntP lo)) (hb : EvG tb Γ W (IntP hi)) (h1 : -(2 ^ 62) ≤ lo) (h2 : lo < 2 ^ 62) (h3 : -(2 ^ 62) ≤ hi) (h4 : hi < 2 ^ 62) : ItG (iRng2 (tCons ta (tCons tb tNil))) Γ W (hi - lo).toNat fun i => IntP (lo + (i : Int)) := fun σ F H o R k => by
  refine ea_cons ha (ea_cons hb ea_nil) σ F H o _ fun vs F1 H1 n1 p => ?_
  match vs, p with
  | [v, w], p =>
    obtain rfl : v = V.int lo := p.1
    obtain rfl : w = V.int hi := p.2.1
    refine ⟨lo, hi, rfl, ⟨h1, h2, h3, h4⟩, k _ F1 H1 n1 ⟨_, _, walk_range, fun _ _ _ _ _ => trivial, ?_⟩⟩
    rintro i x F' H' H'' hi e s ⟨rfl, rfl⟩
    exact ⟨F', New.refl s, rfl⟩
/-- range(0, 2 n, 2) and the like -/
theorem it_range3 {ta tb tc : TE} {lo hi c : Int} {n : Nat} (ha : EvG ta Γ W (IntP lo)) (hb : EvG tb Γ W (IntP hi)) (hc : EvG tc Γ W (IntP c)) (hr : RgC lo hi c n) : ItG (iRng3 (tCons ta (tCons tb (tCons tc tNil)))) Γ W n fun i => IntP (lo + (i : Int) * c) := fun σ F H o R k => by
  refine ea_cons ha (ea_cons hb (ea_cons hc ea_nil)) σ F H o _ fun vs F1 H1 n1 p => ?_
  match vs, p with
  | [v, w, z], p =>
    obtain rfl : v = V.int lo := p.1
    obtain rfl : w = V.int hi := p.2.1
    obtain rfl : z = V.int c := p.2.2.1
    refine ⟨lo, hi, c, n, rfl, hr, k _ F1 H1 n1 ⟨_, _, walk_rangeC, fun _ _ _ _ _ => trivial, ?_⟩⟩
    rintro i x F' H' H'' hi e s ⟨rfl, rfl⟩
    exact ⟨F', New.refl s, rfl⟩
theorem pair_new {F H : Hp} (s : Sub F H) {T : Addr} {x y : V} (hT : H T = none) {P1 P2 : VP} (h1 : P1 x F) (h2 : P2 y F) : New F H (upd F T (.tup [x, y])) (upd H T (.tup [x, y])) ∧ TupP [P1, P2] (.ref T) (upd F T (.tup [x, y])) :=
  ⟨New.upd s hT, T, [x, y], rfl, upd_same, P1.mono h1 (Ex.upd (s.free hT)), P2.mono h2 (Ex.upd (s.free hT)), trivial⟩
theorem it_enum {tl : TE} {Ps : List VP} (h : EvG tl Γ W (LstP Ps)) : ItG (iEnum K (tCons tl tNil)) Γ W Ps.length fun i => TupP [IntP (i : Int), Ps.getD i NonP] := fun σ F H o R k => by
  refine ea_cons h ea_nil σ F H o _ fun vs F1 H1 n p => ?_
  match vs, p with
  | [v], p =>
    obtain ⟨a, xs, rfl, h2, h3⟩ := p.1
    refine ⟨a, xs, rfl, SqL.of (n.s.lst h2), k _ F1 H1 n ⟨_, _, h3.len ▸ walk_enum (xs := xs), fun F' H' e s _ => SqL.of (s.lst (e a _ h2)), ?_⟩⟩
    rintro i x F' H' H'' hi e s ⟨T, x', y', rfl, hT, rfl, hx, hy⟩
    obtain ⟨P, hP, hp⟩ := h3.got hy
    have hx' : V.int (i : Int) = x' := Option.some.inj hx
    subst hx'
    obtain ⟨q1, q2⟩ := pair_new (P1 := IntP (i : Int)) s hT rfl (P.mono hp e)
    exact ⟨_, q1, by simp only [List.getD_eq_getElem?_getD, hP, Option.getD_some]; exact q2⟩
theorem it_zip {t1 t2 : TE} {Ps Qs : List VP} (h1 : EvG t1 Γ W (LstP Ps)) (h2 : EvG t2 Γ W (LstP Qs)) (hl : Ps.length = Qs.length) : ItG (iZip K (tCons t1 (tCons t2 tNil))) Γ W Ps.length fun i => TupP [Ps.getD i NonP, Qs.getD i NonP] := fun σ F H o R k => by
  refine ea_cons h1 (ea_cons h2 ea_nil) σ F H o _ fun vs F1 H1 n p => ?_
  match vs, p with
  | [v, w], p =>
    obtain ⟨a, xs, rfl, g2, g3⟩ := p.1
    obtain ⟨b, ys, rfl, e2, e3⟩ := p.2.1
    refine ⟨a, b, xs, ys, rfl, SqL.of (n.s.lst g2), SqL.of (n.s.lst e2), k _ F1 H1 n ⟨_, _, walk_zip (xs := xs) (ys := ys) (n := Ps.length) (by rw [g3.len, e3.len, hl]; omega), fun F' H' e s _ => ⟨SqL.of (s.lst (e a _ g2)), SqL.of (s.lst (e b _ e2))⟩, ?_⟩⟩
    rintro i x F' H' H'' hi e s ⟨T, x', y', rfl, hT, rfl, hx, hy⟩
    obtain ⟨P, hP, hp⟩ := g3.got hx
    obtain ⟨Q, hQ, hq⟩ := e3.got hy
    obtain ⟨q1, q2⟩ := pair_new s hT (P.mono hp e) (Q.mono hq e)
    exact ⟨_, q1, by simp only [List.getD_eq_getElem?_getD, hP, hQ, Option.getD_some]; exact q2⟩
/-- zip of two pairs -/
theorem it_zipT {t1 t2 : TE} {Ps Qs : List VP} (h1 : EvG t1 Γ W (TupP Ps)) (h2 : EvG t2 Γ W (TupP Qs)) (hl : Ps.length = Qs.length) : ItG (RZ.iZipA K (tCons t1 (tCons t2 tNil))) Γ W Ps.length fun i => TupP [Ps.getD i NonP, Qs.getD i NonP] := fun σ F H o R k => by
  refine ea_cons h1 (ea_cons h2 ea_nil) σ F H o _ fun vs F1 H1 n p => ?_
  match vs, p with
  | [v, w], p =>
    obtain ⟨a, xs, rfl, g2, g3⟩ := p.1
    obtain ⟨b, ys, rfl, e2, e3⟩ := p.2.1
    have lx := g3.len
    have ly := e3.len
    refine ⟨a, b, xs, ys, rfl, .inr ⟨SqT.of (n.s.tup g2), SqT.of (n.s.tup e2), k _ F1 H1 n ⟨fun H => SqT K H a xs ∧ SqT K H b ys, YPair (fun i => xs[i]?) (fun i => ys[i]?), ⟨fun i H' hi q => ?_, fun H' q => ⟨xs, ys, q.1, q.2, by omega⟩, fun i H' v H'' _ q y => ?_⟩, fun F' H' e s _ => ⟨SqT.of (s.tup (e a _ g2)), SqT.of (s.tup (e b _ e2))⟩, ?_⟩⟩⟩
    · have h1 : i < xs.length := by omega
      have h2 : i < ys.length := by omega
      exact ⟨xs, ys, xs[i], ys[i], q.1, q.2, by simp [h1], by simp [h2]⟩
    · obtain ⟨T, x, z, h1, h2, h3, h4, h5⟩ := y
      exact ⟨T, x, z, h1, h2, h3, h4 xs q.1, h5 ys q.2⟩
    · rintro i x F' H' H'' hi e s ⟨T, x', y', rfl, hT, rfl, hx, hy⟩
      obtain ⟨P, hP, hp⟩ := g3.got hx
      obtain ⟨Q, hQ, hq⟩ := e3.got hy
      obtain ⟨q1, q2⟩ := pair_new s hT (P.mono hp e) (Q.mono hq e)
      exact ⟨_, q1, by simp only [List.getD_eq_getElem?_getD, hP, hQ, Option.getD_some]; exact q2⟩
/-! ### for -/
/-- G, Ws: slots and the rest behind the i-th turn; R1 what a turn may give back -/
theorem ht_for {wi : TI} {js : List Nat} {g : TG} {n : Nat} {I : Nat → VP} (hi : ItG wi Γ W n I) (G : Nat → List (Option VP)) (Ws : Nat → Wd) (Gb : Nat → List (Option VP)) (R1 : (Addr → Prop) → Hp → Hp → VK)
    (hg : ∀ i, i < n → TgG js g (I i) (G i) (Gb i))
    (hb : ∀ F1 H1 i, i < n → HT (TyA (Nl N W) F1 H1 (Gb i) (Ws i)) t (TyA (Nl N W) F1 H1 (G (i + 1)) (Ws (i + 1))) (R1 (Nl N W) F1 H1))
    (hR : ∀ F1 H1 σ, TyS N F0 H0 Γ W F1 σ H1 → ∀ v H, R1 (Nl N W) F1 H1 v H → R v H) (e0 : Γ = G 0 := by rfl) (w0 : W = Ws 0 := by rfl) (e1 : G n = Δ := by rfl) (w1 : Ws n = W' := by rfl) :
    HT (TyA N F0 H0 Γ W) (tFor wi g t) (TyA N F0 H0 Δ W') R := fun σ H D ⟨F, s⟩ nx rt => by
  refine hi σ F H s.ok _ fun J F1 H1 n1 wk => ?_
  obtain ⟨Gw, Y, wk, wG, wY⟩ := wk
  have s1 := s.next n1
  refine for_it wk (fun i σ H => ∃ F, TyS (Nl N W) F1 H1 (G i) (Ws i) F σ H) ⟨F1, e0 ▸ w0 ▸ s1.into⟩ (fun i σ H _ ⟨F, q⟩ => wG F H q.n.f q.ok.s (NoX.ex H)) ?_ ?_
  · rintro i x σ H H' hi ⟨F, q⟩ y
    obtain ⟨F2, n2, p⟩ := wY i x F H H' hi q.n.f q.ok.s y
    have q2 := q.next n2
    refine hg i hi x σ F2 H' q2.ok.t n2.s p _ fun σ' t' _ => ?_
    exact hb F1 H1 i hi σ' H' _ ⟨F2, q2.slots t'⟩ (fun σ'' H'' q' => q') fun v H'' r => rt v H'' (hR F1 H1 _ s1 v H'' r)
  · rintro σ H ⟨F, q⟩
    exact nx σ H ⟨F, e1 ▸ w1 ▸ s1.back q⟩
/-- nothing is given back from within -/
abbrev R0 : (Addr → Prop) → Hp → Hp → VK := fun _ _ _ _ _ => False
theorem hR0 {N : Addr → Prop} {F0 H0 : Hp} {Γ : List (Option VP)} {W : Wd} {R : VK} : ∀ F1 H1 σ, TyS N F0 H0 Γ W F1 σ H1 → ∀ v H, R0 (Nl N W) F1 H1 v H → R v H := fun _ _ _ _ _ _ h => h.elim
theorem hRP {N : Addr → Prop} {F0 H0 : Hp} {Γ : List (Option VP)} {W : Wd} {P : VP} : ∀ F1 H1 σ, TyS N F0 H0 Γ W F1 σ H1 → ∀ v H, RetP (Nl N W) F1 H1 P v H → RetP N F0 H0 P v H := fun _ _ _ s _ _ h => s.backR h
end
end Sw
set_option maxRecDepth 100000
set_option maxHeartbeats 2000000
/-! # Comprehensions, locked dicts, things that change, new objects, errors -/
namespace Sw
open PySem L2
section
variable {N : Addr → Prop} {F0 H0 F1 H1 : Hp} {Γ Δ Θ : List (Option VP)} {W W' : Wd} {F H F2 H2 : Hp} {σ : L2.St} {A B C : As} {R : VK} {P P' : VP} {t u : TS} {te ta tb td : TE} {tt : TT} {b : Bool} {K : PySem.W.Frag}
/-! ### comprehensions -/
/-- what a comprehension has behind i turns -/
def givn (b : Nat → Bool) (Pe : Nat → VP) (i : Nat) : List VP := ((List.range i).filter b).map Pe
theorem givn_yes {b : Nat → Bool} {Pe : Nat → VP} {i : Nat} (h : b i = true) : givn b Pe (i + 1) = givn b Pe i ++ [Pe i] := by
  unfold givn
  rw [List.range_succ, List.filter_append, List.map_append, List.filter_cons, if_pos h]
  rfl
theorem givn_no {b : Nat → Bool} {Pe : Nat → VP} {i : Nat} (h : b i = false) : givn b Pe (i + 1) = givn b Pe i := by
  unfold givn
  rw [List.range_succ, List.filter_append, List.map_append, List.filter_cons, if_neg (by rw [h]; decide)]
  show _ ++ [] = _
  rw [List.append_nil]
theorem givn_len (b : Nat → Bool) (Pe : Nat → VP) (i : Nat) : (givn b Pe i).length ≤ i := by
  unfold givn
  rw [List.length_map]
  have := List.length_filter_le b (List.range i)
  rwa [List.length_range] at this
/-- the comprehension over a walk; X: what must stand in the heap besides -/
theorem lc_core_g {J : It} {js : List Nat} {g : TG} {n : Nat} {I : Nat → VP} {vs : List Nat} {X : Hp} (o : Ok Γ W σ F H) (wk : TWk J F X n I) (xx : Ex X H) (hjs : ∀ j ∈ js, j ∈ vs) (Gb : Nat → List (Option VP)) (b : Nat → Bool) (Pe : Nat → VP)
    (hg : ∀ i, i < n → TgG js g (I i) (wipeG Γ vs) (Gb i)) (ht : ∀ i, i < n → EvT tt (Gb i) W (b i)) (he : ∀ i, i < n → b i = true → EvG te (Gb i) W (Pe i)) (hn : n < 16000000) (Q : VK)
    (k : ∀ D F2 H2, New F H F2 H2 → LstP (givn b Pe n) (.ref D) F2 → Q (.ref D) H2) :
    ∀ D, H D = none → ∃ W : Nat → Nat → Hp → Prop, (∃ m, W 0 m (upd H D (.lst []))) ∧ ∀ i m H, W i m H → (J.stop i H ∧ Q (.ref D) H) ∨ (J.go i H ∧ ∃ Nx : Hp → Prop, (∀ H', Nx H' → ∃ m', m' < m ∧ W (i + 1) m' H') ∧ ∀ x H', J.yld i H x H' → g x (wipe σ vs) H' fun σ2 H2 => wipe σ2 vs = wipe σ vs ∧ tt σ2 H2 fun b H3 =>
        if b = true then te σ2 H3 fun y H4 => ∃ acc, H4 D = some (.lst acc) ∧ acc.length < sizeLine ∧ Nx (upd H4 D (.lst (acc ++ [y]))) else Nx H3) := by
  intro D hD
  obtain ⟨G, Y, wk, wG, wY⟩ := wk
  have hs16 : (16000000 : Nat) ≤ sizeLine := by decide
  refine lc_it wk (fun i H' => ∃ F' acc, New F H F' H' ∧ F' D = none ∧ H' D = some (.lst acc) ∧ AllP (givn b Pe i) acc F') ⟨F, [], New.loc o.s hD, o.s.free hD, upd_same, trivial⟩ (fun i H' _ ⟨F', acc, n', _⟩ => wG F' H' n'.f n'.s (xx.trans n'.ex)) ?_ ?_
  · rintro i x H' H'' hi ⟨F', acc, n', fD, hD', hacc⟩ y
    obtain ⟨F2, n2, p⟩ := wY i x F' H' H'' hi n'.f n'.s y
    have n12 := New.trans n' n2
    have o2 := o.next n12
    refine hg i hi x (wipe σ vs) F2 H'' (o2.t.wipe vs) n2.s p _ fun σ' t' hw => ⟨?_, ?_⟩
    · rw [hw vs hjs]
      exact wipe_wipe σ vs vs fun _ h => h
    · have o3 : Ok (Gb i) W σ' F2 H'' := ⟨t', o2.s, o2.x, o2.g, o2.xf⟩
      refine ht i hi σ' F2 H'' o3 _ fun F3 H3 n3 => ?_
      have hD3 : H3 D = some (.lst acc) := n3.ex D _ (n2.ex D _ hD')
      have fD3 : F3 D = none := new_none n3 (new_none n2 fD (by rw [hD']; simp)) (by rw [n2.ex D _ hD']; simp)
      have n13 := New.trans n12 n3
      cases hb : b i with
      | true =>
        refine he i hi hb σ' F3 H3 (o3.next n3) _ fun y F4 H4 n4 p4 => ?_
        have hD4 : H4 D = some (.lst acc) := n4.ex D _ hD3
        have fD4 : F4 D = none := new_none n4 fD3 (by rw [hD3]; simp)
        have n14 := New.trans n13 n4
        have a4 : AllP (givn b Pe i) acc F4 := hacc.mono ((n2.f.trans n3.f).trans n4.f)
        refine ⟨acc, hD4, ?_, F4, acc ++ [y], ⟨n14.f, fun a u z e => ?_, n14.s.upd fD4, n14.n⟩, fD4, upd_same, ?_⟩
        · have := a4.len
          have := givn_len b Pe i
          omega
        · rw [upd_ne (ne_of_none e hD)]
          exact n14.h a u z e
        · rw [givn_yes hb]
          exact a4.append ⟨p4, trivial⟩
      | false =>
        refine ⟨F3, acc, n13, fD3, hD3, ?_⟩
        rw [givn_no hb]
        exact hacc.mono (n2.f.trans n3.f)
  · rintro H' ⟨F', acc, n', fD, hD', hacc⟩
    refine k D (upd F' D (.lst acc)) H' ⟨n'.f.trans (Ex.upd fD), n'.h, fun a u e => ?_, fun a e q => ?_⟩ ⟨D, acc, rfl, upd_same, hacc.mono (Ex.upd fD)⟩
    · by_cases c : a = D
      · subst c
        rw [upd_same] at e
        cases e
        exact ⟨trivial, .inl hD'⟩
      · rw [upd_ne c] at e
        exact n'.s a u e
    · by_cases c : a = D
      · rw [c]; exact hD
      · rw [upd_ne c] at q
        exact n'.n a e q
theorem ev_lc {wi : TI} {js : List Nat} {g : TG} {n : Nat} {I : Nat → VP} {vs : List Nat} (hi : ItG wi Γ W n I) (Gb : Nat → List (Option VP)) (b : Nat → Bool) (Pe : Nat → VP)
    (hg : ∀ i, i < n → TgG js g (I i) (wipeG Γ vs) (Gb i)) (ht : ∀ i, i < n → EvT tt (Gb i) W (b i)) (he : ∀ i, i < n → b i = true → EvG te (Gb i) W (Pe i)) (hn : n < 16000000) (hjs : ∀ j ∈ js, j ∈ vs := by decide) :
    EvG (tLc wi g tt te vs) Γ W (LstP (givn b Pe n)) := fun σ F H o Q k => by
  refine hi σ F H o _ fun J F1 H1 n1 wk => ?_
  exact lc_core_g (o.next n1) wk (NoX.ex _) hjs Gb b Pe hg ht he hn Q fun D F2 H2 n2 p => k _ F2 H2 (New.trans n1 n2) p
theorem et_yes : EvT tYes Γ W true := fun σ F H o Q k => k F H (New.refl o.s)
/-! ### expressions that only look: their value is the same under a lock -/
def EvV (te : TE) (Γ : List (Option VP)) (W : Wd) (P : VP) : Prop := ∀ σ F H, Ok Γ W σ F H → ∃ v, P v F ∧ ∀ H', Sub F H' → Ex W.X H' → ∀ Q : VK, Q v H' → te σ H' Q
theorem vv_var {i : Nat} (h : Γ[i]? = some (some P)) : EvV (tVar i) Γ W P := fun σ F H o => by
  obtain ⟨v, h1, h2⟩ := o.t.get h
  exact ⟨v, h2, fun H' _ _ Q q => ⟨v, h1, q⟩⟩
theorem vv_fld {C : Addr} {Ps : List (Str × VP)} {f : Str} (ha : EvV ta Γ W (ObjP C Ps)) (hc : Cls K C) (hn : NoAttr K C f) (hf : Ps.lookup f = some P) : EvV (tFld K ta f) Γ W P := fun σ F H o => by
  obtain ⟨x, ⟨a, dx, vs, rfl, h2, h3⟩, k⟩ := ha σ F H o
  obtain ⟨v, h4, h5⟩ := h3.get hf
  exact ⟨v, h5, fun H' s x Q q => k H' s x _ ⟨a, C, dx, vs, v, rfl, s.ins h2, hc, hn, h4, q⟩⟩
theorem vv_int {i : Int} : EvV (tC (.int i)) Γ W (IntP i) := fun σ F H o => ⟨.int i, rfl, fun H' _ _ Q q => q⟩
theorem vv_dget {α : Type} {Rf : α → VP} {es : List (Nat × α)} {n : Nat} {x : α} (ha : EvV ta Γ W (DctP Rf es)) (hb : EvV tb Γ W (IntP (n : Int))) (hx : Pl.getA es n = some x) : EvV (tDGet ta tb) Γ W (Rf x) := fun σ F H o => by
  obtain ⟨u, ⟨a, kvs, rfl, h2, h3⟩, k⟩ := ha σ F H o
  obtain ⟨y, hy, k'⟩ := hb σ F H o
  obtain rfl : y = _ := hy
  obtain ⟨v, e1, e2⟩ := h3.get.1 x hx
  exact ⟨v, e2, fun H' s xx Q q => k H' s xx _ (k' H' s xx _ ⟨a, v, rfl, .inl ⟨kvs, Sum.inl (n : Int), s.rd h2, rfl, e1.symm⟩, q⟩)⟩
theorem EvV.ev (h : EvV te Γ W P) : EvG te Γ W P := fun σ F H o Q k => by
  obtain ⟨v, p, q⟩ := h σ F H o
  exact q H o.s o.x Q (k.here o.s p)
/-! ### a dict walked: its keys, under the lock -/
theorem wk_keys {α : Type} {Rf : α → VP} {es : List (Nat × α)} {kvs : List (Key × V)} {d : Addr} {ob : Obj} {X : Hp} (h : Ents Rf es kvs F) (hX : X d = some (.frz ob (.dK kvs))) : TWk (Itk d ob kvs) F X es.length fun i => IntP ((es.map fun e => (e.1 : Int)).getD i 0) := by
  refine ⟨_, _, h.len ▸ walk_keys (kvs := kvs), fun F' H' _ _ x => x d _ hX, ?_⟩
  rintro i x F' H' H'' hi e s ⟨rfl, k, v, hk, rfl⟩
  refine ⟨F', New.refl s, ?_⟩
  have q : (kvs.map (·.1))[i]? = some k := by rw [List.getElem?_map, hk]; rfl
  rw [h.keys, List.getElem?_map] at q
  simp only [List.getD_eq_getElem?_getD]
  cases z : (es.map fun e => (e.1 : Int))[i]? with
  | none => rw [z] at q; cases q
  | some m =>
    rw [z] at q
    cases q
    rfl
/-- in the locked heap -/
theorem lock_ok {σ' : L2.St} {d : Addr} {kvs : List (Key × V)} {ob : Obj} (s : TyS N F0 H0 Γ W F σ H) (hd : F d = some (.dK kvs)) (hH : H d = some (.dK kvs)) :
    TyS (Nl N W) F (upd H d (.frz ob (.dK kvs))) Γ W F σ (upd H d (.frz ob (.dK kvs))) := by
  have hX : W.X d = none := by
    cases e : W.X d with
    | none => rfl
    | some o => rw [s.ok.xf d (by rw [e]; simp)] at hd; cases hd
  have hs : Sub F (upd H d (.frz ob (.dK kvs))) := fun a o e => by
    by_cases c : a = d
    · subst c
      rw [hd] at e
      cases e
      exact ⟨trivial, .inr ⟨ob, kvs, rfl, upd_same⟩⟩
    · rw [upd_ne c]
      exact s.ok.s a o e
  have hne : ∀ a, H a ≠ none → upd H d (.frz ob (.dK kvs)) a ≠ none := fun a h => by
    by_cases c : a = d
    · subst c; rw [upd_same]; simp
    · rw [upd_ne c]; exact h
  refine ⟨⟨Ex.refl F, fun _ _ _ h => h, hs, fun a h q => absurd h q⟩, ⟨s.ok.t, hs, fun a o e => ?_, s.ok.g, s.ok.xf⟩, fun a ha => ⟨(s.l a ha).1, .inr (.inr ha), hne a (s.l a ha).2.2⟩, fun a ha => ha.elim (fun z => ⟨hne a (s.nn a z).1, (s.nn a z).2⟩) fun z => ⟨hne a (s.l a z).2.2, (s.l a z).1⟩⟩
  have c : a ≠ d := fun z => by rw [z, hX] at e; cases e
  rw [upd_ne c]
  exact s.ok.x a o e
/-- behind it -/
theorem lock_back {σ' : L2.St} {d : Addr} {kvs : List (Key × V)} {ob : Obj} {F' H' : Hp} (s : TyS N F0 H0 Γ W F σ H) (hd : F d = some (.dK kvs)) (hH : H d = some (.dK kvs))
    (r : TyS (Nl N W) F (upd H d (.frz ob (.dK kvs))) Δ W' F' σ' H') : H' d = some (.frz ob (.dK kvs)) ∧ TyS N F0 H0 Δ W' F' σ' (upd H' d (.dK kvs)) := by
  have hNd : ¬ Nl N W d := fun z => by
    rcases z with z | z
    · rw [(s.nn d z).2] at hd; cases hd
    · rw [(s.l d z).1] at hd; cases hd
  have hl : H' d = some (.frz ob (.dK kvs)) := r.n.h d _ hNd upd_same
  have hF' : F' d = some (.dK kvs) := r.n.f d _ hd
  have hX : W'.X d = none := by
    cases e : W'.X d with
    | none => rfl
    | some o => rw [r.ok.xf d (by rw [e]; simp)] at hF'; cases hF'
  have hs : Sub F' (upd H' d (.dK kvs)) := fun a o e => by
    by_cases c : a = d
    · subst c
      rw [hF'] at e
      cases e
      exact ⟨trivial, .inl upd_same⟩
    · rw [upd_ne c]
      exact r.ok.s a o e
  have hne : ∀ a, H' a ≠ none → upd H' d (.dK kvs) a ≠ none := fun a h => by
    by_cases c : a = d
    · subst c; rw [upd_same]; simp
    · rw [upd_ne c]; exact h
  have h0 : ∀ a, upd H d (.frz ob (.dK kvs)) a = none → H0 a = none := fun a e => by
    by_cases c : a = d
    · subst c; rw [upd_same] at e; cases e
    · rw [upd_ne c] at e; exact s.none0 e
  refine ⟨hl, ⟨s.n.f.trans r.n.f, fun a o c e => ?_, hs, fun a e q => ?_⟩, ⟨r.ok.t, hs, fun a o e => ?_, r.ok.g, r.ok.xf⟩, fun a ha => ⟨(r.l a ha).1, ?_, hne a (r.l a ha).2.2⟩, fun a ha => ⟨hne a (r.nn a (.inl ha)).1, (r.nn a (.inl ha)).2⟩⟩
  · by_cases cd : a = d
    · subst cd
      rw [upd_same]
      rw [s.n.h a o c e] at hH
      exact hH.symm
    · rw [upd_ne cd]
      refine r.n.h a o (fun z => ?_) (by rw [upd_ne cd]; exact s.n.h a o c e)
      rcases z with z | z
      · exact c z
      · rcases (s.l a z).2.1 with q | q
        · rw [e] at q; cases q
        · exact c q
  · cases e1 : F a with
    | some o => exact s.n.n a e (by rw [e1]; simp)
    | none => exact h0 a (r.n.n a e1 q)
  · have c : a ≠ d := fun z => by rw [z, hX] at e; cases e
    rw [upd_ne c]
    exact r.ok.x a o e
  · rcases (r.l a ha).2.1 with q | q | q
    · exact .inl (h0 a q)
    · exact .inr q
    · exact (s.l a q).2.1
/-- for over a dict's keys: nothing is given back from within -/
theorem ht_forK {α : Type} {Rf : α → VP} {es : List (Nat × α)} {j : Nat} (hv : EvV td Γ W (DctP Rf es)) (G : Nat → List (Option VP)) (Ws : Nat → Wd)
    (hb : ∀ F1 H1 i e, es[i]? = some e → HT (TyA (Nl N W) F1 H1 ((G i).set j (some (IntP (e.1 : Int)))) (Ws i)) t (TyA (Nl N W) F1 H1 (G (i + 1)) (Ws (i + 1))) (fun _ _ => False))
    (e0 : Γ = G 0 := by rfl) (w0 : W = Ws 0 := by rfl) (e1 : G es.length = Δ := by rfl) (w1 : Ws es.length = W' := by rfl) :
    HT (TyA N F0 H0 Γ W) (tLk (tFor (iKeys td) (gName j) t)) (TyA N F0 H0 Δ W') R := fun σ H D ⟨F, s⟩ nx rt => by
  subst e1 w1
  obtain ⟨v, ⟨d, kvs, rfl, h2, h3⟩, hk⟩ := hv σ F H s.ok
  have turn : ∀ (ob : Obj) (H1 : Hp) (D' : Ends) (s1 : TyS (Nl N W) F H1 Γ W F σ H1), H1 d = some (.frz ob (.dK kvs)) → (∀ σ' H', (∃ F', TyS (Nl N W) F H1 (G es.length) (Ws es.length) F' σ' H') → D'.nx σ' H') → tFor (iKeys td) (gName j) t D' σ H1 := by
    intro ob H1 D' s1 hd1 nx'
    refine hk H1 s1.ok.s s1.ok.x _ ⟨d, ob, rfl, .inl ⟨kvs, hd1, ?_⟩⟩
    have hNd : ¬ Nl N W d := fun z => by rw [(s1.nn d z).2] at h2; cases h2
    have wk := wk_keys (X := fun a => if a = d then H1 d else none) h3 (by rw [if_pos rfl]; exact hd1)
    obtain ⟨Gw, Y, wk, wG, wY⟩ := wk
    refine for_it wk (fun i σ H => ∃ F', TyS (Nl N W) F H1 (G i) (Ws i) F' σ H) ⟨F, e0 ▸ w0 ▸ s1⟩ (fun i σ H' _ ⟨F', q⟩ => wG F' H' q.n.f q.ok.s fun a o e => ?_) ?_ ?_
    · have e : (if a = d then H1 d else none) = some o := e
      by_cases c : a = d
      · rw [if_pos c] at e
        subst c
        exact q.n.h a o hNd e
      · rw [if_neg c] at e; cases e
    · rintro i x σ1 H2 H2' hi ⟨F', q⟩ y
      obtain ⟨F2, n2, p⟩ := wY i x F' H2 H2' hi q.n.f q.ok.s y
      obtain ⟨e, he⟩ : ∃ e, es[i]? = some e := ⟨es[i], by simp [hi]⟩
      have p' : (IntP (e.1 : Int)) x F2 := by
        have : (es.map fun e => (e.1 : Int)).getD i 0 = (e.1 : Int) := by
          rw [List.getD_eq_getElem?_getD, List.getElem?_map, he]; rfl
        rw [← this]; exact p
      exact hb F H1 i e he _ _ _ ⟨F2, (q.next n2).set p'⟩ (fun σ'' H'' q' => q') fun v H'' r => r.elim
    · rintro σ1 H2 ⟨F', q⟩
      exact nx' σ1 H2 ⟨F', q⟩
  obtain ⟨_, hu | ⟨ob, kvs', e, hu⟩⟩ := s.ok.s d _ h2
  · refine .inl ⟨d, .dK kvs, hu, trivial, fun ob => ?_⟩
    refine turn ob _ _ (lock_ok (σ' := σ) s h2 hu) upd_same ?_
    rintro σ' H' ⟨F', q⟩
    obtain ⟨a, b⟩ := lock_back (σ' := σ') s h2 hu q
    exact ⟨a, nx σ' _ ⟨F', b⟩⟩
  · cases e
    refine .inr ?_
    refine turn ob H D s.into hu ?_
    rintro σ' H' ⟨F', q⟩
    exact nx σ' H' ⟨F', s.back q⟩
/-- a comprehension over a dict's keys -/
theorem ev_lcK {α : Type} {Rf : α → VP} {es : List (Nat × α)} {js : List Nat} {g : TG} {vs : List Nat} (hv : EvV td Γ W (DctP Rf es)) (Gb : Nat → List (Option VP)) (b : Nat → Bool) (Pe : Nat → VP)
    (hg : ∀ i, i < es.length → TgG js g (IntP ((es.map fun e => (e.1 : Int)).getD i 0)) (wipeG Γ vs) (Gb i)) (ht : ∀ i, i < es.length → EvT tt (Gb i) W (b i)) (he : ∀ i, i < es.length → b i = true → EvG te (Gb i) W (Pe i)) (hn : es.length < 16000000) (hjs : ∀ j ∈ js, j ∈ vs := by decide) :
    EvG (tLkE (tLc (iKeys td) g tt te vs)) Γ W (LstP (givn b Pe es.length)) := fun σ F H o Q k => by
  obtain ⟨v, ⟨d, kvs, rfl, h2, h3⟩, hk⟩ := hv σ F H o
  have hX : W.X d = none := by
    cases e : W.X d with
    | none => rfl
    | some u => rw [o.xf d (by rw [e]; simp)] at h2; cases h2
  have core : ∀ (ob : Obj) (H1 : Hp), Ok Γ W σ F H1 → H1 d = some (.frz ob (.dK kvs)) → ∀ Q' : VK, (∀ D F2 H2, New F H1 F2 H2 → LstP (givn b Pe es.length) (.ref D) F2 → Q' (.ref D) H2) → tLc (iKeys td) g tt te vs σ H1 Q' := by
    intro ob H1 o1 hd1 Q' k'
    refine hk H1 o1.s o1.x _ ⟨d, ob, rfl, .inl ⟨kvs, hd1, ?_⟩⟩
    have wk := wk_keys (X := fun a => if a = d then H1 d else none) h3 (by rw [if_pos rfl]; exact hd1)
    refine lc_core_g o1 wk (fun a u e => ?_) hjs Gb b Pe hg ht he hn Q' k'
    have e : (if a = d then H1 d else none) = some u := e
    by_cases c : a = d
    · rw [if_pos c] at e
      subst c
      exact e
    · rw [if_neg c] at e; cases e
  obtain ⟨_, hu | ⟨ob, kvs', e, hu⟩⟩ := o.s d _ h2
  · refine .inl ⟨d, .dK kvs, hu, trivial, fun ob => ?_⟩
    have o1 : Ok Γ W σ F (upd H d (.frz ob (.dK kvs))) := ⟨o.t, fun a u e => by
      by_cases c : a = d
      · subst c
        rw [h2] at e
        cases e
        exact ⟨trivial, .inr ⟨ob, kvs, rfl, upd_same⟩⟩
      · rw [upd_ne c]
        exact o.s a u e, fun a u e => by
      have c : a ≠ d := fun z => by rw [z, hX] at e; cases e
      rw [upd_ne c]
      exact o.x a u e, o.g, o.xf⟩
    refine core ob _ o1 upd_same _ fun D F2 H2 n2 p2 => ?_
    have hl : H2 d = some (.frz ob (.dK kvs)) := n2.ex d _ upd_same
    refine ⟨hl, k _ F2 _ ⟨n2.f, fun a u _ e => ?_, fun a u e => ?_, fun a e q => ?_⟩ p2⟩
    · by_cases c : a = d
      · subst c
        rw [upd_same]
        rw [e] at hu
        exact hu.symm
      · rw [upd_ne c]
        exact n2.ex a u (by rw [upd_ne c]; exact e)
    · by_cases c : a = d
      · subst c
        rw [n2.f a _ h2] at e
        cases e
        exact ⟨trivial, .inl upd_same⟩
      · rw [upd_ne c]
        exact n2.s a u e
    · have := n2.n a e q
      by_cases c : a = d
      · subst c; rw [upd_same] at this; cases this
      · rw [upd_ne c] at this; exact this
  · cases e
    exact .inr (core ob H o hu Q fun D F2 H2 n2 p2 => k _ F2 H2 n2 p2)
/-! ### things that change -/
/-- W with the thing at d standing as o, and more known -/
def Wd.put (W : Wd) (d : Addr) (o : HO) (g : Hp → Prop) (mono : ∀ {F F'}, g F → Ex F F' → g F') : Wd := ⟨upd W.X d o, fun a => a = d ∨ W.loc a, fun F => W.g F ∧ g F, fun h e => ⟨W.mono h.1 e, mono h.2 e⟩⟩
/-- a list that grows, a dict that is filled -/
def Wd.lst (W : Wd) (d : Addr) (xs : List V) (Ps : List VP) : Wd := W.put d (.lst xs) (fun F => AllP Ps xs F) AllP.mono
def Wd.dct {α : Type} (W : Wd) (d : Addr) (kvs : List (Key × V)) (Rf : α → VP) (es : List (Nat × α)) : Wd := W.put d (.dK kvs) (fun F => Ents Rf es kvs F) Ents.mono
/-- a new thing that may change, in the slot i -/
theorem TyS.fresh {i : Nat} {d : Addr} {o : HO} {g : Hp → Prop} {mono : ∀ {F F'}, g F → Ex F F' → g F'} (s : TyS N F0 H0 Γ W F σ H) (hd : H d = none) (hg : g F) :
    TyS N F0 H0 (Γ.set i (some (IsP (.ref d)))) (W.put d o g mono) F (σ.set i (some (.ref d))) (upd H d o) := by
  have n := New.loc (o := o) s.ok.s hd
  have s2 := s.next n
  refine ⟨s2.n, ⟨s2.ok.t.set rfl, s2.ok.s, fun a u e => ?_, ⟨s.ok.g, hg⟩, fun a ha => ?_⟩, fun a ha => ?_, s2.nn⟩
  · have e : upd W.X d o a = some u := e
    by_cases c : a = d
    · subst c
      rw [upd_same] at e ⊢
      exact e
    · rw [upd_ne c] at e ⊢
      exact s.ok.x a u e
  · have ha : upd W.X d o a ≠ none := ha
    by_cases c : a = d
    · subst c
      exact s.ok.s.free hd
    · rw [upd_ne c] at ha
      exact s.ok.xf a ha
  · by_cases c : a = d
    · subst c
      exact ⟨s.ok.s.free hd, .inl (s.none0 hd), by rw [upd_same]; simp⟩
    · have ha : W.loc a := ha.resolve_left c
      exact s2.l a ha
theorem sz_lt {n : Nat} (h : n < 16000000) : n < sizeLine := Nat.lt_of_lt_of_le h (by decide)
theorem sz_le {n : Nat} (h : n ≤ 16000000) : n ≤ sizeLine := Nat.le_trans h (by decide)
theorem ht_dnew {α : Type} {G : Addr → List (Option VP)} {i : Nat} {Rf : α → VP} (e : ∀ d : Addr, Γ.set i (some (IsP (.ref d))) = G d) : HT (TyA N F0 H0 Γ W) (tAsg tDNewK (gName i)) (fun σ H => ∃ d, TyA N F0 H0 (G d) (W.dct d [] Rf []) σ H) R := fun σ H D ⟨F, s⟩ nx rt d hd =>
  nx _ _ ⟨d, F, e d ▸ s.fresh hd trivial⟩
theorem ht_lnew {G : Addr → List (Option VP)} {i : Nat} {t : TA} {Ps : List VP} (h : EvA t Γ W Ps) (e : ∀ d : Addr, Γ.set i (some (IsP (.ref d))) = G d) (hl : Ps.length ≤ sizeLine := by decide) : HT (TyA N F0 H0 Γ W) (tAsg (tLst t) (gName i)) (fun σ H => ∃ d xs, TyA N F0 H0 (G d) (W.lst d xs Ps) σ H) R := fun σ H D ⟨F, s⟩ nx rt =>
  h σ F H s.ok _ fun xs F2 H2 n p => ⟨by rw [p.len]; exact hl, fun d hd => nx _ _ ⟨d, xs, F2, e d ▸ (s.next n).fresh hd p⟩⟩
/-- the thing at d is changed -/
theorem TyS.change {d : Addr} {o : HO} {W2 : Wd} (s : TyS N F0 H0 Γ W F σ H) (hd : W.loc d) (hX : W2.X = upd W.X d o) (hl : W2.loc = W.loc) (hg : W2.g F) : TyS N F0 H0 Γ W2 F σ (upd H d o) := by
  obtain ⟨l1, l2, l3⟩ := s.l d hd
  have hne : ∀ a, H a ≠ none → upd H d o a ≠ none := fun a h => by
    by_cases c : a = d
    · subst c; rw [upd_same]; simp
    · rw [upd_ne c]; exact h
  refine ⟨⟨s.n.f, fun a u c e => ?_, s.n.s.upd l1, s.n.n⟩, ⟨s.ok.t, s.ok.s.upd l1, fun a u e => ?_, hg, fun a ha => ?_⟩, fun a ha => ?_, fun a ha => ⟨hne a (s.nn a ha).1, (s.nn a ha).2⟩⟩
  · have ne : a ≠ d := fun z => by
      subst z
      rcases l2 with q | q
      · rw [e] at q; cases q
      · exact c q
    rw [upd_ne ne]
    exact s.n.h a u c e
  · rw [hX] at e
    by_cases c : a = d
    · subst c
      rw [upd_same] at e ⊢
      exact e
    · rw [upd_ne c] at e ⊢
      exact s.ok.x a u e
  · rw [hX] at ha
    by_cases c : a = d
    · subst c; exact l1
    · rw [upd_ne c] at ha
      exact s.ok.xf a ha
  · rw [hl] at ha
    exact ⟨(s.l a ha).1, (s.l a ha).2.1, hne a (s.l a ha).2.2⟩
theorem put_put {W : Wd} {d : Addr} {o o' : HO} {g g' : Hp → Prop} {m : ∀ {F F'}, g F → Ex F F' → g F'} {m' : ∀ {F F'}, g' F → Ex F F' → g' F'} : (W.put d o' g' m').X = upd (W.put d o g m).X d o' ∧ (W.put d o' g' m').loc = (W.put d o g m).loc := ⟨upd_upd.symm, rfl⟩
theorem tyV_lst {H : Hp} {l : Addr} {xs : List V} (h : H l = some (.lst xs)) : tyV K "list" (.ref l) H := Or.inl ⟨rfl, _, Or.inl (Or.inl h)⟩
/-- xs.append(e) -/
theorem ht_append {i : Nat} {l : Addr} {xs : List V} {Ps : List VP} (hs : Γ[i]? = some (some (IsP (.ref l)))) (h : EvG te Γ (W.lst l xs Ps) P) (hz : Ps.length < 16000000) :
    HT (TyA N F0 H0 Γ (W.lst l xs Ps)) (tDrop (tBM K "list" rAppend (tVar i) (tCons te tNil))) (fun σ H => ∃ ys, TyA N F0 H0 Γ (W.lst l ys (Ps ++ [P])) σ H) R := fun σ H D ⟨F, s⟩ nx rt => by
  obtain ⟨v, h1, rfl⟩ := s.ok.t.get hs
  have hl : H l = some (.lst xs) := s.ok.x l _ upd_same
  refine ⟨_, h1, tyV_lst hl, ?_⟩
  refine ea_cons h ea_nil σ F H s.ok _ fun vs F2 H2 n p => ?_
  match vs, p with
  | [y], p =>
    have s2 := s.next n
    have a2 : AllP Ps xs F2 := s2.ok.g.2
    refine ⟨l, xs, y, rfl, rfl, n.ex l _ hl, by rw [a2.len]; exact sz_lt hz, nx _ _ ⟨xs ++ [y], F2, ?_⟩⟩
    exact s2.change (.inl rfl) put_put.1 put_put.2 ⟨s2.ok.g.1, a2.append ⟨p.1, trivial⟩⟩
/-- xs.extend(ys) -/
theorem ht_extend {i : Nat} {l : Addr} {xs : List V} {Ps Qs : List VP} (hs : Γ[i]? = some (some (IsP (.ref l)))) (h : EvG te Γ (W.lst l xs Ps) (LstP Qs)) (hz : Ps.length + Qs.length ≤ 16000000) :
    HT (TyA N F0 H0 Γ (W.lst l xs Ps)) (tDrop (tBM K "list" rExtend (tVar i) (tCons te tNil))) (fun σ H => ∃ ys, TyA N F0 H0 Γ (W.lst l ys (Ps ++ Qs)) σ H) R := fun σ H D ⟨F, s⟩ nx rt => by
  obtain ⟨v, h1, rfl⟩ := s.ok.t.get hs
  have hl : H l = some (.lst xs) := s.ok.x l _ upd_same
  refine ⟨_, h1, tyV_lst hl, ?_⟩
  refine ea_cons h ea_nil σ F H s.ok _ fun vs F2 H2 n p => ?_
  match vs, p with
  | [y], p =>
    obtain ⟨b, ys, rfl, g2, g3⟩ := p.1
    have s2 := s.next n
    have a2 : AllP Ps xs F2 := s2.ok.g.2
    refine ⟨l, b, xs, ys, rfl, rfl, n.ex l _ hl, n.s.lst g2, by rw [a2.len, g3.len]; exact sz_le hz, nx _ _ ⟨xs ++ ys, F2, ?_⟩⟩
    exact s2.change (.inl rfl) put_put.1 put_put.2 ⟨s2.ok.g.1, a2.append g3⟩
theorem Ents.any {α : Type} {Rf : α → VP} {n : Nat} : ∀ {es : List (Nat × α)} {kvs : List (Key × V)} {F : Hp}, Ents Rf es kvs F → (kvs.any fun kv => decide (kv.1 = Sum.inl (n : Int))) = es.any fun e => decide (e.1 = n)
  | [], [], _, _ => rfl
  | e :: es, kv :: kvs, F, h => by
    rw [List.any_cons, List.any_cons, Ents.any h.2, h.1.1]
    congr 1
    rw [Bool.eq_iff_iff, decide_eq_true_eq, decide_eq_true_eq]
    constructor
    · intro z; injection z with z; omega
    · intro z; rw [z]
  | [], _ :: _, _, h => h.elim
  | _ :: _, [], _, h => h.elim
theorem Ents.map {α : Type} {Rf : α → VP} {n : Nat} {x : α} {v : V} (hv : ∀ F, True → Rf x v F → True) : ∀ {es : List (Nat × α)} {kvs : List (Key × V)} {F : Hp}, Ents Rf es kvs F → Rf x v F →
    Ents Rf (es.map fun e => if e.1 = n then (e.1, x) else e) (kvs.map fun kv => if kv.1 = Sum.inl (n : Int) then (kv.1, v) else kv) F
  | [], [], _, _, _ => trivial
  | e :: es, kv :: kvs, F, h, hp => by
    refine ⟨?_, Ents.map hv h.2 hp⟩
    by_cases c : e.1 = n
    · have q : kv.1 = Sum.inl (n : Int) := by rw [h.1.1, c]
      simp only [if_pos c, if_pos q]
      exact ⟨h.1.1, hp⟩
    · have q : ¬ kv.1 = Sum.inl (n : Int) := by rw [h.1.1]; intro z; exact c (by injection z with z; omega)
      simp only [if_neg c, if_neg q]
      exact h.1
  | [], _ :: _, _, h, _ => h.elim
  | _ :: _, [], _, h, _ => h.elim
theorem Ents.append {α : Type} {Rf : α → VP} : ∀ {es fs : List (Nat × α)} {kvs lvs : List (Key × V)} {F : Hp}, Ents Rf es kvs F → Ents Rf fs lvs F → Ents Rf (es ++ fs) (kvs ++ lvs) F
  | [], _, [], _, _, _, h => h
  | e :: es, _, kv :: kvs, _, _, h, h' => ⟨h.1, Ents.append h.2 h'⟩
  | [], _, _ :: _, _, _, h, _ => h.elim
  | _ :: _, _, [], _, _, h, _ => h.elim
theorem Ents.put {α : Type} {Rf : α → VP} {n : Nat} {x : α} {v : V} {es : List (Nat × α)} {kvs : List (Key × V)} {F : Hp} (h : Ents Rf es kvs F) (hp : Rf x v F) : Ents Rf (Pl.putA es n x) (putK kvs (Sum.inl (n : Int)) v) F := by
  unfold Pl.putA putK
  rw [h.any]
  split
  · exact h.map (fun _ _ _ => trivial) hp
  · exact h.append ⟨⟨rfl, hp⟩, trivial⟩
theorem Ents.drop {α : Type} {Rf : α → VP} {n : Nat} : ∀ {es : List (Nat × α)} {kvs : List (Key × V)} {F : Hp}, Ents Rf es kvs F → Ents Rf (Pl.dropA es n) (dropK kvs (Sum.inl (n : Int))) F
  | [], [], _, _ => trivial
  | e :: es, kv :: kvs, F, h => by
    have ih := Ents.drop (n := n) h.2
    unfold Pl.dropA dropK at ih ⊢
    rw [List.filter_cons, List.filter_cons]
    by_cases c : e.1 = n
    · have q : kv.1 = Sum.inl (n : Int) := by rw [h.1.1, c]
      rw [if_neg (by simp [c]), if_neg (by simp [q])]
      exact ih
    · have q : ¬ kv.1 = Sum.inl (n : Int) := by rw [h.1.1]; intro z; exact c (by injection z with z; omega)
      rw [if_pos (by simp [c]), if_pos (by simp [q])]
      exact ⟨h.1, ih⟩
  | [], _ :: _, _, h => h.elim
  | _ :: _, [], _, h => h.elim
/-- d[k] = e, d a local -/
theorem ht_dput {α : Type} {i n : Nat} {d : Addr} {kvs : List (Key × V)} {Rf : α → VP} {es : List (Nat × α)} {x : α} (hs : Γ[i]? = some (some (IsP (.ref d)))) (hk : EvG tb Γ (W.dct d kvs Rf es) (IntP (n : Int))) (h : EvG te Γ (W.dct d kvs Rf es) (Rf x)) (hz : es.length < 1000000) :
    HT (TyA N F0 H0 Γ (W.dct d kvs Rf es)) (sDPut (tVar i) tb te) (fun σ H => ∃ lvs, TyA N F0 H0 Γ (W.dct d lvs Rf (Pl.putA es n x)) σ H) R := fun σ H D ⟨F, s⟩ nx rt => by
  refine h σ F H s.ok _ fun v F1 H1 n1 p1 => ?_
  have s1 := s.next n1
  obtain ⟨u, h1, rfl⟩ := s1.ok.t.get hs
  refine ⟨_, h1, hk σ F1 H1 s1.ok _ fun y F2 H2 n2 p2 => ?_⟩
  have s2 := s1.next n2
  obtain rfl : y = V.int (n : Int) := p2
  have hd : H2 d = some (.dK kvs) := s2.ok.x d _ upd_same
  have e2 : Ents Rf es kvs F2 := s2.ok.g.2
  refine ⟨d, _, rfl, DPut.k (k := Sum.inl (n : Int)) hd (by rw [e2.len]; exact sz_lt (by omega)), nx _ _ ⟨putK kvs (Sum.inl (n : Int)) v, F2, ?_⟩⟩
  exact s2.change (.inl rfl) put_put.1 put_put.2 ⟨s2.ok.g.1, e2.put ((Rf x).mono p1 n2.f)⟩
/-- what stands for good again -/
theorem TyS.freeze {d : Addr} {o : HO} {g : Hp → Prop} {m : ∀ {F F'}, g F → Ex F F' → g F'} (hp : Plain o) (s : TyS N F0 H0 Γ (W.put d o g m) F σ H) (hW : W.X d = none) (hl : ¬ W.loc d) (hN : ¬ N d) :
    TyS N F0 H0 Γ W (upd F d o) σ H ∧ g (upd F d o) := by
  obtain ⟨l1, l2, l3⟩ := s.l d (.inl rfl)
  have hd : H d = some o := s.ok.x d _ upd_same
  have e : Ex F (upd F d o) := Ex.upd l1
  have hs : Sub (upd F d o) H := fun a u q => by
    by_cases c : a = d
    · subst c
      rw [upd_same] at q
      cases q
      exact ⟨hp, .inl hd⟩
    · rw [upd_ne c] at q
      exact s.ok.s a u q
  refine ⟨⟨⟨s.n.f.trans e, s.n.h, hs, fun a h q => ?_⟩, ⟨s.ok.t.mono e, hs, fun a u q => ?_, W.mono s.ok.g.1 e, fun a ha => ?_⟩, fun a ha => ?_, fun a ha => ⟨(s.nn a ha).1, ?_⟩⟩, m s.ok.g.2 e⟩
  · by_cases c : a = d
    · subst c
      exact l2.resolve_right hN
    · rw [upd_ne c] at q
      exact s.n.n a h q
  · have c : a ≠ d := fun z => by rw [z, hW] at q; cases q
    exact s.ok.x a u (by show upd W.X d o a = some u; rw [upd_ne c]; exact q)
  · have c : a ≠ d := fun z => ha (by rw [z, hW])
    rw [upd_ne c]
    exact s.ok.xf a (by show upd W.X d o a ≠ none; rw [upd_ne c]; exact ha)
  · have c : a ≠ d := fun z => hl (z ▸ ha)
    obtain ⟨q1, q2, q3⟩ := s.l a (.inr ha)
    exact ⟨by rw [upd_ne c]; exact q1, q2, q3⟩
  · have c : a ≠ d := fun z => hN (z ▸ ha)
    rw [upd_ne c]
    exact (s.nn a ha).2
theorem Typed.re {i : Nat} {x : V} : ∀ {σ : L2.St} {Γ : List (Option VP)} {F : Hp} {i : Nat}, Typed σ Γ F → Γ[i]? = some (some (IsP x)) → P x F → Typed σ (Γ.set i (some P)) F
  | s :: σ, p :: Γ, F, 0, h, e, hp => by
    have e : p = some (IsP x) := by simpa using e
    subst e
    obtain ⟨v, h1, rfl⟩ := h.1
    exact ⟨⟨_, h1, hp⟩, h.2⟩
  | s :: σ, p :: Γ, F, i + 1, h, e, hp => ⟨h.1, Typed.re (i := i) (x := x) h.2 (by simpa using e) hp⟩
  | [], [], _, _, _, e, _ => by simp at e
  | [], _ :: _, _, _, h, _, _ => h.elim
  | _ :: _, [], _, _, h, _, _ => h.elim
/-- a local list, dict that changes no more -/
theorem frz_lst {i : Nat} {l : Addr} {xs : List V} {Ps : List VP} (hs : Γ[i]? = some (some (IsP (.ref l)))) (hW : W.X l = none) (hl : ¬ W.loc l) (hN : ¬ N l) (e : Γ.set i (some (LstP Ps)) = Δ := by rfl) : ∀ σ H, TyA N F0 H0 Γ (W.lst l xs Ps) σ H → TyA N F0 H0 Δ W σ H := fun σ H ⟨F, s⟩ => by
  subst e
  obtain ⟨s2, g⟩ := TyS.freeze (o := .lst xs) trivial s hW hl hN
  exact ⟨_, s2.slots (Typed.re (i := i) (x := .ref l) s2.ok.t hs ⟨l, xs, rfl, upd_same, g⟩)⟩
theorem frz_dct {α : Type} {i : Nat} {d : Addr} {kvs : List (Key × V)} {Rf : α → VP} {es : List (Nat × α)} (hs : Γ[i]? = some (some (IsP (.ref d)))) (hW : W.X d = none) (hl : ¬ W.loc d) (hN : ¬ N d) (e : Γ.set i (some (DctP Rf es)) = Δ := by rfl) : ∀ σ H, TyA N F0 H0 Γ (W.dct d kvs Rf es) σ H → TyA N F0 H0 Δ W σ H := fun σ H ⟨F, s⟩ => by
  subst e
  obtain ⟨s2, g⟩ := TyS.freeze (o := .dK kvs) trivial s hW hl hN
  exact ⟨_, s2.slots (Typed.re (i := i) (x := .ref d) s2.ok.t hs ⟨d, kvs, rfl, upd_same, g⟩)⟩
end
end Sw
set_option maxRecDepth 100000
set_option maxHeartbeats 2000000
/-! # Promises; new objects; errors -/
namespace Sw
open PySem L2
/-- the promise of a def that only looks: for the data i the arguments are Ps i, R i comes back -/
def spF {ι : Type} (Ps : ι → List VP) (pre : ι → Prop) (R : ι → VP) : Sp := fun vs H Q E => ∃ i F, pre i ∧ AllP (Ps i) vs F ∧ Sub F H ∧ Ret F H Q (R i)
section
variable {N : Addr → Prop} {F0 H0 F1 H1 : Hp} {Γ Δ Θ : List (Option VP)} {W W' : Wd} {F H F2 H2 : Hp} {σ : L2.St} {A B C : As} {R : VK} {P P' : VP} {t u : TS} {te ta tb td : TE} {tt : TT} {b : Bool} {K : PySem.W.Frag}
theorem spF_g {ι : Type} {Ps : ι → List VP} {pre : ι → Prop} {Rr : ι → VP} (i : ι) (h : pre i) : SpG (spF Ps pre Rr) W (Ps i) (Rr i) := fun vs F H a s _ _ Q E k => ⟨i, F, h, a, s, k⟩
theorem spF_len {ι : Type} {Ps : ι → List VP} {pre : ι → Prop} {Rr : ι → VP} {n : Nat} (h : ∀ i, (Ps i).length = n) (vs : List V) (H : Hp) (Q : VK) (E : XK) : spF Ps pre Rr vs H Q E → vs.length = n := fun ⟨i, F, _, a, _⟩ => by rw [a.len, h i]
/-- the state at a def's entry -/
theorem TyS.entry {Ns : List Str} {Ps : List VP} {vs : List V} (a : AllP Ps vs F) (s : Sub F H) : TyS No F H (Ps.map some ++ List.replicate (Ns.length - Ps.length) none) W0 F (start Ns vs) H :=
  ⟨New.refl s, ⟨by have := Typed.start (N := Ns) a; rw [a.len] at this; exact this, s, fun _ _ h => (nomatch h), trivial, fun _ h => absurd rfl h⟩, fun _ h => h.elim, fun _ h => h.elim⟩
/-- a body that keeps such a promise: its end without a return gives None -/
theorem body_of {ι : Type} {Ps : ι → List VP} {pre : ι → Prop} {Rr : ι → VP} {Ns : List Str} {vs : List V} {Q : VK} {E : XK} (h : spF Ps pre Rr vs H Q E)
    (k : ∀ i, pre i → ∀ F0 H0, HT (TyA No F0 H0 ((Ps i).map some ++ List.replicate (Ns.length - (Ps i).length) none) W0) t (fun _ H => RetP No F0 H0 (Rr i) .non H) (RetP No F0 H0 (Rr i))) :
    t { nx := fun _ H' => Q .non H', rt := Q } (start Ns vs) H := by
  obtain ⟨i, F, hp, a, s, r⟩ := h
  exact k i hp F H (start Ns vs) H _ ⟨F, TyS.entry a s⟩ (fun σ' H' ⟨F', n, p⟩ => r _ F' H' n p) fun v H' ⟨F', n, p⟩ => r v F' H' n p
/-! ### new objects -/
/-- __init__ that keeps its arguments -/
def spI (C : Addr) (fs : List Str) : Sp := fun vs H Q _ => ∃ (x dx : Addr) (as : List V), vs = .ref x :: as ∧ as.length = fs.length ∧ H x = some (.ins C dx []) ∧ ∀ H', H' x = some (.ins C dx (fs.zip as)) → (∀ b, b ≠ x → H' b = H b) → Q .non H'
theorem flds_zip : ∀ {fs : List Str} {Ps : List VP} {vs : List V} {F : Hp}, AllP Ps vs F → fs.length = Ps.length → Flds (fs.zip Ps) (fs.zip vs) F
  | [], [], [], _, _, _ => trivial
  | f :: fs, P :: Ps, v :: vs, F, h, e => ⟨⟨rfl, h.1⟩, flds_zip h.2 (Nat.succ.inj e)⟩
  | [], _ :: _, _, _, _, e => by cases e
  | _ :: _, [], _, _, _, e => by cases e
  | [], [], _ :: _, _, h, _ => h.elim
  | _ :: _, _ :: _, [], _, h, _ => h.elim
theorem ev_make {C : Addr} {fs : List Str} {E : XK} {t : TA} {Ps : List VP} (h : EvA t Γ W Ps) (hl : fs.length = Ps.length := by rfl) : EvG (tMake C (spI C fs) [] E t) Γ W (ObjP C (fs.zip Ps)) := fun σ F H o Q k => by
  refine h σ F H o _ fun vs F1 H1 n1 p1 x dx hx hdx hne => ?_
  show spI C fs (V.ref x :: (vs ++ [])) _ _ _
  rw [List.append_nil]
  refine ⟨x, dx, vs, rfl, by rw [p1.len, hl], upd_same, fun H' hx' hk => ⟨rfl, ?_⟩⟩
  have hk2 : ∀ a u, H1 a = some u → H' a = some u := fun a u e => by
    have c : a ≠ x := ne_of_none e hx
    rw [hk a c, upd_ne c, upd_ne (ne_of_none e hdx)]
    exact e
  have n2 : New F1 H1 (upd F1 x (.ins C dx (fs.zip vs))) H' := by
    refine ⟨Ex.upd (n1.s.free hx), fun a u _ e => hk2 a u e, fun a u e => ?_, fun a e q => ?_⟩
    · by_cases c : a = x
      · subst c
        rw [upd_same] at e
        cases e
        exact ⟨trivial, .inl hx'⟩
      · rw [upd_ne c] at e
        exact (n1.s.ex hk2) a u e
    · by_cases c : a = x
      · rw [c]; exact hx
      · rw [upd_ne c] at q
        exact absurd e q
  exact k _ _ _ (New.trans n1 n2) ⟨x, dx, fs.zip vs, rfl, upd_same, (flds_zip p1 hl).mono (Ex.upd (n1.s.free hx))⟩
/-! ### errors -/
/-- what is wanted of a call that is refused with the code c -/
def RetX (CR : Addr) (F H : Hp) (E : XK) (c : Int) : Prop := ∀ F2 H2 dd, New F H F2 H2 → H2 dd = some (.xd [(("code" : Str), .int c)]) → E (.ref CR) (some dd) H2
theorem RetX.next {CR : Addr} {E : XK} {c : Int} (r : RetX CR F H E c) (n : New F H F2 H2) : RetX CR F2 H2 E c := fun F3 H3 dd n3 h => r F3 H3 dd (New.trans n n3) h
/-- the expression is refused -/
def EvX (CR : Addr) (te : TE) (Γ : List (Option VP)) (W : Wd) (E : XK) (c : Int) : Prop := ∀ σ F H, Ok Γ W σ F H → ∀ Q, RetX CR F H E c → te σ H Q
def EvAX (CR : Addr) (ta : TA) (Γ : List (Option VP)) (W : Wd) (E : XK) (c : Int) : Prop := ∀ σ F H, Ok Γ W σ F H → ∀ Q, RetX CR F H E c → ta σ H Q
def SpX (CR : Addr) (sp : Sp) (W : Wd) (Ps : List VP) (c : Int) : Prop := ∀ vs F H, AllP Ps vs F → Sub F H → Ex W.X H → W.g F → (∀ a, W.X a ≠ none → F a = none) → ∀ Q E, RetX CR F H E c → sp vs H Q E
variable {CR : Addr} {E : XK} {c : Int}
theorem ex_call {sp : Sp} {t : TA} {Ps : List VP} (h : EvA t Γ W Ps) (hs : SpX CR sp W Ps c) : EvX CR (tCall sp [] E t) Γ W E c := fun σ F H o Q k => by
  refine h σ F H o _ fun xs F1 H1 n1 p1 => ?_
  have o1 := o.next n1
  show sp (xs ++ []) H1 Q E
  rw [List.append_nil]
  exact hs xs F1 H1 p1 n1.s o1.x o1.g o1.xf Q E (k.next n1)
theorem ex_callA {sp : Sp} {t : TA} (h : EvAX CR t Γ W E c) : EvX CR (tCall sp [] E t) Γ W E c := fun σ F H o Q k => h σ F H o _ k
theorem ea_consX {tr : TA} (h : EvX CR ta Γ W E c) : EvAX CR (tCons ta tr) Γ W E c := fun σ F H o Q k => h σ F H o _ k
theorem ea_consX2 {tr : TA} (ha : EvG ta Γ W P) (h : EvAX CR tr Γ W E c) : EvAX CR (tCons ta tr) Γ W E c := fun σ F H o Q k => ha σ F H o _ fun v F1 H1 n1 p1 => h σ F1 H1 (o.next n1) _ (k.next n1)
theorem ex_op {r : R2} (ha : EvG ta Γ W P) (h : EvX CR tb Γ W E c) : EvX CR (tOp r ta tb) Γ W E c := fun σ F H o Q k => ha σ F H o _ fun v F1 H1 n1 p1 => h σ F1 H1 (o.next n1) _ (k.next n1)
theorem ex_meth {Cc : Addr} {Fs : List (Str × VP)} {m : Str} {sp : Sp} {t : TA} (ha : EvG ta Γ W (ObjP Cc Fs)) (hm : (Fs.map (·.1)).contains m = false) (h : EvAX CR t Γ W E c) {E' : XK} : EvX CR (tMeth Cc m sp [] E' ta t) Γ W E c := fun σ F H o Q k => by
  refine ha σ F H o _ fun x F1 H1 n1 p1 => ?_
  obtain ⟨a, dx, vs, rfl, h2, h3⟩ := p1
  exact ⟨a, dx, vs, rfl, n1.s.ins h2, h3.no hm, h σ F1 H1 (o.next n1) _ (k.next n1)⟩
theorem ht_dropX (h : EvX CR te Γ W E c) (k : RetX CR F0 H0 E c) : HT (TyA No F0 H0 Γ W) (tDrop te) B R := fun σ H D ⟨F, s⟩ nx rt => h σ F H s.ok _ (k.next s.n)
theorem ht_retX (h : EvX CR te Γ W E c) (k : RetX CR F0 H0 E c) : HT (TyA No F0 H0 Γ W) (tRet te) B R := fun σ H D ⟨F, s⟩ nx rt => h σ F H s.ok _ (k.next s.n)
theorem ht_asgX {g : TG} (h : EvX CR te Γ W E c) (k : RetX CR F0 H0 E c) : HT (TyA No F0 H0 Γ W) (tAsg te g) B R := fun σ H D ⟨F, s⟩ nx rt => h σ F H s.ok _ (k.next s.n)
theorem ht_parX {i j : Nat} {ta : TA} (h : EvAX CR ta Γ W E c) (k : RetX CR F0 H0 E c) : HT (TyA No F0 H0 Γ W) (tPar i j ta) B R := fun σ H D ⟨F, s⟩ nx rt => h σ F H s.ok _ (k.next s.n)
/-- need(is_right, code) -/
def spNeed (CR : Addr) : Sp := fun vs H Q E => ∃ (b : Bool) (c : Int) (F : Hp), vs = [.bl b, .int c] ∧ Sub F H ∧ (b = true → Ret F H Q NonP) ∧ (b = false → RetX CR F H E c)
theorem ht_need {cond code : TE} (hc : EvG cond Γ W (BoolP b)) (hk : EvG code Γ W (IntP c)) (h0 : b = false → RetX CR F0 H0 E c) (h1 : b = true → HT (TyA No F0 H0 Γ W) u B R) :
    HT (TyA No F0 H0 Γ W) (tSeq (tDrop (tCall (spNeed CR) [] E (tCons cond (tCons code tNil)))) u) B R := fun σ H D ⟨F, s⟩ nx rt => by
  refine (show tCons cond (tCons code tNil) σ H (fun vs H1 => spNeed CR (vs ++ []) H1 (fun _ H1 => u D σ H1) E) from ?_)
  refine ea_cons hc (ea_cons hk ea_nil) σ F H s.ok _ fun vs F2 H2 n p => ?_
  match vs, p with
  | [v, w], p =>
    obtain rfl : v = V.bl b := p.1
    obtain rfl : w = V.int c := p.2.1
    refine ⟨b, c, F2, rfl, n.s, fun hb v F3 H3 n3 _ => ?_, fun hb => (h0 hb).next (New.trans s.n n)⟩
    exact h1 hb σ H3 D ⟨F3, (s.next n).next n3⟩ nx rt
/-- the promise of a def that may refuse: out tells the code or what comes back -/
def spX {ι : Type} (CR : Addr) (Ps : ι → List VP) (pre : ι → Prop) (out : ι → Except Int VP) : Sp := fun vs H Q E => ∃ i F, pre i ∧ AllP (Ps i) vs F ∧ Sub F H ∧ (∀ R, out i = .ok R → Ret F H Q R) ∧ (∀ c, out i = .error c → RetX CR F H E c)
theorem spX_g {ι : Type} {Ps : ι → List VP} {pre : ι → Prop} {out : ι → Except Int VP} (i : ι) (h : pre i) {Rr : VP} (e : out i = .ok Rr) : SpG (spX CR Ps pre out) W (Ps i) Rr := fun vs F H a s _ _ Q E k => ⟨i, F, h, a, s, fun R' e' => (by rw [e] at e'; cases e'; exact k), fun c e' => (by rw [e] at e'; cases e')⟩
theorem spX_x {ι : Type} {Ps : ι → List VP} {pre : ι → Prop} {out : ι → Except Int VP} (i : ι) (h : pre i) (e : out i = .error c) : SpX CR (spX CR Ps pre out) W (Ps i) c := fun vs F H a s _ _ _ Q E k => ⟨i, F, h, a, s, fun R' e' => (by rw [e] at e'; cases e'), fun c' e' => (by rw [e] at e'; cases e'; exact k)⟩
theorem spX_len {ι : Type} {Ps : ι → List VP} {pre : ι → Prop} {out : ι → Except Int VP} {n : Nat} (h : ∀ i, (Ps i).length = n) (vs : List V) (H : Hp) (Q : VK) (E : XK) : spX CR Ps pre out vs H Q E → vs.length = n := fun ⟨i, F, _, a, _⟩ => by rw [a.len, h i]
theorem body_ofX {ι : Type} {Ps : ι → List VP} {pre : ι → Prop} {out : ι → Except Int VP} {Ns : List Str} {vs : List V} {Q : VK} (h : spX CR Ps pre out vs H Q E)
    (k : ∀ i, pre i → ∀ F0 H0 (R : VK), (∀ Rr, out i = .ok Rr → ∀ v H, RetP No F0 H0 Rr v H → R v H) → (∀ c, out i = .error c → RetX CR F0 H0 E c) → HT (TyA No F0 H0 ((Ps i).map some ++ List.replicate (Ns.length - (Ps i).length) none) W0) t (fun _ H => R .non H) R) :
    t { nx := fun _ H' => Q .non H', rt := Q } (start Ns vs) H := by
  obtain ⟨i, F, hp, a, s, r1, r2⟩ := h
  exact k i hp F H Q (fun Rr e v H' ⟨F', n, p⟩ => r1 Rr e v F' H' n p) r2 (start Ns vs) H _ ⟨F, TyS.entry a s⟩ (fun σ' H' q => q) fun v H' q => q
end
end Sw
set_option maxRecDepth 100000
set_option maxHeartbeats 2000000
/-! # More rules -/
namespace Sw
open PySem L2
section
variable {N : Addr → Prop} {F0 H0 F1 H1 : Hp} {Γ Δ Θ : List (Option VP)} {W W' : Wd} {F H F2 H2 : Hp} {σ : L2.St} {A B C : As} {R : VK} {P P' : VP} {t u : TS} {te ta tb td : TE} {tt : TT} {b : Bool} {K : PySem.W.Frag}
theorem ht_whileT {β : Type} (G : β → List (Option VP)) (Ws : β → Wd) (μ : β → Nat) (b0 : β) (a0 : ∀ σ H, A σ H → TyA N F0 H0 (G b0) (Ws b0) σ H) (go : β → Bool) (hc : ∀ b, EvT tt (G b) (Ws b) (go b))
    (h1 : ∀ b, go b = true → HT (TyA N F0 H0 (G b) (Ws b)) t (fun σ H => ∃ b', μ b' < μ b ∧ TyA N F0 H0 (G b') (Ws b') σ H) R) (h2 : ∀ b, go b = false → ∀ σ H, TyA N F0 H0 (G b) (Ws b) σ H → B σ H) :
    HT A (tWhile tt t) B R := ht_while (fun b => TyA N F0 H0 (G b) (Ws b)) μ b0 a0 fun b => ⟨_, _, go b, rfl, hc b, h1 b, h2 b⟩
end
end Sw
set_option maxRecDepth 100000
set_option maxHeartbeats 2000000
/-! # Rules of the model that were missing -/
namespace Sw
open PySem L2 PySem.Spec PyProof.Rows
/-! ### len(set(xs)), the ints need not be distinct -/
def uniq (ns : List Int) : List Int := PyProof.Rows.firstMet (fun i => ns.getD i 0) ns.length
theorem firstMet_ok (ns : List Int) : ∀ i, i ≤ ns.length → (PyProof.Rows.firstMet (fun i => ns.getD i 0) i).length ≤ i ∧ ((PyProof.Rows.firstMet (fun i => ns.getD i 0) i).length = i ↔ (ns.take i).Nodup) ∧ ∀ x, x ∈ PyProof.Rows.firstMet (fun i => ns.getD i 0) i ↔ x ∈ ns.take i
  | 0, _ => ⟨Nat.le_refl _, by simp [PyProof.Rows.firstMet], fun x => by simp [PyProof.Rows.firstMet]⟩
  | i + 1, hi => by
    obtain ⟨h1, h2, h3⟩ := firstMet_ok ns i (Nat.le_of_lt hi)
    have hlt : i < ns.length := hi
    have e1 : ns.getD i 0 = ns[i] := by
      rw [List.getD_eq_getElem?_getD, List.getElem?_eq_getElem hlt] <;> rfl
    have e2 : ns.take (i + 1) = ns.take i ++ [ns[i]] := by
      rw [List.take_add_one, List.getElem?_eq_getElem hlt] <;> rfl
    have e0 : PyProof.Rows.firstMet (fun i => ns.getD i 0) (i + 1) = if (PyProof.Rows.firstMet (fun i => ns.getD i 0) i).any (· == ns.getD i 0) then PyProof.Rows.firstMet (fun i => ns.getD i 0) i else PyProof.Rows.firstMet (fun i => ns.getD i 0) i ++ [ns.getD i 0] := by
      rw [PyProof.Rows.firstMet_succ]; rfl
    rw [e0]
    rw [e1, e2]
    have key : (PyProof.Rows.firstMet (fun i => ns.getD i 0) i).any (· == ns[i]) = true ↔ ns[i] ∈ ns.take i := by
      rw [List.any_eq_true, ← h3]
      constructor
      · rintro ⟨x, hx, e⟩
        exact eq_of_beq e ▸ hx
      · intro h
        exact ⟨_, h, beq_self_eq_true _⟩
    by_cases c : ns[i] ∈ ns.take i
    · rw [if_pos (key.mpr c)]
      refine ⟨by omega, ⟨fun h => by omega, fun h => ?_⟩, fun x => ?_⟩
      · rw [List.nodup_append] at h
        exact absurd rfl (h.2.2 _ c _ (by simp))
      · rw [h3, List.mem_append, List.mem_singleton]
        exact ⟨.inl, fun h => h.elim id fun e => e ▸ c⟩
    · rw [if_neg fun h => c (key.mp h), List.length_append, List.length_singleton]
      refine ⟨by omega, ?_, fun x => ?_⟩
      · constructor
        · intro h
          rw [List.nodup_append]
          refine ⟨h2.mp (by omega), by simp, fun a ha b hb => ?_⟩
          rw [List.mem_singleton] at hb
          subst hb
          exact fun e => c (e ▸ ha)
        · intro h
          rw [List.nodup_append] at h
          rw [h2.mpr h.1]
      · rw [List.mem_append, List.mem_append, h3]
theorem uniq_len (ns : List Int) : (uniq ns).length ≤ ns.length := (firstMet_ok ns ns.length (Nat.le_refl _)).1
theorem uniq_iff (ns : List Int) : (uniq ns).length = ns.length ↔ ns.Nodup := by
  have := (firstMet_ok ns ns.length (Nat.le_refl _)).2.1
  rwa [List.take_length] at this
def tLenSetG (K : PySem.W.Frag) (ta : TE) : TE := fun σ H Q => ta σ H fun x H1 => ∃ (l : Addr) (ns : List Int), x = .ref l ∧ SqL K H1 l (ns.map V.int) ∧ ns.length ≤ 4000 ∧ Q (.int ((uniq ns).length : Nat)) H1
theorem pe_lenSetG {X : Cx} {a : Expr} {ta : TE} {p p2 q pos : Pos} (hm : X.mg "len" = none) (hm2 : X.mg "set" = none) (ha : PE X a ta) (hg : Gl X "len" := by rfl) (hg2 : Gl X "set" := by rfl) (hc : X.calm = true := by rfl)
    (na : starEach [a] X.env = (false, eval a X.env) :: starEach [] X.env := by rfl) : PE X (.Call (.Name "len" p) [.Call (.Name "set" p2) [a] [] q] [] pos) (tLenSetG X.K ta) := by
  refine ⟨fun pins s σ H Q I h => ?_⟩
  refine Call_ (ld_blt I hg hm boot_len ?_)
  refine PyProof.Rows.callWith_builtin1 (PyProof.Rows.args_cons ?_ rfl) rfl rfl
  refine Call_ (ld_blt I hg2 hm2 boot_set ?_)
  refine PyProof.Rows.callWith_type1 (PyProof.Rows.args_cons (thn (ha.run pins s σ H _ I h) fun v s1 ⟨x, H1, I1, r1, q1⟩ => PyProof.Rows.args_nil ?_) na) na rfl
  obtain ⟨l, ns, rfl, hq, hl, q1⟩ := q1
  cases r1
  obtain ⟨its, r, pl, hz⟩ := I1.list hq
  have hlen : its.toArray.size = ns.length := by rw [List.size_toArray, ← r.length, List.length_map]
  refine call_set_list (I1.ok.hd hc) pl.isList (by simpa using RZ.intsAre_vals r) (by rw [hlen]; unfold scanBound; omega) fun h' tk hS hk => ?_
  refine PyProof.Rows.args_nil ?_
  rw [hlen] at hS
  obtain ⟨o, es, ep, t, ho, hex, hd, _, _, _, hf, hn⟩ := hS
  have I2 : Inv X pins σ H1 { s1 with heap := h', toks := tk } := I1.kept fun b o e => hk b o (Heap.lt_size e) e
  have hu := uniq_len ns
  exact call_len_set ho hex hd hf (by rw [hn] <;> (unfold uniq at hu; omega)) ⟨.int (uniq ns).length, H1, I2.tok _, ⟨_, by rw [hn]; rfl⟩, q1⟩
/-! ### the bits of a code -/
section
variable {X : Cx}
def rOneShl : R2 := fun x y H Q => ∃ k : Nat, x = .int 1 ∧ y = .int (k : Int) ∧ k ≤ 134217727 ∧ Q (.int (2 ^ k)) H
theorem op_oneShl1 : OpR X (binaryOp .LShift) rOneShl := op_oneShl
def rShrN : R2 := fun x y H Q => ∃ (i : Int) (k : Nat), x = .int i ∧ y = .int (k : Int) ∧ Q (.int (i / 2 ^ k)) H
theorem op_shrN1 : OpR X (binaryOp .RShift) rShrN := op_shrN
def rOdd : R2 := fun x y H Q => ∃ n : Nat, x = .int (n : Int) ∧ y = .int 1 ∧ Q (.int ((n % 2 : Nat) : Int)) H
theorem op_odd1 : OpR X (binaryOp .BitAnd) rOdd := op_odd
/-! ### o.f as a target -/
def gFld (K : PySem.W.Frag) (ta : TE) (f : Str) : TG := fun v σ H Q => ta σ H fun x H1 => ∃ (a C dx : Addr) (fs : List (Str × V)), x = .ref a ∧ H1 a = some (.ins C dx fs) ∧ Cls K C ∧ NoAttr K C f ∧ fs.length < 1000 ∧ Q σ (upd H1 a (.ins C dx (putF f v fs)))
theorem pg_fld {o : Expr} {ta : TE} {f : Str} {pos : Pos} (ha : PE X o ta) : PG X (.Attribute o f pos) (gFld X.K ta f) := by
  refine ⟨fun pins s σ H v u Q I r h => ?_⟩
  rw [assign_Attribute]
  refine wpAny_bind (wpAny_holding (thn (ha.run pins s σ H _ I h) fun ov s1 ⟨x, H1, I1, r1, a, C, dx, fs, ex, ea, c, n, l, q⟩ => ?_))
  subst ex
  obtain rfl : ov = Value.ref a := r1
  refine wpAny_bind (wpAny_standAt (wpAny_bind (wpAny_holding (setattr_ok I1 ea c n l r fun s3 I3 => ?_))))
  exact wpAny_release ⟨σ, _, I3, q⟩
/-! ### t[::-1] of a pair -/
def tRevT (K : PySem.W.Frag) (te : TE) : TE := fun σ H Q => te σ H fun x H1 => ∃ a v w, x = .ref a ∧ SqT K H1 a [v, w] ∧ ∀ p, H1 p = none → Q (.ref p) (upd H1 p (.tup [w, v]))
theorem sliceApplied_rev {prog : Program} {w : World} {A : Around} {E : Value → Shared → Prop} {s : Shared} {sl : Addr} {u : Tok} {Q : Int × Int × Nat → Shared → Prop} (hs : s.heap.IsSliceOf sl .none .none (.int (-1) u)) (h : Q (1, -1, 2) s) :
    wpAny (model prog w) A (Builtin.Slice.sliceApplied (.ref sl) (pure (2 : Int))) Q E s := by
  obtain ⟨os, hos, hcs, hds⟩ := id hs
  unfold Builtin.Slice.sliceApplied Builtin.Slice.sliceFields
  refine wpAny_bind (wpAny_bind (wpAny_field hos hds (x := .none) rfl (wpAny_bind (wpAny_field hos hds (x := .none) rfl (wpAny_bind (wpAny_field hos hds (x := .int (-1) u) rfl (wpAny_pure ?_)))))))
  refine wpAny_bind (slicePart_int ?_)
  show wpAny _ _ (if ((-1 : Int) == 0) = true then _ else _) _ _ s
  rw [if_neg (by decide)]
  refine wpAny_bind (slicePart_none (wpAny_bind (slicePart_none (wpAny_bind (wpAny_pure ?_)))))
  exact wpAny_pure h
theorem getItem_rev {prog : Program} {w : World} {A : Around} {E : Value → Shared → Prop} {s : Shared} {t sl : Addr} {x y : Value} {u : Tok} {Q : Value → Shared → Prop} (ht : IsTup s.heap t #[x, y]) (hs : s.heap.IsSliceOf sl .none .none (.int (-1) u))
    (h : Q (.ref s.heap.objs.size) { s with heap := s.heap.push { cls := .type "tuple", data := .seq #[y, x] } }) : wpAny (model prog w) A (getItem (.ref t) (.ref sl)) Q E s := by
  have hdrop : sizeOk (.seq #[y, x]) := by
    show 2 ≤ sizeLine
    decide
  obtain ⟨os, hos, hcs, hds⟩ := id hs
  have hTs : s.TypeIs (.ref sl) "slice" := ⟨os, hos, hcs⟩
  unfold getItem
  try with_reducible refine wpAny_holding ?_
  first | refine wpAny_bind (wpAny_pure ?_) | skip
  refine wpAny_bind (wpAny_sequenceKey ht.typeIs (by decide) ?_)
  refine wpAny_bind (wpAny_callSpecial?_slot (name := Str.ofString "__getitem__") ht.typeIs slot_tuple_getitem
    (wpAny_call_entry slot_tuple_getitem ht.typeIs entry_tuple_getitem ?_ (args_tuple_getitem _ _)))
  show wpAny _ _ (Builtin.Tuple.tupleItemsOf (.ref t) >>= _) _ _ s
  refine wpAny_bind (tupleItemsOf_ ht ?_)
  refine wpAny_bind (wpAny_typeOf hTs ?_)
  rw [if_pos (by decide)]
  refine wpAny_bind (sliceApplied_rev hs ?_)
  show wpAny _ _ (if ((1 : Int) == 0 && (-1 : Int) == 1 && (2 : Nat) == 2) = true then _ else _) _ _ s
  rw [if_neg (by decide)]
  show wpAny _ _ (Builtin.Tuple.tupleExact #[y, x] >>= _) _ _ s
  first
    | exact wpAny_bind (m := Builtin.Tuple.tupleExact _) (wpAny_newObj_type (wpAny_pure ⟨_, rfl, wpAny_pure h⟩) hdrop)
    | exact wpAny_bind (m := Builtin.Tuple.tupleExact _) (wpAny_newObj_type (wpAny_bind (wpAny_pure (wpAny_pure ⟨_, rfl, wpAny_pure h⟩))) hdrop)
    | exact wpAny_bind (wpAny_bind (m := Builtin.Tuple.tupleExact _) (wpAny_newObj_type (wpAny_pure (wpAny_pure ⟨_, rfl, wpAny_pure h⟩)) hdrop))
    | exact wpAny_bind (wpAny_bind (m := Builtin.Tuple.tupleExact _) (wpAny_newObj_type (wpAny_pure ⟨_, rfl, wpAny_pure h⟩) hdrop))
theorem pe_revT {e : Expr} {te : TE} {k : Nat} {p1 p2 p3 pos : Pos} (he : PE X e te) : PE X (.Subscript e (.Slice none none (some (.UnaryOp .USub (.Constant (.int 1) k p1) p2)) p3) pos) (tRevT X.K te) := by
  refine ⟨fun pins s σ H Q I h => ?_⟩
  refine Subscript_ (thn (he.run pins s σ H _ I h) fun v s1 ⟨x, H1, I1, r1, q1⟩ => ?_)
  obtain ⟨a, v1, v2, ex, hx, q⟩ := q1
  subst ex
  cases r1
  have hst : PE X (.UnaryOp .USub (.Constant (.int 1) k p1) p2) (tUn (rU fun i => .int (-i)) (tC (.int 1))) := pe_un un_neg pe_int
  refine wpAny_Slice ?_
  rw [evalPart_none]
  refine wpAny_pure (wpAny_pure ?_)
  rw [evalPart_some]
  refine thn (hst.run pins s1 σ H1 (fun o H4 => o = .int (-1) ∧ H4 = H1) I1 ⟨1, rfl, rfl, rfl⟩) fun vs s4 ⟨o, H4, I4, ps, eo, e4⟩ => ?_
  subst eo e4
  obtain ⟨u, rfl⟩ := ps
  have I5 : Inv X pins σ H4 { s4 with heap := s4.heap.push { cls := .type "slice", data := .fields #[.none, .none, .int (-1) u] } } := I4.kept (t' := s4.toks) fun b ob q => Heap.get?_push_of_some _ q
  obtain ⟨its, r, ht, hz⟩ := I5.tuple hx
  cases r with
  | cons ra rb =>
    rename_i u1 t1
    cases rb with
    | cons rb rc =>
      rename_i u2 t2
      cases rc
      show wpAny (model X.prog X.w) X.A (subscriptTail e (.Slice none none (some (.UnaryOp .USub (.Constant (.int 1) k p1) p2)) p3) (.ref a) (.ref s4.heap.objs.size)) (EP X pins σ Q) X.xe { s4 with heap := s4.heap.push { cls := .type "slice", data := .fields #[.none, .none, .int (-1) u] } }
      refine tail_any (ops := [.ref a, .ref s4.heap.objs.size]) ht.typeIs slot_tuple_getitem.lookup ?_ (by with_unfolding_all rfl)
      refine getItem_rev ht (Heap.IsSliceOf.new _ .none .none (.int (-1) u)) ?_
      refine ⟨.ref _, _, I5.laid (t' := s4.toks) (o := .tup [v2, v1]) (fun b ob q => Heap.get?_push_of_some _ q) (Nat.le_refl _) ?_, rfl, q _ (I5.hok.fresh (Nat.le_refl _))⟩
      exact ⟨show 2 ≤ sizeLine by decide, [u2, u1], .cons rb (.cons ra .nil), IsTup.new _ _⟩
/-! ### < of ordered data -/
def rLtD (K : PySem.W.Frag) (α : Type) [DecidableEq α] [PySem.W.DatumOrd α] : R2 := fun x y H Q => ∃ a b : α, Dp K H x (PySem.W.Datum.toD a) ∧ Dp K H y (PySem.W.Datum.toD b) ∧ Q (.bl (PySem.W.DatumOrd.lt a b)) H
theorem op_ltD (α : Type) [DecidableEq α] [PySem.W.DatumOrd α] (hu : X.A.units + 64 < cLine) (hd : PySem.W.Datum.depth α ≤ 60) : OpR X (compareOp .Lt) (rLtD X.K α) := by
  intro pins s σ H x y v u Q I rx ry h
  obtain ⟨a, b, ha, hb, q⟩ := h
  obtain ⟨as, r1⟩ := Dp.reads I _ x v ha rx
  obtain ⟨bs, r2⟩ := Dp.reads I _ y u hb ry
  have hdep := PySem.W.Datum.depth_le a
  refine PySem.W.rcLt_alike (PySem.W.Datum.toD a) (PySem.W.Datum.toD b) X.A s v u as bs r1 r2 (PySem.W.DatumOrd.alike a b) (PySem.W.DatumOrd.notNone a) ?_ X.prog X.w X.xe _ ⟨.bl (PySem.W.DatumOrd.lt a b), H, I, ?_, q⟩
  · have : min (PyData.depth (PySem.W.Datum.toD a)) (PyData.depth (PySem.W.Datum.toD b)) ≤ 60 := by omega
    omega
  · rw [PySem.W.DatumOrd.lt_eq a b]; rfl
abbrev op_ltL (hu : X.A.units + 64 < cLine) : OpR X (compareOp .Lt) (rLtD X.K (List Int)) := op_ltD (List Int) hu (by decide)
abbrev op_ltIL (hu : X.A.units + 64 < cLine) : OpR X (compareOp .Lt) (rLtD X.K (Int × List Int)) := op_ltD (Int × List Int) hu (by decide)
/-! ### a plain object among plain objects of its class -/
theorem call_objEq2 {prog : Program} {w : World} {A : Around} {E : Value → Shared → Prop} {s : Shared} {K : PySem.W.Frag} {x y C : Addr} {ox oy : Obj} {od : Option Obj} {Q : Value → Shared → Prop} (X : K.In s.heap) (I : PySem.W.InstAt s.heap x ox C od)
    (hm : PySem.W.mroIn K C (.type "object") = some true) (hxy : x ≠ y) (hy : s.heap.get? y = some oy) (hq : Q .notImplemented s) :
    wpAny (model prog w) A (call (.builtin "object.__eq__") [.ref x, .ref y]) Q E s :=
  wpAny_call (codeAny_call_builtin PySem.F.cmp_object.eq.plain PySem.F.cmpEntry_eq (PySem.W.check_slot PySem.F.cmpKind_eq PySem.F.cmpSplit_eq (I.type.andThen (PySem.W.looks_mroIn X hm)) (PySem.F.cmpArgs_eq _ _)
    (objEq_entry_other hxy I.at_ hy (by rw [I.cls]; exact fun e => nomatch e) hq)))
theorem rc_inst {A : Around} {s : Shared} {K : PySem.W.Frag} {x y C : Addr} {ox oy : Obj} {od oe : Option Obj} (hu : A.units < cLine) (X : K.In s.heap) (I : PySem.W.InstAt s.heap x ox C od) (J : PySem.W.InstAt s.heap y oy C oe) (hxy : x ≠ y)
    (hm : PySem.W.mroIn K C (.type "object") = some true) (hs : PySem.W.findIn K (.ref C) "__eq__" = some (some (.builtin "object.__eq__"))) : PySem.SeqAt.RcAt A s (.ref x) (.ref y) false := fun prog w E Q h => by
  have one : wpAny (model prog w) A (tryCompare (.ref x) "__eq__" (.ref y)) (fun r s' => r = none ∧ s' = s) E s := by
    unfold tryCompare
    exact wpAny_bind (HN.ifBound_objEq X I hs (call_objEq2 X I hm hxy J.at_ (wpAny_pure ⟨rfl, rfl⟩)))
  have two : wpAny (model prog w) A (tryCompare (.ref y) "__eq__" (.ref x)) (fun r s' => r = none ∧ s' = s) E s := by
    unfold tryCompare
    exact wpAny_bind (HN.ifBound_objEq X J hs (call_objEq2 X J hm hxy.symm I.at_ (wpAny_pure ⟨rfl, rfl⟩)))
  simp only [richCompare, cmpInfo_Eq, oneThing_ref]
  refine wpAny_holding (wpAny_bind (wpAny_cRoomFor hu ?_))
  refine wpAny_bind (I.type.here ?_)
  refine wpAny_bind (J.type.here ?_)
  split
  · rename_i q
    simp at q
  · skip
    refine wpAny_bind (wpAny_pure ?_)
    simp only [Bool.false_eq_true, if_false, Bool.not_false, if_true]
    refine wpAny_bind (m := tryCompare (.ref x) _ (.ref y)) (wpAny_mono one (fun r s1 z => ?_) fun _ _ e => e)
    obtain ⟨z1, z2⟩ := z
    subst z1
    subst z2
    refine wpAny_bind (m := tryCompare (.ref y) _ (.ref x)) (wpAny_mono two (fun r s2 z => ?_) fun _ _ e => e)
    obtain ⟨z1, z2⟩ := z
    subst z1
    subst z2
    exact wpAny_bind (wpAny_rule (wpAny_bind (wpAny_isSame_ref_other hxy I.at_ J.at_ (by rw [I.cls]; exact fun e => nomatch e) (wpAny_pure h))))
theorem eqAt_inst {A : Around} {s : Shared} {K : PySem.W.Frag} {x y C : Addr} {ox oy : Obj} {od oe : Option Obj} (hu : A.units < cLine) (X : K.In s.heap) (I : PySem.W.InstAt s.heap x ox C od) (J : PySem.W.InstAt s.heap y oy C oe)
    (hm : PySem.W.mroIn K C (.type "object") = some true) (hs : PySem.W.findIn K (.ref C) "__eq__" = some (some (.builtin "object.__eq__"))) : PySem.SeqAt.EqAt A s (.ref x) (.ref y) (decide (x = y)) := by
  by_cases hxy : x = y
  · subst hxy
    rw [decide_eq_true rfl]
    exact PySem.SeqAt.EqAt.same _
  · rw [decide_eq_false hxy]
    intro prog w E Q h
    unfold eqBool
    refine wpAny_holding ?_
    refine wpAny_ite_split (fun hab => absurd (eq_of_beq hab) fun e => hxy (by injection e)) (fun _ => ?_)
    exact wpAny_bind (rc_inst hu X I J hxy hm hs prog w E _ (wpAny_truthy_bool h))
def rInO (K : PySem.W.Frag) (C : Addr) (neg : Bool) : R2 := fun x y H Q => ∃ (a p : Addr) (bs : List Addr), x = .ref a ∧ y = .ref p ∧ SqL K H p (bs.map V.ref) ∧ (∀ b ∈ a :: bs, ∃ dx fs, H b = some (.ins C dx fs)) ∧ Q (.bl (if neg then !decide (a ∈ bs) else decide (a ∈ bs))) H
theorem ins_at {pins : List (Addr × Obj)} {σ : L2.St} {H : Hp} {s : Shared} (I : L2.Inv X pins σ H s) {b C : Addr} (h : ∃ dx fs, H b = some (.ins C dx fs)) : ∃ ob od, PySem.W.InstAt s.heap b ob C od := by
  obtain ⟨dx, fs, hb⟩ := h
  obtain ⟨mA, O, _⟩ := ins_get I.hok hb
  obtain ⟨od, J, _⟩ := O.look
  exact ⟨_, _, J⟩
def eqR (a : Addr) (u : Value) : Bool := match u with
  | .ref b => decide (b = a)
  | _ => false
theorem any_eqR {a : Addr} : ∀ {bs : List Addr} {us : List Value}, Vals (bs.map V.ref) us → us.any (eqR a) = decide (a ∈ bs)
  | [], _, .nil => by simp
  | b :: bs, _ :: _, .cons r t => by
    cases r
    rw [List.any_cons, any_eqR t]
    show (decide (b = a) || decide (a ∈ bs)) = _
    rw [Bool.eq_iff_iff, Bool.or_eq_true, decide_eq_true_eq, decide_eq_true_eq, decide_eq_true_eq, List.mem_cons]
    exact ⟨fun h => h.elim (fun e => .inl e.symm) .inr, fun h => h.elim (fun e => .inl e.symm) .inr⟩
theorem mem_eqR {A : Around} {pins : List (Addr × Obj)} {σ : L2.St} {H : Hp} {s : Shared} (I : L2.Inv X pins σ H s) (hu : A.units < cLine) {C a : Addr} (hm : PySem.W.mroIn X.K C (.type "object") = some true) (hs : PySem.W.findIn X.K (.ref C) "__eq__" = some (some (.builtin "object.__eq__")))
    (ha : ∃ dx fs, H a = some (.ins C dx fs)) : ∀ {bs : List Addr} {us : List Value}, Vals (bs.map V.ref) us → (∀ b ∈ bs, ∃ dx fs, H b = some (.ins C dx fs)) → ∀ u ∈ us, PySem.SeqAt.EqAt A s u (.ref a) (eqR a u)
  | [], _, .nil, _ => fun u h => by cases h
  | b :: bs, _ :: _, .cons r t, hb => fun u h => by
    cases r
    rcases List.mem_cons.mp h with e | h
    · subst e
      obtain ⟨_, _, J1⟩ := ins_at I (hb b List.mem_cons_self)
      obtain ⟨_, _, J2⟩ := ins_at I ha
      exact eqAt_inst hu I.kIn J1 J2 hm hs
    · exact mem_eqR I hu hm hs ha t (fun x hx => hb x (List.mem_cons_of_mem _ hx)) u h
theorem op_inIns {C : Addr} (hu : X.A.units + 64 < cLine) (hm : PySem.W.mroIn X.K C (.type "object") = some true) (hs : PySem.W.findIn X.K (.ref C) "__eq__" = some (some (.builtin "object.__eq__"))) : OpR X (compareOp .In) (rInO X.K C false) := by
  intro pins s σ H x y v u Q I rx ry h
  obtain ⟨a, p, bs, rfl, rfl, hq, hb, q⟩ := h
  cases rx
  cases ry
  obtain ⟨its, rv, hl, _⟩ := I.list hq
  have hu1 : X.A.in1.units < cLine := by show X.A.units + 1 < cLine; omega
  refine PySem.SeqAt.in_listAt (eqR a) hl.isList (fun z hz => mem_eqR I hu1 hm hs (hb a List.mem_cons_self) rv (fun b h => hb b (List.mem_cons_of_mem _ h)) z (by simpa using hz)) ⟨.bl _, H, I, rfl, ?_⟩
  rw [show its.toArray.any (eqR a) = its.any (eqR a) by simp, any_eqR rv]
  exact q
theorem op_niIns {C : Addr} (hu : X.A.units + 64 < cLine) (hm : PySem.W.mroIn X.K C (.type "object") = some true) (hs : PySem.W.findIn X.K (.ref C) "__eq__" = some (some (.builtin "object.__eq__"))) : OpR X (compareOp .NotIn) (rInO X.K C true) := by
  intro pins s σ H x y v u Q I rx ry h
  obtain ⟨a, p, bs, rfl, rfl, hq, hb, q⟩ := h
  cases rx
  cases ry
  obtain ⟨its, rv, hl, _⟩ := I.list hq
  have hu1 : X.A.in1.units < cLine := by show X.A.units + 1 < cLine; omega
  refine PySem.SeqAt.notIn_listAt (eqR a) hl.isList (fun z hz => mem_eqR I hu1 hm hs (hb a List.mem_cons_self) rv (fun b h => hb b (List.mem_cons_of_mem _ h)) z (by simpa using hz)) ⟨.bl _, H, I, rfl, ?_⟩
  rw [show its.toArray.any (eqR a) = its.any (eqR a) by simp, any_eqR rv]
  exact q
end
/-! ### rules with the fragment named, for use within comprehensions -/
section
variable {X : Cx} {K : PySem.W.Frag}
theorem pe_fldK {e : Expr} {f : Str} {pos : Pos} {ta : TE} (he : PE X e ta) (hb : attributeBase e f X.env (eval e X.env) = eval e X.env) (hK : X.K = K := by rfl) : PE X (.Attribute e f pos) (tFld K ta f) := hK ▸ pe_fld he hb
theorem pg_tupK {es : List Expr} {k : Nat} {t : TGs} {n : Nat} {pos : Pos} (hc : X.calm = true) (h : PGs X es t)
    (hn : (assignEach es X.env).length = n := by rfl) (hst : (assignEach es X.env).findIdx? (·.1) = none := by rfl) (hK : X.K = K := by rfl) : PG X (.Tuple es k pos) (gTup K n t) := hK ▸ pg_tup hc h hn hst
theorem pi_listK {tg l : Expr} {tl : TE} (hl : PE X l tl) (hK : X.K = K := by rfl) : PI X tg l (iList K tl) := hK ▸ pi_list hl
theorem ix_listK (hK : X.K = K := by rfl) : IxR X (rIxL K) := hK ▸ ix_list
theorem ix_tupK (hK : X.K = K := by rfl) : IxR X (rIxT K) := hK ▸ ix_tup
theorem op_in_seqK (hK : X.K = K := by rfl) : OpR X (compareOp .In) (rIn K false) := hK ▸ op_in_seq
theorem op_notIn_seqK (hK : X.K = K := by rfl) : OpR X (compareOp .NotIn) (rIn K true) := hK ▸ op_notIn_seq
theorem op_niInsK {C : Addr} (hu : X.A.units + 64 < cLine) (hm : PySem.W.mroIn K C (.type "object") = some true) (hs : PySem.W.findIn K (.ref C) "__eq__" = some (some (.builtin "object.__eq__"))) (hK : X.K = K := by rfl) : OpR X (compareOp .NotIn) (rInO K C true) := by
  subst hK
  exact op_niIns hu hm hs
theorem op_inInsK {C : Addr} (hu : X.A.units + 64 < cLine) (hm : PySem.W.mroIn K C (.type "object") = some true) (hs : PySem.W.findIn K (.ref C) "__eq__" = some (some (.builtin "object.__eq__"))) (hK : X.K = K := by rfl) : OpR X (compareOp .In) (rInO K C false) := by
  subst hK
  exact op_inIns hu hm hs
theorem cr_anyK (hc : X.calm = true) (hK : X.K = K := by rfl) : CallR X (.builtin "any") (rAny K) := hK ▸ cr_any hc
theorem cr_allK (hc : X.calm = true) (hK : X.K = K := by rfl) : CallR X (.builtin "all") (rAll K) := hK ▸ cr_all hc
end
end Sw
set_option maxRecDepth 100000
set_option maxHeartbeats 2000000
/-! # Loops with what each turn makes; things that change; the rest -/
namespace Sw
open PySem L2
section
variable {N : Addr → Prop} {F0 H0 F1 H1 : Hp} {Γ Δ Θ : List (Option VP)} {W W' : Wd} {F H F2 H2 : Hp} {σ : L2.St} {A B C : As} {R : VK} {P P' : VP} {t u : TS} {te ta tb td tl : TE} {tt : TT} {b : Bool} {K : PySem.W.Frag}
theorem ht_forG {wi : TI} {js : List Nat} {g : TG} {n : Nat} {I : Nat → VP} {β : Nat → Type} (hi : ItG wi Γ W n I) (G : ∀ i, β i → List (Option VP)) (Ws : ∀ i, β i → Wd) (Gb : ∀ i, β i → List (Option VP)) (R1 : (Addr → Prop) → Hp → Hp → VK) (x0 : β 0)
    (hg : ∀ i (x : β i), i < n → TgG js g (I i) (G i x) (Gb i x))
    (hb : ∀ F1 H1 i (x : β i), i < n → HT (TyA (Nl N W) F1 H1 (Gb i x) (Ws i x)) t (fun σ H => ∃ x' : β (i + 1), TyA (Nl N W) F1 H1 (G (i + 1) x') (Ws (i + 1) x') σ H) (R1 (Nl N W) F1 H1))
    (hR : ∀ F1 H1 σ, TyS N F0 H0 Γ W F1 σ H1 → ∀ v H, R1 (Nl N W) F1 H1 v H → R v H) (e0 : Γ = G 0 x0 := by rfl) (w0 : W = Ws 0 x0 := by rfl) :
    HT (TyA N F0 H0 Γ W) (tFor wi g t) (fun σ H => ∃ x : β n, TyA N F0 H0 (G n x) (Ws n x) σ H) R := fun σ H D ⟨F, s⟩ nx rt => by
  refine hi σ F H s.ok _ fun J F1 H1 n1 wk => ?_
  obtain ⟨Gw, Y, wk, wG, wY⟩ := wk
  have s1 := s.next n1
  refine for_it wk (fun i σ H => ∃ (x : β i) (F : Hp), TyS (Nl N W) F1 H1 (G i x) (Ws i x) F σ H) ⟨x0, F1, e0 ▸ w0 ▸ s1.into⟩ (fun i σ H _ ⟨x, F, q⟩ => wG F H q.n.f q.ok.s (NoX.ex H)) ?_ ?_
  · rintro i x σ H H' hi ⟨z, F, q⟩ y
    obtain ⟨F2, n2, p⟩ := wY i x F H H' hi q.n.f q.ok.s y
    have q2 := q.next n2
    refine hg i z hi x σ F2 H' q2.ok.t n2.s p _ fun σ' t' _ => ?_
    exact hb F1 H1 i z hi σ' H' _ ⟨F2, q2.slots t'⟩ (fun σ'' H'' q' => q') fun v H'' r => rt v H'' (hR F1 H1 _ s1 v H'' r)
  · rintro σ H ⟨x, F, q⟩
    exact nx σ H ⟨x, F, s1.back q⟩
theorem getD_map {α : Type} {l : List α} {f : α → VP} {i : Nat} {x : α} (h : l[i]? = some x) : (l.map f).getD i NonP = f x := by
  rw [List.getD_eq_getElem?_getD, List.getElem?_map, h]; rfl
theorem lt_get {α : Type} {l : List α} {i : Nat} (h : i < l.length) : ∃ x, l[i]? = some x := ⟨l[i], by simp [h]⟩
/-- for x in a list -/
theorem ht_forL {α : Type} {l : List α} {f : α → VP} {j : Nat} {β : Nat → Type} (hl : EvG tl Γ W (LstP (l.map f))) (G : ∀ i, β i → List (Option VP)) (Ws : ∀ i, β i → Wd) (R1 : (Addr → Prop) → Hp → Hp → VK) (x0 : β 0)
    (hb : ∀ F1 H1 i x (b : β i), l[i]? = some x → HT (TyA (Nl N W) F1 H1 ((G i b).set j (some (f x))) (Ws i b)) t (fun σ H => ∃ b' : β (i + 1), TyA (Nl N W) F1 H1 (G (i + 1) b') (Ws (i + 1) b') σ H) (R1 (Nl N W) F1 H1))
    (hR : ∀ F1 H1 σ, TyS N F0 H0 Γ W F1 σ H1 → ∀ v H, R1 (Nl N W) F1 H1 v H → R v H) (e0 : Γ = G 0 x0 := by rfl) (w0 : W = Ws 0 x0 := by rfl) :
    HT (TyA N F0 H0 Γ W) (tFor (iList K tl) (gName j) t) (fun σ H => ∃ b : β l.length, TyA N F0 H0 (G l.length b) (Ws l.length b) σ H) R := by
  have h := ht_forG (N := N) (F0 := F0) (H0 := H0) (t := t) (R := R) (js := [j]) (g := gName j) (it_list (K := K) hl) G Ws (fun i b => (G i b).set j (some ((l.map f).getD i NonP))) R1 x0 (fun i x hi => tg_name) (fun F1 H1 i b hi => ?_) hR e0 w0
  · rw [List.length_map] at h
    exact h
  · rw [List.length_map] at hi
    obtain ⟨x, hx⟩ := lt_get hi
    rw [getD_map hx]
    exact hb F1 H1 i x b hx
/-- for x, y in a list of pairs -/
theorem ht_forLT {α : Type} {l : List α} {f f2 : α → VP} {j k : Nat} {β : Nat → Type} (hl : EvG tl Γ W (LstP (l.map fun x => TupP [f x, f2 x]))) (G : ∀ i, β i → List (Option VP)) (Ws : ∀ i, β i → Wd) (R1 : (Addr → Prop) → Hp → Hp → VK) (x0 : β 0)
    (hb : ∀ F1 H1 i x (b : β i), l[i]? = some x → HT (TyA (Nl N W) F1 H1 (((G i b).set j (some (f x))).set k (some (f2 x))) (Ws i b)) t (fun σ H => ∃ b' : β (i + 1), TyA (Nl N W) F1 H1 (G (i + 1) b') (Ws (i + 1) b') σ H) (R1 (Nl N W) F1 H1))
    (hR : ∀ F1 H1 σ, TyS N F0 H0 Γ W F1 σ H1 → ∀ v H, R1 (Nl N W) F1 H1 v H → R v H) (e0 : Γ = G 0 x0 := by rfl) (w0 : W = Ws 0 x0 := by rfl) :
    HT (TyA N F0 H0 Γ W) (tFor (iList K tl) (gTup K 2 (gCons (gName j) (gCons (gName k) gNil))) t) (fun σ H => ∃ b : β l.length, TyA N F0 H0 (G l.length b) (Ws l.length b) σ H) R := by
  rcases l with _ | ⟨a0, l⟩
  · have h := ht_forG (N := N) (F0 := F0) (H0 := H0) (t := t) (R := R) (js := []) (g := gTup K 2 (gCons (gName j) (gCons (gName k) gNil))) (it_list (K := K) hl) G Ws (fun i b => G i b) R1 x0 (fun i x hi => by simp at hi) (fun F1 H1 i b hi => by simp at hi) hR e0 w0
    exact h
  have h := ht_forG (N := N) (F0 := F0) (H0 := H0) (t := t) (R := R) (js := [j, k]) (g := gTup K 2 (gCons (gName j) (gCons (gName k) gNil))) (it_list (K := K) hl) G Ws (fun i b => ((G i b).set j (some (f ((a0 :: l).getD i a0)))).set k (some (f2 ((a0 :: l).getD i a0)))) R1 x0 (fun i x hi => ?_) (fun F1 H1 i b hi => ?_) hR e0 w0
  · rw [List.length_map] at h
    exact h
  · rw [List.length_map] at hi
    obtain ⟨y, hy⟩ := lt_get hi
    rw [getD_map hy, show (a0 :: l).getD i a0 = y by rw [List.getD_eq_getElem?_getD, hy]; rfl]
    exact tg_tup2
  · rw [List.length_map] at hi
    obtain ⟨y, hy⟩ := lt_get hi
    rw [show (a0 :: l).getD i a0 = y by rw [List.getD_eq_getElem?_getD, hy]; rfl]
    exact hb F1 H1 i y b hy
/-- for k in a dict -/
theorem ht_forKB {α : Type} {Rf : α → VP} {es : List (Nat × α)} {j : Nat} {β : Nat → Type} (hv : EvV td Γ W (DctP Rf es)) (G : ∀ i, β i → List (Option VP)) (Ws : ∀ i, β i → Wd) (x0 : β 0)
    (hb : ∀ F1 H1 i e (b : β i), es[i]? = some e → HT (TyA (Nl N W) F1 H1 ((G i b).set j (some (IntP (e.1 : Int)))) (Ws i b)) t (fun σ H => ∃ b' : β (i + 1), TyA (Nl N W) F1 H1 (G (i + 1) b') (Ws (i + 1) b') σ H) (fun _ _ => False))
    (e0 : Γ = G 0 x0 := by rfl) (w0 : W = Ws 0 x0 := by rfl) :
    HT (TyA N F0 H0 Γ W) (tLk (tFor (iKeys td) (gName j) t)) (fun σ H => ∃ b : β es.length, TyA N F0 H0 (G es.length b) (Ws es.length b) σ H) R := fun σ H D ⟨F, s⟩ nx rt => by
  obtain ⟨v, ⟨d, kvs, rfl, h2, h3⟩, hk⟩ := hv σ F H s.ok
  have turn : ∀ (ob : Obj) (H1 : Hp) (D' : Ends) (s1 : TyS (Nl N W) F H1 Γ W F σ H1), H1 d = some (.frz ob (.dK kvs)) → (∀ σ' H', (∃ (b : β es.length) (F' : Hp), TyS (Nl N W) F H1 (G es.length b) (Ws es.length b) F' σ' H') → D'.nx σ' H') → tFor (iKeys td) (gName j) t D' σ H1 := by
    intro ob H1 D' s1 hd1 nx'
    refine hk H1 s1.ok.s s1.ok.x _ ⟨d, ob, rfl, .inl ⟨kvs, hd1, ?_⟩⟩
    have hNd : ¬ Nl N W d := fun z => by rw [(s1.nn d z).2] at h2; cases h2
    have wk := wk_keys (X := fun a => if a = d then H1 d else none) h3 (by rw [if_pos rfl]; exact hd1)
    obtain ⟨Gw, Y, wk, wG, wY⟩ := wk
    refine for_it wk (fun i σ H => ∃ (b : β i) (F' : Hp), TyS (Nl N W) F H1 (G i b) (Ws i b) F' σ H) ⟨x0, F, e0 ▸ w0 ▸ s1⟩ (fun i σ H' _ ⟨b, F', q⟩ => wG F' H' q.n.f q.ok.s fun a o e => ?_) ?_ ?_
    · have e : (if a = d then H1 d else none) = some o := e
      by_cases c : a = d
      · rw [if_pos c] at e
        subst c
        exact q.n.h a o hNd e
      · rw [if_neg c] at e; cases e
    · rintro i x σ1 H2 H2' hi ⟨b, F', q⟩ y
      obtain ⟨F2, n2, p⟩ := wY i x F' H2 H2' hi q.n.f q.ok.s y
      obtain ⟨e, he⟩ : ∃ e, es[i]? = some e := ⟨es[i], by simp [hi]⟩
      have p' : (IntP (e.1 : Int)) x F2 := by
        have : (es.map fun e => (e.1 : Int)).getD i 0 = (e.1 : Int) := by
          rw [List.getD_eq_getElem?_getD, List.getElem?_map, he]; rfl
        rw [← this]; exact p
      exact hb F H1 i e b he _ _ _ ⟨F2, (q.next n2).set p'⟩ (fun σ'' H'' q' => q') fun v H'' r => r.elim
    · rintro σ1 H2 ⟨b, F', q⟩
      exact nx' σ1 H2 ⟨b, F', q⟩
  obtain ⟨_, hu | ⟨ob, kvs', e, hu⟩⟩ := s.ok.s d _ h2
  · refine .inl ⟨d, .dK kvs, hu, trivial, fun ob => ?_⟩
    refine turn ob _ _ (lock_ok (σ' := σ) s h2 hu) upd_same ?_
    rintro σ' H' ⟨b, F', q⟩
    obtain ⟨a, c⟩ := lock_back (σ' := σ') s h2 hu q
    exact ⟨a, nx σ' _ ⟨b, F', c⟩⟩
  · cases e
    refine .inr ?_
    refine turn ob H D s.into hu ?_
    rintro σ' H' ⟨b, F', q⟩
    exact nx σ' H' ⟨b, F', s.back q⟩
/-! ### comprehensions over lists and dicts -/
theorem givn_list {α : Type} (f : α → VP) (p : α → Bool) : ∀ (l : List α) {b : Nat → Bool} {Pe : Nat → VP}, (∀ i x, l[i]? = some x → b i = p x) → (∀ i x, l[i]? = some x → Pe i = f x) → givn b Pe l.length = (l.filter p).map f := by
  intro l
  induction l with
  | nil => intro b Pe _ _; rfl
  | cons a l ih =>
    intro b Pe hb he
    have ih' := ih (b := fun i => b (i + 1)) (Pe := fun i => Pe (i + 1)) (fun i x h => hb (i + 1) x (by simpa using h)) fun i x h => he (i + 1) x (by simpa using h)
    unfold givn at ih' ⊢
    rw [List.length_cons, List.range_succ_eq_map, List.filter_cons, List.filter_map, List.filter_cons]
    have e0 := hb 0 a rfl
    have e1 := he 0 a rfl
    rw [e0]
    cases p a with
    | true =>
      simp only [if_pos, List.map_cons, List.map_map]
      rw [e1, ← ih']
      rfl
    | false =>
      simp only [Bool.false_eq_true, if_false, List.map_map]
      rw [← ih']
      rfl
theorem ev_lcL {α : Type} {l : List α} {f : α → VP} {j : Nat} {vs : List Nat} (hl : EvG tl Γ W (LstP (l.map f))) (p : α → Bool) (g : α → VP)
    (ht : ∀ x ∈ l, EvT tt ((wipeG Γ vs).set j (some (f x))) W (p x)) (he : ∀ x ∈ l, p x = true → EvG te ((wipeG Γ vs).set j (some (f x))) W (g x)) (hn : l.length < 16000000) (hjs : ∀ i ∈ [j], i ∈ vs := by decide) :
    EvG (tLc (iList K tl) (gName j) tt te vs) Γ W (LstP ((l.filter p).map g)) := by
  rcases l with _ | ⟨a, l⟩
  · exact ev_lc (it_list hl) (fun i => Γ) (fun _ => false) (fun _ => NonP) (fun i hi => by simp at hi) (fun i hi => by simp at hi) (fun i hi => by simp at hi) (by simp) hjs
  have h := ev_lc (tt := tt) (te := te) (vs := vs) (it_list (K := K) hl) (fun i => (wipeG Γ vs).set j (some (((a :: l).map f).getD i NonP))) (fun i => p ((a :: l).getD i a)) (fun i => g ((a :: l).getD i a)) (fun i hi => tg_name) (fun i hi => ?_) (fun i hi hb => ?_) (by simpa using hn) hjs
  · rw [List.length_map, givn_list g p (a :: l) (fun i x hx => ?_) (fun i x hx => ?_)] at h
    · exact h
    · rw [List.getD_eq_getElem?_getD, hx]; rfl
    · rw [List.getD_eq_getElem?_getD, hx]; rfl
  · rw [List.length_map] at hi
    obtain ⟨y, hy⟩ := lt_get hi
    rw [getD_map hy, show (a :: l).getD i a = y by rw [List.getD_eq_getElem?_getD, hy]; rfl]
    exact ht y (List.mem_of_getElem? hy)
  · rw [List.length_map] at hi
    obtain ⟨y, hy⟩ := lt_get hi
    rw [show (a :: l).getD i a = y by rw [List.getD_eq_getElem?_getD, hy]; rfl] at hb ⊢
    rw [getD_map hy]
    exact he y (List.mem_of_getElem? hy) hb
theorem ev_lcLT {α : Type} {l : List α} {f f2 : α → VP} {j k : Nat} {vs : List Nat} (hl : EvG tl Γ W (LstP (l.map fun x => TupP [f x, f2 x]))) (p : α → Bool) (g : α → VP)
    (ht : ∀ x ∈ l, EvT tt (((wipeG Γ vs).set j (some (f x))).set k (some (f2 x))) W (p x)) (he : ∀ x ∈ l, p x = true → EvG te (((wipeG Γ vs).set j (some (f x))).set k (some (f2 x))) W (g x)) (hn : l.length < 16000000) (hjs : ∀ i ∈ [j, k], i ∈ vs := by decide) :
    EvG (tLc (iList K tl) (gTup K 2 (gCons (gName j) (gCons (gName k) gNil))) tt te vs) Γ W (LstP ((l.filter p).map g)) := by
  rcases l with _ | ⟨a, l⟩
  · exact ev_lc (js := [j, k]) (it_list hl) (fun i => Γ) (fun _ => false) (fun _ => NonP) (fun i hi => by simp at hi) (fun i hi => by simp at hi) (fun i hi => by simp at hi) (by simp) hjs
  have h := ev_lc (tt := tt) (te := te) (vs := vs) (js := [j, k]) (g := gTup K 2 (gCons (gName j) (gCons (gName k) gNil))) (it_list (K := K) hl) (fun i => ((wipeG Γ vs).set j (some (f ((a :: l).getD i a)))).set k (some (f2 ((a :: l).getD i a)))) (fun i => p ((a :: l).getD i a)) (fun i => g ((a :: l).getD i a)) (fun i hi => ?_) (fun i hi => ?_) (fun i hi hb => ?_) (by simpa using hn) hjs
  · rw [List.length_map, givn_list g p (a :: l) (fun i x hx => ?_) (fun i x hx => ?_)] at h
    · exact h
    · rw [List.getD_eq_getElem?_getD, hx]; rfl
    · rw [List.getD_eq_getElem?_getD, hx]; rfl
  · rw [List.length_map] at hi
    obtain ⟨y, hy⟩ := lt_get hi
    rw [getD_map hy, show (a :: l).getD i a = y by rw [List.getD_eq_getElem?_getD, hy]; rfl]
    exact tg_tup2
  · rw [List.length_map] at hi
    obtain ⟨y, hy⟩ := lt_get hi
    rw [show (a :: l).getD i a = y by rw [List.getD_eq_getElem?_getD, hy]; rfl]
    exact ht y (List.mem_of_getElem? hy)
  · rw [List.length_map] at hi
    obtain ⟨y, hy⟩ := lt_get hi
    rw [show (a :: l).getD i a = y by rw [List.getD_eq_getElem?_getD, hy]; rfl] at hb ⊢
    exact he y (List.mem_of_getElem? hy) hb
theorem ev_lcKL {α : Type} {Rf : α → VP} {es : List (Nat × α)} {j : Nat} {vs : List Nat} (hv : EvV td Γ W (DctP Rf es)) (p : Nat × α → Bool) (g : Nat × α → VP)
    (ht : ∀ e ∈ es, EvT tt ((wipeG Γ vs).set j (some (IntP (e.1 : Int)))) W (p e)) (he : ∀ e ∈ es, p e = true → EvG te ((wipeG Γ vs).set j (some (IntP (e.1 : Int)))) W (g e)) (hn : es.length < 16000000) (hjs : ∀ i ∈ [j], i ∈ vs := by decide) :
    EvG (tLkE (tLc (iKeys td) (gName j) tt te vs)) Γ W (LstP ((es.filter p).map g)) := by
  rcases es with _ | ⟨a, l⟩
  · exact ev_lcK (js := [j]) hv (fun i => Γ) (fun _ => false) (fun _ => NonP) (fun i hi => by simp at hi) (fun i hi => by simp at hi) (fun i hi => by simp at hi) (by simp) hjs
  have key : ∀ i, ((a :: l).map fun e => (e.1 : Int)).getD i 0 = if i < (a :: l).length then ((((a :: l).getD i a).1 : Nat) : Int) else 0 := fun i => by
    rw [List.getD_eq_getElem?_getD, List.getElem?_map, List.getD_eq_getElem?_getD]
    by_cases c : i < (a :: l).length
    · obtain ⟨y, hy⟩ := lt_get c
      rw [if_pos c, hy]; rfl
    · rw [if_neg c, List.getElem?_eq_none (by omega)]; rfl
  have h := ev_lcK (tt := tt) (te := te) (vs := vs) (js := [j]) (g := gName j) hv (fun i => (wipeG Γ vs).set j (some (IntP ((((a :: l).getD i a).1 : Nat) : Int)))) (fun i => p ((a :: l).getD i a)) (fun i => g ((a :: l).getD i a)) (fun i hi => ?_) (fun i hi => ?_) (fun i hi hb => ?_) hn hjs
  · rw [givn_list g p (a :: l) (fun i x hx => ?_) (fun i x hx => ?_)] at h
    · exact h
    · rw [List.getD_eq_getElem?_getD, hx]; rfl
    · rw [List.getD_eq_getElem?_getD, hx]; rfl
  · rw [key, if_pos hi]
    exact tg_name
  · obtain ⟨y, hy⟩ := lt_get hi
    rw [show (a :: l).getD i a = y by rw [List.getD_eq_getElem?_getD, hy]; rfl]
    exact ht y (List.mem_of_getElem? hy)
  · obtain ⟨y, hy⟩ := lt_get hi
    rw [show (a :: l).getD i a = y by rw [List.getD_eq_getElem?_getD, hy]; rfl] at hb ⊢
    exact he y (List.mem_of_getElem? hy) hb
theorem filter_yes {α : Type} (l : List α) : l.filter (fun _ => true) = l := by simp
/-! ### dicts that change -/
theorem ev_dinM {α : Type} {i n : Nat} {d : Addr} {kvs : List (Key × V)} {Rf : α → VP} {es : List (Nat × α)} (hb : EvG tb Γ (W.dct d kvs Rf es) (IntP (n : Int))) (hs : Γ[i]? = some (some (IsP (.ref d)))) :
    EvG (tDIn tb (tVar i)) Γ (W.dct d kvs Rf es) (BoolP (Pl.getA es n).isSome) := fun σ F H o Q k => by
  refine hb σ F H o _ fun y F1 H1 n1 p1 => ?_
  have o1 := o.next n1
  obtain ⟨u, h1, rfl⟩ := o1.t.get hs
  have hd : H1 d = some (.dK kvs) := o1.x d _ upd_same
  exact ⟨_, h1, d, valV kvs (Sum.inl (n : Int)), rfl, .inl ⟨kvs, Sum.inl (n : Int), .inl hd, p1, rfl⟩, k _ _ _ n1 (by rw [look_any o1.g.2 n]; rfl)⟩
theorem ev_dninM {α : Type} {i n : Nat} {d : Addr} {kvs : List (Key × V)} {Rf : α → VP} {es : List (Nat × α)} (hb : EvG tb Γ (W.dct d kvs Rf es) (IntP (n : Int))) (hs : Γ[i]? = some (some (IsP (.ref d)))) :
    EvG (tDNotIn tb (tVar i)) Γ (W.dct d kvs Rf es) (BoolP (!(Pl.getA es n).isSome)) := fun σ F H o Q k => by
  refine hb σ F H o _ fun y F1 H1 n1 p1 => ?_
  have o1 := o.next n1
  obtain ⟨u, h1, rfl⟩ := o1.t.get hs
  have hd : H1 d = some (.dK kvs) := o1.x d _ upd_same
  exact ⟨_, h1, d, valV kvs (Sum.inl (n : Int)), rfl, .inl ⟨kvs, Sum.inl (n : Int), .inl hd, p1, rfl⟩, k _ _ _ n1 (by rw [look_any o1.g.2 n]; rfl)⟩
/-- d.get(k, y) -/
theorem ev_get2M {α : Type} {i n : Nat} {d : Addr} {kvs : List (Key × V)} {Rf : α → VP} {es : List (Nat × α)} {y : α} (hs : Γ[i]? = some (some (IsP (.ref d)))) (hb : EvG tb Γ (W.dct d kvs Rf es) (IntP (n : Int))) (hy : EvG te Γ (W.dct d kvs Rf es) (Rf y)) :
    EvG (tDGet2 (tVar i) tb te) Γ (W.dct d kvs Rf es) (Rf ((Pl.getA es n).getD y)) := fun σ F H o Q k => by
  obtain ⟨u, h1, rfl⟩ := o.t.get hs
  have hd : H d = some (.dK kvs) := o.x d _ upd_same
  refine ⟨_, h1, d, rfl, .inl ⟨kvs, .inl hd⟩, hb σ F H o _ fun z F1 H1 n1 p1 => ?_⟩
  refine hy σ F1 H1 (o.next n1) _ fun w F2 H2 n2 p2 => ?_
  have o2 := (o.next n1).next n2
  obtain rfl : z = V.int (n : Int) := p1
  have hd2 : H2 d = some (.dK kvs) := o2.x d _ upd_same
  refine ⟨valV kvs (Sum.inl (n : Int)), .inl ⟨kvs, Sum.inl (n : Int), .inl hd2, rfl, rfl⟩, k _ _ _ (New.trans n1 n2) ?_⟩
  have e2 : Ents Rf es kvs F2 := o2.g.2
  cases e : Pl.getA es n with
  | some x =>
    obtain ⟨v, q1, q2⟩ := e2.get.1 x e
    rw [q1]; exact q2
  | none =>
    rw [e2.get.2 e]; exact p2
/-- x = d.pop(k) -/
theorem ht_dpop {α : Type} {i j n : Nat} {d : Addr} {kvs : List (Key × V)} {Rf : α → VP} {es : List (Nat × α)} {x : α} (hs : Γ[i]? = some (some (IsP (.ref d)))) (hk : EvG tb Γ (W.dct d kvs Rf es) (IntP (n : Int))) (hx : Pl.getA es n = some x) (e : Γ.set j (some (Rf x)) = Δ := by rfl) :
    HT (TyA N F0 H0 Γ (W.dct d kvs Rf es)) (tAsg (tDPop1 (tVar i) tb) (gName j)) (fun σ H => ∃ lvs, TyA N F0 H0 Δ (W.dct d lvs Rf (Pl.dropA es n)) σ H) R := fun σ H D ⟨F, s⟩ nx rt => by
  subst e
  obtain ⟨u, h1, rfl⟩ := s.ok.t.get hs
  have hd : H d = some (.dK kvs) := s.ok.x d _ upd_same
  refine ⟨_, h1, d, rfl, .inl ⟨kvs, .inl hd⟩, hk σ F H s.ok _ fun y F1 H1 n1 p1 => ?_⟩
  have s1 := s.next n1
  obtain rfl : y = V.int (n : Int) := p1
  have hd1 : H1 d = some (.dK kvs) := s1.ok.x d _ upd_same
  have e1 : Ents Rf es kvs F1 := s1.ok.g.2
  obtain ⟨v, q1, q2⟩ := e1.get.1 x hx
  refine ⟨kvs, Sum.inl (n : Int), v, hd1, rfl, q1, nx _ _ ⟨dropK kvs (Sum.inl (n : Int)), F1, ?_⟩⟩
  exact (s1.change (W2 := W.dct d (dropK kvs (Sum.inl (n : Int))) Rf (Pl.dropA es n)) (.inl rfl) put_put.1 put_put.2 ⟨s1.ok.g.1, e1.drop⟩).set q2
/-- x = l.pop() -/
theorem ht_lpop {i j : Nat} {l : Addr} {xs : List V} {Ps : List VP} {G : List (Option VP)} (hs : Γ[i]? = some (some (IsP (.ref l)))) (e : Γ.set j (some P) = Δ := by rfl) :
    HT (TyA N F0 H0 Γ (W.lst l xs (Ps ++ [P]))) (tAsg (tBM0 K "list" rPop (tVar i)) (gName j)) (fun σ H => ∃ ys, TyA N F0 H0 Δ (W.lst l ys Ps) σ H) R := fun σ H D ⟨F, s⟩ nx rt => by
  subst e
  obtain ⟨v, h1, rfl⟩ := s.ok.t.get hs
  have hl : H l = some (.lst xs) := s.ok.x l _ upd_same
  have a : AllP (Ps ++ [P]) xs F := s.ok.g.2
  have hlen := a.len
  rw [List.length_append, List.length_singleton] at hlen
  obtain ⟨y, hy, py⟩ := a.get (i := Ps.length) (P := P) (by simp)
  have hxs : xs = xs.dropLast ++ [y] := by
    have hne : xs ≠ [] := fun q => by rw [q] at hlen; simp at hlen
    rw [List.getElem?_eq_some_iff] at hy
    obtain ⟨h1, h2⟩ := hy
    have : xs.getLast hne = y := by rw [List.getLast_eq_getElem]; simp only [hlen, Nat.add_sub_cancel]; exact h2
    rw [← this, List.dropLast_concat_getLast]
  have key : ∀ {Qs : List VP} {zs : List V}, AllP (Qs ++ [P]) (zs ++ [y]) F → zs.length = Qs.length → AllP Qs zs F := by
    intro Qs
    induction Qs with
    | nil => intro zs _ hz; cases zs with
      | nil => trivial
      | cons _ _ => simp at hz
    | cons q Qs ih => intro zs hA hz; cases zs with
      | nil => simp at hz
      | cons z zs => exact ⟨hA.1, ih hA.2 (Nat.succ.inj hz)⟩
  have a2 : AllP Ps xs.dropLast F := key (hxs ▸ a) (by rw [List.length_dropLast]; omega)
  refine ⟨_, h1, tyV_lst hl, l, xs, y, rfl, rfl, hl, by rw [show xs.length - 1 = Ps.length by omega]; exact hy, nx _ _ ⟨xs.dropLast, F, ?_⟩⟩
  exact (s.change (W2 := W.lst l xs.dropLast Ps) (.inl rfl) put_put.1 put_put.2 ⟨s.ok.g.1, a2⟩).set py
/-! ### the rest of the expressions -/
theorem ev_lenSet {ns : List Int} (h : EvG te Γ W (LstP (ns.map IntP))) (hl : ns.length ≤ 4000) : EvG (tLenSetG K te) Γ W (IntP ((uniq ns).length : Int)) := fun σ F H o Q k => by
  refine h σ F H o _ fun v F1 H1 n p => ?_
  obtain ⟨a, xs, rfl, h2, h3⟩ := p
  rw [h3.ints] at h2
  exact ⟨a, ns, rfl, SqL.of (n.s.lst h2), hl, k _ _ _ n rfl⟩
theorem ev_oneShl {n : Nat} (h : EvG tb Γ W (IntP (n : Int))) (hn : n ≤ 1000) : EvG (tOp rOneShl (tC (.int 1)) tb) Γ W (IntP (2 ^ n)) := ev_op (P := IntP 1) ev_int h fun x y F H hx hy s _ _ Q k => ⟨n, hx, hy, by omega, k.here s rfl⟩
theorem ev_shr {i : Int} {n : Nat} (ha : EvG ta Γ W (IntP i)) (h : EvG tb Γ W (IntP (n : Int))) : EvG (tOp rShrN ta tb) Γ W (IntP (i / 2 ^ n)) := ev_op ha h fun x y F H hx hy s _ _ Q k => ⟨i, n, hx, hy, k.here s rfl⟩
theorem ev_odd {n : Nat} (ha : EvG ta Γ W (IntP (n : Int))) : EvG (tOp rOdd ta (tC (.int 1))) Γ W (IntP ((n % 2 : Nat) : Int)) := ev_op (P' := IntP 1) ha ev_int fun x y F H hx hy s _ _ Q k => ⟨n, hx, hy, k.here s rfl⟩
theorem dp_ints {H : Hp} : ∀ ns : List Int, DpAll K H (ns.map V.int) (ns.map PySem.W.Datum.toD)
  | [] => .nil
  | n :: ns => .cons (.int n) (dp_ints ns)
theorem dp_lst {v : V} {ns : List Int} {F H : Hp} (s : Sub F H) (h : LstP (ns.map IntP) v F) : Dp K H v (PySem.W.Datum.toD ns) := by
  obtain ⟨a, xs, rfl, h2, h3⟩ := h
  rw [h3.ints] at h2
  exact .lst (SqL.of (s.lst h2)) (dp_ints ns)
theorem ev_ltL {ns ms : List Int} (ha : EvG ta Γ W (LstP (ns.map IntP))) (hb : EvG tb Γ W (LstP (ms.map IntP))) : EvG (tOp (rLtD K (List Int)) ta tb) Γ W (BoolP (PySem.W.DatumOrd.lt ns ms)) :=
  ev_op ha hb fun x y F H hx hy s _ _ Q k => ⟨ns, ms, dp_lst s hx, dp_lst s hy, k.here s rfl⟩
theorem dp_il {v : V} {i : Int} {ns : List Int} {F H : Hp} (s : Sub F H) (h : TupP [IntP i, LstP (ns.map IntP)] v F) : Dp K H v (PySem.W.Datum.toD (i, ns)) := by
  obtain ⟨a, xs, rfl, h2, h3⟩ := h
  match xs, h3 with
  | [x, y], h3 =>
    obtain rfl : x = V.int i := h3.1
    exact .tup (SqT.of (s.tup h2)) (.cons (.int i) (.cons (dp_lst s h3.2.1) .nil))
theorem ev_ltIL {i j : Int} {ns ms : List Int} (ha : EvG ta Γ W (TupP [IntP i, LstP (ns.map IntP)])) (hb : EvG tb Γ W (TupP [IntP j, LstP (ms.map IntP)])) : EvG (tOp (rLtD K (Int × List Int)) ta tb) Γ W (BoolP (PySem.W.DatumOrd.lt (i, ns) (j, ms))) :=
  ev_op ha hb fun x y F H hx hy s _ _ Q k => ⟨(i, ns), (j, ms), dp_il s hx, dp_il s hy, k.here s rfl⟩
theorem dp_fr {v : V} {q : Rat} {F H : Hp} (s : Sub F H) (h : FrP q v F) : Dp K H v (.tuple [.int q.num, .int (q.den : Int)]) := by
  obtain ⟨a, xs, rfl, h2, h3⟩ := h
  match xs, h3 with
  | [x, y], h3 =>
    obtain rfl : x = _ := h3.1
    obtain rfl : y = _ := h3.2.1
    exact .tup (SqT.of (s.tup h2)) (.cons (.int _) (.cons (.int _) .nil))
theorem ev_neFr {q r : Rat} (ha : EvG ta Γ W (FrP q)) (hb : EvG tb Γ W (FrP r)) : EvG (tOp (rNeD K) ta tb) Γ W (BoolP (!decide (q = r))) :=
  ev_op ha hb fun x y F H hx hy s _ _ Q k => by
    refine ⟨_, _, dp_fr s hx, dp_fr s hy, rfl, rfl, k.here s ?_⟩
    show V.bl _ = V.bl _
    congr 2
    rw [Bool.eq_iff_iff, decide_eq_true_eq]
    simp only [PyData.eqv, PyData.eqvAll, Bool.and_eq_true, beq_iff_eq, Bool.and_true]
    constructor
    · rintro ⟨h1, h2⟩; exact Rat.ext h1 (by omega)
    · rintro rfl; exact ⟨rfl, rfl⟩
theorem ev_revT {P1 P2 : VP} (h : EvG te Γ W (TupP [P1, P2])) : EvG (tRevT K te) Γ W (TupP [P2, P1]) := fun σ F H o Q k => by
  refine h σ F H o _ fun v F1 H1 n p => ?_
  obtain ⟨a, xs, rfl, h2, h3⟩ := p
  match xs, h3 with
  | [x, y], h3 =>
    refine ⟨a, x, y, rfl, SqT.of (n.s.tup h2), fun p hp => k _ _ _ (New.trans n (New.upd n.s hp)) ⟨p, _, rfl, upd_same, ?_⟩⟩
    exact ⟨P2.mono h3.2.1 (Ex.upd (n.s.free hp)), P1.mono h3.1 (Ex.upd (n.s.free hp)), trivial⟩
/-- the objects a and bs, all of the class C -/
theorem ev_inO {C a : Addr} {Ps : List (Str × VP)} {bs : List (Addr × List (Str × VP))} {neg : Bool} (ha : EvG ta Γ W (AtP (.ref a) (ObjP C Ps))) (hb : EvG tb Γ W (LstP (bs.map fun b => AtP (.ref b.1) (ObjP C b.2)))) :
    EvG (tOp (rInO K C neg) ta tb) Γ W (BoolP (if neg then !decide (a ∈ bs.map (·.1)) else decide (a ∈ bs.map (·.1)))) := ev_op ha hb fun x y F H hx hy s _ _ Q k => by
  obtain ⟨p, xs, rfl, h2, h3⟩ := hy
  have key : ∀ {bs : List (Addr × List (Str × VP))} {xs : List V}, AllP (bs.map fun b => AtP (.ref b.1) (ObjP C b.2)) xs F → xs = (bs.map (·.1)).map V.ref ∧ ∀ b ∈ bs.map (·.1), ∃ dx fs, H b = some (.ins C dx fs) := by
    intro bs
    induction bs with
    | nil => intro xs h; cases xs with
      | nil => exact ⟨rfl, fun b hb => by simp at hb⟩
      | cons _ _ => exact h.elim
    | cons b bs ih => intro xs h; cases xs with
      | nil => exact h.elim
      | cons x xs =>
        obtain ⟨⟨e, a', dx, vs, e', q1, q2⟩, h'⟩ := h
        obtain ⟨r1, r2⟩ := ih h'
        refine ⟨by rw [e, r1]; rfl, fun c hc => ?_⟩
        rcases List.mem_cons.mp hc with z | z
        · have : c = a' := by rw [e] at e'; injection e' with e'; exact (show c = b.1 from z).trans e'
          rw [this]
          exact ⟨dx, vs, s.ins q1⟩
        · exact r2 c z
  obtain ⟨r1, r2⟩ := key h3
  obtain ⟨e, a', dx, vs, e', q1, q2⟩ := hx
  refine ⟨a, p, bs.map (fun b => b.1), e, rfl, SqL.of (s.lst (r1 ▸ h2)), fun c hc => ?_, k.here s ?_⟩
  rotate_left
  · rfl
  rcases List.mem_cons.mp hc with z | z
  · have : a = a' := by rw [e] at e'; injection e'
    rw [z, this]
    exact ⟨dx, vs, s.ins q1⟩
  · exact r2 c z
theorem et_truL {Ps : List VP} (h : EvG te Γ W (LstP Ps)) : EvT (tTru K te) Γ W (!Ps.isEmpty) := fun σ F H o Q k => h σ F H o _ fun v F2 H2 n p => by
  obtain ⟨a, xs, rfl, h2, h3⟩ := p
  refine ⟨_, .inl ⟨xs, SqL.of (n.s.lst h2), rfl⟩, ?_⟩
  have : xs.isEmpty = Ps.isEmpty := by
    rw [Bool.eq_iff_iff, List.isEmpty_iff_length_eq_zero, List.isEmpty_iff_length_eq_zero, h3.len]
  rw [this]
  exact k F2 H2 n
theorem et_truM {i : Nat} {l : Addr} {xs : List V} {Ps : List VP} (hs : Γ[i]? = some (some (IsP (.ref l)))) : EvT (tTru K (tVar i)) Γ (W.lst l xs Ps) (!Ps.isEmpty) := fun σ F H o Q k => by
  obtain ⟨v, h1, rfl⟩ := o.t.get hs
  have hl : H l = some (.lst xs) := o.x l _ upd_same
  have a : AllP Ps xs F := o.g.2
  refine ⟨_, h1, _, .inl ⟨xs, SqL.of hl, rfl⟩, ?_⟩
  have : xs.isEmpty = Ps.isEmpty := by
    rw [Bool.eq_iff_iff, List.isEmpty_iff_length_eq_zero, List.isEmpty_iff_length_eq_zero, a.len]
  rw [this]
  exact k F H (New.refl o.s)
theorem AllP.drop : ∀ {Ps : List VP} {vs : List V} {F : Hp} (n : Nat), AllP Ps vs F → AllP (Ps.drop n) (vs.drop n) F
  | _, _, _, 0, h => h
  | [], [], _, _ + 1, _ => trivial
  | _ :: _, _ :: _, _, n + 1, h => AllP.drop n h.2
  | [], _ :: _, _, _ + 1, h => h.elim
  | _ :: _, [], _, _ + 1, h => h.elim
theorem AllP.take : ∀ {Ps : List VP} {vs : List V} {F : Hp} (n : Nat), AllP Ps vs F → AllP (Ps.take n) (vs.take n) F
  | _, _, _, 0, _ => by simp [List.take]; trivial
  | [], [], _, _ + 1, _ => trivial
  | _ :: _, _ :: _, _, n + 1, h => ⟨h.1, AllP.take n h.2⟩
  | [], _ :: _, _, _ + 1, h => h.elim
  | _ :: _, [], _, _ + 1, h => h.elim
/-- the part of a list between two places -/
def cutP (Ps : List VP) (lo hi : Option Int) : List VP := (Ps.drop (HT.sIx Ps.length 0 lo)).take (HT.sIx Ps.length Ps.length hi - HT.sIx Ps.length 0 lo)
def OpE (to : TO) (Γ : List (Option VP)) (W : Wd) (lo : Option Int) : Prop := ∀ σ F H, Ok Γ W σ F H → ∀ Q : Option Int → Hp → Prop, (∀ F2 H2, New F H F2 H2 → Q lo H2) → to σ H Q
theorem oe_no : OpE tNoPart Γ W none := fun σ F H o Q k => k F H (New.refl o.s)
theorem oe_int {i : Int} (h : EvG te Γ W (IntP i)) : OpE (tPart te) Γ W (some i) := fun σ F H o Q k => h σ F H o _ fun v F2 H2 n p => ⟨i, p, k F2 H2 n⟩
theorem ev_slice {Ps : List VP} {tl th : TO} {lo hi : Option Int} (h : EvG te Γ W (LstP Ps)) (hl : OpE tl Γ W lo) (hh : OpE th Γ W hi) : EvG (tSl (rSlL K) te tl th) Γ W (LstP (cutP Ps lo hi)) := fun σ F H o Q k => by
  refine h σ F H o _ fun v F1 H1 n1 p1 => ?_
  refine hl σ F1 H1 (o.next n1) _ fun F2 H2 n2 => ?_
  refine hh σ F2 H2 ((o.next n1).next n2) _ fun F3 H3 n3 => ?_
  obtain ⟨a, xs, rfl, h2, h3⟩ := (LstP Ps).mono ((LstP Ps).mono p1 n2.f) n3.f
  refine ⟨a, xs, rfl, SqL.of (n3.s.lst h2), fun p hp => k _ _ _ (New.trans (New.trans (New.trans n1 n2) n3) (New.upd n3.s hp)) ⟨p, _, rfl, upd_same, ?_⟩⟩
  unfold cutV cutP
  rw [h3.len]
  exact ((h3.drop _).take _).mono (Ex.upd (n3.s.free hp))
end
end Sw
set_option maxRecDepth 100000
set_option maxHeartbeats 2000000
/-! # What the top has left: each def, each class, each constant by its name -/
namespace Sw
open PySem L2
/-- the function object that stands at a def's place -/
def fdOf (K : PySem.W.Frag) (p : Str × Option Str) : FuncData := match K.lookup (He.fAd K p) with
  | some ⟨_, _, .func fd, _⟩ => fd
  | _ => default
structure Txt (K : PySem.W.Frag) (mg : Str → Option Value) : Prop where
  h : ∃ h : Heap, K.In h ∧ h.Ns mainGlobals mg
  c : He.SaysD fa fn K
  e : exB K = true
section
variable {K : PySem.W.Frag} {mg : Str → Option Value}
theorem Txt.fact (T : Txt K mg) (i : Nat) {f : He.Fa} (h : fa[i]? = some f) : f.ok K = true := T.c.fact i h
theorem Txt.glo (T : Txt K mg) (i : Nat) {x : Str} (h : fa[i]? = some (.glo x)) : mg x = some (.ref (He.ga K x)) := by
  obtain ⟨hp, X, G⟩ := T.h
  exact He.glo_ok X G (T.fact i h)
theorem Txt.free (T : Txt K mg) (i : Nat) {x : Str} (h : fa[i]? = some (.free x)) : mg x = none := by
  obtain ⟨hp, X, G⟩ := T.h
  exact He.free_ok X G (T.fact i h)
theorem Txt.int (T : Txt K mg) (i : Nat) {x : Str} {n : Int} (h : fa[i]? = some (.int x n)) : ∃ t, mg x = some (.int n t) := by
  obtain ⟨hp, X, G⟩ := T.h
  exact He.int_ok X G (T.fact i h)
theorem Txt.fn_ (T : Txt K mg) (i : Nat) {d : He.DefD} (h : fn[i]? = some d) (h1 : d.dfl = []) (h2 : d.kwd = []) : FunD K d.name d.qual d.params d.body d.scope [] [] (He.fAd K d.at_) (fdOf K d.at_) := by
  obtain ⟨fd, F⟩ := T.c.def_ i h
  have e : fdOf K d.at_ = fd := by
    obtain ⟨oc, od, dV, kV, doc, pm, an, cdv, ct, osl, e1, lk, _⟩ := F.ex
    unfold fdOf
    rw [lk]
  rw [e]
  unfold He.DefD.dvs He.DefD.kws at F
  rw [h1, h2] at F
  exact F
theorem pe_globI {X : Cx} {x : Str} {i : Int} {pos : Pos} (h : ∃ t, X.mg x = some (.int i t)) (hg : Gl X x) (hd : (x == ("__debug__" : Str)) = false := by decide) : PE X (.Name x pos) (tC (.int i)) := by
  obtain ⟨t, e⟩ := h
  exact pe_glob hg e ⟨t, rfl⟩ hd
end
section
variable {K : PySem.W.Frag} {mg : Str → Option Value}
theorem Txt.parts (T : Txt K mg) : He.lstB K "NUMBERS" (numbersL.map He.Dv.int) = true ∧ He.tupB K "LISTED" (listedL.map He.Dv.int) = true ∧ oexB K (refA K) = true ∧ xfB K (refA K) = true ∧
  PySem.W.findIn K (.ref (refA K)) "__setattr__" = some (some (.builtin "object.__setattr__")) ∧ PySem.W.typeIn K (.ref (refA K)) = some (.type "type") ∧ PySem.W.findIn K (.ref (refA K)) "__init__" = some (some (.ref (refI K))) ∧ PySem.W.typeIn K (.ref (refI K)) = some (.type "function") ∧
  PySem.W.mroIn K (He.ga K "Rule") (.type "object") = some true ∧ PySem.W.findIn K (.ref (He.ga K "Rule")) "__eq__" = some (some (.builtin "object.__eq__")) := by
  have e := T.e
  unfold exB at e
  simp only [Bool.and_eq_true, decide_eq_true_eq] at e
  exact e
theorem Txt.ruleM (T : Txt K mg) : PySem.W.mroIn K (He.ga K "Rule") (.type "object") = some true := T.parts.2.2.2.2.2.2.2.2.1
theorem Txt.ruleE (T : Txt K mg) : PySem.W.findIn K (.ref (He.ga K "Rule")) "__eq__" = some (some (.builtin "object.__eq__")) := T.parts.2.2.2.2.2.2.2.2.2
end
theorem sc_common : FnScope ["one", "other"] ["one", "other"] (defScope s_common) := ⟨rfl, rfl, rfl, by decide +kernel, rfl, by decide +kernel, by decide +kernel⟩
theorem sc_fraction : FnScope ["upper", "lower", "by"] ["upper", "lower"] (defScope s_fraction) := ⟨rfl, rfl, rfl, by decide +kernel, rfl, by decide +kernel, by decide +kernel⟩
theorem sc_plus : FnScope ["one", "other"] ["one", "other"] (defScope s_plus) := ⟨rfl, rfl, rfl, by decide +kernel, rfl, by decide +kernel, by decide +kernel⟩
theorem sc_minus : FnScope ["one", "other"] ["one", "other"] (defScope s_minus) := ⟨rfl, rfl, rfl, by decide +kernel, rfl, by decide +kernel, by decide +kernel⟩
theorem sc_times : FnScope ["one", "number"] ["one", "number"] (defScope s_times) := ⟨rfl, rfl, rfl, by decide +kernel, rfl, by decide +kernel, by decide +kernel⟩
theorem sc_quotient : FnScope ["one", "other"] ["one", "other"] (defScope s_quotient) := ⟨rfl, rfl, rfl, by decide +kernel, rfl, by decide +kernel, by decide +kernel⟩
theorem sc_is_less : FnScope ["one", "other"] ["one", "other"] (defScope s_is_less) := ⟨rfl, rfl, rfl, by decide +kernel, rfl, by decide +kernel, by decide +kernel⟩
theorem sc_Material_init : FnScope ["self", "price", "profile", "is_available", "most"] ["self", "price", "profile", "is_available", "most"] (defScope s_Material_init) := ⟨rfl, rfl, rfl, by decide +kernel, rfl, by decide +kernel, by decide +kernel⟩
theorem sc_Rule_init : FnScope ["self", "material", "parts", "replacements"] ["self", "material", "parts", "replacements"] (defScope s_Rule_init) := ⟨rfl, rfl, rfl, by decide +kernel, rfl, by decide +kernel, by decide +kernel⟩
theorem sc_Rule_feeds : FnScope ["self", "other", "one", "parts"] ["self", "other"] (defScope s_Rule_feeds) := ⟨rfl, rfl, rfl, by decide +kernel, rfl, by decide +kernel, by decide +kernel⟩
theorem sc_Store_init : FnScope ["self", "materials", "rules", "formulas"] ["self", "materials", "rules", "formulas"] (defScope s_Store_init) := ⟨rfl, rfl, rfl, by decide +kernel, rfl, by decide +kernel, by decide +kernel⟩
theorem sc_Store_twin : FnScope ["self"] ["self"] (defScope s_Store_twin) := ⟨rfl, rfl, rfl, by decide +kernel, rfl, by decide +kernel, by decide +kernel⟩
theorem sc_Store_mixture : FnScope ["self", "formula", "amounts", "one", "total", "found"] ["self", "formula"] (defScope s_Store_mixture) := ⟨rfl, rfl, rfl, by decide +kernel, rfl, by decide +kernel, by decide +kernel⟩
theorem sc_Store_cost_told : FnScope ["self", "shares", "found", "one"] ["self", "shares"] (defScope s_Store_cost_told) := ⟨rfl, rfl, rfl, by decide +kernel, rfl, by decide +kernel, by decide +kernel⟩
theorem sc_Store_profile_told : FnScope ["self", "shares", "found", "one", "told", "at"] ["self", "shares"] (defScope s_Store_profile_told) := ⟨rfl, rfl, rfl, by decide +kernel, rfl, by decide +kernel, by decide +kernel⟩
theorem sc_Store_distance_told : FnScope ["self", "shares", "others", "found", "one", "other", "apart"] ["self", "shares", "others"] (defScope s_Store_distance_told) := ⟨rfl, rfl, rfl, by decide +kernel, rfl, by decide +kernel, by decide +kernel⟩
theorem sc_Store_fault : FnScope ["self", "shares", "one", "share", "most"] ["self", "shares"] (defScope s_Store_fault) := ⟨rfl, rfl, rfl, by decide +kernel, rfl, by decide +kernel, by decide +kernel⟩
theorem sc_Store_order : FnScope ["self", "formula", "numbers", "some", "materials", "used", "is_new", "more", "found", "left", "free", "number", "rule", "one"] ["self", "formula", "numbers"] (defScope s_Store_order) := ⟨rfl, rfl, rfl, by decide +kernel, rfl, by decide +kernel, by decide +kernel⟩
theorem sc_Store_result : FnScope ["self", "formula", "numbers", "order", "amounts", "one", "rule", "amount", "parts", "more", "total", "found"] ["self", "formula", "numbers"] (defScope s_Store_result) := ⟨rfl, rfl, rfl, by decide +kernel, rfl, by decide +kernel, by decide +kernel⟩
theorem sc_Store_plans : FnScope ["self", "formula", "numbers", "found", "code", "some", "shares", "at", "number"] ["self", "formula"] (defScope s_Store_plans) := ⟨rfl, rfl, rfl, by decide +kernel, rfl, by decide +kernel, by decide +kernel⟩
theorem sc_Store_acceptable : FnScope ["self", "formula", "some", "shares"] ["self", "formula"] (defScope s_Store_acceptable) := ⟨rfl, rfl, rfl, by decide +kernel, rfl, by decide +kernel, by decide +kernel⟩
theorem sc_Store_reached : FnScope ["self", "material", "found", "line", "one", "number", "rule", "other", "parts"] ["self", "material"] (defScope s_Store_reached) := ⟨rfl, rfl, rfl, by decide +kernel, rfl, by decide +kernel, by decide +kernel⟩
theorem sc_Store_cycle : FnScope ["self", "many", "number", "found"] ["self"] (defScope s_Store_cycle) := ⟨rfl, rfl, rfl, by decide +kernel, rfl, by decide +kernel, by decide +kernel⟩
theorem sc_Store_cycle_from : FnScope ["self", "path", "many", "last", "number", "found"] ["self", "path", "many"] (defScope s_Store_cycle_from) := ⟨rfl, rfl, rfl, by decide +kernel, rfl, by decide +kernel, by decide +kernel⟩
theorem sc_Choice_init : FnScope ["self", "numbers", "cost", "distance"] ["self", "numbers", "cost", "distance"] (defScope s_Choice_init) := ⟨rfl, rfl, rfl, by decide +kernel, rfl, by decide +kernel, by decide +kernel⟩
theorem sc_Choice_is_before : FnScope ["self", "other", "word", "firsts", "seconds", "one", "second"] ["self", "other", "word"] (defScope s_Choice_is_before) := ⟨rfl, rfl, rfl, by decide +kernel, rfl, by decide +kernel, by decide +kernel⟩
theorem sc_chosen : FnScope ["store", "formula", "word", "most", "found", "own", "numbers", "shares", "cost", "one"] ["store", "formula", "word", "most"] (defScope s_chosen) := ⟨rfl, rfl, rfl, by decide +kernel, rfl, by decide +kernel, by decide +kernel⟩
theorem sc_Refused_init : FnScope ["self", "code"] ["self", "code"] (defScope s_Refused_init) := ⟨rfl, rfl, rfl, by decide +kernel, rfl, by decide +kernel, by decide +kernel⟩
theorem sc_need : FnScope ["is_right", "code"] ["is_right", "code"] (defScope s_need) := ⟨rfl, rfl, rfl, by decide +kernel, rfl, by decide +kernel, by decide +kernel⟩
theorem sc_are_within : FnScope ["numbers", "least", "most", "number"] ["numbers", "least", "most"] (defScope s_are_within) := ⟨rfl, rfl, rfl, by decide +kernel, rfl, by decide +kernel, by decide +kernel⟩
theorem sc_pairs : FnScope ["row", "most", "greatest", "found", "materials", "at", "material", "amount"] ["row", "most", "greatest"] (defScope s_pairs) := ⟨rfl, rfl, rfl, by decide +kernel, rfl, by decide +kernel, by decide +kernel⟩
theorem sc_Desk_init : FnScope ["self"] ["self"] (defScope s_Desk_init) := ⟨rfl, rfl, rfl, by decide +kernel, rfl, by decide +kernel, by decide +kernel⟩
theorem sc_Desk_put : FnScope ["self", "store"] ["self", "store"] (defScope s_Desk_put) := ⟨rfl, rfl, rfl, by decide +kernel, rfl, by decide +kernel, by decide +kernel⟩
theorem sc_Desk_put_material : FnScope ["self", "number", "material", "found"] ["self", "number", "material"] (defScope s_Desk_put_material) := ⟨rfl, rfl, rfl, by decide +kernel, rfl, by decide +kernel, by decide +kernel⟩
theorem sc_Desk_put_rule : FnScope ["self", "number", "rule", "found"] ["self", "number", "rule"] (defScope s_Desk_put_rule) := ⟨rfl, rfl, rfl, by decide +kernel, rfl, by decide +kernel, by decide +kernel⟩
theorem sc_Desk_put_formula : FnScope ["self", "number", "amounts", "found"] ["self", "number", "amounts"] (defScope s_Desk_put_formula) := ⟨rfl, rfl, rfl, by decide +kernel, rfl, by decide +kernel, by decide +kernel⟩
theorem sc_add_material : FnScope ["desk", "numbers", "row", "material", "price"] ["desk", "numbers", "row"] (defScope s_add_material) := ⟨rfl, rfl, rfl, by decide +kernel, rfl, by decide +kernel, by decide +kernel⟩
theorem sc_change_material : FnScope ["desk", "word", "numbers", "number", "one"] ["desk", "word", "numbers"] (defScope s_change_material) := ⟨rfl, rfl, rfl, by decide +kernel, rfl, by decide +kernel, by decide +kernel⟩
theorem sc_add_rule : FnScope ["desk", "numbers", "row", "number", "material", "parts", "some", "materials", "one", "share"] ["desk", "numbers", "row"] (defScope s_add_rule) := ⟨rfl, rfl, rfl, by decide +kernel, rfl, by decide +kernel, by decide +kernel⟩
theorem sc_remove_rule : FnScope ["desk", "number"] ["desk", "number"] (defScope s_remove_rule) := ⟨rfl, rfl, rfl, by decide +kernel, rfl, by decide +kernel, by decide +kernel⟩
theorem sc_set_formula : FnScope ["desk", "number", "row", "some", "one", "amount"] ["desk", "number", "row"] (defScope s_set_formula) := ⟨rfl, rfl, rfl, by decide +kernel, rfl, by decide +kernel, by decide +kernel⟩
theorem sc_formula : FnScope ["desk", "number"] ["desk", "number"] (defScope s_formula) := ⟨rfl, rfl, rfl, by decide +kernel, rfl, by decide +kernel, by decide +kernel⟩
theorem sc_flat : FnScope ["pairs_told", "found", "pair"] ["pairs_told"] (defScope s_flat) := ⟨rfl, rfl, rfl, by decide +kernel, rfl, by decide +kernel, by decide +kernel⟩
theorem sc_check : FnScope ["store", "number", "reason", "material"] ["store", "number"] (defScope s_check) := ⟨rfl, rfl, rfl, by decide +kernel, rfl, by decide +kernel, by decide +kernel⟩
theorem sc_result : FnScope ["desk", "number", "row", "others", "store", "found", "one"] ["desk", "number", "row", "others"] (defScope s_result) := ⟨rfl, rfl, rfl, by decide +kernel, rfl, by decide +kernel, by decide +kernel⟩
theorem sc_apply_plan : FnScope ["desk", "number", "row", "shares", "found", "one"] ["desk", "number", "row"] (defScope s_apply_plan) := ⟨rfl, rfl, rfl, by decide +kernel, rfl, by decide +kernel, by decide +kernel⟩
theorem sc_save_result : FnScope ["desk", "numbers", "row", "shares", "lower", "one", "amounts", "by"] ["desk", "numbers", "row"] (defScope s_save_result) := ⟨rfl, rfl, rfl, by decide +kernel, rfl, by decide +kernel, by decide +kernel⟩
theorem sc_count_plans : FnScope ["store", "number", "some", "numbers", "shares"] ["store", "number"] (defScope s_count_plans) := ⟨rfl, rfl, rfl, by decide +kernel, rfl, by decide +kernel, by decide +kernel⟩
theorem sc_best : FnScope ["store", "number", "word", "most", "found"] ["store", "number", "word", "most"] (defScope s_best) := ⟨rfl, rfl, rfl, by decide +kernel, rfl, by decide +kernel, by decide +kernel⟩
theorem sc_material_told : FnScope ["desk", "number"] ["desk", "number"] (defScope s_material_told) := ⟨rfl, rfl, rfl, by decide +kernel, rfl, by decide +kernel, by decide +kernel⟩
theorem sc_dependent : FnScope ["store", "number", "one", "other", "found", "at"] ["store", "number"] (defScope s_dependent) := ⟨rfl, rfl, rfl, by decide +kernel, rfl, by decide +kernel, by decide +kernel⟩
theorem sc_cycle : FnScope ["store", "found"] ["store"] (defScope s_cycle) := ⟨rfl, rfl, rfl, by decide +kernel, rfl, by decide +kernel, by decide +kernel⟩
theorem sc_undo : FnScope ["desk"] ["desk"] (defScope s_undo) := ⟨rfl, rfl, rfl, by decide +kernel, rfl, by decide +kernel, by decide +kernel⟩
theorem sc_summary : FnScope ["store", "gone", "one"] ["store"] (defScope s_summary) := ⟨rfl, rfl, rfl, by decide +kernel, rfl, by decide +kernel, by decide +kernel⟩
theorem sc_of_changes : FnScope ["desk", "word", "numbers", "row"] ["desk", "word", "numbers", "row"] (defScope s_of_changes) := ⟨rfl, rfl, rfl, by decide +kernel, rfl, by decide +kernel, by decide +kernel⟩
theorem sc_of_formula : FnScope ["desk", "word", "numbers", "number", "store", "other", "one"] ["desk", "word", "numbers"] (defScope s_of_formula) := ⟨rfl, rfl, rfl, by decide +kernel, rfl, by decide +kernel, by decide +kernel⟩
theorem sc_done : FnScope ["desk", "word", "numbers", "row"] ["desk", "word", "numbers", "row"] (defScope s_done) := ⟨rfl, rfl, rfl, by decide +kernel, rfl, by decide +kernel, by decide +kernel⟩
theorem sc_answer_of : FnScope ["desk", "word", "numbers", "row", "e"] ["desk", "word", "numbers", "row"] (defScope s_answer_of) := ⟨rfl, rfl, rfl, by decide +kernel, rfl, by decide +kernel, by decide +kernel⟩
theorem sc_answers : FnScope ["calls", "desk", "found", "at", "word", "numbers", "row", "answer"] ["calls"] (defScope s_answers) := ⟨rfl, rfl, rfl, by decide +kernel, rfl, by decide +kernel, by decide +kernel⟩
theorem bb_abs : bootBuiltins "abs" = some (.builtin "abs") := by decide +kernel
theorem bb_sum : bootBuiltins "sum" = some (.builtin "sum") := by decide +kernel
theorem bb_sorted : bootBuiltins "sorted" = some (.builtin "sorted") := by decide +kernel
theorem bb_len : bootBuiltins "len" = some (.builtin "len") := by decide +kernel
theorem bb_set : bootBuiltins "set" = some (.type "set") := by decide +kernel
theorem bb_any : bootBuiltins "any" = some (.builtin "any") := by decide +kernel
theorem bb_all : bootBuiltins "all" = some (.builtin "all") := by decide +kernel
theorem bb_zip : bootBuiltins "zip" = some (.type "zip") := by decide +kernel
theorem bb_range : bootBuiltins "range" = some (.type "range") := by decide +kernel
theorem bb_enumerate : bootBuiltins "enumerate" = some (.type "enumerate") := by decide +kernel
theorem bb_dict : bootBuiltins "dict" = some (.type "dict") := by decide +kernel
theorem bb_list : bootBuiltins "list" = some (.type "list") := by decide +kernel
theorem bb_tuple : bootBuiltins "tuple" = some (.type "tuple") := by decide +kernel
theorem bb_ValueError : bootBuiltins "ValueError" = some (.type "ValueError") := by decide +kernel
section
variable {K : PySem.W.Frag} {mg : Str → Option Value}
theorem Txt.D_common (T : Txt K mg) : FunD K "common" "common" (defArgs s_common) (defBody s_common) (defScope s_common) [] [] (He.fAd K ("common", none)) (fdOf K ("common", none)) := T.fn_ 0 (d := d_common) rfl rfl rfl
theorem Txt.k_common (T : Txt K mg) : PySem.W.keepIn K (.ref (He.fAd K ("common", none))) = true := T.D_common.kp
theorem Txt.b_common (T : Txt K mg) : Binds K (fdOf K ("common", none)) ["one", "other"] [] := T.D_common.bindsN fun _ _ _ _ _ _ us hl => match us, hl with | [_, _], _ => rfl
theorem Txt.g_common (T : Txt K mg) : mg "common" = some (.ref (He.fAd K ("common", none))) := T.glo 0 (x := "common") rfl
theorem Txt.D_fraction (T : Txt K mg) : FunD K "fraction" "fraction" (defArgs s_fraction) (defBody s_fraction) (defScope s_fraction) [] [] (He.fAd K ("fraction", none)) (fdOf K ("fraction", none)) := T.fn_ 1 (d := d_fraction) rfl rfl rfl
theorem Txt.k_fraction (T : Txt K mg) : PySem.W.keepIn K (.ref (He.fAd K ("fraction", none))) = true := T.D_fraction.kp
theorem Txt.b_fraction (T : Txt K mg) : Binds K (fdOf K ("fraction", none)) ["upper", "lower"] [] := T.D_fraction.bindsN fun _ _ _ _ _ _ us hl => match us, hl with | [_, _], _ => rfl
theorem Txt.g_fraction (T : Txt K mg) : mg "fraction" = some (.ref (He.fAd K ("fraction", none))) := T.glo 1 (x := "fraction") rfl
theorem Txt.D_plus (T : Txt K mg) : FunD K "plus" "plus" (defArgs s_plus) (defBody s_plus) (defScope s_plus) [] [] (He.fAd K ("plus", none)) (fdOf K ("plus", none)) := T.fn_ 2 (d := d_plus) rfl rfl rfl
theorem Txt.k_plus (T : Txt K mg) : PySem.W.keepIn K (.ref (He.fAd K ("plus", none))) = true := T.D_plus.kp
theorem Txt.b_plus (T : Txt K mg) : Binds K (fdOf K ("plus", none)) ["one", "other"] [] := T.D_plus.bindsN fun _ _ _ _ _ _ us hl => match us, hl with | [_, _], _ => rfl
theorem Txt.g_plus (T : Txt K mg) : mg "plus" = some (.ref (He.fAd K ("plus", none))) := T.glo 2 (x := "plus") rfl
theorem Txt.D_minus (T : Txt K mg) : FunD K "minus" "minus" (defArgs s_minus) (defBody s_minus) (defScope s_minus) [] [] (He.fAd K ("minus", none)) (fdOf K ("minus", none)) := T.fn_ 3 (d := d_minus) rfl rfl rfl
theorem Txt.k_minus (T : Txt K mg) : PySem.W.keepIn K (.ref (He.fAd K ("minus", none))) = true := T.D_minus.kp
theorem Txt.b_minus (T : Txt K mg) : Binds K (fdOf K ("minus", none)) ["one", "other"] [] := T.D_minus.bindsN fun _ _ _ _ _ _ us hl => match us, hl with | [_, _], _ => rfl
theorem Txt.g_minus (T : Txt K mg) : mg "minus" = some (.ref (He.fAd K ("minus", none))) := T.glo 3 (x := "minus") rfl
theorem Txt.D_times (T : Txt K mg) : FunD K "times" "times" (defArgs s_times) (defBody s_times) (defScope s_times) [] [] (He.fAd K ("times", none)) (fdOf K ("times", none)) := T.fn_ 4 (d := d_times) rfl rfl rfl
theorem Txt.k_times (T : Txt K mg) : PySem.W.keepIn K (.ref (He.fAd K ("times", none))) = true := T.D_times.kp
theorem Txt.b_times (T : Txt K mg) : Binds K (fdOf K ("times", none)) ["one", "number"] [] := T.D_times.bindsN fun _ _ _ _ _ _ us hl => match us, hl with | [_, _], _ => rfl
theorem Txt.g_times (T : Txt K mg) : mg "times" = some (.ref (He.fAd K ("times", none))) := T.glo 4 (x := "times") rfl
theorem Txt.D_quotient (T : Txt K mg) : FunD K "quotient" "quotient" (defArgs s_quotient) (defBody s_quotient) (defScope s_quotient) [] [] (He.fAd K ("quotient", none)) (fdOf K ("quotient", none)) := T.fn_ 5 (d := d_quotient) rfl rfl rfl
theorem Txt.k_quotient (T : Txt K mg) : PySem.W.keepIn K (.ref (He.fAd K ("quotient", none))) = true := T.D_quotient.kp
theorem Txt.b_quotient (T : Txt K mg) : Binds K (fdOf K ("quotient", none)) ["one", "other"] [] := T.D_quotient.bindsN fun _ _ _ _ _ _ us hl => match us, hl with | [_, _], _ => rfl
theorem Txt.g_quotient (T : Txt K mg) : mg "quotient" = some (.ref (He.fAd K ("quotient", none))) := T.glo 5 (x := "quotient") rfl
theorem Txt.D_is_less (T : Txt K mg) : FunD K "is_less" "is_less" (defArgs s_is_less) (defBody s_is_less) (defScope s_is_less) [] [] (He.fAd K ("is_less", none)) (fdOf K ("is_less", none)) := T.fn_ 6 (d := d_is_less) rfl rfl rfl
theorem Txt.k_is_less (T : Txt K mg) : PySem.W.keepIn K (.ref (He.fAd K ("is_less", none))) = true := T.D_is_less.kp
theorem Txt.b_is_less (T : Txt K mg) : Binds K (fdOf K ("is_less", none)) ["one", "other"] [] := T.D_is_less.bindsN fun _ _ _ _ _ _ us hl => match us, hl with | [_, _], _ => rfl
theorem Txt.g_is_less (T : Txt K mg) : mg "is_less" = some (.ref (He.fAd K ("is_less", none))) := T.glo 6 (x := "is_less") rfl
theorem Txt.D_Material_init (T : Txt K mg) : FunD K "__init__" "Material.__init__" (defArgs s_Material_init) (defBody s_Material_init) (defScope s_Material_init) [] [] (He.fAd K ("Material", some "__init__")) (fdOf K ("Material", some "__init__")) := T.fn_ 7 (d := d_Material_init) rfl rfl rfl
theorem Txt.k_Material_init (T : Txt K mg) : PySem.W.keepIn K (.ref (He.fAd K ("Material", some "__init__"))) = true := T.D_Material_init.kp
theorem Txt.b_Material_init (T : Txt K mg) : Binds K (fdOf K ("Material", some "__init__")) ["self", "price", "profile", "is_available", "most"] [] := T.D_Material_init.bindsN fun _ _ _ _ _ _ us hl => match us, hl with | [_, _, _, _, _], _ => rfl
theorem Txt.D_Rule_init (T : Txt K mg) : FunD K "__init__" "Rule.__init__" (defArgs s_Rule_init) (defBody s_Rule_init) (defScope s_Rule_init) [] [] (He.fAd K ("Rule", some "__init__")) (fdOf K ("Rule", some "__init__")) := T.fn_ 8 (d := d_Rule_init) rfl rfl rfl
theorem Txt.k_Rule_init (T : Txt K mg) : PySem.W.keepIn K (.ref (He.fAd K ("Rule", some "__init__"))) = true := T.D_Rule_init.kp
theorem Txt.b_Rule_init (T : Txt K mg) : Binds K (fdOf K ("Rule", some "__init__")) ["self", "material", "parts", "replacements"] [] := T.D_Rule_init.bindsN fun _ _ _ _ _ _ us hl => match us, hl with | [_, _, _, _], _ => rfl
theorem Txt.D_Rule_feeds (T : Txt K mg) : FunD K "feeds" "Rule.feeds" (defArgs s_Rule_feeds) (defBody s_Rule_feeds) (defScope s_Rule_feeds) [] [] (He.fAd K ("Rule", some "feeds")) (fdOf K ("Rule", some "feeds")) := T.fn_ 9 (d := d_Rule_feeds) rfl rfl rfl
theorem Txt.k_Rule_feeds (T : Txt K mg) : PySem.W.keepIn K (.ref (He.fAd K ("Rule", some "feeds"))) = true := T.D_Rule_feeds.kp
theorem Txt.b_Rule_feeds (T : Txt K mg) : Binds K (fdOf K ("Rule", some "feeds")) ["self", "other"] [] := T.D_Rule_feeds.bindsN fun _ _ _ _ _ _ us hl => match us, hl with | [_, _], _ => rfl
theorem Txt.D_Store_init (T : Txt K mg) : FunD K "__init__" "Store.__init__" (defArgs s_Store_init) (defBody s_Store_init) (defScope s_Store_init) [] [] (He.fAd K ("Store", some "__init__")) (fdOf K ("Store", some "__init__")) := T.fn_ 10 (d := d_Store_init) rfl rfl rfl
theorem Txt.k_Store_init (T : Txt K mg) : PySem.W.keepIn K (.ref (He.fAd K ("Store", some "__init__"))) = true := T.D_Store_init.kp
theorem Txt.b_Store_init (T : Txt K mg) : Binds K (fdOf K ("Store", some "__init__")) ["self", "materials", "rules", "formulas"] [] := T.D_Store_init.bindsN fun _ _ _ _ _ _ us hl => match us, hl with | [_, _, _, _], _ => rfl
theorem Txt.D_Store_twin (T : Txt K mg) : FunD K "twin" "Store.twin" (defArgs s_Store_twin) (defBody s_Store_twin) (defScope s_Store_twin) [] [] (He.fAd K ("Store", some "twin")) (fdOf K ("Store", some "twin")) := T.fn_ 11 (d := d_Store_twin) rfl rfl rfl
theorem Txt.k_Store_twin (T : Txt K mg) : PySem.W.keepIn K (.ref (He.fAd K ("Store", some "twin"))) = true := T.D_Store_twin.kp
theorem Txt.b_Store_twin (T : Txt K mg) : Binds K (fdOf K ("Store", some "twin")) ["self"] [] := T.D_Store_twin.bindsN fun _ _ _ _ _ _ us hl => match us, hl with | [_], _ => rfl
theorem Txt.D_Store_mixture (T : Txt K mg) : FunD K "mixture" "Store.mixture" (defArgs s_Store_mixture) (defBody s_Store_mixture) (defScope s_Store_mixture) [] [] (He.fAd K ("Store", some "mixture")) (fdOf K ("Store", some "mixture")) := T.fn_ 12 (d := d_Store_mixture) rfl rfl rfl
theorem Txt.k_Store_mixture (T : Txt K mg) : PySem.W.keepIn K (.ref (He.fAd K ("Store", some "mixture"))) = true := T.D_Store_mixture.kp
theorem Txt.b_Store_mixture (T : Txt K mg) : Binds K (fdOf K ("Store", some "mixture")) ["self", "formula"] [] := T.D_Store_mixture.bindsN fun _ _ _ _ _ _ us hl => match us, hl with | [_, _], _ => rfl
theorem Txt.D_Store_cost_told (T : Txt K mg) : FunD K "cost_told" "Store.cost_told" (defArgs s_Store_cost_told) (defBody s_Store_cost_told) (defScope s_Store_cost_told) [] [] (He.fAd K ("Store", some "cost_told")) (fdOf K ("Store", some "cost_told")) := T.fn_ 13 (d := d_Store_cost_told) rfl rfl rfl
theorem Txt.k_Store_cost_told (T : Txt K mg) : PySem.W.keepIn K (.ref (He.fAd K ("Store", some "cost_told"))) = true := T.D_Store_cost_told.kp
theorem Txt.b_Store_cost_told (T : Txt K mg) : Binds K (fdOf K ("Store", some "cost_told")) ["self", "shares"] [] := T.D_Store_cost_told.bindsN fun _ _ _ _ _ _ us hl => match us, hl with | [_, _], _ => rfl
theorem Txt.D_Store_profile_told (T : Txt K mg) : FunD K "profile_told" "Store.profile_told" (defArgs s_Store_profile_told) (defBody s_Store_profile_told) (defScope s_Store_profile_told) [] [] (He.fAd K ("Store", some "profile_told")) (fdOf K ("Store", some "profile_told")) := T.fn_ 14 (d := d_Store_profile_told) rfl rfl rfl
theorem Txt.k_Store_profile_told (T : Txt K mg) : PySem.W.keepIn K (.ref (He.fAd K ("Store", some "profile_told"))) = true := T.D_Store_profile_told.kp
theorem Txt.b_Store_profile_told (T : Txt K mg) : Binds K (fdOf K ("Store", some "profile_told")) ["self", "shares"] [] := T.D_Store_profile_told.bindsN fun _ _ _ _ _ _ us hl => match us, hl with | [_, _], _ => rfl
theorem Txt.D_Store_distance_told (T : Txt K mg) : FunD K "distance_told" "Store.distance_told" (defArgs s_Store_distance_told) (defBody s_Store_distance_told) (defScope s_Store_distance_told) [] [] (He.fAd K ("Store", some "distance_told")) (fdOf K ("Store", some "distance_told")) := T.fn_ 15 (d := d_Store_distance_told) rfl rfl rfl
theorem Txt.k_Store_distance_told (T : Txt K mg) : PySem.W.keepIn K (.ref (He.fAd K ("Store", some "distance_told"))) = true := T.D_Store_distance_told.kp
theorem Txt.b_Store_distance_told (T : Txt K mg) : Binds K (fdOf K ("Store", some "distance_told")) ["self", "shares", "others"] [] := T.D_Store_distance_told.bindsN fun _ _ _ _ _ _ us hl => match us, hl with | [_, _, _], _ => rfl
theorem Txt.D_Store_fault (T : Txt K mg) : FunD K "fault" "Store.fault" (defArgs s_Store_fault) (defBody s_Store_fault) (defScope s_Store_fault) [] [] (He.fAd K ("Store", some "fault")) (fdOf K ("Store", some "fault")) := T.fn_ 16 (d := d_Store_fault) rfl rfl rfl
theorem Txt.k_Store_fault (T : Txt K mg) : PySem.W.keepIn K (.ref (He.fAd K ("Store", some "fault"))) = true := T.D_Store_fault.kp
theorem Txt.b_Store_fault (T : Txt K mg) : Binds K (fdOf K ("Store", some "fault")) ["self", "shares"] [] := T.D_Store_fault.bindsN fun _ _ _ _ _ _ us hl => match us, hl with | [_, _], _ => rfl
theorem Txt.D_Store_order (T : Txt K mg) : FunD K "order" "Store.order" (defArgs s_Store_order) (defBody s_Store_order) (defScope s_Store_order) [] [] (He.fAd K ("Store", some "order")) (fdOf K ("Store", some "order")) := T.fn_ 17 (d := d_Store_order) rfl rfl rfl
theorem Txt.k_Store_order (T : Txt K mg) : PySem.W.keepIn K (.ref (He.fAd K ("Store", some "order"))) = true := T.D_Store_order.kp
theorem Txt.b_Store_order (T : Txt K mg) : Binds K (fdOf K ("Store", some "order")) ["self", "formula", "numbers"] [] := T.D_Store_order.bindsN fun _ _ _ _ _ _ us hl => match us, hl with | [_, _, _], _ => rfl
theorem Txt.D_Store_result (T : Txt K mg) : FunD K "result" "Store.result" (defArgs s_Store_result) (defBody s_Store_result) (defScope s_Store_result) [] [] (He.fAd K ("Store", some "result")) (fdOf K ("Store", some "result")) := T.fn_ 18 (d := d_Store_result) rfl rfl rfl
theorem Txt.k_Store_result (T : Txt K mg) : PySem.W.keepIn K (.ref (He.fAd K ("Store", some "result"))) = true := T.D_Store_result.kp
theorem Txt.b_Store_result (T : Txt K mg) : Binds K (fdOf K ("Store", some "result")) ["self", "formula", "numbers"] [] := T.D_Store_result.bindsN fun _ _ _ _ _ _ us hl => match us, hl with | [_, _, _], _ => rfl
theorem Txt.D_Store_plans (T : Txt K mg) : FunD K "plans" "Store.plans" (defArgs s_Store_plans) (defBody s_Store_plans) (defScope s_Store_plans) [] [] (He.fAd K ("Store", some "plans")) (fdOf K ("Store", some "plans")) := T.fn_ 19 (d := d_Store_plans) rfl rfl rfl
theorem Txt.k_Store_plans (T : Txt K mg) : PySem.W.keepIn K (.ref (He.fAd K ("Store", some "plans"))) = true := T.D_Store_plans.kp
theorem Txt.b_Store_plans (T : Txt K mg) : Binds K (fdOf K ("Store", some "plans")) ["self", "formula"] [] := T.D_Store_plans.bindsN fun _ _ _ _ _ _ us hl => match us, hl with | [_, _], _ => rfl
theorem Txt.D_Store_acceptable (T : Txt K mg) : FunD K "acceptable" "Store.acceptable" (defArgs s_Store_acceptable) (defBody s_Store_acceptable) (defScope s_Store_acceptable) [] [] (He.fAd K ("Store", some "acceptable")) (fdOf K ("Store", some "acceptable")) := T.fn_ 20 (d := d_Store_acceptable) rfl rfl rfl
theorem Txt.k_Store_acceptable (T : Txt K mg) : PySem.W.keepIn K (.ref (He.fAd K ("Store", some "acceptable"))) = true := T.D_Store_acceptable.kp
theorem Txt.b_Store_acceptable (T : Txt K mg) : Binds K (fdOf K ("Store", some "acceptable")) ["self", "formula"] [] := T.D_Store_acceptable.bindsN fun _ _ _ _ _ _ us hl => match us, hl with | [_, _], _ => rfl
theorem Txt.D_Store_reached (T : Txt K mg) : FunD K "reached" "Store.reached" (defArgs s_Store_reached) (defBody s_Store_reached) (defScope s_Store_reached) [] [] (He.fAd K ("Store", some "reached")) (fdOf K ("Store", some "reached")) := T.fn_ 21 (d := d_Store_reached) rfl rfl rfl
theorem Txt.k_Store_reached (T : Txt K mg) : PySem.W.keepIn K (.ref (He.fAd K ("Store", some "reached"))) = true := T.D_Store_reached.kp
theorem Txt.b_Store_reached (T : Txt K mg) : Binds K (fdOf K ("Store", some "reached")) ["self", "material"] [] := T.D_Store_reached.bindsN fun _ _ _ _ _ _ us hl => match us, hl with | [_, _], _ => rfl
theorem Txt.D_Store_cycle (T : Txt K mg) : FunD K "cycle" "Store.cycle" (defArgs s_Store_cycle) (defBody s_Store_cycle) (defScope s_Store_cycle) [] [] (He.fAd K ("Store", some "cycle")) (fdOf K ("Store", some "cycle")) := T.fn_ 22 (d := d_Store_cycle) rfl rfl rfl
theorem Txt.k_Store_cycle (T : Txt K mg) : PySem.W.keepIn K (.ref (He.fAd K ("Store", some "cycle"))) = true := T.D_Store_cycle.kp
theorem Txt.b_Store_cycle (T : Txt K mg) : Binds K (fdOf K ("Store", some "cycle")) ["self"] [] := T.D_Store_cycle.bindsN fun _ _ _ _ _ _ us hl => match us, hl with | [_], _ => rfl
theorem Txt.D_Store_cycle_from (T : Txt K mg) : FunD K "cycle_from" "Store.cycle_from" (defArgs s_Store_cycle_from) (defBody s_Store_cycle_from) (defScope s_Store_cycle_from) [] [] (He.fAd K ("Store", some "cycle_from")) (fdOf K ("Store", some "cycle_from")) := T.fn_ 23 (d := d_Store_cycle_from) rfl rfl rfl
theorem Txt.k_Store_cycle_from (T : Txt K mg) : PySem.W.keepIn K (.ref (He.fAd K ("Store", some "cycle_from"))) = true := T.D_Store_cycle_from.kp
theorem Txt.b_Store_cycle_from (T : Txt K mg) : Binds K (fdOf K ("Store", some "cycle_from")) ["self", "path", "many"] [] := T.D_Store_cycle_from.bindsN fun _ _ _ _ _ _ us hl => match us, hl with | [_, _, _], _ => rfl
theorem Txt.D_Choice_init (T : Txt K mg) : FunD K "__init__" "Choice.__init__" (defArgs s_Choice_init) (defBody s_Choice_init) (defScope s_Choice_init) [] [] (He.fAd K ("Choice", some "__init__")) (fdOf K ("Choice", some "__init__")) := T.fn_ 24 (d := d_Choice_init) rfl rfl rfl
theorem Txt.k_Choice_init (T : Txt K mg) : PySem.W.keepIn K (.ref (He.fAd K ("Choice", some "__init__"))) = true := T.D_Choice_init.kp
theorem Txt.b_Choice_init (T : Txt K mg) : Binds K (fdOf K ("Choice", some "__init__")) ["self", "numbers", "cost", "distance"] [] := T.D_Choice_init.bindsN fun _ _ _ _ _ _ us hl => match us, hl with | [_, _, _, _], _ => rfl
theorem Txt.D_Choice_is_before (T : Txt K mg) : FunD K "is_before" "Choice.is_before" (defArgs s_Choice_is_before) (defBody s_Choice_is_before) (defScope s_Choice_is_before) [] [] (He.fAd K ("Choice", some "is_before")) (fdOf K ("Choice", some "is_before")) := T.fn_ 25 (d := d_Choice_is_before) rfl rfl rfl
theorem Txt.k_Choice_is_before (T : Txt K mg) : PySem.W.keepIn K (.ref (He.fAd K ("Choice", some "is_before"))) = true := T.D_Choice_is_before.kp
theorem Txt.b_Choice_is_before (T : Txt K mg) : Binds K (fdOf K ("Choice", some "is_before")) ["self", "other", "word"] [] := T.D_Choice_is_before.bindsN fun _ _ _ _ _ _ us hl => match us, hl with | [_, _, _], _ => rfl
theorem Txt.D_chosen (T : Txt K mg) : FunD K "chosen" "chosen" (defArgs s_chosen) (defBody s_chosen) (defScope s_chosen) [] [] (He.fAd K ("chosen", none)) (fdOf K ("chosen", none)) := T.fn_ 26 (d := d_chosen) rfl rfl rfl
theorem Txt.k_chosen (T : Txt K mg) : PySem.W.keepIn K (.ref (He.fAd K ("chosen", none))) = true := T.D_chosen.kp
theorem Txt.b_chosen (T : Txt K mg) : Binds K (fdOf K ("chosen", none)) ["store", "formula", "word", "most"] [] := T.D_chosen.bindsN fun _ _ _ _ _ _ us hl => match us, hl with | [_, _, _, _], _ => rfl
theorem Txt.g_chosen (T : Txt K mg) : mg "chosen" = some (.ref (He.fAd K ("chosen", none))) := T.glo 11 (x := "chosen") rfl
theorem Txt.D_Refused_init (T : Txt K mg) : FunD K "__init__" "Refused.__init__" (defArgs s_Refused_init) (defBody s_Refused_init) (defScope s_Refused_init) [] [] (He.fAd K ("Refused", some "__init__")) (fdOf K ("Refused", some "__init__")) := T.fn_ 27 (d := d_Refused_init) rfl rfl rfl
theorem Txt.k_Refused_init (T : Txt K mg) : PySem.W.keepIn K (.ref (He.fAd K ("Refused", some "__init__"))) = true := T.D_Refused_init.kp
theorem Txt.b_Refused_init (T : Txt K mg) : Binds K (fdOf K ("Refused", some "__init__")) ["self", "code"] [] := T.D_Refused_init.bindsN fun _ _ _ _ _ _ us hl => match us, hl with | [_, _], _ => rfl
theorem Txt.D_need (T : Txt K mg) : FunD K "need" "need" (defArgs s_need) (defBody s_need) (defScope s_need) [] [] (He.fAd K ("need", none)) (fdOf K ("need", none)) := T.fn_ 28 (d := d_need) rfl rfl rfl
theorem Txt.k_need (T : Txt K mg) : PySem.W.keepIn K (.ref (He.fAd K ("need", none))) = true := T.D_need.kp
theorem Txt.b_need (T : Txt K mg) : Binds K (fdOf K ("need", none)) ["is_right", "code"] [] := T.D_need.bindsN fun _ _ _ _ _ _ us hl => match us, hl with | [_, _], _ => rfl
theorem Txt.g_need (T : Txt K mg) : mg "need" = some (.ref (He.fAd K ("need", none))) := T.glo 13 (x := "need") rfl
theorem Txt.D_are_within (T : Txt K mg) : FunD K "are_within" "are_within" (defArgs s_are_within) (defBody s_are_within) (defScope s_are_within) [] [] (He.fAd K ("are_within", none)) (fdOf K ("are_within", none)) := T.fn_ 29 (d := d_are_within) rfl rfl rfl
theorem Txt.k_are_within (T : Txt K mg) : PySem.W.keepIn K (.ref (He.fAd K ("are_within", none))) = true := T.D_are_within.kp
theorem Txt.b_are_within (T : Txt K mg) : Binds K (fdOf K ("are_within", none)) ["numbers", "least", "most"] [] := T.D_are_within.bindsN fun _ _ _ _ _ _ us hl => match us, hl with | [_, _, _], _ => rfl
theorem Txt.g_are_within (T : Txt K mg) : mg "are_within" = some (.ref (He.fAd K ("are_within", none))) := T.glo 14 (x := "are_within") rfl
theorem Txt.D_pairs (T : Txt K mg) : FunD K "pairs" "pairs" (defArgs s_pairs) (defBody s_pairs) (defScope s_pairs) [] [] (He.fAd K ("pairs", none)) (fdOf K ("pairs", none)) := T.fn_ 30 (d := d_pairs) rfl rfl rfl
theorem Txt.k_pairs (T : Txt K mg) : PySem.W.keepIn K (.ref (He.fAd K ("pairs", none))) = true := T.D_pairs.kp
theorem Txt.b_pairs (T : Txt K mg) : Binds K (fdOf K ("pairs", none)) ["row", "most", "greatest"] [] := T.D_pairs.bindsN fun _ _ _ _ _ _ us hl => match us, hl with | [_, _, _], _ => rfl
theorem Txt.g_pairs (T : Txt K mg) : mg "pairs" = some (.ref (He.fAd K ("pairs", none))) := T.glo 15 (x := "pairs") rfl
theorem Txt.D_Desk_init (T : Txt K mg) : FunD K "__init__" "Desk.__init__" (defArgs s_Desk_init) (defBody s_Desk_init) (defScope s_Desk_init) [] [] (He.fAd K ("Desk", some "__init__")) (fdOf K ("Desk", some "__init__")) := T.fn_ 31 (d := d_Desk_init) rfl rfl rfl
theorem Txt.k_Desk_init (T : Txt K mg) : PySem.W.keepIn K (.ref (He.fAd K ("Desk", some "__init__"))) = true := T.D_Desk_init.kp
theorem Txt.b_Desk_init (T : Txt K mg) : Binds K (fdOf K ("Desk", some "__init__")) ["self"] [] := T.D_Desk_init.bindsN fun _ _ _ _ _ _ us hl => match us, hl with | [_], _ => rfl
theorem Txt.D_Desk_put (T : Txt K mg) : FunD K "put" "Desk.put" (defArgs s_Desk_put) (defBody s_Desk_put) (defScope s_Desk_put) [] [] (He.fAd K ("Desk", some "put")) (fdOf K ("Desk", some "put")) := T.fn_ 32 (d := d_Desk_put) rfl rfl rfl
theorem Txt.k_Desk_put (T : Txt K mg) : PySem.W.keepIn K (.ref (He.fAd K ("Desk", some "put"))) = true := T.D_Desk_put.kp
theorem Txt.b_Desk_put (T : Txt K mg) : Binds K (fdOf K ("Desk", some "put")) ["self", "store"] [] := T.D_Desk_put.bindsN fun _ _ _ _ _ _ us hl => match us, hl with | [_, _], _ => rfl
theorem Txt.D_Desk_put_material (T : Txt K mg) : FunD K "put_material" "Desk.put_material" (defArgs s_Desk_put_material) (defBody s_Desk_put_material) (defScope s_Desk_put_material) [] [] (He.fAd K ("Desk", some "put_material")) (fdOf K ("Desk", some "put_material")) := T.fn_ 33 (d := d_Desk_put_material) rfl rfl rfl
theorem Txt.k_Desk_put_material (T : Txt K mg) : PySem.W.keepIn K (.ref (He.fAd K ("Desk", some "put_material"))) = true := T.D_Desk_put_material.kp
theorem Txt.b_Desk_put_material (T : Txt K mg) : Binds K (fdOf K ("Desk", some "put_material")) ["self", "number", "material"] [] := T.D_Desk_put_material.bindsN fun _ _ _ _ _ _ us hl => match us, hl with | [_, _, _], _ => rfl
theorem Txt.D_Desk_put_rule (T : Txt K mg) : FunD K "put_rule" "Desk.put_rule" (defArgs s_Desk_put_rule) (defBody s_Desk_put_rule) (defScope s_Desk_put_rule) [] [] (He.fAd K ("Desk", some "put_rule")) (fdOf K ("Desk", some "put_rule")) := T.fn_ 34 (d := d_Desk_put_rule) rfl rfl rfl
theorem Txt.k_Desk_put_rule (T : Txt K mg) : PySem.W.keepIn K (.ref (He.fAd K ("Desk", some "put_rule"))) = true := T.D_Desk_put_rule.kp
theorem Txt.b_Desk_put_rule (T : Txt K mg) : Binds K (fdOf K ("Desk", some "put_rule")) ["self", "number", "rule"] [] := T.D_Desk_put_rule.bindsN fun _ _ _ _ _ _ us hl => match us, hl with | [_, _, _], _ => rfl
theorem Txt.D_Desk_put_formula (T : Txt K mg) : FunD K "put_formula" "Desk.put_formula" (defArgs s_Desk_put_formula) (defBody s_Desk_put_formula) (defScope s_Desk_put_formula) [] [] (He.fAd K ("Desk", some "put_formula")) (fdOf K ("Desk", some "put_formula")) := T.fn_ 35 (d := d_Desk_put_formula) rfl rfl rfl
theorem Txt.k_Desk_put_formula (T : Txt K mg) : PySem.W.keepIn K (.ref (He.fAd K ("Desk", some "put_formula"))) = true := T.D_Desk_put_formula.kp
theorem Txt.b_Desk_put_formula (T : Txt K mg) : Binds K (fdOf K ("Desk", some "put_formula")) ["self", "number", "amounts"] [] := T.D_Desk_put_formula.bindsN fun _ _ _ _ _ _ us hl => match us, hl with | [_, _, _], _ => rfl
theorem Txt.D_add_material (T : Txt K mg) : FunD K "add_material" "add_material" (defArgs s_add_material) (defBody s_add_material) (defScope s_add_material) [] [] (He.fAd K ("add_material", none)) (fdOf K ("add_material", none)) := T.fn_ 36 (d := d_add_material) rfl rfl rfl
theorem Txt.k_add_material (T : Txt K mg) : PySem.W.keepIn K (.ref (He.fAd K ("add_material", none))) = true := T.D_add_material.kp
theorem Txt.b_add_material (T : Txt K mg) : Binds K (fdOf K ("add_material", none)) ["desk", "numbers", "row"] [] := T.D_add_material.bindsN fun _ _ _ _ _ _ us hl => match us, hl with | [_, _, _], _ => rfl
theorem Txt.g_add_material (T : Txt K mg) : mg "add_material" = some (.ref (He.fAd K ("add_material", none))) := T.glo 17 (x := "add_material") rfl
theorem Txt.D_change_material (T : Txt K mg) : FunD K "change_material" "change_material" (defArgs s_change_material) (defBody s_change_material) (defScope s_change_material) [] [] (He.fAd K ("change_material", none)) (fdOf K ("change_material", none)) := T.fn_ 37 (d := d_change_material) rfl rfl rfl
theorem Txt.k_change_material (T : Txt K mg) : PySem.W.keepIn K (.ref (He.fAd K ("change_material", none))) = true := T.D_change_material.kp
theorem Txt.b_change_material (T : Txt K mg) : Binds K (fdOf K ("change_material", none)) ["desk", "word", "numbers"] [] := T.D_change_material.bindsN fun _ _ _ _ _ _ us hl => match us, hl with | [_, _, _], _ => rfl
theorem Txt.g_change_material (T : Txt K mg) : mg "change_material" = some (.ref (He.fAd K ("change_material", none))) := T.glo 18 (x := "change_material") rfl
theorem Txt.D_add_rule (T : Txt K mg) : FunD K "add_rule" "add_rule" (defArgs s_add_rule) (defBody s_add_rule) (defScope s_add_rule) [] [] (He.fAd K ("add_rule", none)) (fdOf K ("add_rule", none)) := T.fn_ 38 (d := d_add_rule) rfl rfl rfl
theorem Txt.k_add_rule (T : Txt K mg) : PySem.W.keepIn K (.ref (He.fAd K ("add_rule", none))) = true := T.D_add_rule.kp
theorem Txt.b_add_rule (T : Txt K mg) : Binds K (fdOf K ("add_rule", none)) ["desk", "numbers", "row"] [] := T.D_add_rule.bindsN fun _ _ _ _ _ _ us hl => match us, hl with | [_, _, _], _ => rfl
theorem Txt.g_add_rule (T : Txt K mg) : mg "add_rule" = some (.ref (He.fAd K ("add_rule", none))) := T.glo 19 (x := "add_rule") rfl
theorem Txt.D_remove_rule (T : Txt K mg) : FunD K "remove_rule" "remove_rule" (defArgs s_remove_rule) (defBody s_remove_rule) (defScope s_remove_rule) [] [] (He.fAd K ("remove_rule", none)) (fdOf K ("remove_rule", none)) := T.fn_ 39 (d := d_remove_rule) rfl rfl rfl
theorem Txt.k_remove_rule (T : Txt K mg) : PySem.W.keepIn K (.ref (He.fAd K ("remove_rule", none))) = true := T.D_remove_rule.kp
theorem Txt.b_remove_rule (T : Txt K mg) : Binds K (fdOf K ("remove_rule", none)) ["desk", "number"] [] := T.D_remove_rule.bindsN fun _ _ _ _ _ _ us hl => match us, hl with | [_, _], _ => rfl
theorem Txt.g_remove_rule (T : Txt K mg) : mg "remove_rule" = some (.ref (He.fAd K ("remove_rule", none))) := T.glo 20 (x := "remove_rule") rfl
theorem Txt.D_set_formula (T : Txt K mg) : FunD K "set_formula" "set_formula" (defArgs s_set_formula) (defBody s_set_formula) (defScope s_set_formula) [] [] (He.fAd K ("set_formula", none)) (fdOf K ("set_formula", none)) := T.fn_ 40 (d := d_set_formula) rfl rfl rfl
theorem Txt.k_set_formula (T : Txt K mg) : PySem.W.keepIn K (.ref (He.fAd K ("set_formula", none))) = true := T.D_set_formula.kp
theorem Txt.b_set_formula (T : Txt K mg) : Binds K (fdOf K ("set_formula", none)) ["desk", "number", "row"] [] := T.D_set_formula.bindsN fun _ _ _ _ _ _ us hl => match us, hl with | [_, _, _], _ => rfl
theorem Txt.g_set_formula (T : Txt K mg) : mg "set_formula" = some (.ref (He.fAd K ("set_formula", none))) := T.glo 21 (x := "set_formula") rfl
theorem Txt.D_formula (T : Txt K mg) : FunD K "formula" "formula" (defArgs s_formula) (defBody s_formula) (defScope s_formula) [] [] (He.fAd K ("formula", none)) (fdOf K ("formula", none)) := T.fn_ 41 (d := d_formula) rfl rfl rfl
theorem Txt.k_formula (T : Txt K mg) : PySem.W.keepIn K (.ref (He.fAd K ("formula", none))) = true := T.D_formula.kp
theorem Txt.b_formula (T : Txt K mg) : Binds K (fdOf K ("formula", none)) ["desk", "number"] [] := T.D_formula.bindsN fun _ _ _ _ _ _ us hl => match us, hl with | [_, _], _ => rfl
theorem Txt.g_formula (T : Txt K mg) : mg "formula" = some (.ref (He.fAd K ("formula", none))) := T.glo 22 (x := "formula") rfl
theorem Txt.D_flat (T : Txt K mg) : FunD K "flat" "flat" (defArgs s_flat) (defBody s_flat) (defScope s_flat) [] [] (He.fAd K ("flat", none)) (fdOf K ("flat", none)) := T.fn_ 42 (d := d_flat) rfl rfl rfl
theorem Txt.k_flat (T : Txt K mg) : PySem.W.keepIn K (.ref (He.fAd K ("flat", none))) = true := T.D_flat.kp
theorem Txt.b_flat (T : Txt K mg) : Binds K (fdOf K ("flat", none)) ["pairs_told"] [] := T.D_flat.bindsN fun _ _ _ _ _ _ us hl => match us, hl with | [_], _ => rfl
theorem Txt.g_flat (T : Txt K mg) : mg "flat" = some (.ref (He.fAd K ("flat", none))) := T.glo 23 (x := "flat") rfl
theorem Txt.D_check (T : Txt K mg) : FunD K "check" "check" (defArgs s_check) (defBody s_check) (defScope s_check) [] [] (He.fAd K ("check", none)) (fdOf K ("check", none)) := T.fn_ 43 (d := d_check) rfl rfl rfl
theorem Txt.k_check (T : Txt K mg) : PySem.W.keepIn K (.ref (He.fAd K ("check", none))) = true := T.D_check.kp
theorem Txt.b_check (T : Txt K mg) : Binds K (fdOf K ("check", none)) ["store", "number"] [] := T.D_check.bindsN fun _ _ _ _ _ _ us hl => match us, hl with | [_, _], _ => rfl
theorem Txt.g_check (T : Txt K mg) : mg "check" = some (.ref (He.fAd K ("check", none))) := T.glo 24 (x := "check") rfl
theorem Txt.D_result (T : Txt K mg) : FunD K "result" "result" (defArgs s_result) (defBody s_result) (defScope s_result) [] [] (He.fAd K ("result", none)) (fdOf K ("result", none)) := T.fn_ 44 (d := d_result) rfl rfl rfl
theorem Txt.k_result (T : Txt K mg) : PySem.W.keepIn K (.ref (He.fAd K ("result", none))) = true := T.D_result.kp
theorem Txt.b_result (T : Txt K mg) : Binds K (fdOf K ("result", none)) ["desk", "number", "row", "others"] [] := T.D_result.bindsN fun _ _ _ _ _ _ us hl => match us, hl with | [_, _, _, _], _ => rfl
theorem Txt.g_result (T : Txt K mg) : mg "result" = some (.ref (He.fAd K ("result", none))) := T.glo 25 (x := "result") rfl
theorem Txt.D_apply_plan (T : Txt K mg) : FunD K "apply_plan" "apply_plan" (defArgs s_apply_plan) (defBody s_apply_plan) (defScope s_apply_plan) [] [] (He.fAd K ("apply_plan", none)) (fdOf K ("apply_plan", none)) := T.fn_ 45 (d := d_apply_plan) rfl rfl rfl
theorem Txt.k_apply_plan (T : Txt K mg) : PySem.W.keepIn K (.ref (He.fAd K ("apply_plan", none))) = true := T.D_apply_plan.kp
theorem Txt.b_apply_plan (T : Txt K mg) : Binds K (fdOf K ("apply_plan", none)) ["desk", "number", "row"] [] := T.D_apply_plan.bindsN fun _ _ _ _ _ _ us hl => match us, hl with | [_, _, _], _ => rfl
theorem Txt.g_apply_plan (T : Txt K mg) : mg "apply_plan" = some (.ref (He.fAd K ("apply_plan", none))) := T.glo 26 (x := "apply_plan") rfl
theorem Txt.D_save_result (T : Txt K mg) : FunD K "save_result" "save_result" (defArgs s_save_result) (defBody s_save_result) (defScope s_save_result) [] [] (He.fAd K ("save_result", none)) (fdOf K ("save_result", none)) := T.fn_ 46 (d := d_save_result) rfl rfl rfl
theorem Txt.k_save_result (T : Txt K mg) : PySem.W.keepIn K (.ref (He.fAd K ("save_result", none))) = true := T.D_save_result.kp
theorem Txt.b_save_result (T : Txt K mg) : Binds K (fdOf K ("save_result", none)) ["desk", "numbers", "row"] [] := T.D_save_result.bindsN fun _ _ _ _ _ _ us hl => match us, hl with | [_, _, _], _ => rfl
theorem Txt.g_save_result (T : Txt K mg) : mg "save_result" = some (.ref (He.fAd K ("save_result", none))) := T.glo 27 (x := "save_result") rfl
theorem Txt.D_count_plans (T : Txt K mg) : FunD K "count_plans" "count_plans" (defArgs s_count_plans) (defBody s_count_plans) (defScope s_count_plans) [] [] (He.fAd K ("count_plans", none)) (fdOf K ("count_plans", none)) := T.fn_ 47 (d := d_count_plans) rfl rfl rfl
theorem Txt.k_count_plans (T : Txt K mg) : PySem.W.keepIn K (.ref (He.fAd K ("count_plans", none))) = true := T.D_count_plans.kp
theorem Txt.b_count_plans (T : Txt K mg) : Binds K (fdOf K ("count_plans", none)) ["store", "number"] [] := T.D_count_plans.bindsN fun _ _ _ _ _ _ us hl => match us, hl with | [_, _], _ => rfl
theorem Txt.g_count_plans (T : Txt K mg) : mg "count_plans" = some (.ref (He.fAd K ("count_plans", none))) := T.glo 28 (x := "count_plans") rfl
theorem Txt.D_best (T : Txt K mg) : FunD K "best" "best" (defArgs s_best) (defBody s_best) (defScope s_best) [] [] (He.fAd K ("best", none)) (fdOf K ("best", none)) := T.fn_ 48 (d := d_best) rfl rfl rfl
theorem Txt.k_best (T : Txt K mg) : PySem.W.keepIn K (.ref (He.fAd K ("best", none))) = true := T.D_best.kp
theorem Txt.b_best (T : Txt K mg) : Binds K (fdOf K ("best", none)) ["store", "number", "word", "most"] [] := T.D_best.bindsN fun _ _ _ _ _ _ us hl => match us, hl with | [_, _, _, _], _ => rfl
theorem Txt.g_best (T : Txt K mg) : mg "best" = some (.ref (He.fAd K ("best", none))) := T.glo 29 (x := "best") rfl
theorem Txt.D_material_told (T : Txt K mg) : FunD K "material_told" "material_told" (defArgs s_material_told) (defBody s_material_told) (defScope s_material_told) [] [] (He.fAd K ("material_told", none)) (fdOf K ("material_told", none)) := T.fn_ 49 (d := d_material_told) rfl rfl rfl
theorem Txt.k_material_told (T : Txt K mg) : PySem.W.keepIn K (.ref (He.fAd K ("material_told", none))) = true := T.D_material_told.kp
theorem Txt.b_material_told (T : Txt K mg) : Binds K (fdOf K ("material_told", none)) ["desk", "number"] [] := T.D_material_told.bindsN fun _ _ _ _ _ _ us hl => match us, hl with | [_, _], _ => rfl
theorem Txt.g_material_told (T : Txt K mg) : mg "material_told" = some (.ref (He.fAd K ("material_told", none))) := T.glo 30 (x := "material_told") rfl
theorem Txt.D_dependent (T : Txt K mg) : FunD K "dependent" "dependent" (defArgs s_dependent) (defBody s_dependent) (defScope s_dependent) [] [] (He.fAd K ("dependent", none)) (fdOf K ("dependent", none)) := T.fn_ 50 (d := d_dependent) rfl rfl rfl
theorem Txt.k_dependent (T : Txt K mg) : PySem.W.keepIn K (.ref (He.fAd K ("dependent", none))) = true := T.D_dependent.kp
theorem Txt.b_dependent (T : Txt K mg) : Binds K (fdOf K ("dependent", none)) ["store", "number"] [] := T.D_dependent.bindsN fun _ _ _ _ _ _ us hl => match us, hl with | [_, _], _ => rfl
theorem Txt.g_dependent (T : Txt K mg) : mg "dependent" = some (.ref (He.fAd K ("dependent", none))) := T.glo 31 (x := "dependent") rfl
theorem Txt.D_cycle (T : Txt K mg) : FunD K "cycle" "cycle" (defArgs s_cycle) (defBody s_cycle) (defScope s_cycle) [] [] (He.fAd K ("cycle", none)) (fdOf K ("cycle", none)) := T.fn_ 51 (d := d_cycle) rfl rfl rfl
theorem Txt.k_cycle (T : Txt K mg) : PySem.W.keepIn K (.ref (He.fAd K ("cycle", none))) = true := T.D_cycle.kp
theorem Txt.b_cycle (T : Txt K mg) : Binds K (fdOf K ("cycle", none)) ["store"] [] := T.D_cycle.bindsN fun _ _ _ _ _ _ us hl => match us, hl with | [_], _ => rfl
theorem Txt.g_cycle (T : Txt K mg) : mg "cycle" = some (.ref (He.fAd K ("cycle", none))) := T.glo 32 (x := "cycle") rfl
theorem Txt.D_undo (T : Txt K mg) : FunD K "undo" "undo" (defArgs s_undo) (defBody s_undo) (defScope s_undo) [] [] (He.fAd K ("undo", none)) (fdOf K ("undo", none)) := T.fn_ 52 (d := d_undo) rfl rfl rfl
theorem Txt.k_undo (T : Txt K mg) : PySem.W.keepIn K (.ref (He.fAd K ("undo", none))) = true := T.D_undo.kp
theorem Txt.b_undo (T : Txt K mg) : Binds K (fdOf K ("undo", none)) ["desk"] [] := T.D_undo.bindsN fun _ _ _ _ _ _ us hl => match us, hl with | [_], _ => rfl
theorem Txt.g_undo (T : Txt K mg) : mg "undo" = some (.ref (He.fAd K ("undo", none))) := T.glo 33 (x := "undo") rfl
theorem Txt.D_summary (T : Txt K mg) : FunD K "summary" "summary" (defArgs s_summary) (defBody s_summary) (defScope s_summary) [] [] (He.fAd K ("summary", none)) (fdOf K ("summary", none)) := T.fn_ 53 (d := d_summary) rfl rfl rfl
theorem Txt.k_summary (T : Txt K mg) : PySem.W.keepIn K (.ref (He.fAd K ("summary", none))) = true := T.D_summary.kp
theorem Txt.b_summary (T : Txt K mg) : Binds K (fdOf K ("summary", none)) ["store"] [] := T.D_summary.bindsN fun _ _ _ _ _ _ us hl => match us, hl with | [_], _ => rfl
theorem Txt.g_summary (T : Txt K mg) : mg "summary" = some (.ref (He.fAd K ("summary", none))) := T.glo 34 (x := "summary") rfl
theorem Txt.D_of_changes (T : Txt K mg) : FunD K "of_changes" "of_changes" (defArgs s_of_changes) (defBody s_of_changes) (defScope s_of_changes) [] [] (He.fAd K ("of_changes", none)) (fdOf K ("of_changes", none)) := T.fn_ 54 (d := d_of_changes) rfl rfl rfl
theorem Txt.k_of_changes (T : Txt K mg) : PySem.W.keepIn K (.ref (He.fAd K ("of_changes", none))) = true := T.D_of_changes.kp
theorem Txt.b_of_changes (T : Txt K mg) : Binds K (fdOf K ("of_changes", none)) ["desk", "word", "numbers", "row"] [] := T.D_of_changes.bindsN fun _ _ _ _ _ _ us hl => match us, hl with | [_, _, _, _], _ => rfl
theorem Txt.g_of_changes (T : Txt K mg) : mg "of_changes" = some (.ref (He.fAd K ("of_changes", none))) := T.glo 35 (x := "of_changes") rfl
theorem Txt.D_of_formula (T : Txt K mg) : FunD K "of_formula" "of_formula" (defArgs s_of_formula) (defBody s_of_formula) (defScope s_of_formula) [] [] (He.fAd K ("of_formula", none)) (fdOf K ("of_formula", none)) := T.fn_ 55 (d := d_of_formula) rfl rfl rfl
theorem Txt.k_of_formula (T : Txt K mg) : PySem.W.keepIn K (.ref (He.fAd K ("of_formula", none))) = true := T.D_of_formula.kp
theorem Txt.b_of_formula (T : Txt K mg) : Binds K (fdOf K ("of_formula", none)) ["desk", "word", "numbers"] [] := T.D_of_formula.bindsN fun _ _ _ _ _ _ us hl => match us, hl with | [_, _, _], _ => rfl
theorem Txt.g_of_formula (T : Txt K mg) : mg "of_formula" = some (.ref (He.fAd K ("of_formula", none))) := T.glo 36 (x := "of_formula") rfl
theorem Txt.D_done (T : Txt K mg) : FunD K "done" "done" (defArgs s_done) (defBody s_done) (defScope s_done) [] [] (He.fAd K ("done", none)) (fdOf K ("done", none)) := T.fn_ 56 (d := d_done) rfl rfl rfl
theorem Txt.k_done (T : Txt K mg) : PySem.W.keepIn K (.ref (He.fAd K ("done", none))) = true := T.D_done.kp
theorem Txt.b_done (T : Txt K mg) : Binds K (fdOf K ("done", none)) ["desk", "word", "numbers", "row"] [] := T.D_done.bindsN fun _ _ _ _ _ _ us hl => match us, hl with | [_, _, _, _], _ => rfl
theorem Txt.g_done (T : Txt K mg) : mg "done" = some (.ref (He.fAd K ("done", none))) := T.glo 37 (x := "done") rfl
theorem Txt.D_answer_of (T : Txt K mg) : FunD K "answer_of" "answer_of" (defArgs s_answer_of) (defBody s_answer_of) (defScope s_answer_of) [] [] (He.fAd K ("answer_of", none)) (fdOf K ("answer_of", none)) := T.fn_ 57 (d := d_answer_of) rfl rfl rfl
theorem Txt.k_answer_of (T : Txt K mg) : PySem.W.keepIn K (.ref (He.fAd K ("answer_of", none))) = true := T.D_answer_of.kp
theorem Txt.b_answer_of (T : Txt K mg) : Binds K (fdOf K ("answer_of", none)) ["desk", "word", "numbers", "row"] [] := T.D_answer_of.bindsN fun _ _ _ _ _ _ us hl => match us, hl with | [_, _, _, _], _ => rfl
theorem Txt.g_answer_of (T : Txt K mg) : mg "answer_of" = some (.ref (He.fAd K ("answer_of", none))) := T.glo 38 (x := "answer_of") rfl
theorem Txt.D_answers (T : Txt K mg) : FunD K "answers" "answers" (defArgs s_answers) (defBody s_answers) (defScope s_answers) [] [] (He.fAd K ("answers", none)) (fdOf K ("answers", none)) := T.fn_ 58 (d := d_answers) rfl rfl rfl
theorem Txt.k_answers (T : Txt K mg) : PySem.W.keepIn K (.ref (He.fAd K ("answers", none))) = true := T.D_answers.kp
theorem Txt.b_answers (T : Txt K mg) : Binds K (fdOf K ("answers", none)) ["calls"] [] := T.D_answers.bindsN fun _ _ _ _ _ _ us hl => match us, hl with | [_], _ => rfl
theorem Txt.g_answers (T : Txt K mg) : mg "answers" = some (.ref (He.fAd K ("answers", none))) := T.glo 39 (x := "answers") rfl
theorem Txt.g_Material (T : Txt K mg) : mg "Material" = some (.ref (He.ga K "Material")) := T.glo 7 (x := "Material") rfl
theorem Txt.cl_Material (T : Txt K mg) : Cls K (He.ga K "Material") := He.cls_ok (T.fact 62 (f := .cls "Material") rfl)
theorem Txt.mk_Material (T : Txt K mg) : Mk K (He.ga K "Material") (He.fAd K ("Material", some "__init__")) := He.mkr_ok (T.fact 63 (f := .mkr "Material") rfl)
theorem Txt.na_Material_price (T : Txt K mg) : NoAttr K (He.ga K "Material") "price" := He.noat_ok (T.fact 64 (f := .noat "Material" "price") rfl)
theorem Txt.na_Material_profile (T : Txt K mg) : NoAttr K (He.ga K "Material") "profile" := He.noat_ok (T.fact 65 (f := .noat "Material" "profile") rfl)
theorem Txt.na_Material_is_available (T : Txt K mg) : NoAttr K (He.ga K "Material") "is_available" := He.noat_ok (T.fact 66 (f := .noat "Material" "is_available") rfl)
theorem Txt.na_Material_most (T : Txt K mg) : NoAttr K (He.ga K "Material") "most" := He.noat_ok (T.fact 67 (f := .noat "Material" "most") rfl)
theorem Txt.g_Rule (T : Txt K mg) : mg "Rule" = some (.ref (He.ga K "Rule")) := T.glo 8 (x := "Rule") rfl
theorem Txt.cl_Rule (T : Txt K mg) : Cls K (He.ga K "Rule") := He.cls_ok (T.fact 68 (f := .cls "Rule") rfl)
theorem Txt.mk_Rule (T : Txt K mg) : Mk K (He.ga K "Rule") (He.fAd K ("Rule", some "__init__")) := He.mkr_ok (T.fact 69 (f := .mkr "Rule") rfl)
theorem Txt.na_Rule_material (T : Txt K mg) : NoAttr K (He.ga K "Rule") "material" := He.noat_ok (T.fact 70 (f := .noat "Rule" "material") rfl)
theorem Txt.na_Rule_parts (T : Txt K mg) : NoAttr K (He.ga K "Rule") "parts" := He.noat_ok (T.fact 71 (f := .noat "Rule" "parts") rfl)
theorem Txt.na_Rule_replacements (T : Txt K mg) : NoAttr K (He.ga K "Rule") "replacements" := He.noat_ok (T.fact 72 (f := .noat "Rule" "replacements") rfl)
theorem Txt.g_Store (T : Txt K mg) : mg "Store" = some (.ref (He.ga K "Store")) := T.glo 9 (x := "Store") rfl
theorem Txt.cl_Store (T : Txt K mg) : Cls K (He.ga K "Store") := He.cls_ok (T.fact 73 (f := .cls "Store") rfl)
theorem Txt.mk_Store (T : Txt K mg) : Mk K (He.ga K "Store") (He.fAd K ("Store", some "__init__")) := He.mkr_ok (T.fact 74 (f := .mkr "Store") rfl)
theorem Txt.na_Store_materials (T : Txt K mg) : NoAttr K (He.ga K "Store") "materials" := He.noat_ok (T.fact 75 (f := .noat "Store" "materials") rfl)
theorem Txt.na_Store_rules (T : Txt K mg) : NoAttr K (He.ga K "Store") "rules" := He.noat_ok (T.fact 76 (f := .noat "Store" "rules") rfl)
theorem Txt.na_Store_formulas (T : Txt K mg) : NoAttr K (He.ga K "Store") "formulas" := He.noat_ok (T.fact 77 (f := .noat "Store" "formulas") rfl)
theorem Txt.g_Choice (T : Txt K mg) : mg "Choice" = some (.ref (He.ga K "Choice")) := T.glo 10 (x := "Choice") rfl
theorem Txt.cl_Choice (T : Txt K mg) : Cls K (He.ga K "Choice") := He.cls_ok (T.fact 78 (f := .cls "Choice") rfl)
theorem Txt.mk_Choice (T : Txt K mg) : Mk K (He.ga K "Choice") (He.fAd K ("Choice", some "__init__")) := He.mkr_ok (T.fact 79 (f := .mkr "Choice") rfl)
theorem Txt.na_Choice_numbers (T : Txt K mg) : NoAttr K (He.ga K "Choice") "numbers" := He.noat_ok (T.fact 80 (f := .noat "Choice" "numbers") rfl)
theorem Txt.na_Choice_cost (T : Txt K mg) : NoAttr K (He.ga K "Choice") "cost" := He.noat_ok (T.fact 81 (f := .noat "Choice" "cost") rfl)
theorem Txt.na_Choice_distance (T : Txt K mg) : NoAttr K (He.ga K "Choice") "distance" := He.noat_ok (T.fact 82 (f := .noat "Choice" "distance") rfl)
theorem Txt.g_Desk (T : Txt K mg) : mg "Desk" = some (.ref (He.ga K "Desk")) := T.glo 16 (x := "Desk") rfl
theorem Txt.cl_Desk (T : Txt K mg) : Cls K (He.ga K "Desk") := He.cls_ok (T.fact 83 (f := .cls "Desk") rfl)
theorem Txt.mk_Desk (T : Txt K mg) : Mk K (He.ga K "Desk") (He.fAd K ("Desk", some "__init__")) := He.mkr_ok (T.fact 84 (f := .mkr "Desk") rfl)
theorem Txt.na_Desk_store (T : Txt K mg) : NoAttr K (He.ga K "Desk") "store" := He.noat_ok (T.fact 85 (f := .noat "Desk" "store") rfl)
theorem Txt.na_Desk_before (T : Txt K mg) : NoAttr K (He.ga K "Desk") "before" := He.noat_ok (T.fact 86 (f := .noat "Desk" "before") rfl)
theorem Txt.g_Refused (T : Txt K mg) : mg "Refused" = some (.ref (He.ga K "Refused")) := T.glo 12 (x := "Refused") rfl
theorem Txt.na_Refused_code (T : Txt K mg) : NoAttr K (He.ga K "Refused") "code" := He.noat_ok (T.fact 87 (f := .noat "Refused" "code") rfl)
theorem Txt.mt_Rule_feeds (T : Txt K mg) : Meth K (He.ga K "Rule") "feeds" (He.fAd K ("Rule", some "feeds")) := He.meth_ok (T.fact 88 (f := .meth "Rule" "feeds") rfl)
theorem Txt.mt_Store_twin (T : Txt K mg) : Meth K (He.ga K "Store") "twin" (He.fAd K ("Store", some "twin")) := He.meth_ok (T.fact 89 (f := .meth "Store" "twin") rfl)
theorem Txt.mt_Store_mixture (T : Txt K mg) : Meth K (He.ga K "Store") "mixture" (He.fAd K ("Store", some "mixture")) := He.meth_ok (T.fact 90 (f := .meth "Store" "mixture") rfl)
theorem Txt.mt_Store_cost_told (T : Txt K mg) : Meth K (He.ga K "Store") "cost_told" (He.fAd K ("Store", some "cost_told")) := He.meth_ok (T.fact 91 (f := .meth "Store" "cost_told") rfl)
theorem Txt.mt_Store_profile_told (T : Txt K mg) : Meth K (He.ga K "Store") "profile_told" (He.fAd K ("Store", some "profile_told")) := He.meth_ok (T.fact 92 (f := .meth "Store" "profile_told") rfl)
theorem Txt.mt_Store_distance_told (T : Txt K mg) : Meth K (He.ga K "Store") "distance_told" (He.fAd K ("Store", some "distance_told")) := He.meth_ok (T.fact 93 (f := .meth "Store" "distance_told") rfl)
theorem Txt.mt_Store_fault (T : Txt K mg) : Meth K (He.ga K "Store") "fault" (He.fAd K ("Store", some "fault")) := He.meth_ok (T.fact 94 (f := .meth "Store" "fault") rfl)
theorem Txt.mt_Store_order (T : Txt K mg) : Meth K (He.ga K "Store") "order" (He.fAd K ("Store", some "order")) := He.meth_ok (T.fact 95 (f := .meth "Store" "order") rfl)
theorem Txt.mt_Store_result (T : Txt K mg) : Meth K (He.ga K "Store") "result" (He.fAd K ("Store", some "result")) := He.meth_ok (T.fact 96 (f := .meth "Store" "result") rfl)
theorem Txt.mt_Store_plans (T : Txt K mg) : Meth K (He.ga K "Store") "plans" (He.fAd K ("Store", some "plans")) := He.meth_ok (T.fact 97 (f := .meth "Store" "plans") rfl)
theorem Txt.mt_Store_acceptable (T : Txt K mg) : Meth K (He.ga K "Store") "acceptable" (He.fAd K ("Store", some "acceptable")) := He.meth_ok (T.fact 98 (f := .meth "Store" "acceptable") rfl)
theorem Txt.mt_Store_reached (T : Txt K mg) : Meth K (He.ga K "Store") "reached" (He.fAd K ("Store", some "reached")) := He.meth_ok (T.fact 99 (f := .meth "Store" "reached") rfl)
theorem Txt.mt_Store_cycle (T : Txt K mg) : Meth K (He.ga K "Store") "cycle" (He.fAd K ("Store", some "cycle")) := He.meth_ok (T.fact 100 (f := .meth "Store" "cycle") rfl)
theorem Txt.mt_Store_cycle_from (T : Txt K mg) : Meth K (He.ga K "Store") "cycle_from" (He.fAd K ("Store", some "cycle_from")) := He.meth_ok (T.fact 101 (f := .meth "Store" "cycle_from") rfl)
theorem Txt.mt_Choice_is_before (T : Txt K mg) : Meth K (He.ga K "Choice") "is_before" (He.fAd K ("Choice", some "is_before")) := He.meth_ok (T.fact 102 (f := .meth "Choice" "is_before") rfl)
theorem Txt.mt_Desk_put (T : Txt K mg) : Meth K (He.ga K "Desk") "put" (He.fAd K ("Desk", some "put")) := He.meth_ok (T.fact 103 (f := .meth "Desk" "put") rfl)
theorem Txt.mt_Desk_put_material (T : Txt K mg) : Meth K (He.ga K "Desk") "put_material" (He.fAd K ("Desk", some "put_material")) := He.meth_ok (T.fact 104 (f := .meth "Desk" "put_material") rfl)
theorem Txt.mt_Desk_put_rule (T : Txt K mg) : Meth K (He.ga K "Desk") "put_rule" (He.fAd K ("Desk", some "put_rule")) := He.meth_ok (T.fact 105 (f := .meth "Desk" "put_rule") rfl)
theorem Txt.mt_Desk_put_formula (T : Txt K mg) : Meth K (He.ga K "Desk") "put_formula" (He.fAd K ("Desk", some "put_formula")) := He.meth_ok (T.fact 106 (f := .meth "Desk" "put_formula") rfl)
theorem Txt.f_abs (T : Txt K mg) : mg "abs" = none := T.free 42 (x := "abs") rfl
theorem Txt.f_sum (T : Txt K mg) : mg "sum" = none := T.free 43 (x := "sum") rfl
theorem Txt.f_sorted (T : Txt K mg) : mg "sorted" = none := T.free 44 (x := "sorted") rfl
theorem Txt.f_len (T : Txt K mg) : mg "len" = none := T.free 45 (x := "len") rfl
theorem Txt.f_set (T : Txt K mg) : mg "set" = none := T.free 46 (x := "set") rfl
theorem Txt.f_any (T : Txt K mg) : mg "any" = none := T.free 47 (x := "any") rfl
theorem Txt.f_all (T : Txt K mg) : mg "all" = none := T.free 48 (x := "all") rfl
theorem Txt.f_zip (T : Txt K mg) : mg "zip" = none := T.free 49 (x := "zip") rfl
theorem Txt.f_range (T : Txt K mg) : mg "range" = none := T.free 50 (x := "range") rfl
theorem Txt.f_enumerate (T : Txt K mg) : mg "enumerate" = none := T.free 51 (x := "enumerate") rfl
theorem Txt.f_dict (T : Txt K mg) : mg "dict" = none := T.free 52 (x := "dict") rfl
theorem Txt.f_list (T : Txt K mg) : mg "list" = none := T.free 53 (x := "list") rfl
theorem Txt.f_tuple (T : Txt K mg) : mg "tuple" = none := T.free 54 (x := "tuple") rfl
theorem Txt.f_ValueError (T : Txt K mg) : mg "ValueError" = none := T.free 55 (x := "ValueError") rfl
theorem Txt.i_WHOLE (T : Txt K mg) : ∃ t, mg "WHOLE" = some (.int 1000000 t) := T.int 56 (x := "WHOLE") (n := 1000000) rfl
theorem Txt.i_ATTRIBUTES (T : Txt K mg) : ∃ t, mg "ATTRIBUTES" = some (.int 6 t) := T.int 57 (x := "ATTRIBUTES") (n := 6) rfl
theorem Txt.i_MATERIALS (T : Txt K mg) : ∃ t, mg "MATERIALS" = some (.int 23 t) := T.int 58 (x := "MATERIALS") (n := 23) rfl
theorem Txt.i_RULES (T : Txt K mg) : ∃ t, mg "RULES" = some (.int 9 t) := T.int 59 (x := "RULES") (n := 9) rfl
theorem Txt.i_FORMULAS (T : Txt K mg) : ∃ t, mg "FORMULAS" = some (.int 7 t) := T.int 60 (x := "FORMULAS") (n := 7) rfl
theorem Txt.i_MOST (T : Txt K mg) : ∃ t, mg "MOST" = some (.int 1000000 t) := T.int 61 (x := "MOST") (n := 1000000) rfl
theorem Txt.g_NUMBERS (T : Txt K mg) : mg "NUMBERS" = some (.ref (He.ga K "NUMBERS")) := T.glo 40 (x := "NUMBERS") rfl
theorem Txt.g_LISTED (T : Txt K mg) : mg "LISTED" = some (.ref (He.ga K "LISTED")) := T.glo 41 (x := "LISTED") rfl
end
end Sw
set_option maxRecDepth 100000
set_option maxHeartbeats 2000000
/-! # Exact numbers -/
namespace Sw
open PySem L2
variable {P : Program} {w : World} {K : PySem.W.Frag} {mg : Str → Option Value} {base : Heap}
def sp_common : Sp := spF (ι := Nat × Nat) (fun i => [IntP (i.1 : Int), IntP (i.2 : Int)]) (fun _ => True) fun i => IntP ((Nat.gcd i.2 i.1 : Nat) : Int)
theorem ok_common (T : Txt K mg) : FnOk P w K mg base CX0 2 (He.fAd K ("common", none)) (fdOf K ("common", none)) ["one", "other"] sp_common := by
  refine T.D_common.ok sc_common (spF_len fun _ => rfl) (fun cdv A outer s H vs Q E hr h => ⟨_, PSs.nox (pss_cons (ps_while PassesOwn.never (pt_cmpR op_gt (pv 1) pe_int (nomark _)) (pss_one (ps_par (i := 0) (j := 1) (by rfl) sc_common.nd rfl rfl (by decide) rfl rfl (pa_cons (pv 1) (pa_cons (pe_op op_modN (pv 0) (pv 1)) pa_nil)) (by rfl)))) (pss_one (ps_ret (pv 0)))), ?_⟩)
  refine body_of h fun i _ F0 H0 => ?_
  refine ht_seq (B := TyA No F0 H0 [some (IntP ((Nat.gcd i.2 i.1 : Nat) : Int)), none] W0) (ht_whileT (β := {b : Nat × Nat // Nat.gcd b.2 b.1 = Nat.gcd i.2 i.1}) (fun b => [some (IntP (b.1.1 : Int)), some (IntP (b.1.2 : Int))]) (fun _ => W0) (fun b => b.1.2) ⟨i, rfl⟩ (fun σ H a => a) _ (fun _ => et_test (ev_gt (ev_var rfl) ev_int)) (fun ⟨b, hb⟩ go => ?_) (fun ⟨b, hb⟩ go => ?_)) (ht_ret (ev_var rfl))
  · have h0 : 0 < b.2 := by have : (0 : Int) < (b.2 : Int) := of_decide_eq_true go; omega
    refine ht_post (B := TyA No F0 H0 [some (IntP (b.2 : Int)), some (IntP ((b.1 % b.2 : Nat) : Int))] W0) (fun σ H a => ⟨⟨(b.2, b.1 % b.2), ?_⟩, Nat.mod_lt _ h0, a⟩) (ht_par (ea_cons (ev_var rfl) (ea_cons (ev_is (ev_modN (ev_var rfl) (ev_var rfl) (by show ((b.2 : Nat) : Int) ≠ 0; omega)) ?_) ea_nil)))
    · rw [← hb, Nat.gcd_rec b.2 b.1]
    · show Int.fmod (b.1 : Int) (b.2 : Int) = _
      rw [Int.fmod_eq_emod_of_nonneg _ (by omega)]; rfl
  · have h0 : b.2 = 0 := by have : ¬ (0 : Int) < (b.2 : Int) := of_decide_eq_false go; omega
    have e : b.1 = Nat.gcd i.2 i.1 := by rw [← hb, h0, Nat.gcd_zero_left]
    exact TyA.le ⟨.inr (congrArg (fun n : Nat => some (IntP (n : Int))) e), .inl rfl, trivial⟩
/-- the fraction n / d in lowest terms -/
theorem lowest (n : Int) (d : Nat) (h : 0 < d) : n / ((Nat.gcd d n.natAbs : Nat) : Int) = ((n : Rat) / (d : Rat)).num ∧ d / Nat.gcd d n.natAbs = ((n : Rat) / (d : Rat)).den := by
  have e : (n : Rat) / (d : Rat) = mkRat n d := by rw [Rat.mkRat_eq_div]
  have : ¬ d = 0 := by omega
  rw [e, Rat.num_mkRat, Rat.den_mkRat, if_neg this, if_neg this, Nat.gcd_comm]
  exact ⟨rfl, rfl⟩
def sp_fraction : Sp := spF (ι := Int × Nat) (fun i => [IntP i.1, IntP (i.2 : Int)]) (fun i => 0 < i.2 ∧ i.2 < 2 ^ 9000) fun i => FrP ((i.1 : Rat) / (i.2 : Rat))
theorem ok_fraction (T : Txt K mg) : FnOk P w K mg base CX0 3 (He.fAd K ("fraction", none)) (fdOf K ("fraction", none)) ["upper", "lower"] sp_fraction := by
  refine T.D_fraction.ok sc_fraction (spF_len fun _ => rfl) (fun cdv A outer s H vs Q E hr h => ⟨_, PSs.nox (pss_cons (ps_set (i := 2) sc_fraction.nd rfl (Or.inl rfl) (pe_call (ok_common T) (hr.mono (by decide)) (by rfl) T.g_common T.k_common T.b_common .nil pass0 (pa_cons (pe_callB cr_abs (by rfl) T.f_abs bb_abs (pa_cons (pv 0) pa_nil)) (pa_cons (pv 1) pa_nil)))) (pss_one (ps_ret (pe_tup (pa_cons (pe_op op_fdivW (pv 0) (pv 2)) (pa_cons (pe_op op_fdivW (pv 1) (pv 2)) pa_nil)))))), ?_⟩)
  refine body_of h fun ⟨n, d⟩ ⟨h1, h2⟩ F0 H0 => ?_
  have hg : 0 < Nat.gcd d n.natAbs := Nat.gcd_pos_of_pos_left _ h1
  have hw : CDivW n ((Nat.gcd d n.natAbs : Nat) : Int) := wide_div (b := 9000) (by omega) (by rw [Int.natAbs_natCast]; exact Nat.lt_of_le_of_lt (Nat.gcd_le_left n.natAbs h1) h2) (by decide) (by decide)
  refine ht_seq (ht_set (ev_call (ea_cons (ev_cb (ea_cons (ev_var rfl) ea_nil) cb_abs) (ea_cons (ev_var rfl) ea_nil)) (spF_g (n.natAbs, d) trivial))) ?_
  obtain ⟨e1, e2⟩ := lowest n d h1
  refine ht_ret (ev_fr (i := n / ((Nat.gcd d n.natAbs : Nat) : Int)) (d := d / Nat.gcd d n.natAbs) (ea_cons (ev_divW (ev_var rfl) (ev_var rfl) hw) (ea_cons (ev_is (ev_divW (ev_var rfl) (ev_var rfl) hw) rfl) ea_nil)) e1 e2)
/-! sizes -/
abbrev Sm := Pl.Sm
theorem Sm.mul {q r : Rat} (h : Sm q) (h' : Sm r) : CMulW q.num (r.den : Int) ∧ CMulW (q.den : Int) (r.den : Int) ∧ q.den * r.den < 2 ^ 9000 := by
  have e : ∀ n : Nat, ((n : Nat) : Int).natAbs = n := Int.natAbs_natCast
  refine ⟨wide_mul h.1 (by rw [e]; exact h'.2) (by decide) (by decide) (by decide), wide_mul (by rw [e]; exact h.2) (by rw [e]; exact h'.2) (by decide) (by decide) (by decide), ?_⟩
  refine Nat.lt_of_lt_of_le (Nat.mul_lt_mul'' h.2 h'.2) ?_
  rw [← Nat.pow_add]
  exact Nat.pow_le_pow_right (by decide) (by decide)
theorem numden (q : Rat) : q = (q.num : Rat) / (q.den : Rat) := ((Rat.mkRat_eq_div _ _).symm.trans (Rat.mkRat_self q)).symm
theorem frac_add (q r : Rat) : ((q.num * (r.den : Int) + r.num * (q.den : Int) : Int) : Rat) / ((q.den * r.den : Nat) : Rat) = q + r := by
  have h1 : (q.den : Rat) ≠ 0 := by have := q.den_nz; exact_mod_cast this
  have h2 : (r.den : Rat) ≠ 0 := by have := r.den_nz; exact_mod_cast this
  have e1 : q = (q.num : Rat) / (q.den : Rat) := numden q
  have e2 : r = (r.num : Rat) / (r.den : Rat) := numden r
  generalize q.num = a, q.den = b, r.num = c, r.den = d at *
  rw [e1, e2, Rat.intCast_add, Rat.intCast_mul, Rat.intCast_mul, Rat.natCast_mul, Rat.intCast_natCast, Rat.intCast_natCast]
  grind
def sp_plus : Sp := spF (ι := Rat × Rat) (fun i => [FrP i.1, FrP i.2]) (fun i => Sm i.1 ∧ Sm i.2) fun i => FrP (i.1 + i.2)
theorem ok_plus (T : Txt K mg) : FnOk P w K mg base CX0 4 (He.fAd K ("plus", none)) (fdOf K ("plus", none)) ["one", "other"] sp_plus := by
  refine T.D_plus.ok sc_plus (spF_len fun _ => rfl) (fun cdv A outer s H vs Q E hr h => ⟨_, PSs.nox (pss_one (ps_ret (pe_call (ok_fraction T) (hr.mono (by decide)) (by rfl) T.g_fraction T.k_fraction T.b_fraction .nil pass0 (pa_cons (pe_op op_add (pe_op op_mulW (pe_ix ix_tup (pv 0) pe_int (fun _ _ => rfl)) (pe_ix ix_tup (pv 1) pe_int (fun _ _ => rfl))) (pe_op op_mulW (pe_ix ix_tup (pv 1) pe_int (fun _ _ => rfl)) (pe_ix ix_tup (pv 0) pe_int (fun _ _ => rfl)))) (pa_cons (pe_op op_mulW (pe_ix ix_tup (pv 0) pe_int (fun _ _ => rfl)) (pe_ix ix_tup (pv 1) pe_int (fun _ _ => rfl))) pa_nil))))), ?_⟩)
  refine body_of h fun ⟨q, r⟩ ⟨h1, h2⟩ F0 H0 => ?_
  obtain ⟨m1, m2, m3⟩ := h1.mul h2
  obtain ⟨n1, n2, n3⟩ := h2.mul h1
  refine ht_ret (ev_isF (ev_call (ea_cons (ev_add (ev_mulW (ev_num (ev_var rfl)) (ev_den (ev_var rfl)) m1) (ev_mulW (ev_num (ev_var rfl)) (ev_den (ev_var rfl)) n1)) (ea_cons (ev_is (ev_mulW (ev_den (ev_var rfl)) (ev_den (ev_var rfl)) m2) rfl) ea_nil)) (spF_g (_, q.den * r.den) ⟨Nat.mul_pos q.den_pos r.den_pos, m3⟩)) (frac_add q r))
theorem frac_sub (q r : Rat) : ((q.num * (r.den : Int) - r.num * (q.den : Int) : Int) : Rat) / ((q.den * r.den : Nat) : Rat) = q - r := by
  have h1 : (q.den : Rat) ≠ 0 := by have := q.den_nz; exact_mod_cast this
  have h2 : (r.den : Rat) ≠ 0 := by have := r.den_nz; exact_mod_cast this
  have e1 := numden q
  have e2 := numden r
  generalize q.num = a, q.den = b, r.num = c, r.den = d at *
  rw [e1, e2, Rat.intCast_sub, Rat.intCast_mul, Rat.intCast_mul, Rat.natCast_mul, Rat.intCast_natCast, Rat.intCast_natCast]
  grind
def sp_minus : Sp := spF (ι := Rat × Rat) (fun i => [FrP i.1, FrP i.2]) (fun i => Sm i.1 ∧ Sm i.2) fun i => FrP (i.1 - i.2)
theorem ok_minus (T : Txt K mg) : FnOk P w K mg base CX0 4 (He.fAd K ("minus", none)) (fdOf K ("minus", none)) ["one", "other"] sp_minus := by
  refine T.D_minus.ok sc_minus (spF_len fun _ => rfl) (fun cdv A outer s H vs Q E hr h => ⟨_, PSs.nox (pss_one (ps_ret (pe_call (ok_fraction T) (hr.mono (by decide)) (by rfl) T.g_fraction T.k_fraction T.b_fraction .nil pass0 (pa_cons (pe_op op_sub (pe_op op_mulW (pe_ix ix_tup (pv 0) pe_int (fun _ _ => rfl)) (pe_ix ix_tup (pv 1) pe_int (fun _ _ => rfl))) (pe_op op_mulW (pe_ix ix_tup (pv 1) pe_int (fun _ _ => rfl)) (pe_ix ix_tup (pv 0) pe_int (fun _ _ => rfl)))) (pa_cons (pe_op op_mulW (pe_ix ix_tup (pv 0) pe_int (fun _ _ => rfl)) (pe_ix ix_tup (pv 1) pe_int (fun _ _ => rfl))) pa_nil))))), ?_⟩)
  refine body_of h fun ⟨q, r⟩ ⟨h1, h2⟩ F0 H0 => ?_
  obtain ⟨m1, m2, m3⟩ := h1.mul h2
  obtain ⟨n1, n2, n3⟩ := h2.mul h1
  refine ht_ret (ev_isF (ev_call (ea_cons (ev_subI (ev_mulW (ev_num (ev_var rfl)) (ev_den (ev_var rfl)) m1) (ev_mulW (ev_num (ev_var rfl)) (ev_den (ev_var rfl)) n1)) (ea_cons (ev_is (ev_mulW (ev_den (ev_var rfl)) (ev_den (ev_var rfl)) m2) rfl) ea_nil)) (spF_g (_, q.den * r.den) ⟨Nat.mul_pos q.den_pos r.den_pos, m3⟩)) (frac_sub q r))
theorem frac_mul (q : Rat) (n : Nat) : ((q.num * (n : Int) : Int) : Rat) / ((q.den : Nat) : Rat) = q * (n : Rat) := by
  have h1 : (q.den : Rat) ≠ 0 := by have := q.den_nz; exact_mod_cast this
  have e1 := numden q
  generalize q.num = a, q.den = b at *
  rw [e1, Rat.intCast_mul, Rat.intCast_natCast]
  grind
theorem den_ok {q : Rat} (h : Sm q) : q.den < 2 ^ 9000 := Nat.lt_of_lt_of_le h.2 (Nat.pow_le_pow_right (by decide) (by decide))
def sp_times : Sp := spF (ι := Rat × Nat) (fun i => [FrP i.1, IntP (i.2 : Int)]) (fun i => Sm i.1 ∧ i.2 < 2 ^ 4000) fun i => FrP (i.1 * (i.2 : Rat))
theorem ok_times (T : Txt K mg) : FnOk P w K mg base CX0 4 (He.fAd K ("times", none)) (fdOf K ("times", none)) ["one", "number"] sp_times := by
  refine T.D_times.ok sc_times (spF_len fun _ => rfl) (fun cdv A outer s H vs Q E hr h => ⟨_, PSs.nox (pss_one (ps_ret (pe_call (ok_fraction T) (hr.mono (by decide)) (by rfl) T.g_fraction T.k_fraction T.b_fraction .nil pass0 (pa_cons (pe_op op_mulW (pe_ix ix_tup (pv 0) pe_int (fun _ _ => rfl)) (pv 1)) (pa_cons (pe_ix ix_tup (pv 0) pe_int (fun _ _ => rfl)) pa_nil))))), ?_⟩)
  refine body_of h fun ⟨q, n⟩ ⟨h1, h2⟩ F0 H0 => ?_
  refine ht_ret (ev_isF (ev_call (ea_cons (ev_mulW (ev_num (ev_var rfl)) (ev_var rfl) (wide_mul h1.1 (by rw [Int.natAbs_natCast]; exact h2) (by decide) (by decide) (by decide))) (ea_cons (ev_den (ev_var rfl)) ea_nil)) (spF_g (_, q.den) ⟨q.den_pos, den_ok h1⟩)) (frac_mul q n))
theorem num_pos {r : Rat} (h : 0 < r) : 0 < r.num := by
  have := (Rat.lt_iff 0 r).mp h
  simpa using this
theorem frac_div (q r : Rat) (h : 0 < r) : ((q.num * (r.den : Int) : Int) : Rat) / ((q.den * r.num.toNat : Nat) : Rat) = q / r := by
  have h1 : (q.den : Rat) ≠ 0 := by have := q.den_nz; exact_mod_cast this
  have h2 : (r.den : Rat) ≠ 0 := by have := r.den_nz; exact_mod_cast this
  have h3 := num_pos h
  have h4 : ((r.num.toNat : Nat) : Rat) = (r.num : Rat) := by
    have : ((r.num.toNat : Nat) : Int) = r.num := by omega
    rw [← Rat.intCast_natCast, this]
  have h5 : (r.num : Rat) ≠ 0 := by
    have : r.num ≠ 0 := by omega
    exact_mod_cast this
  have e1 := numden q
  have e2 := numden r
  rw [Rat.natCast_mul, h4, Rat.intCast_mul, Rat.intCast_natCast]
  clear h4 h3 h
  generalize q.num = a, q.den = b, r.num = c, r.den = d at *
  rw [e1, e2]
  grind
def sp_quotient : Sp := spF (ι := Rat × Rat) (fun i => [FrP i.1, FrP i.2]) (fun i => Sm i.1 ∧ Sm i.2 ∧ 0 < i.2) fun i => FrP (i.1 / i.2)
theorem ok_quotient (T : Txt K mg) : FnOk P w K mg base CX0 4 (He.fAd K ("quotient", none)) (fdOf K ("quotient", none)) ["one", "other"] sp_quotient := by
  refine T.D_quotient.ok sc_quotient (spF_len fun _ => rfl) (fun cdv A outer s H vs Q E hr h => ⟨_, PSs.nox (pss_one (ps_ret (pe_call (ok_fraction T) (hr.mono (by decide)) (by rfl) T.g_fraction T.k_fraction T.b_fraction .nil pass0 (pa_cons (pe_op op_mulW (pe_ix ix_tup (pv 0) pe_int (fun _ _ => rfl)) (pe_ix ix_tup (pv 1) pe_int (fun _ _ => rfl))) (pa_cons (pe_op op_mulW (pe_ix ix_tup (pv 0) pe_int (fun _ _ => rfl)) (pe_ix ix_tup (pv 1) pe_int (fun _ _ => rfl))) pa_nil))))), ?_⟩)
  refine body_of h fun ⟨q, r⟩ ⟨h1, h2, h3⟩ F0 H0 => ?_
  obtain ⟨m1, m2, m3⟩ := h1.mul h2
  have hn : 0 < r.num := num_pos h3
  have hn2 : (r.num.toNat : Int) = r.num := Int.toNat_of_nonneg (Int.le_of_lt hn)
  have hn3 : 0 < r.num.toNat := by clear h1 h2 m1 m2 m3; omega
  have e : (q.den : Int) * r.num = ((q.den * r.num.toNat : Nat) : Int) := by
    rw [Int.natCast_mul, hn2]
  have hb : q.den * r.num.toNat < 2 ^ 9000 := by
    refine Nat.lt_of_lt_of_le (Nat.mul_lt_mul'' h1.2 (show r.num.toNat < 2 ^ 4000 from ?_)) ?_
    · have : r.num.toNat = r.num.natAbs := by clear h1 h2 m1 m2 m3; omega
      rw [this]; exact h2.1
    · rw [← Nat.pow_add]
      exact Nat.pow_le_pow_right (by decide) (by decide)
  refine ht_ret (ev_isF (ev_call (ea_cons (ev_mulW (ev_num (ev_var rfl)) (ev_den (ev_var rfl)) m1) (ea_cons (ev_is (ev_mulW (ev_den (ev_var rfl)) (ev_num (ev_var rfl)) (wide_mul (by rw [Int.natAbs_natCast]; exact h1.2) h2.1 (by decide) (by decide) (by decide))) e) ea_nil)) (spF_g (_, q.den * r.num.toNat) ⟨Nat.mul_pos q.den_pos hn3, hb⟩)) (frac_div q r h3))
def sp_is_less : Sp := spF (ι := Rat × Rat) (fun i => [FrP i.1, FrP i.2]) (fun i => Sm i.1 ∧ Sm i.2) fun i => BoolP (decide (i.1 < i.2))
theorem ok_is_less (T : Txt K mg) : FnOk P w K mg base CX0 2 (He.fAd K ("is_less", none)) (fdOf K ("is_less", none)) ["one", "other"] sp_is_less := by
  refine T.D_is_less.ok sc_is_less (spF_len fun _ => rfl) (fun cdv A outer s H vs Q E hr h => ⟨_, PSs.nox (pss_one (ps_ret (pe_cmpR op_lt (pe_op op_mulW (pe_ix ix_tup (pv 0) pe_int (fun _ _ => rfl)) (pe_ix ix_tup (pv 1) pe_int (fun _ _ => rfl))) (pe_op op_mulW (pe_ix ix_tup (pv 1) pe_int (fun _ _ => rfl)) (pe_ix ix_tup (pv 0) pe_int (fun _ _ => rfl))) (nomark _)))), ?_⟩)
  refine body_of h fun ⟨q, r⟩ ⟨h1, h2⟩ F0 H0 => ?_
  obtain ⟨m1, m2, m3⟩ := h1.mul h2
  obtain ⟨n1, n2, n3⟩ := h2.mul h1
  refine ht_ret (ev_isB (ev_lt (ev_mulW (ev_num (ev_var rfl)) (ev_den (ev_var rfl)) m1) (ev_mulW (ev_num (ev_var rfl)) (ev_den (ev_var rfl)) n1)) ?_)
  rw [Bool.eq_iff_iff, decide_eq_true_eq, decide_eq_true_eq]
  exact (Rat.lt_iff q r).symm
end Sw
set_option maxRecDepth 100000
set_option maxHeartbeats 2000000
/-! # Stores -/
namespace Sw
open PySem L2
open SubstitutionSpec (Material Rule)
/-! ### types -/
def PairP (p : Nat × Nat) : VP := TupP [IntP (p.1 : Int), IntP (p.2 : Int)]
def matF (m : Material) : List (Str × VP) := [("price", IntP (m.price : Int)), ("profile", TupP (m.profile.map fun (n : Nat) => IntP (n : Int))), ("is_available", BoolP m.isAvailable), ("most", IntP (m.maxShare : Int))]
def MatP (K : PySem.W.Frag) (m : Material) : VP := ObjP (He.ga K "Material") (matF m)
def rulF (r : Rule) : List (Str × VP) := [("material", IntP (r.material : Int)), ("parts", IntP (r.parts : Int)), ("replacements", LstP (r.replacements.map PairP))]
def RulP (K : PySem.W.Frag) (r : Rule) : VP := ObjP (He.ga K "Rule") (rulF r)
def FormP (f : List (Nat × Nat)) : VP := DctP (fun n : Nat => IntP (n : Int)) f
structure Sto where
  ms : List (Nat × Material)
  rs : List (Nat × Rule)
  fs : List (Nat × List (Nat × Nat))
def stoF (K : PySem.W.Frag) (s : Sto) : List (Str × VP) := [("materials", DctP (MatP K) s.ms), ("rules", DctP (RulP K) s.rs), ("formulas", DctP FormP s.fs)]
def StoP (K : PySem.W.Frag) (s : Sto) : VP := ObjP (He.ga K "Store") (stoF K s)
/-! ### what holds of them -/
structure MatOk (m : Material) : Prop where
  price : m.price ≤ 1000000
  six : m.profile.length = 6
  att : ∀ a ∈ m.profile, a ≤ 1000
  most : m.maxShare ≤ 1000000
structure RulOk (ms : List (Nat × Material)) (r : Rule) : Prop where
  mat : r.material ∈ Pl.keysA ms
  parts : 1 ≤ r.parts ∧ r.parts ≤ 1000
  some : 1 ≤ r.replacements.length ∧ r.replacements.length ≤ 3
  reps : ∀ p ∈ r.replacements, p.1 ∈ Pl.keysA ms ∧ 1 ≤ p.2 ∧ p.2 ≤ 1000 ∧ p.1 ≠ r.material
  diff : (r.replacements.map (·.1)).Nodup
structure ForOk (ms : List (Nat × Material)) (f : List (Nat × Nat)) : Prop where
  asc : Pl.Asc f
  some : f ≠ [] ∧ f.length ≤ 10
  comp : ∀ e ∈ f, e.1 ∈ Pl.keysA ms ∧ 1 ≤ e.2 ∧ e.2 ≤ 1000000
structure StoOk (s : Sto) : Prop where
  mn : (Pl.keysA s.ms).Nodup
  mi : ∀ e ∈ s.ms, e.1 < 24 ∧ MatOk e.2
  rn : (Pl.keysA s.rs).Nodup
  ri : ∀ e ∈ s.rs, e.1 < 10 ∧ RulOk s.ms e.2
  fn : (Pl.keysA s.fs).Nodup
  fi : ∀ e ∈ s.fs, e.1 < 8 ∧ ForOk s.ms e.2
/-- shares: ascending, of materials that there are, over one denominator -/
structure ShOk (ms : List (Nat × Material)) (es : List (Nat × Rat)) : Prop where
  asc : Pl.Asc es
  mat : ∀ e ∈ es, e.1 ∈ Pl.keysA ms
  bd : ∃ D, D < 2 ^ 600 ∧ ∀ e ∈ es, Pl.Bd D D e.2
theorem key_get {α : Type} {es : List (Nat × α)} {k : Nat} (h : k ∈ Pl.keysA es) : ∃ x, Pl.getA es k = some x := by
  cases e : Pl.getA es k with
  | some x => exact ⟨x, rfl⟩
  | none => exact absurd h (Pl.getA_none.mp e)
theorem get_key {α : Type} {es : List (Nat × α)} {k : Nat} {x : α} (h : Pl.getA es k = some x) : k ∈ Pl.keysA es := List.mem_map.mpr ⟨_, Pl.getA_mem h, rfl⟩
theorem mem_key {α : Type} {es : List (Nat × α)} {e : Nat × α} (h : e ∈ es) : e.1 ∈ Pl.keysA es := List.mem_map.mpr ⟨_, h, rfl⟩
theorem keys_len (n : Nat) {ks : List Nat} (hn : ks.Nodup) (h : ∀ k ∈ ks, k < n) : ks.length ≤ n := by
  have := List.Nodup.length_le_of_subset hn (l₂ := List.range n) fun k hk => List.mem_range.mpr (h k hk)
  rwa [List.length_range] at this
theorem StoOk.ml {s : Sto} (h : StoOk s) : s.ms.length ≤ 24 := by
  have := keys_len 24 h.mn fun k hk => by
    obtain ⟨e, he, rfl⟩ := List.mem_map.mp hk
    exact (h.mi e he).1
  rwa [Pl.keysA, List.length_map] at this
theorem StoOk.rl {s : Sto} (h : StoOk s) : s.rs.length ≤ 10 := by
  have := keys_len 10 h.rn fun k hk => by
    obtain ⟨e, he, rfl⟩ := List.mem_map.mp hk
    exact (h.ri e he).1
  rwa [Pl.keysA, List.length_map] at this
theorem StoOk.fl {s : Sto} (h : StoOk s) : s.fs.length ≤ 8 := by
  have := keys_len 8 h.fn fun k hk => by
    obtain ⟨e, he, rfl⟩ := List.mem_map.mp hk
    exact (h.fi e he).1
  rwa [Pl.keysA, List.length_map] at this
theorem StoOk.k24 {s : Sto} (h : StoOk s) {k : Nat} (hk : k ∈ Pl.keysA s.ms) : k < 24 := by
  obtain ⟨e, he, rfl⟩ := List.mem_map.mp hk
  exact (h.mi e he).1
theorem ShOk.len {s : Sto} {es : List (Nat × Rat)} (h : ShOk s.ms es) (hs : StoOk s) : es.length ≤ 24 := by
  have := keys_len 24 h.asc.nodup fun k hk => by
    obtain ⟨e, he, rfl⟩ := List.mem_map.mp hk
    exact hs.k24 (h.mat e he)
  rwa [Pl.keysA, List.length_map] at this
variable {P : Program} {w : World} {K : PySem.W.Frag} {mg : Str → Option Value} {base : Heap}
/-! ### __init__ -/
theorem ini_fld {σ : L2.St} {H : Hp} {D : Ends} {i j : Nat} {x C dx : Addr} {fs : List (Str × V)} {v : V} {f : Str} (h0 : σ[i]? = some (some (.ref x))) (h1 : σ[j]? = some (some v)) (hx : H x = some (.ins C dx fs)) (c : Cls K C) (n : NoAttr K C f) (hl : fs.length < 1000)
    (k : D.nx σ (upd H x (.ins C dx (putF f v fs)))) : sFld K (tVar i) (tVar j) f D σ H := ⟨v, h1, _, h0, x, C, dx, fs, rfl, hx, c, n, hl, k⟩
theorem spI_len {C : Addr} {fs : List Str} {n : Nat} (h : fs.length + 1 = n) (vs : List V) (H : Hp) (Q : VK) (E : XK) : spI C fs vs H Q E → vs.length = n := fun ⟨x, dx, as, e, l, _⟩ => by rw [e, List.length_cons, l, h]
theorem ok_Material_init (T : Txt K mg) : FnOk P w K mg base CX0 2 (He.fAd K ("Material", some "__init__")) (fdOf K ("Material", some "__init__")) ["self", "price", "profile", "is_available", "most"] (spI (He.ga K "Material") ["price", "profile", "is_available", "most"]) := by
  refine T.D_Material_init.ok sc_Material_init (spI_len rfl) (fun cdv A outer s H vs Q E hr h => ⟨_, PSs.nox (pss_cons (ps_fld (pv 0) (pv 1) rfl) (pss_cons (ps_fld (pv 0) (pv 2) rfl) (pss_cons (ps_fld (pv 0) (pv 3) rfl) (pss_one (ps_fld (pv 0) (pv 4) rfl))))), ?_⟩)
  obtain ⟨x, dx, as, rfl, hl, hx, k⟩ := h
  match as, hl with
  | [a, b, c, d], _ =>
    refine ini_fld (fs := []) rfl rfl hx T.cl_Material T.na_Material_price (by decide) ?_
    refine ini_fld rfl rfl upd_same T.cl_Material T.na_Material_profile (by show 1 < 1000; decide) ?_
    refine ini_fld rfl rfl upd_same T.cl_Material T.na_Material_is_available (by show 2 < 1000; decide) ?_
    refine ini_fld rfl rfl upd_same T.cl_Material T.na_Material_most (by show 3 < 1000; decide) ?_
    rw [upd_upd, upd_upd, upd_upd]
    exact k _ upd_same fun b hb => upd_ne hb
theorem ok_Rule_init (T : Txt K mg) : FnOk P w K mg base CX0 2 (He.fAd K ("Rule", some "__init__")) (fdOf K ("Rule", some "__init__")) ["self", "material", "parts", "replacements"] (spI (He.ga K "Rule") ["material", "parts", "replacements"]) := by
  refine T.D_Rule_init.ok sc_Rule_init (spI_len rfl) (fun cdv A outer s H vs Q E hr h => ⟨_, PSs.nox (pss_cons (ps_fld (pv 0) (pv 1) rfl) (pss_cons (ps_fld (pv 0) (pv 2) rfl) (pss_one (ps_fld (pv 0) (pv 3) rfl)))), ?_⟩)
  obtain ⟨x, dx, as, rfl, hl, hx, k⟩ := h
  match as, hl with
  | [a, b, c], _ =>
    refine ini_fld (fs := []) rfl rfl hx T.cl_Rule T.na_Rule_material (by decide) ?_
    refine ini_fld rfl rfl upd_same T.cl_Rule T.na_Rule_parts (by show 1 < 1000; decide) ?_
    refine ini_fld rfl rfl upd_same T.cl_Rule T.na_Rule_replacements (by show 2 < 1000; decide) ?_
    rw [upd_upd, upd_upd]
    exact k _ upd_same fun b hb => upd_ne hb
theorem ok_Store_init (T : Txt K mg) : FnOk P w K mg base CX0 2 (He.fAd K ("Store", some "__init__")) (fdOf K ("Store", some "__init__")) ["self", "materials", "rules", "formulas"] (spI (He.ga K "Store") ["materials", "rules", "formulas"]) := by
  refine T.D_Store_init.ok sc_Store_init (spI_len rfl) (fun cdv A outer s H vs Q E hr h => ⟨_, PSs.nox (pss_cons (ps_fld (pv 0) (pv 1) rfl) (pss_cons (ps_fld (pv 0) (pv 2) rfl) (pss_one (ps_fld (pv 0) (pv 3) rfl)))), ?_⟩)
  obtain ⟨x, dx, as, rfl, hl, hx, k⟩ := h
  match as, hl with
  | [a, b, c], _ =>
    refine ini_fld (fs := []) rfl rfl hx T.cl_Store T.na_Store_materials (by decide) ?_
    refine ini_fld rfl rfl upd_same T.cl_Store T.na_Store_rules (by show 1 < 1000; decide) ?_
    refine ini_fld rfl rfl upd_same T.cl_Store T.na_Store_formulas (by show 2 < 1000; decide) ?_
    rw [upd_upd, upd_upd]
    exact k _ upd_same fun b hb => upd_ne hb
theorem ok_Choice_init (T : Txt K mg) : FnOk P w K mg base CX0 2 (He.fAd K ("Choice", some "__init__")) (fdOf K ("Choice", some "__init__")) ["self", "numbers", "cost", "distance"] (spI (He.ga K "Choice") ["numbers", "cost", "distance"]) := by
  refine T.D_Choice_init.ok sc_Choice_init (spI_len rfl) (fun cdv A outer s H vs Q E hr h => ⟨_, PSs.nox (pss_cons (ps_fld (pv 0) (pv 1) rfl) (pss_cons (ps_fld (pv 0) (pv 2) rfl) (pss_one (ps_fld (pv 0) (pv 3) rfl)))), ?_⟩)
  obtain ⟨x, dx, as, rfl, hl, hx, k⟩ := h
  match as, hl with
  | [a, b, c], _ =>
    refine ini_fld (fs := []) rfl rfl hx T.cl_Choice T.na_Choice_numbers (by decide) ?_
    refine ini_fld rfl rfl upd_same T.cl_Choice T.na_Choice_cost (by show 1 < 1000; decide) ?_
    refine ini_fld rfl rfl upd_same T.cl_Choice T.na_Choice_distance (by show 2 < 1000; decide) ?_
    rw [upd_upd, upd_upd]
    exact k _ upd_same fun b hb => upd_ne hb
/-! ### feeds -/
theorem pairs_lst (ps : List (Nat × Nat)) : LstP (ps.map PairP) = LstP (ps.map fun p => TupP [IntP (p.1 : Int), IntP (p.2 : Int)]) := rfl
def sp_feeds (K : PySem.W.Frag) : Sp := spF (ι := Rule × Rule) (fun i => [RulP K i.1, RulP K i.2]) (fun i => i.1.replacements.length ≤ 3) fun i => BoolP (i.1.feeds i.2)
theorem ok_Rule_feeds (T : Txt K mg) : FnOk P w K mg base CX0 2 (He.fAd K ("Rule", some "feeds")) (fdOf K ("Rule", some "feeds")) ["self", "other"] (sp_feeds K) := by
  refine T.D_Rule_feeds.ok sc_Rule_feeds (spF_len fun _ => rfl) (fun cdv A outer s H vs Q E hr h => ⟨_, PSs.nox (pss_one (ps_ret (pe_cmpR op_in_seq (pe_fld (pv 1) rfl) (pe_lc (own := [("one", 2), ("parts", 3)]) rfl sc_Rule_feeds.nd (pi_list (pe_fld (pv 0) rfl)) (blkOk_by (N := ["self", "other", "one", "parts"]) (sc := defScope s_Rule_feeds) (by decide +kernel)) (fun _ _ _ _ _ => (pg_tupK (K := K) (n := 2) rfl (pgs_cons (pg_name (i := 2) sc_Rule_feeds.nd rfl (Or.inl rfl) (Or.inr rfl)) (pgs_cons (pg_name (i := 3) sc_Rule_feeds.nd rfl (Or.inl rfl) (Or.inr rfl)) pgs_nil)))) (fun _ _ _ _ _ => pts_nil) (fun _ _ _ _ _ => (pv 2))) (by rfl)))), ?_⟩)
  refine body_of h fun ⟨r, o⟩ hr F0 H0 => ?_
  refine ht_ret (ev_isB (ev_inL (n := (o.material : Int)) (ns := r.replacements.map fun p => (p.1 : Int)) (ev_fld (ev_var rfl) T.cl_Rule T.na_Rule_material rfl) (ev_isL (ev_lcLT (f := fun p : Nat × Nat => IntP (p.1 : Int)) (f2 := fun p => IntP (p.2 : Int)) (ev_fld (ev_var rfl) T.cl_Rule T.na_Rule_replacements rfl) (fun _ => true) (fun p => IntP (p.1 : Int)) (fun _ _ => et_yes) (fun _ _ _ => ev_var rfl) (Nat.lt_of_le_of_lt hr (by decide))) ?_)) ?_)
  · rw [filter_yes, List.map_map]; rfl
  · unfold SubstitutionSpec.Rule.feeds
    rw [Bool.eq_iff_iff, decide_eq_true_eq, List.any_eq_true, List.mem_map]
    constructor
    · rintro ⟨p, hp, e⟩
      exact ⟨p, hp, by simp; omega⟩
    · rintro ⟨p, hp, e⟩
      exact ⟨p, hp, by simp at e; omega⟩
end Sw
set_option maxRecDepth 100000
set_option maxHeartbeats 2000000
/-! # Mixtures, costs, profiles, distances, faults -/
namespace Sw
open PySem L2
open SubstitutionSpec (Material Rule)
theorem put_new {α : Type} {es : List (Nat × α)} {k : Nat} {x : α} (h : k ∉ Pl.keysA es) : Pl.putA es k x = es ++ [(k, x)] := by
  unfold Pl.putA
  rw [if_neg]
  intro c
  obtain ⟨e, he, q⟩ := List.any_eq_true.mp c
  exact h (List.mem_map.mpr ⟨e, he, of_decide_eq_true q⟩)
theorem take_next {α : Type} {l : List α} {i : Nat} {x : α} (h : l[i]? = some x) : l.take (i + 1) = l.take i ++ [x] := by
  rw [List.take_add_one, h]; rfl
theorem take_put {α : Type} {es : List (Nat × α)} (hn : (Pl.keysA es).Nodup) {i : Nat} {e : Nat × α} (h : es[i]? = some e) : Pl.putA (es.take i) e.1 e.2 = es.take (i + 1) := by
  rw [put_new, take_next h]
  intro c
  obtain ⟨b, hb, q⟩ := List.mem_map.mp c
  obtain ⟨j, hj, e2⟩ := List.mem_iff_getElem.mp hb
  rw [List.length_take] at hj
  rw [List.getElem_take] at e2
  obtain ⟨hi, e3⟩ := List.getElem?_eq_some_iff.mp h
  have := List.pairwise_iff_getElem.mp hn j i (by rw [Pl.keysA, List.length_map]; omega) (by rw [Pl.keysA, List.length_map]; omega) (by omega)
  apply this
  unfold Pl.keysA
  rw [List.getElem_map, List.getElem_map, e2, e3]
  exact q
theorem take_fold {α β : Type} {l : List α} {i : Nat} {x : α} (h : l[i]? = some x) (f : β → α → β) (b : β) : (l.take (i + 1)).foldl f b = f ((l.take i).foldl f b) x := by
  rw [take_next h, List.foldl_append]; rfl
def totF (f : List (Nat × Nat)) : Nat := (f.map fun e => e.2).sum
def mixP (f : List (Nat × Nat)) : List (Nat × Rat) := f.map fun e => (e.1, (e.2 : Rat) / (totF f : Rat))
theorem mix_keys (f : List (Nat × Nat)) : Pl.keysA (mixP f) = Pl.keysA f := by
  unfold mixP Pl.keysA
  rw [List.map_map]; rfl
theorem mem_le_sum : ∀ {l : List Nat} {n : Nat}, n ∈ l → n ≤ l.sum
  | a :: l, n, h => by
    rw [List.sum_cons]
    rcases List.mem_cons.mp h with e | h
    · omega
    · have := mem_le_sum h
      omega
theorem sum_le {M : Nat} : ∀ {l : List Nat}, (∀ n ∈ l, n ≤ M) → l.sum ≤ l.length * M
  | [], _ => by simp
  | a :: l, h => by
    rw [List.sum_cons, List.length_cons, Nat.succ_mul]
    have := sum_le fun n hn => h n (List.mem_cons_of_mem _ hn)
    have := h a List.mem_cons_self
    omega
theorem ForOk.tot {ms : List (Nat × Material)} {f : List (Nat × Nat)} (h : ForOk ms f) : 0 < totF f ∧ totF f ≤ 10000000 := by
  constructor
  · match f, h.some.1, h with
    | e :: f, _, h =>
      have := (h.comp e List.mem_cons_self).2.1
      unfold totF
      rw [List.map_cons, List.sum_cons]
      omega
  · have := sum_le (M := 1000000) (l := f.map fun e => e.2) fun n hn => by
      obtain ⟨e, he, rfl⟩ := List.mem_map.mp hn
      exact (h.comp e he).2.2
    rw [List.length_map] at this
    have h2 := h.some.2
    unfold totF
    omega
theorem ForOk.mix {ms : List (Nat × Material)} {f : List (Nat × Nat)} (h : ForOk ms f) : ShOk ms (mixP f) := by
  refine ⟨by unfold Pl.Asc; rw [mix_keys]; exact h.asc, fun e he => ?_, totF f, ?_, fun e he => ?_⟩
  · obtain ⟨c, hc, rfl⟩ := List.mem_map.mp he
    exact (h.comp c hc).1
  · exact Nat.lt_of_le_of_lt h.tot.2 (by decide)
  · obtain ⟨c, hc, rfl⟩ := List.mem_map.mp he
    exact ⟨h.tot.1, c.2, rfl, mem_le_sum (List.mem_map.mpr ⟨c, hc, rfl⟩)⟩
variable {P : Program} {w : World} {K : PySem.W.Frag} {mg : Str → Option Value} {base : Heap}
theorem ev_form {Γ : List (Option VP)} {W : Wd} {ta tb : TE} {f : List (Nat × Nat)} {n x : Nat} (ha : EvG ta Γ W (FormP f)) (hb : EvG tb Γ W (IntP (n : Int))) (hx : Pl.getA f n = some x) : EvG (tDGet ta tb) Γ W (IntP (x : Int)) := ev_dget (Rf := fun n : Nat => IntP (n : Int)) ha hb hx
def sp_mixture (K : PySem.W.Frag) : Sp := spF (ι := Sto × Nat × List (Nat × Nat)) (fun i => [StoP K i.1, IntP (i.2.1 : Int)]) (fun i => Pl.getA i.1.fs i.2.1 = some i.2.2 ∧ ForOk i.1.ms i.2.2) fun i => DctP FrP (mixP i.2.2)
theorem sum_int (l : List Nat) : (l.map fun (n : Nat) => (n : Int)).sum = (l.sum : Int) := by
  induction l with
  | nil => rfl
  | cons a l ih => rw [List.map_cons, List.sum_cons, List.sum_cons, ih]; omega
theorem ok_Store_mixture (T : Txt K mg) : FnOk P w K mg base CX0 4 (He.fAd K ("Store", some "mixture")) (fdOf K ("Store", some "mixture")) ["self", "formula"] (sp_mixture K) := by
  refine T.D_Store_mixture.ok sc_Store_mixture (spF_len fun _ => rfl) (fun cdv A outer s H vs Q E hr h => ⟨_, PSs.nox (pss_cons (ps_set (i := 2) sc_Store_mixture.nd rfl (Or.inr rfl) (pe_dget (hu_of hr) (pe_fld (pv 0) rfl) (pv 1) (fun _ _ => rfl))) (pss_cons (ps_set (i := 4) sc_Store_mixture.nd rfl (Or.inl rfl) (pe_callB (cr_sum rfl) (by rfl) T.f_sum bb_sum (pa_cons (pe_lk (pe_lc (own := [("one", 3)]) rfl sc_Store_mixture.nd (pi_keys (pv 2)) (blkOk_by (N := ["self", "formula", "amounts", "one", "total", "found"]) (sc := defScope s_Store_mixture) (by decide +kernel)) (fun _ _ _ _ _ => (pg_name (i := 3) sc_Store_mixture.nd rfl (Or.inl rfl) (Or.inr rfl))) (fun _ _ _ _ _ => pts_nil) (fun _ _ _ _ _ => (pe_dget (hu_of hr) (pv 2) (pv 3) (fun _ _ => rfl))))) pa_nil))) (pss_cons (ps_set (i := 5) sc_Store_mixture.nd rfl (Or.inl rfl) pe_dnewK) (pss_cons (ps_lk (ps_for PassesOwn.never rfl (pi_keys (pv 2)) (pg_name (i := 3) sc_Store_mixture.nd rfl (Or.inl rfl)) (pss_one (ps_dput (hu_of hr) (pv 5) (pv 3) (pe_call (ok_fraction T) (hr.mono (by decide)) (by rfl) T.g_fraction T.k_fraction T.b_fraction .nil pass0 (pa_cons (pe_dget (hu_of hr) (pv 2) (pv 3) (fun _ _ => rfl)) (pa_cons (pv 4) pa_nil))) rfl)))) (pss_one (ps_ret (pv 5))))))), ?_⟩)
  refine body_of h fun ⟨s, n, f⟩ ⟨hf, ho⟩ F0 H0 => ?_
  have hl : f.length < 16000000 := Nat.lt_of_le_of_lt ho.some.2 (by decide)
  refine ht_seq (ht_set (ev_dget (ev_fld (ev_var rfl) T.cl_Store T.na_Store_formulas rfl) (ev_var rfl) hf)) ?_
  have hsum : (f.map fun e => (e.2 : Int)).sum = (totF f : Int) := by
    have := sum_int (f.map fun e => e.2)
    rw [List.map_map] at this
    exact this
  refine ht_seq (ht_set (ev_is (ev_cb (ea_cons (ev_isL (ev_lcKL (es := f) (vv_var rfl) (fun _ => true) (fun e => IntP (e.2 : Int)) (fun _ _ => et_yes) (fun e he _ => ev_form (ev_var rfl) (ev_var rfl) (Pl.mem_getA ho.asc.nodup he)) hl) (Qs := (f.map fun e => (e.2 : Int)).map IntP) (by rw [filter_yes, List.map_map]; rfl)) ea_nil) cb_sum) hsum)) ?_
  refine ht_seq (ht_dnew (Rf := FrP) (G := fun d => [some (StoP K s), some (IntP (n : Int)), some (FormP f), none, some (IntP (totF f : Int)), some (IsP (.ref d))]) fun d => rfl) (ht_ex fun d => ?_)
  have hk : (Pl.keysA (mixP f)).Nodup := by rw [mix_keys]; exact ho.asc.nodup
  refine ht_seq (ht_forKB (Rf := fun n : Nat => IntP (n : Int)) (es := f) (β := fun _ => List (Key × V)) (vv_var rfl) (fun i kvs => [some (StoP K s), some (IntP (n : Int)), some (FormP f), none, some (IntP (totF f : Int)), some (IsP (.ref d))]) (fun i kvs => W0.dct d kvs FrP ((mixP f).take i)) [] ?_) (ht_ex fun kvs => ?_)
  · intro F1 H1 i e kvs he
    have hm : (mixP f)[i]? = some (e.1, (e.2 : Rat) / (totF f : Rat)) := by
      unfold mixP
      rw [List.getElem?_map, he]; rfl
    refine ht_post ?_ (ht_dput (i := 5) (n := e.1) (x := (e.2 : Rat) / (totF f : Rat)) rfl (ev_var rfl) (ev_call (ea_cons (ev_form (ev_var rfl) (ev_var rfl) (Pl.mem_getA ho.asc.nodup (List.mem_of_getElem? he))) (ea_cons (ev_var rfl) ea_nil)) (spF_g ((e.2 : Int), totF f) ⟨ho.tot.1, Nat.lt_of_le_of_lt ho.tot.2 (Nat.lt_of_lt_of_le (show 10000000 < 2 ^ 24 by decide) (Nat.pow_le_pow_right (by decide) (by decide)))⟩)) ?_)
    · rintro σ H ⟨lvs, a⟩
      rw [take_put hk hm] at a
      exact ⟨lvs, TyA.le (by repeat (first | exact trivial | refine ⟨.inl rfl, ?_⟩ | refine ⟨.inr rfl, ?_⟩)) σ H a⟩
    · rw [List.length_take]
      have : (mixP f).length = f.length := by unfold mixP; rw [List.length_map]
      have : f.length ≤ 10 := ho.some.2
      omega
  · have hfin : (mixP f).take f.length = mixP f := List.take_of_length_le (by unfold mixP; rw [List.length_map]; exact Nat.le_refl _)
    refine ht_pre (fun σ H a => frz_dct (i := 5) rfl rfl id id rfl σ H (hfin ▸ a)) (ht_ret (ev_var rfl))
end Sw
set_option maxRecDepth 100000
set_option maxHeartbeats 2000000
/-! # Costs, profiles, distances, faults -/
namespace Sw
open PySem L2
open SubstitutionSpec (Material Rule absDifference)
section
variable {N : Addr → Prop} {F0 H0 : Hp} {Γ : List (Option VP)} {W : Wd} {R : VK} {t : TS} {t1 t2 : TE} {K : PySem.W.Frag}
/-- for x, y in zip(.., ..), both made of one list -/
theorem ht_forZ {α : Type} {l : List α} {f f2 : α → VP} {j k : Nat} {β : Nat → Type} (h1 : EvG t1 Γ W (LstP (l.map f))) (h2 : EvG t2 Γ W (LstP (l.map f2))) (G : ∀ i, β i → List (Option VP)) (Ws : ∀ i, β i → Wd) (R1 : (Addr → Prop) → Hp → Hp → VK) (x0 : β 0)
    (hb : ∀ F1 H1 i x (b : β i), l[i]? = some x → HT (TyA (Nl N W) F1 H1 (((G i b).set j (some (f x))).set k (some (f2 x))) (Ws i b)) t (fun σ H => ∃ b' : β (i + 1), TyA (Nl N W) F1 H1 (G (i + 1) b') (Ws (i + 1) b') σ H) (R1 (Nl N W) F1 H1))
    (hR : ∀ F1 H1 σ, TyS N F0 H0 Γ W F1 σ H1 → ∀ v H, R1 (Nl N W) F1 H1 v H → R v H) (e0 : Γ = G 0 x0 := by rfl) (w0 : W = Ws 0 x0 := by rfl) :
    HT (TyA N F0 H0 Γ W) (tFor (iZip K (tCons t1 (tCons t2 tNil))) (gTup K 2 (gCons (gName j) (gCons (gName k) gNil))) t) (fun σ H => ∃ b : β l.length, TyA N F0 H0 (G l.length b) (Ws l.length b) σ H) R := by
  have hi := it_zip (K := K) h1 h2 (by simp)
  rcases l with _ | ⟨a0, l⟩
  · exact ht_forG (N := N) (F0 := F0) (H0 := H0) (t := t) (R := R) (js := []) (g := gTup K 2 (gCons (gName j) (gCons (gName k) gNil))) hi G Ws (fun i b => G i b) R1 x0 (fun i x hi => by simp at hi) (fun F1 H1 i b hi => by simp at hi) hR e0 w0
  have h := ht_forG (N := N) (F0 := F0) (H0 := H0) (t := t) (R := R) (js := [j, k]) (g := gTup K 2 (gCons (gName j) (gCons (gName k) gNil))) hi G Ws (fun i b => ((G i b).set j (some (f ((a0 :: l).getD i a0)))).set k (some (f2 ((a0 :: l).getD i a0)))) R1 x0 (fun i x hi => ?_) (fun F1 H1 i b hi => ?_) hR e0 w0
  · rw [List.length_map] at h
    exact h
  · rw [List.length_map] at hi
    obtain ⟨y, hy⟩ := lt_get hi
    rw [getD_map hy, getD_map hy, show (a0 :: l).getD i a0 = y by rw [List.getD_eq_getElem?_getD, hy]; rfl]
    exact tg_tup2
  · rw [List.length_map] at hi
    obtain ⟨y, hy⟩ := lt_get hi
    rw [show (a0 :: l).getD i a0 = y by rw [List.getD_eq_getElem?_getD, hy]; rfl]
    exact hb F1 H1 i y b hy
/-- [.. for j in range(n)] -/
theorem ev_lcR {ta te : TE} {tt : TT} {n j : Nat} {vs : List Nat} (h : EvG ta Γ W (IntP (n : Int))) (p : Nat → Bool) (g : Nat → VP)
    (ht : ∀ i, i < n → EvT tt ((wipeG Γ vs).set j (some (IntP (i : Int)))) W (p i)) (he : ∀ i, i < n → p i = true → EvG te ((wipeG Γ vs).set j (some (IntP (i : Int)))) W (g i)) (hn : n < 16000000) (hjs : ∀ i ∈ [j], i ∈ vs := by decide) :
    EvG (tLc (iRng1 (tCons ta tNil)) (gName j) tt te vs) Γ W (LstP (((List.range n).filter p).map g)) :=
  ev_lc (it_range1 h (Nat.lt_trans hn (by decide))) (fun i => (wipeG Γ vs).set j (some (IntP (i : Int)))) p g (fun i hi => tg_name) ht he hn hjs
end
section
variable {Γ : List (Option VP)} {W : Wd} {te ta tb : TE} {K : PySem.W.Frag} {mg : Str → Option Value} {s : Sto} {m : Material} {r : Rule} {n : Nat}
theorem Txt.mats (T : Txt K mg) (h : EvG te Γ W (StoP K s)) : EvG (tFld K te "materials") Γ W (DctP (MatP K) s.ms) := ev_fld h T.cl_Store T.na_Store_materials rfl
theorem Txt.ruls (T : Txt K mg) (h : EvG te Γ W (StoP K s)) : EvG (tFld K te "rules") Γ W (DctP (RulP K) s.rs) := ev_fld h T.cl_Store T.na_Store_rules rfl
theorem Txt.fors (T : Txt K mg) (h : EvG te Γ W (StoP K s)) : EvG (tFld K te "formulas") Γ W (DctP FormP s.fs) := ev_fld h T.cl_Store T.na_Store_formulas rfl
theorem Txt.price (T : Txt K mg) (h : EvG te Γ W (MatP K m)) : EvG (tFld K te "price") Γ W (IntP (m.price : Int)) := ev_fld h T.cl_Material T.na_Material_price rfl
theorem Txt.prof (T : Txt K mg) (h : EvG te Γ W (MatP K m)) : EvG (tFld K te "profile") Γ W (TupP (m.profile.map fun (n : Nat) => IntP (n : Int))) := ev_fld h T.cl_Material T.na_Material_profile rfl
theorem Txt.avail (T : Txt K mg) (h : EvG te Γ W (MatP K m)) : EvG (tFld K te "is_available") Γ W (BoolP m.isAvailable) := ev_fld h T.cl_Material T.na_Material_is_available rfl
theorem Txt.most (T : Txt K mg) (h : EvG te Γ W (MatP K m)) : EvG (tFld K te "most") Γ W (IntP (m.maxShare : Int)) := ev_fld h T.cl_Material T.na_Material_most rfl
theorem Txt.rmat (T : Txt K mg) (h : EvG te Γ W (RulP K r)) : EvG (tFld K te "material") Γ W (IntP (r.material : Int)) := ev_fld h T.cl_Rule T.na_Rule_material rfl
theorem Txt.rpar (T : Txt K mg) (h : EvG te Γ W (RulP K r)) : EvG (tFld K te "parts") Γ W (IntP (r.parts : Int)) := ev_fld h T.cl_Rule T.na_Rule_parts rfl
theorem Txt.rrep (T : Txt K mg) (h : EvG te Γ W (RulP K r)) : EvG (tFld K te "replacements") Γ W (LstP (r.replacements.map PairP)) := ev_fld h T.cl_Rule T.na_Rule_replacements rfl
theorem ev_mat {ms : List (Nat × Material)} (ha : EvG ta Γ W (DctP (MatP K) ms)) (hb : EvG tb Γ W (IntP (n : Int))) (hx : Pl.getA ms n = some m) : EvG (tDGet ta tb) Γ W (MatP K m) := ev_dget ha hb hx
theorem ev_rul {rs : List (Nat × Rule)} (ha : EvG ta Γ W (DctP (RulP K) rs)) (hb : EvG tb Γ W (IntP (n : Int))) (hx : Pl.getA rs n = some r) : EvG (tDGet ta tb) Γ W (RulP K r) := ev_dget ha hb hx
theorem ev_for {fs : List (Nat × List (Nat × Nat))} {f : List (Nat × Nat)} (ha : EvG ta Γ W (DctP FormP fs)) (hb : EvG tb Γ W (IntP (n : Int))) (hx : Pl.getA fs n = some f) : EvG (tDGet ta tb) Γ W (FormP f) := ev_dget ha hb hx
theorem ev_sh {es : List (Nat × Rat)} {q : Rat} (ha : EvG ta Γ W (DctP FrP es)) (hb : EvG tb Γ W (IntP (n : Int))) (hx : Pl.getA es n = some q) : EvG (tDGet ta tb) Γ W (FrP q) := ev_dget ha hb hx
end
theorem ev_f0 {Γ : List (Option VP)} {W : Wd} : EvG (tTup (tCons (tC (.int 0)) (tCons (tC (.int 1)) tNil))) Γ W (FrP 0) := ev_fr (i := 0) (d := 1) (ea_cons ev_int (ea_cons ev_int ea_nil)) rfl rfl
/-! ### what they are -/
def prc (s : Sto) (m : Nat) : Nat := ((Pl.getA s.ms m).map fun x => x.price).getD 0
def att (s : Sto) (i m : Nat) : Nat := ((Pl.getA s.ms m).map fun x => x.profile.getD i 0).getD 0
def una (s : Sto) (m : Nat) : Bool := ((Pl.getA s.ms m).map fun x => !x.isAvailable).getD false
def mst (s : Sto) (m : Nat) : Nat := ((Pl.getA s.ms m).map fun x => x.maxShare).getD 1000000
/-- the sum of the shares, each by its weight -/
def wsum (p : Nat → Nat) (es : List (Nat × Rat)) : Rat := es.foldl (fun acc e => acc + e.2 * (p e.1 : Rat)) 0
def costP (s : Sto) (es : List (Nat × Rat)) : Rat := wsum (prc s) es
def colP (s : Sto) (es : List (Nat × Rat)) (i : Nat) : Rat := wsum (att s i) es
def distP (s : Sto) (a b : List (Nat × Rat)) : Rat := (List.range 6).foldl (fun acc i => acc + absDifference (colP s a i) (colP s b i)) 0
def over (s : Sto) (e : Nat × Rat) : Bool := decide ((mst s e.1 : Rat) < e.2 * (1000000 : Rat))
def faultP (s : Sto) (es : List (Nat × Rat)) : Nat × Nat := match es.find? (fun e => una s e.1) with
  | some e => (1, e.1)
  | none => match es.find? (over s) with
    | some e => (2, e.1)
    | none => (0, 0)
theorem pr_le {s : Sto} (h : StoOk s) (m : Nat) : prc s m ≤ 1000000 := by
  unfold prc
  cases e : Pl.getA s.ms m with
  | none => exact Nat.zero_le _
  | some x => exact (h.mi _ (Pl.getA_mem e)).2.price
theorem at_le {s : Sto} (h : StoOk s) (i m : Nat) : att s i m ≤ 1000 := by
  unfold att
  cases e : Pl.getA s.ms m with
  | none => exact Nat.zero_le _
  | some x =>
    show x.profile.getD i 0 ≤ 1000
    rw [List.getD_eq_getElem?_getD]
    cases q : x.profile[i]? with
    | none => exact Nat.zero_le _
    | some a => exact (h.mi _ (Pl.getA_mem e)).2.att a (List.mem_of_getElem? q)
theorem wsum_bd {D k : Nat} {p : Nat → Nat} (hD : 0 < D) (hp : ∀ m, p m ≤ k) : ∀ (es : List (Nat × Rat)), (∀ e ∈ es, Pl.Bd D D e.2) → Pl.Bd D (es.length * (D * k)) (wsum p es) := by
  intro es
  have key : ∀ (es : List (Nat × Rat)) (a : Rat) (M : Nat), Pl.Bd D M a → (∀ e ∈ es, Pl.Bd D D e.2) → Pl.Bd D (M + es.length * (D * k)) (es.foldl (fun acc e => acc + e.2 * (p e.1 : Rat)) a) := by
    intro es
    induction es with
    | nil => intro a M ha _; simpa using ha
    | cons e es ih =>
      intro a M ha h
      have h1 := ih (a + e.2 * (p e.1 : Rat)) (M + D * k) (ha.add ((h e List.mem_cons_self).mul (hp e.1))) fun x hx => h x (List.mem_cons_of_mem _ hx)
      refine h1.mono ?_
      rw [List.length_cons, Nat.succ_mul]
      omega
  intro h
  have := key es 0 0 (Pl.Bd.zero hD 0) h
  rwa [Nat.zero_add] at this
theorem big {D k : Nat} (h : D < 2 ^ 600) (hk : k < 2 ^ 200) : k * D < 2 ^ 4000 := by
  refine Nat.lt_of_lt_of_le (Nat.mul_lt_mul'' hk h) ?_
  rw [← Nat.pow_add]
  exact Nat.pow_le_pow_right (by decide) (by decide)
theorem big1 {D : Nat} (h : D < 2 ^ 600) : D < 2 ^ 4000 := Nat.lt_of_lt_of_le h (Nat.pow_le_pow_right (by decide) (by decide))
/-- the sum over a part of the shares is small -/
theorem wsum_sm {s : Sto} {es : List (Nat × Rat)} (hs : StoOk s) (h : ShOk s.ms es) {p : Nat → Nat} {k : Nat} (hk : k ≤ 1000000) (hp : ∀ m, p m ≤ k) (i : Nat) : Sm (wsum p (es.take i)) := by
  obtain ⟨D, hD, hb⟩ := h.bd
  by_cases c : es.take i = []
  · rw [c]
    exact ⟨by show (0 : Nat) < _; exact Nat.two_pow_pos _, by show (1 : Nat) < _; exact Nat.one_lt_two_pow (by decide)⟩
  have hp0 : 0 < D := by
    match q : es.take i, c with
    | e :: r, _ => exact (hb e (List.mem_of_mem_take (q ▸ List.mem_cons_self : e ∈ es.take i))).1
  have := wsum_bd hp0 hp (es.take i) fun e he => hb e (List.mem_of_mem_take he)
  refine this.sm (big1 hD) ?_
  have hl : (es.take i).length ≤ 24 := Nat.le_trans (List.length_take_le' ..) (h.len hs)
  have e : (es.take i).length * (D * k) = ((es.take i).length * k) * D := by rw [Nat.mul_comm D k, Nat.mul_assoc]
  rw [e]
  refine big hD (Nat.lt_of_le_of_lt (Nat.mul_le_mul hl hk) (by decide))
theorem ShOk.sm {ms : List (Nat × Material)} {es : List (Nat × Rat)} (h : ShOk ms es) {e : Nat × Rat} (he : e ∈ es) : Sm e.2 := by
  obtain ⟨D, hD, hb⟩ := h.bd
  exact (hb e he).sm (big1 hD) (big1 hD)
theorem ShOk.get {s : Sto} {es : List (Nat × Rat)} (h : ShOk s.ms es) {e : Nat × Rat} (he : e ∈ es) : ∃ m, Pl.getA s.ms e.1 = some m := key_get (h.mat e he)
variable {P : Program} {w : World} {K : PySem.W.Frag} {mg : Str → Option Value} {base : Heap}
def ShP (es : List (Nat × Rat)) : VP := DctP FrP es
def sp_cost_told (K : PySem.W.Frag) : Sp := spF (ι := Sto × List (Nat × Rat)) (fun i => [StoP K i.1, ShP i.2]) (fun i => StoOk i.1 ∧ ShOk i.1.ms i.2) fun i => FrP (costP i.1 i.2)
theorem small4000 {n : Nat} (h : n ≤ 1000000) : n < 2 ^ 4000 := Nat.lt_of_le_of_lt h (Nat.lt_of_lt_of_le (show 1000000 < 2 ^ 24 by decide) (Nat.pow_le_pow_right (by decide) (by decide)))
theorem ok_Store_cost_told (T : Txt K mg) : FnOk P w K mg base CX0 5 (He.fAd K ("Store", some "cost_told")) (fdOf K ("Store", some "cost_told")) ["self", "shares"] (sp_cost_told K) := by
  refine T.D_Store_cost_told.ok sc_Store_cost_told (spF_len fun _ => rfl) (fun cdv A outer s H vs Q E hr h => ⟨_, PSs.nox (pss_cons (ps_set (i := 2) sc_Store_cost_told.nd rfl (Or.inl rfl) (pe_tup (pa_cons pe_int (pa_cons pe_int pa_nil)))) (pss_cons (ps_lk (ps_for PassesOwn.never rfl (pi_keys (pv 1)) (pg_name (i := 3) sc_Store_cost_told.nd rfl (Or.inl rfl)) (pss_one (ps_set (i := 2) sc_Store_cost_told.nd rfl (Or.inl rfl) (pe_call (ok_plus T) (hr.mono (by decide)) (by rfl) T.g_plus T.k_plus T.b_plus .nil pass0 (pa_cons (pv 2) (pa_cons (pe_call (ok_times T) (hr.mono (by decide)) (by rfl) T.g_times T.k_times T.b_times .nil pass0 (pa_cons (pe_dget (hu_of hr) (pv 1) (pv 3) (fun _ _ => rfl)) (pa_cons (pe_fld (pe_dget (hu_of hr) (pe_fld (pv 0) rfl) (pv 3) (fun _ _ => rfl)) rfl) pa_nil))) pa_nil))))))) (pss_one (ps_ret (pv 2))))), ?_⟩)
  refine body_of h fun ⟨s, es⟩ ⟨hs, hh⟩ F0 H0 => ?_
  refine ht_seq (ht_set ev_f0) ?_
  refine ht_seq (ht_forKB (Rf := FrP) (es := es) (β := fun _ => Unit) (vv_var rfl) (fun i _ => [some (StoP K s), some (ShP es), some (FrP (wsum (prc s) (es.take i))), none]) (fun i _ => W0) () ?_) (ht_ex fun _ => ?_)
  · intro F1 H1 i e _ he
    have hm := List.mem_of_getElem? he
    obtain ⟨m, hg⟩ := hh.get hm
    have hpm : prc s e.1 = m.price := by unfold prc; rw [hg]; rfl
    refine ht_post ?_ (ht_set (P := FrP (wsum (prc s) (es.take (i + 1)))) (ev_isF (ev_call (ea_cons (ev_var rfl) (ea_cons (ev_call (ea_cons (ev_sh (ev_var rfl) (ev_var rfl) (Pl.mem_getA hh.asc.nodup hm)) (ea_cons (T.price (ev_mat (T.mats (ev_var rfl)) (ev_var rfl) hg)) ea_nil)) (spF_g (e.2, m.price) ⟨hh.sm hm, small4000 (hpm ▸ pr_le hs e.1)⟩)) ea_nil)) (spF_g (_, _) ⟨wsum_sm hs hh (Nat.le_refl _) (pr_le hs) i, ?_⟩)) ?_))
    · exact fun σ H a => ⟨(), TyA.le (by repeat (first | exact trivial | refine ⟨.inl rfl, ?_⟩ | refine ⟨.inr rfl, ?_⟩)) σ H a⟩
    · obtain ⟨D, hD, hb⟩ := hh.bd
      refine ((hb e hm).mul (hpm ▸ pr_le hs e.1)).sm (big1 hD) ?_
      rw [Nat.mul_comm]
      exact big hD (by decide)
    · unfold wsum
      rw [take_fold he, hpm]
  · rw [List.take_length]
    exact ht_ret (ev_var rfl)
def RowP (s : Sto) (es : List (Nat × Rat)) : VP := LstP ((List.range 6).map fun i => FrP (colP s es i))
def sp_profile_told (K : PySem.W.Frag) : Sp := spF (ι := Sto × List (Nat × Rat)) (fun i => [StoP K i.1, ShP i.2]) (fun i => StoOk i.1 ∧ ShOk i.1.ms i.2) fun i => RowP i.1 i.2
theorem ok_Store_profile_told (T : Txt K mg) : FnOk P w K mg base CX0 5 (He.fAd K ("Store", some "profile_told")) (fdOf K ("Store", some "profile_told")) ["self", "shares"] (sp_profile_told K) := by
  refine T.D_Store_profile_told.ok sc_Store_profile_told (spF_len fun _ => rfl) (fun cdv A outer s H vs Q E hr h => ⟨_, PSs.nox (pss_cons (ps_set (i := 2) sc_Store_profile_told.nd rfl (Or.inr rfl) (pe_op op_rep (pe_lst (pa_cons (pe_tup (pa_cons pe_int (pa_cons pe_int pa_nil))) pa_nil)) (pe_globI T.i_ATTRIBUTES (by rfl)))) (pss_cons (ps_lk (ps_for PassesOwn.never rfl (pi_keys (pv 1)) (pg_name (i := 3) sc_Store_profile_told.nd rfl (Or.inr rfl)) (pss_cons (ps_set (i := 4) sc_Store_profile_told.nd rfl (Or.inr rfl) (pe_fld (pe_dget (hu_of hr) (pe_fld (pv 0) rfl) (pv 3) (fun _ _ => rfl)) rfl)) (pss_one (ps_set (i := 2) sc_Store_profile_told.nd rfl (Or.inr rfl) (pe_lc (own := [("at", 5)]) rfl sc_Store_profile_told.nd (pi_range1 (by rfl) T.f_range (pa_cons (pe_globI T.i_ATTRIBUTES (by rfl)) pa_nil)) (blkOk_by (N := ["self", "shares", "found", "one", "told", "at"]) (sc := defScope s_Store_profile_told) (by decide +kernel)) (fun _ _ _ _ _ => (pg_name (i := 5) sc_Store_profile_told.nd rfl (Or.inl rfl) (Or.inr rfl))) (fun _ _ _ _ _ => pts_nil) (fun _ _ _ _ _ => (pe_call (ok_plus T) (hr.mono (by decide)) (by rfl) T.g_plus T.k_plus T.b_plus .nil pass0 (pa_cons (pe_ix (ix_listK (K := K)) (pv 2) (pv 5) (fun _ _ => rfl)) (pa_cons (pe_call (ok_times T) (hr.mono (by decide)) (by rfl) T.g_times T.k_times T.b_times .nil pass0 (pa_cons (pe_dget (hu_of hr) (pv 1) (pv 3) (fun _ _ => rfl)) (pa_cons (pe_ix (ix_tupK (K := K)) (pv 4) (pv 5) (fun _ _ => rfl)) pa_nil))) pa_nil)))))))))) (pss_one (ps_ret (pv 2))))), ?_⟩)
  refine body_of h fun ⟨s, es⟩ ⟨hs, hh⟩ F0 H0 => ?_
  refine ht_seq (ht_set (P := RowP s []) (ev_isL (ev_rep (n := 6) (ev_lst (ea_cons ev_f0 ea_nil)) (ev_is ev_int rfl) (by decide) (by decide)) rfl)) ?_
  refine ht_seq (ht_forKB (Rf := FrP) (es := es) (β := fun _ => Unit) (vv_var rfl) (fun i _ => [some (StoP K s), some (ShP es), some (RowP s (es.take i)), none, none, none]) (fun i _ => W0) () ?_) (ht_ex fun _ => ?_)
  · intro F1 H1 i e _ he
    have hm := List.mem_of_getElem? he
    obtain ⟨m, hg⟩ := hh.get hm
    have hmo := (hs.mi _ (Pl.getA_mem hg)).2
    refine ht_seq (ht_set (T.prof (ev_mat (T.mats (ev_var rfl)) (ev_var rfl) hg))) ?_
    refine ht_post ?_ (ht_set (P := RowP s (es.take (i + 1))) (ev_isL (ev_lcR (n := 6) (ev_is ev_int rfl) (fun _ => true) (fun j => FrP (colP s (es.take i) j + e.2 * (att s j e.1 : Rat))) (fun _ _ => et_yes) (fun j hj _ => ?_) (by decide)) ?_))
    · exact fun σ H a => ⟨(), TyA.le (by repeat (first | exact trivial | refine ⟨.inl rfl, ?_⟩ | refine ⟨.inr rfl, ?_⟩)) σ H a⟩
    · have ha : att s j e.1 = m.profile.getD j 0 := by unfold att; rw [hg]; rfl
      have hlj : j < m.profile.length := by rw [hmo.six]; exact hj
      have hi1 : m.profile[j]? = some (att s j e.1) := by
        rw [ha, List.getD_eq_getElem?_getD, List.getElem?_eq_getElem hlj]; rfl
      refine ev_call (ea_cons (ev_ixL (ev_var rfl) (ev_var rfl) (atI_nat (j := j) (by rw [List.getElem?_map, List.getElem?_range hj]; rfl))) (ea_cons (ev_call (ea_cons (ev_sh (ev_var rfl) (ev_var rfl) (Pl.mem_getA hh.asc.nodup hm)) (ea_cons (ev_ixT (P := IntP (att s j e.1 : Int)) (ev_var rfl) (ev_var rfl) (atI_nat (j := j) (by rw [List.getElem?_map, hi1]; rfl))) ea_nil)) (spF_g (e.2, att s j e.1) ⟨hh.sm hm, small4000 (Nat.le_trans (at_le hs j e.1) (by decide))⟩)) ea_nil)) (spF_g (_, _) ⟨wsum_sm hs hh (by decide : 1000 ≤ 1000000) (at_le hs j) i, ?_⟩)
      obtain ⟨D, hD, hb⟩ := hh.bd
      refine ((hb e hm).mul (at_le hs j e.1)).sm (big1 hD) ?_
      rw [Nat.mul_comm]
      exact big hD (by decide)
    · rw [filter_yes]
      refine List.map_congr_left fun j hj => ?_
      unfold colP wsum
      rw [take_fold he]
  · rw [List.take_length]
    exact ht_ret (ev_var rfl)
theorem col_bd {s : Sto} {es : List (Nat × Rat)} (hs : StoOk s) (h : ShOk s.ms es) (i : Nat) : ∃ D, D < 2 ^ 600 ∧ 0 < D ∧ Pl.Bd D (24000 * D) (colP s es i) := by
  obtain ⟨D, hD, hb⟩ := h.bd
  by_cases c : es = []
  · subst c
    exact ⟨1, by decide, by decide, Pl.Bd.zero (by decide) _⟩
  have hp0 : 0 < D := by
    match q : es, c with
    | e :: r, _ => exact (hb e List.mem_cons_self).1
  refine ⟨D, hD, hp0, (wsum_bd hp0 (at_le hs i) es hb).mono ?_⟩
  have hl := h.len hs
  rw [Nat.mul_comm D 1000, ← Nat.mul_assoc]
  exact Nat.mul_le_mul_right _ (by omega)
theorem dist_sm {s : Sto} {a b : List (Nat × Rat)} (hs : StoOk s) (ha : ShOk s.ms a) (hb : ShOk s.ms b) : ∃ D M, D < 2 ^ 1300 ∧ M < 2 ^ 1400 ∧ (∀ i, Pl.Bd D M (absDifference (colP s a i) (colP s b i))) := by
  obtain ⟨D, hD, hbD⟩ := ha.bd
  obtain ⟨D', hD', hbD'⟩ := hb.bd
  have p1 : ∃ E, E < 2 ^ 600 ∧ 0 < E ∧ ∀ i, Pl.Bd E (24000 * E) (colP s a i) := by
    by_cases c : a = []
    · subst c
      exact ⟨1, by decide, by decide, fun i => Pl.Bd.zero (by decide) _⟩
    · have hp0 : 0 < D := by
        match q : a, c with
        | e :: r, _ => exact (hbD e List.mem_cons_self).1
      refine ⟨D, hD, hp0, fun i => (wsum_bd hp0 (at_le hs i) a hbD).mono ?_⟩
      have hl := ha.len hs
      rw [Nat.mul_comm D 1000, ← Nat.mul_assoc]
      exact Nat.mul_le_mul_right _ (by omega)
  have p2 : ∃ E, E < 2 ^ 600 ∧ 0 < E ∧ ∀ i, Pl.Bd E (24000 * E) (colP s b i) := by
    by_cases c : b = []
    · subst c
      exact ⟨1, by decide, by decide, fun i => Pl.Bd.zero (by decide) _⟩
    · have hp0 : 0 < D' := by
        match q : b, c with
        | e :: r, _ => exact (hbD' e List.mem_cons_self).1
      refine ⟨D', hD', hp0, fun i => (wsum_bd hp0 (at_le hs i) b hbD').mono ?_⟩
      have hl := hb.len hs
      rw [Nat.mul_comm D' 1000, ← Nat.mul_assoc]
      exact Nat.mul_le_mul_right _ (by omega)
  obtain ⟨E, e1, e2, e3⟩ := p1
  obtain ⟨G, g1, g2, g3⟩ := p2
  have h0 : E * G < 2 ^ 1200 := by
    refine Nat.lt_of_lt_of_le (Nat.mul_lt_mul'' e1 g1) ?_
    rw [← Nat.pow_add]
    exact Nat.pow_le_pow_right (by decide) (by decide)
  refine ⟨E * G, 48000 * (E * G), Nat.lt_of_lt_of_le h0 (Nat.pow_le_pow_right (by decide) (by decide)), ?_, fun i => ((e3 i).abs (g3 i)).mono ?_⟩
  · refine Nat.lt_of_lt_of_le (Nat.mul_lt_mul'' (show 48000 < 2 ^ 20 by decide) h0) ?_
    rw [← Nat.pow_add]
    exact Nat.pow_le_pow_right (by decide) (by decide)
  · have q1 : 24000 * E * G = 24000 * (E * G) := Nat.mul_assoc _ _ _
    have q2 : 24000 * G * E = 24000 * (E * G) := by rw [Nat.mul_assoc, Nat.mul_comm G E]
    rw [q1, q2]
    omega
def sp_distance_told (K : PySem.W.Frag) : Sp := spF (ι := Sto × List (Nat × Rat) × List (Nat × Rat)) (fun i => [StoP K i.1, ShP i.2.1, ShP i.2.2]) (fun i => StoOk i.1 ∧ ShOk i.1.ms i.2.1 ∧ ShOk i.1.ms i.2.2) fun i => FrP (distP i.1 i.2.1 i.2.2)
theorem pow_le {a b : Nat} (h : a ≤ b) : 2 ^ a ≤ 2 ^ b := Nat.pow_le_pow_right (by decide) h
theorem dsum_bd {D M : Nat} (hD : 0 < D) {g : Nat → Rat} (hg : ∀ i, Pl.Bd D M (g i)) : ∀ l : List Nat, Pl.Bd D (l.length * M) (l.foldl (fun acc i => acc + g i) 0) := by
  have key : ∀ (l : List Nat) (a : Rat) (A : Nat), Pl.Bd D A a → Pl.Bd D (A + l.length * M) (l.foldl (fun acc i => acc + g i) a) := by
    intro l
    induction l with
    | nil => intro a A h; simpa using h
    | cons x l ih =>
      intro a A h
      refine (ih (a + g x) (A + M) (h.add (hg x))).mono ?_
      rw [List.length_cons, Nat.succ_mul]
      omega
  intro l
  have := key l 0 0 (Pl.Bd.zero hD 0)
  rwa [Nat.zero_add] at this
theorem ok_Store_distance_told (T : Txt K mg) : FnOk P w K mg base CX0 6 (He.fAd K ("Store", some "distance_told")) (fdOf K ("Store", some "distance_told")) ["self", "shares", "others"] (sp_distance_told K) := by
  refine T.D_Store_distance_told.ok sc_Store_distance_told (spF_len fun _ => rfl) (fun cdv A outer s H vs Q E hr h => ⟨_, PSs.nox (pss_cons (ps_set (i := 3) sc_Store_distance_told.nd rfl (Or.inl rfl) (pe_tup (pa_cons pe_int (pa_cons pe_int pa_nil)))) (pss_cons (ps_for PassesOwn.never rfl (pi_zip (by rfl) T.f_zip (pa_cons (pe_meth (pv 0) T.cl_Store T.mt_Store_profile_told (ok_Store_profile_told T) (hr.mono (by decide)) T.b_Store_profile_told .nil pass0 (pa_cons (pv 1) pa_nil)) (pa_cons (pe_meth (pv 0) T.cl_Store T.mt_Store_profile_told (ok_Store_profile_told T) (hr.mono (by decide)) T.b_Store_profile_told .nil pass0 (pa_cons (pv 2) pa_nil)) pa_nil))) (pg_tup (n := 2) rfl (pgs_cons (pg_name (i := 4) sc_Store_distance_told.nd rfl (Or.inl rfl)) (pgs_cons (pg_name (i := 5) sc_Store_distance_told.nd rfl (Or.inl rfl)) pgs_nil))) (pss_cons (ps_set (i := 6) sc_Store_distance_told.nd rfl (Or.inl rfl) (pe_call (ok_minus T) (hr.mono (by decide)) (by rfl) T.g_minus T.k_minus T.b_minus .nil pass0 (pa_cons (pv 4) (pa_cons (pv 5) pa_nil)))) (pss_one (ps_set (i := 3) sc_Store_distance_told.nd rfl (Or.inl rfl) (pe_call (ok_plus T) (hr.mono (by decide)) (by rfl) T.g_plus T.k_plus T.b_plus .nil pass0 (pa_cons (pv 3) (pa_cons (pe_tup (pa_cons (pe_callB cr_abs (by rfl) T.f_abs bb_abs (pa_cons (pe_ix ix_tup (pv 6) pe_int (fun _ _ => rfl)) pa_nil)) (pa_cons (pe_ix ix_tup (pv 6) pe_int (fun _ _ => rfl)) pa_nil))) pa_nil))))))) (pss_one (ps_ret (pv 3))))), ?_⟩)
  refine body_of h fun ⟨s, a, b⟩ ⟨hs, ha, hb⟩ F0 H0 => ?_
  obtain ⟨D, M, hD, hM, hbd⟩ := dist_sm hs ha hb
  refine ht_seq (ht_set ev_f0) ?_
  refine ht_seq (ht_forZ (l := List.range 6) (f := fun i => FrP (colP s a i)) (f2 := fun i => FrP (colP s b i)) (β := fun _ => Unit) (ev_meth (ev_var rfl) rfl (ea_cons (ev_var rfl) ea_nil) (spF_g (s, a) ⟨hs, ha⟩)) (ev_meth (ev_var rfl) rfl (ea_cons (ev_var rfl) ea_nil) (spF_g (s, b) ⟨hs, hb⟩)) (fun i _ => [some (StoP K s), some (ShP a), some (ShP b), some (FrP (((List.range 6).take i).foldl (fun acc i => acc + absDifference (colP s a i) (colP s b i)) 0)), none, none, none]) (fun i _ => W0) R0 () ?_ hR0) (ht_ex fun _ => ?_)
  · intro F1 H1 i x _ hx
    have sm1 := wsum_sm hs ha (by decide : 1000 ≤ 1000000) (at_le hs x) a.length
    have sm2 := wsum_sm hs hb (by decide : 1000 ≤ 1000000) (at_le hs x) b.length
    rw [List.take_length] at sm1 sm2
    refine ht_seq (ht_set (ev_call (ea_cons (ev_var rfl) (ea_cons (ev_var rfl) ea_nil)) (spF_g (colP s a x, colP s b x) ⟨sm1, sm2⟩))) ?_
    obtain ⟨e1, e2⟩ := Pl.absD_eq (colP s a x) (colP s b x)
    refine ht_post ?_ (ht_set (P := FrP (((List.range 6).take (i + 1)).foldl (fun acc i => acc + absDifference (colP s a i) (colP s b i)) 0)) (ev_isF (ev_call (ea_cons (ev_var rfl) (ea_cons (ev_fr (q := absDifference (colP s a x) (colP s b x)) (ea_cons (ev_cb (ea_cons (ev_num (ev_var rfl)) ea_nil) cb_abs) (ea_cons (ev_den (ev_var rfl)) ea_nil)) e1.symm e2.symm) ea_nil)) (spF_g (((List.range 6).take i).foldl (fun acc i => acc + absDifference (colP s a i) (colP s b i)) 0, absDifference (colP s a x) (colP s b x)) ⟨?_, ?_⟩)) ?_))
    · exact fun σ H a => ⟨(), TyA.le (by repeat (first | exact trivial | refine ⟨.inl rfl, ?_⟩ | refine ⟨.inr rfl, ?_⟩)) σ H a⟩
    · have := dsum_bd (hbd 0).1 hbd ((List.range 6).take i)
      refine this.sm (Nat.lt_of_lt_of_le hD (pow_le (by decide))) ?_
      have hl : ((List.range 6).take i).length ≤ 6 := Nat.le_trans (List.length_take_le' ..) (by decide)
      refine Nat.lt_of_lt_of_le (Nat.mul_lt_mul'' (Nat.lt_of_le_of_lt hl (show 6 < 2 ^ 3 by decide)) hM) ?_
      rw [← Nat.pow_add]
      exact pow_le (by decide)
    · exact (hbd x).sm (Nat.lt_of_lt_of_le hD (pow_le (by decide))) (Nat.lt_of_lt_of_le hM (pow_le (by decide)))
    · rw [take_fold hx]
  · exact ht_ret (ev_var rfl)
/-! ### faults -/
theorem sort_keys {α : Type} {es : List (Nat × α)} (h : Pl.Asc es) : ∀ ys : List Int, ys.Perm (es.map fun e => (e.1 : Int)) → ys.Pairwise (· ≤ ·) → ys = es.map fun e => (e.1 : Int) := fun ys hp hs => by
  refine hp.eq_of_pairwise (le := (· ≤ ·)) (fun a b _ _ h1 h2 => Int.le_antisymm h1 h2) hs ?_
  have e : (es.map fun e => (e.1 : Int)) = (Pl.keysA es).map fun (n : Nat) => (n : Int) := by unfold Pl.keysA; rw [List.map_map]; rfl
  rw [e, List.pairwise_map]
  exact List.Pairwise.imp (fun h => by omega) h
theorem ev_sortedK {Γ : List (Option VP)} {W : Wd} {te : TE} {α : Type} {Rf : α → VP} {es : List (Nat × α)} (h : EvG te Γ W (DctP Rf es)) (ha : Pl.Asc es) (hl : es.length < 64) : EvG (tCB rSortedDI (tCons te tNil)) Γ W (LstP (es.map fun e => IntP (e.1 : Int))) :=
  ev_isL (ev_cb (ea_cons h ea_nil) (cb_sortedD (es.map fun e => (e.1 : Int)) hl (sort_keys ha))) (by rw [List.map_map]; rfl)
theorem find_at {α : Type} {p : α → Bool} : ∀ {l : List α} {i : Nat} {x : α}, (∀ k ∈ l.take i, p k = false) → l[i]? = some x → p x = true → l.find? p = some x
  | [], _, _, _, h, _ => by simp at h
  | a :: l, 0, x, _, h, hp => by
    have : a = x := by simpa using h
    subst this
    rw [List.find?_cons, hp]
  | a :: l, i + 1, x, hk, h, hp => by
    have h0 : p a = false := hk a (by simp)
    rw [List.find?_cons, h0]
    exact find_at (i := i) (fun k hk' => hk k (by rw [List.take_succ_cons]; exact List.mem_cons_of_mem _ hk')) (by simpa using h) hp
theorem find_no {α : Type} {p : α → Bool} {l : List α} (h : ∀ k ∈ l.take l.length, p k = false) : l.find? p = none := by
  rw [List.take_length] at h
  exact List.find?_eq_none.mpr fun x hx => by rw [h x hx]; decide
theorem take_all {α : Type} {p : α → Bool} {l : List α} {i : Nat} {x : α} (hx : l[i]? = some x) (h : ∀ k ∈ l.take i, p k = false) (hp : p x = false) : ∀ k ∈ l.take (i + 1), p k = false := fun k hk => by
  rw [take_next hx] at hk
  rcases List.mem_append.mp hk with h1 | h1
  · exact h k h1
  · rw [List.mem_singleton.mp h1]; exact hp
def sp_fault (K : PySem.W.Frag) : Sp := spF (ι := Sto × List (Nat × Rat)) (fun i => [StoP K i.1, ShP i.2]) (fun i => StoOk i.1 ∧ ShOk i.1.ms i.2) fun i => PairP (faultP i.1 i.2)
theorem over_iff (q : Rat) (n : Nat) : decide ((n : Rat) < q * (1000000 : Rat)) = decide ((n : Int) * (q.den : Int) < q.num * 1000000) := by
  have h1 : (q.den : Rat) ≠ 0 := by have := q.den_nz; exact_mod_cast this
  have h2 : (0 : Rat) < (q.den : Rat) := Pl.natpos q.den_pos
  have e1 := numden q
  rw [Bool.eq_iff_iff, decide_eq_true_eq, decide_eq_true_eq]
  have key : ((n : Rat) < q * (1000000 : Rat)) ↔ (n : Rat) * (q.den : Rat) < (q.num : Rat) * (1000000 : Rat) := by
    constructor
    · intro h
      have := Rat.mul_lt_mul_of_pos_right h h2
      have e : q * 1000000 * (q.den : Rat) = (q.num : Rat) * 1000000 := by
        generalize q.num = a at *
        generalize q.den = b at *
        rw [e1]; grind
      rwa [e] at this
    · intro h
      have := Rat.mul_lt_mul_of_pos_right h (Rat.inv_pos.mpr h2)
      have e : (q.num : Rat) * 1000000 * (q.den : Rat)⁻¹ = q * 1000000 := by
        generalize q.num = a at *
        generalize q.den = b at *
        rw [e1]; grind
      have e' : (n : Rat) * (q.den : Rat) * (q.den : Rat)⁻¹ = (n : Rat) := by grind
      rwa [e, e'] at this
  rw [key, ← Rat.intCast_natCast, ← Rat.intCast_natCast, ← Rat.intCast_mul, show (1000000 : Rat) = ((1000000 : Int) : Rat) from rfl, ← Rat.intCast_mul, Rat.intCast_lt_intCast]
theorem ok_Store_fault (T : Txt K mg) : FnOk P w K mg base CX0 2 (He.fAd K ("Store", some "fault")) (fdOf K ("Store", some "fault")) ["self", "shares"] (sp_fault K) := by
  refine T.D_Store_fault.ok sc_Store_fault (spF_len fun _ => rfl) (fun cdv A outer s H vs Q E hr h => ⟨_, PSs.nox (pss_cons (ps_for PassesOwn.never rfl (pi_list (pe_callB (cr_sortedDI rfl) (by rfl) T.f_sorted bb_sorted (pa_cons (pv 1) pa_nil))) (pg_name (i := 2) sc_Store_fault.nd rfl (Or.inl rfl)) (pss_one (ps_if (pt_not (pt_val (pe_fld (pe_dget (hu_of hr) (pe_fld (pv 0) rfl) (pv 2) (fun _ _ => rfl)) rfl))) (pss_one (ps_ret (pe_tup (pa_cons pe_int (pa_cons (pv 2) pa_nil))))) pss_nil))) (pss_cons (ps_for PassesOwn.never rfl (pi_list (pe_callB (cr_sortedDI rfl) (by rfl) T.f_sorted bb_sorted (pa_cons (pv 1) pa_nil))) (pg_name (i := 2) sc_Store_fault.nd rfl (Or.inl rfl)) (pss_cons (ps_par (i := 3) (j := 4) (by rfl) sc_Store_fault.nd rfl rfl (by decide) rfl rfl (pa_cons (pe_dget (hu_of hr) (pv 1) (pv 2) (fun _ _ => rfl)) (pa_cons (pe_fld (pe_dget (hu_of hr) (pe_fld (pv 0) rfl) (pv 2) (fun _ _ => rfl)) rfl) pa_nil)) (by rfl)) (pss_one (ps_if (pt_cmpR op_gt (pe_op op_mulW (pe_ix ix_tup (pv 3) pe_int (fun _ _ => rfl)) (pe_globI T.i_WHOLE (by rfl))) (pe_op op_mulW (pv 4) (pe_ix ix_tup (pv 3) pe_int (fun _ _ => rfl))) (nomark _)) (pss_one (ps_ret (pe_tup (pa_cons pe_int (pa_cons (pv 2) pa_nil))))) pss_nil)))) (pss_one (ps_ret (pe_tup (pa_cons pe_int (pa_cons pe_int pa_nil))))))), ?_⟩)
  refine body_of h fun ⟨s, es⟩ ⟨hs, hh⟩ F0 H0 => ?_
  have hl : es.length < 64 := Nat.lt_of_le_of_lt (hh.len hs) (by decide)
  refine ht_seq (ht_forL (l := es) (f := fun e => IntP (e.1 : Int)) (β := fun i => {u : Unit // ∀ k ∈ es.take i, una s k.1 = false}) (ev_sortedK (Rf := FrP) (ev_var rfl) hh.asc hl) (fun i _ => [some (StoP K s), some (ShP es), none, none, none]) (fun i _ => W0) (fun N F H => RetP N F H (PairP (faultP s es))) ⟨(), fun k hk => by simp at hk⟩ ?_ hRP) (ht_ex fun ⟨_, hno⟩ => ?_)
  · intro F1 H1 i e ⟨_, hu⟩ he
    have hm := List.mem_of_getElem? he
    obtain ⟨m, hg⟩ := hh.get hm
    have hun : una s e.1 = !m.isAvailable := by unfold una; rw [hg]; rfl
    refine ht_if (b := !m.isAvailable) (et_not (et_B (T.avail (ev_mat (T.mats (ev_var rfl)) (ev_var rfl) hg)))) (fun hb => ?_) fun hb => ?_
    · have hf : faultP s es = (1, e.1) := by
        unfold faultP
        rw [find_at (p := fun e : Nat × Rat => una s e.1) hu he (hun.trans hb)]
      rw [hf]
      exact ht_ret (ev_tup (ea_cons ev_int (ea_cons (ev_var rfl) ea_nil)) (show 2 ≤ sizeLine by decide))
    · exact ht_post (fun σ H a => ⟨⟨(), take_all (p := fun e : Nat × Rat => una s e.1) he hu (hun.trans hb)⟩, TyA.le (by repeat (first | exact trivial | refine ⟨.inl rfl, ?_⟩ | refine ⟨.inr rfl, ?_⟩)) σ H a⟩) ht_next
  refine ht_seq (ht_forL (l := es) (f := fun e => IntP (e.1 : Int)) (β := fun i => {u : Unit // ∀ k ∈ es.take i, over s k = false}) (ev_sortedK (Rf := FrP) (ev_var rfl) hh.asc hl) (fun i _ => [some (StoP K s), some (ShP es), none, none, none]) (fun i _ => W0) (fun N F H => RetP N F H (PairP (faultP s es))) ⟨(), fun k hk => by simp at hk⟩ ?_ hRP) (ht_ex fun ⟨_, hno2⟩ => ?_)
  · intro F1 H1 i e ⟨_, hu⟩ he
    have hm := List.mem_of_getElem? he
    obtain ⟨m, hg⟩ := hh.get hm
    have hmo := (hs.mi _ (Pl.getA_mem hg)).2
    have hmx : mst s e.1 = m.maxShare := by unfold mst; rw [hg]; rfl
    have hov : over s e = decide ((m.maxShare : Int) * (e.2.den : Int) < e.2.num * 1000000) := by
      unfold over
      rw [hmx]
      exact over_iff _ _
    have sm := hh.sm hm
    have c1 : CMulW e.2.num 1000000 := wide_mul (a := 4000) (b := 20) sm.1 (by decide) (by decide) (by decide) (by decide)
    have c2 : CMulW (m.maxShare : Int) (e.2.den : Int) := wide_mul (a := 20) (b := 4000) (by rw [Int.natAbs_natCast]; exact Nat.lt_of_le_of_lt hmo.most (by decide)) (by rw [Int.natAbs_natCast]; exact sm.2) (by decide) (by decide) (by decide)
    refine ht_seq (ht_par (ea_cons (ev_sh (ev_var rfl) (ev_var rfl) (Pl.mem_getA hh.asc.nodup hm)) (ea_cons (T.most (ev_mat (T.mats (ev_var rfl)) (ev_var rfl) hg)) ea_nil))) ?_
    refine ht_if (et_test (ev_gt (ev_mulW (ev_num (ev_var rfl)) ev_int c1) (ev_mulW (ev_var rfl) (ev_den (ev_var rfl)) c2))) (fun hb => ?_) fun hb => ?_
    · have hf : faultP s es = (2, e.1) := by
        unfold faultP
        rw [find_no (p := fun e : Nat × Rat => una s e.1) (l := es) hno, find_at (p := over s) hu he (hov.trans hb)]
      rw [hf]
      exact ht_ret (ev_tup (ea_cons ev_int (ea_cons (ev_var rfl) ea_nil)) (show 2 ≤ sizeLine by decide))
    · exact ht_post (fun σ H a => ⟨⟨(), take_all (p := over s) he hu (hov.trans hb)⟩, TyA.le (by repeat (first | exact trivial | refine ⟨.inl rfl, ?_⟩ | refine ⟨.inr rfl, ?_⟩)) σ H a⟩) ht_next
  · have hf : faultP s es = (0, 0) := by
      unfold faultP
      rw [find_no (p := fun e : Nat × Rat => una s e.1) (l := es) hno, find_no (p := over s) (l := es) hno2]
    rw [hf]
    exact ht_ret (ev_tup (ea_cons ev_int (ea_cons ev_int ea_nil)) (show 2 ≤ sizeLine by decide))
end Sw
set_option maxRecDepth 100000
set_option maxHeartbeats 2000000
/-! # The order of the rules -/
namespace Sw
open PySem L2
open SubstitutionSpec (Material Rule Mixture mixtureOf presentMaterials usedRules)
section
variable {N : Addr → Prop} {F0 H0 : Hp} {Γ Δ : List (Option VP)} {W : Wd} {R : VK} {A B : As} {t : TS} {te ta tb : TE} {K : PySem.W.Frag} {P P' : VP}
/-- what a slot's type tells -/
theorem ht_fact {φ : Prop} {i : Nat} (hs : Γ[i]? = some (some P)) (hp : ∀ v F, P v F → φ) (h : φ → HT (TyA N F0 H0 Γ W) t B R) : HT (TyA N F0 H0 Γ W) t B R := fun σ H D ⟨F, s⟩ nx rt => by
  obtain ⟨v, _, pv⟩ := s.ok.t.get hs
  exact h (hp v F pv) σ H D ⟨F, s⟩ nx rt
theorem Typed.conv {P P' : VP} : ∀ {σ : L2.St} {Γ : List (Option VP)} {F : Hp} {i : Nat}, Typed σ Γ F → Γ[i]? = some (some P) → (∀ v, σ[i]? = some (some v) → P v F → P' v F) → Typed σ (Γ.set i (some P')) F
  | s :: σ, p :: Γ, F, 0, h, e, k => by
    have e : p = some P := by simpa using e
    subst e
    obtain ⟨v, rfl, h2⟩ := h.1
    exact ⟨⟨v, rfl, k v rfl h2⟩, h.2⟩
  | s :: σ, p :: Γ, F, i + 1, h, e, k => ⟨h.1, Typed.conv (i := i) h.2 (by simpa using e) fun v hv => k v (by simpa using hv)⟩
  | [], [], _, _, _, e, _ => by simp at e
  | [], _ :: _, _, _, h, _, _ => h.elim
  | _ :: _, [], _, _, h, _, _ => h.elim
/-- if ..: return ..; then on -/
theorem ht_guard {tt : TT} {u : TS} {b : Bool} (h : EvT tt Γ W b) (h1 : b = true → HT (TyA N F0 H0 Γ W) t (fun _ _ => False) R) (h2 : b = false → HT (TyA N F0 H0 Γ W) u B R) : HT (TyA N F0 H0 Γ W) (tSeq (tIfS tt t tNext) u) B R := by
  refine ht_seq (B := fun σ H => b = false ∧ TyA N F0 H0 Γ W σ H) (ht_if h (fun hb => ht_post (fun _ _ z => z.elim) (h1 hb)) fun hb => ht_post (fun σ H a => ⟨hb, a⟩) ht_next) ?_
  exact fun σ H D ⟨hb, a⟩ nx rt => h2 hb σ H D a nx rt
/-- names for what a slot holds -/
theorem ht_name {ι : Type} {i : Nat} {P' : ι → VP} {φ : ι → Prop} (hs : Γ[i]? = some (some P)) (hp : ∀ v F, P v F → ∃ x, φ x ∧ P' x v F) (h : ∀ x, φ x → HT (TyA N F0 H0 (Γ.set i (some (P' x))) W) t B R) : HT (TyA N F0 H0 Γ W) t B R := fun σ H D ⟨F, s⟩ nx rt => by
  obtain ⟨v, hv, pv⟩ := s.ok.t.get hs
  obtain ⟨x, hx, px⟩ := hp v F pv
  refine h x hx σ H D ⟨F, s.slots (Typed.conv s.ok.t hs fun v' hv' _ => ?_)⟩ nx rt
  rw [hv] at hv'
  cases hv'
  exact px
end
def OptP {α : Type} (R : α → VP) : Option α → VP
  | none => NonP
  | some a => R a
/-- a rule at its place -/
def PR (K : PySem.W.Frag) (p : Addr × Rule) : VP := AtP (.ref p.1) (RulP K p.2)
theorem all_sub {α : Type} {f g : α → VP} (h : ∀ x v F, f x v F → g x v F) : ∀ {l : List α} {vs : List V} {F : Hp}, AllP (l.map f) vs F → AllP (l.map g) vs F
  | [], [], _, _ => trivial
  | x :: l, v :: vs, _, q => ⟨h x v _ q.1, all_sub h q.2⟩
  | [], _ :: _, _, q => q.elim
  | _ :: _, [], _, q => q.elim
theorem lst_sub {α : Type} {f g : α → VP} (h : ∀ x v F, f x v F → g x v F) {l : List α} (v : V) (F : Hp) : LstP (l.map f) v F → LstP (l.map g) v F := fun ⟨a, xs, h1, h2, h3⟩ => ⟨a, xs, h1, h2, all_sub h h3⟩
theorem all_name {K : PySem.W.Frag} : ∀ {rs : List Rule} {vs : List V} {F : Hp}, AllP (rs.map (RulP K)) vs F → ∃ ps : List (Addr × Rule), ps.map (fun p => p.2) = rs ∧ AllP (ps.map (PR K)) vs F
  | [], [], _, _ => ⟨[], rfl, trivial⟩
  | r :: rs, v :: vs, _, h => by
    obtain ⟨ps, h1, h2⟩ := all_name h.2
    obtain ⟨a, dx, us, e, q⟩ := h.1
    exact ⟨(a, r) :: ps, by rw [List.map_cons, h1], ⟨e, a, dx, us, e, q⟩, h2⟩
  | [], _ :: _, _, h => h.elim
  | _ :: _, [], _, h => h.elim
theorem lst_name {K : PySem.W.Frag} {rs : List Rule} (v : V) (F : Hp) : LstP (rs.map (RulP K)) v F → ∃ ps : List (Addr × Rule), ps.map (fun p => p.2) = rs ∧ LstP (ps.map (PR K)) v F := fun ⟨a, xs, h1, h2, h3⟩ => by
  obtain ⟨ps, e, q⟩ := all_name h3
  exact ⟨ps, e, a, xs, h1, h2, q⟩
theorem all_mem {K : PySem.W.Frag} : ∀ {ps : List (Addr × Rule)} {vs : List V} {F : Hp}, AllP (ps.map (PR K)) vs F → ∀ p ∈ ps, RulP K p.2 (.ref p.1) F
  | [], _, _, _, p, hp => by cases hp
  | q :: ps, v :: vs, F, h, p, hp => by
    rcases List.mem_cons.mp hp with e | hp
    · subst e
      have e : v = V.ref p.1 := h.1.1
      rw [← e]
      exact h.1.2
    · exact all_mem h.2 p hp
/-- at one place there is one material -/
theorem one_mat {K : PySem.W.Frag} {a : Addr} {r r' : Rule} {F : Hp} (h : RulP K r (.ref a) F) (h' : RulP K r' (.ref a) F) : r.material = r'.material := by
  obtain ⟨b, dx, vs, e, f, g⟩ := h
  obtain ⟨b', dx', vs', e', f', g'⟩ := h'
  injection e with e
  injection e' with e'
  subst e e'
  rw [f] at f'
  injection f' with f'
  injection f' with _ _ f'
  subst f'
  obtain ⟨v, h1, h2⟩ := g.get (f := "material") rfl
  obtain ⟨v', h1', h2'⟩ := g'.get (f := "material") rfl
  rw [h1] at h1'
  cases h1'
  obtain rfl : v = V.int (r.material : Int) := h2
  have : V.int (r.material : Int) = V.int (r'.material : Int) := h2'
  injection this with this
  omega
theorem lst_inj {K : PySem.W.Frag} {ps : List (Addr × Rule)} (hn : ((ps.map fun p => p.2).map fun r => r.material).Nodup) (v : V) (F : Hp) : LstP (ps.map (PR K)) v F → (ps.map fun p => p.1).Nodup := fun ⟨a, xs, h1, h2, h3⟩ => by
  have hm := all_mem h3
  rw [List.map_map] at hn
  unfold List.Nodup at *
  rw [List.pairwise_map] at hn ⊢
  refine List.Pairwise.imp_of_mem (fun {p q} hp hq h e => h ?_) hn
  have h1 := hm p hp
  have h2 := hm q hq
  rw [e] at h1
  exact one_mat h1 h2
/-- one by its place is one by its rule -/
structure Inj (ps : List (Addr × Rule)) : Prop where
  a : (ps.map fun p => p.1).Nodup
  r : (ps.map fun p => p.2).Nodup
theorem inj_eq {β : Type} {f : Addr × Rule → β} : ∀ {ps : List (Addr × Rule)}, (ps.map f).Nodup → ∀ {p q}, p ∈ ps → q ∈ ps → f p = f q → p = q
  | [], _, p, q, hp, _, _ => by cases hp
  | x :: ps, hn, p, q, hp, hq, e => by
    rw [List.map_cons, List.nodup_cons] at hn
    rcases List.mem_cons.mp hp with h1 | h1 <;> rcases List.mem_cons.mp hq with h2 | h2
    · rw [h1, h2]
    · exact absurd (List.mem_map.mpr ⟨q, h2, by rw [← e, h1]⟩) hn.1
    · exact absurd (List.mem_map.mpr ⟨p, h1, by rw [e, h2]⟩) hn.1
    · exact inj_eq hn.2 h1 h2 e
theorem Inj.mem {ps us : List (Addr × Rule)} (h : Inj ps) (hu : ∀ u ∈ us, u ∈ ps) {p : Addr × Rule} (hp : p ∈ ps) : decide (p.1 ∈ us.map fun u => u.1) = (us.map fun u => u.2).contains p.2 := by
  rw [Bool.eq_iff_iff, decide_eq_true_eq, List.contains_iff_mem, List.mem_map, List.mem_map]
  constructor
  · rintro ⟨u, hm, e⟩
    exact ⟨u, hm, by rw [inj_eq h.a (hu u hm) hp e]⟩
  · rintro ⟨u, hm, e⟩
    exact ⟨u, hm, by rw [inj_eq h.r (hu u hm) hp e]⟩
theorem filter_snd {q : Addr × Rule → Bool} {q' : Rule → Bool} : ∀ {ps : List (Addr × Rule)}, (∀ p ∈ ps, q p = q' p.2) → (ps.filter q).map (fun p => p.2) = (ps.map fun p => p.2).filter q'
  | [], _ => rfl
  | p :: ps, h => by
    have ih := filter_snd (q := q) (q' := q') (ps := ps) fun x hx => h x (List.mem_cons_of_mem _ hx)
    rw [List.filter_cons, List.map_cons, List.filter_cons, h p List.mem_cons_self]
    cases q' p.2 with
    | true => rw [if_pos rfl, if_pos rfl, List.map_cons, ih]
    | false => rw [if_neg (by decide), if_neg (by decide), ih]
section
variable {Γ : List (Option VP)} {W : Wd} {ta tb : TE} {K : PySem.W.Frag}
theorem ev_inR {p : Addr × Rule} {us : List (Addr × Rule)} (ha : EvG ta Γ W (PR K p)) (hb : EvG tb Γ W (LstP (us.map (PR K)))) : EvG (tOp (rInO K (He.ga K "Rule") true) ta tb) Γ W (BoolP (!decide (p.1 ∈ us.map fun u => u.1))) := by
  have h := ev_inO (K := K) (neg := true) (bs := us.map fun u => (u.1, rulF u.2)) (Ps := rulF p.2) (a := p.1) (C := He.ga K "Rule") (tb := tb) ha (ev_isL hb (by rw [List.map_map]; rfl))
  rw [List.map_map] at h
  exact h
end
/-- the rules that the numbers name -/
def Sel (s : Sto) (ns : List Nat) (rs : List Rule) : Prop := ns.map (Pl.getA s.rs) = rs.map some
theorem Sel.get {s : Sto} : ∀ {ns : List Nat} {rs : List Rule} {i n : Nat}, Sel s ns rs → ns[i]? = some n → ∃ r, rs[i]? = some r ∧ Pl.getA s.rs n = some r := fun {ns rs i n} h e => by
  have h1 : (ns.map (Pl.getA s.rs))[i]? = some (Pl.getA s.rs n) := by rw [List.getElem?_map, e]; rfl
  unfold Sel at h
  rw [h, List.getElem?_map] at h1
  cases q : rs[i]? with
  | none => rw [q] at h1; cases h1
  | some r => rw [q] at h1; exact ⟨r, rfl, (Option.some.inj h1).symm⟩
theorem Sel.len {s : Sto} {ns : List Nat} {rs : List Rule} (h : Sel s ns rs) : rs.length = ns.length := by
  have := congrArg List.length h
  rw [List.length_map, List.length_map] at this
  exact this.symm
theorem Sel.mem {s : Sto} {ns : List Nat} {rs : List Rule} (h : Sel s ns rs) {r : Rule} (hr : r ∈ rs) : ∃ n ∈ ns, Pl.getA s.rs n = some r := by
  have : some r ∈ rs.map some := List.mem_map.mpr ⟨r, hr, rfl⟩
  rw [← h] at this
  obtain ⟨n, h1, h2⟩ := List.mem_map.mp this
  exact ⟨n, h1, h2⟩
theorem Sel.ok {s : Sto} (hs : StoOk s) {ns : List Nat} {rs : List Rule} (h : Sel s ns rs) {r : Rule} (hr : r ∈ rs) : RulOk s.ms r := by
  obtain ⟨n, _, e⟩ := h.mem hr
  exact (hs.ri _ (Pl.getA_mem e)).2
theorem present {ms : List (Nat × Material)} {f : List (Nat × Nat)} (h : ForOk ms f) : presentMaterials (mixtureOf f) = Pl.keysA f := by
  unfold presentMaterials mixtureOf Pl.keysA
  rw [List.filter_map, List.map_map, List.filter_eq_self.mpr fun e he => ?_]
  · rfl
  · have := (h.comp e he).2.1
    have h2 : e.2 ≠ 0 := by omega
    have h3 : (e.2 : Rat) ≠ 0 := by exact_mod_cast h2
    exact decide_eq_true h3
def sp_order (K : PySem.W.Frag) : Sp := spF (ι := Sto × Nat × List (Nat × Nat) × List Nat × List Rule) (fun i => [StoP K i.1, IntP (i.2.1 : Int), LstP (i.2.2.2.1.map fun (n : Nat) => IntP (n : Int))])
  (fun i => StoOk i.1 ∧ Pl.getA i.1.fs i.2.1 = some i.2.2.1 ∧ ForOk i.1.ms i.2.2.1 ∧ Sel i.1 i.2.2.2.1 i.2.2.2.2 ∧ i.2.2.2.1.length ≤ 10) fun i => OptP (fun ord => LstP (ord.map (RulP K))) (Pl.orderM i.2.2.2.2 (mixtureOf i.2.2.1))
/-- the pairs used behind some turns -/
structure UAt (ps : List (Addr × Rule)) (mix : Mixture) (u : List (Addr × Rule)) (b : Bool) : Prop where
  sub : ∀ p ∈ u, p ∈ ps
  at_ : ∃ k, Pl.UsedAt (ps.map fun p => p.2) mix k (u.map fun p => p.2)
  end_ : b = false → Pl.moreOf (ps.map fun p => p.2) (u.map fun p => p.2) = []
structure TAt (ps : List (Addr × Rule)) (z : (List (Addr × Rule) × List (Addr × Rule)) × Nat) : Prop where
  fs : ∀ p ∈ z.1.1, p ∈ ps
  ls : ∀ p ∈ z.1.2, p ∈ ps
  le : z.1.2.length ≤ z.2
  tl : z.1.1.length + z.1.2.length ≤ 10
  tp : Pl.topo z.2 (z.1.1.map fun p => p.2) (z.1.2.map fun p => p.2) = Pl.topo ps.length [] (ps.map fun p => p.2)
theorem ev_pr {Γ : List (Option VP)} {W : Wd} {te : TE} {K : PySem.W.Frag} {p : Addr × Rule} (h : EvG te Γ W (PR K p)) : EvG te Γ W (RulP K p.2) := ev_sub h fun v F q => q.2
variable {P : Program} {w : World} {K : PySem.W.Frag} {mg : Str → Option Value} {base : Heap}
theorem UAt.len {ps u : List (Addr × Rule)} {mix : Mixture} {b : Bool} (h : UAt ps mix u b) : u.length ≤ ps.length := by
  obtain ⟨k, hk⟩ := h.at_
  have := hk.len
  rwa [List.length_map, List.length_map] at this
/-- any([one.feeds(rule) for one in us]) -/
theorem ev_fed {Γ : List (Option VP)} {W : Wd} {u j : Nat} {vs : List Nat} {us : List (Addr × Rule)} {p : Addr × Rule} {i : Nat} (hu : Γ[u]? = some (some (LstP (us.map (PR K))))) (hp : ((wipeG Γ vs).set j (some (NonP)))[i]? = some (some (PR K p))) (hij : i ≠ j) (hl : us.length < 16000000) (h3 : ∀ q ∈ us, q.2.replacements.length ≤ 3) (hjs : ∀ i ∈ [j], i ∈ vs := by decide) (hjl : j < (wipeG Γ vs).length) :
    EvG (tCB (rAny K) (tCons (tLc (iList K (tVar u)) (gName j) tYes (tMeth (He.ga K "Rule") "feeds" (sp_feeds K) [] E0 (tVar j) (tCons (tVar i) tNil)) vs) tNil)) Γ W (BoolP (Pl.fedBy (us.map fun q => q.2) p.2)) := by
  refine ev_isB (ev_cb (ea_cons (ev_isL (ev_lcL (ev_var hu) (fun _ => true) (fun q => BoolP (q.2.feeds p.2)) (fun _ _ => et_yes) (fun q hq _ => ?_) hl hjs) (Qs := (us.map fun q => q.2.feeds p.2).map BoolP) (by rw [filter_yes, List.map_map]; rfl)) ea_nil) cb_any) ?_
  · have h1 : ((wipeG Γ vs).set j (some (PR K q)))[j]? = some (some (PR K q)) := List.getElem?_set_self hjl
    have h2 : ((wipeG Γ vs).set j (some (PR K q)))[i]? = some (some (PR K p)) := by
      rw [List.getElem?_set_ne (Ne.symm hij)] at hp ⊢
      exact hp
    exact ev_meth (ev_sub (ev_var h1) fun v F h => h.2) rfl (ea_cons (ev_sub (ev_var h2) fun v F h => h.2) ea_nil) (spF_g (q.2, p.2) (h3 q hq))
  · unfold Pl.fedBy
    rw [List.any_map, List.any_map]
    rfl
theorem ok_Store_order (T : Txt K mg) : FnOk P w K mg base CX0 3 (He.fAd K ("Store", some "order")) (fdOf K ("Store", some "order")) ["self", "formula", "numbers"] (sp_order K) := by
  refine T.D_Store_order.ok sc_Store_order (spF_len fun _ => rfl) (fun cdv A outer s H vs Q E hr h => ⟨_, PSs.nox (pss_cons (ps_setLc (i := 3) (own := [("number", 11)]) rfl sc_Store_order.nd rfl rfl (sw_true rfl rfl rfl (by decide +kernel)) (pi_list (pv 2)) (blkOk_by (N := ["self", "formula", "numbers", "some", "materials", "used", "is_new", "more", "found", "left", "free", "number", "rule", "one"]) (sc := defScope s_Store_order) (by decide +kernel)) (fun _ _ _ _ _ => (pg_name (i := 11) sc_Store_order.nd rfl (Or.inl rfl) (Or.inr rfl))) (fun _ _ _ _ _ => pts_nil) (fun _ _ _ _ _ => (pe_dget (hu_of hr) (pe_fldK (K := K) (pv 0) rfl) (pv 11) (fun _ _ => rfl)))) (pss_cons (ps_setLc (i := 4) (own := [("rule", 12)]) rfl sc_Store_order.nd rfl rfl (sw_true rfl rfl rfl (by decide +kernel)) (pi_list (pv 3)) (blkOk_by (N := ["self", "formula", "numbers", "some", "materials", "used", "is_new", "more", "found", "left", "free", "number", "rule", "one"]) (sc := defScope s_Store_order) (by decide +kernel)) (fun _ _ _ _ _ => (pg_name (i := 12) sc_Store_order.nd rfl (Or.inl rfl) (Or.inr rfl))) (fun _ _ _ _ _ => pts_nil) (fun _ _ _ _ _ => (pe_fldK (K := K) (pv 12) rfl))) (pss_cons (ps_if (pt_cmpR op_lt (pe_lenSetG T.f_len T.f_set (pv 4)) (pe_callB cr_lenSeq (by rfl) T.f_len bb_len (pa_cons (pv 4) pa_nil)) (nomark _)) (pss_one (ps_ret pe_non)) pss_nil) (pss_cons (ps_asg (pe_tup (pa_cons (pe_lc (own := [("rule", 12)]) rfl sc_Store_order.nd (pi_list (pv 3)) (blkOk_by (N := ["self", "formula", "numbers", "some", "materials", "used", "is_new", "more", "found", "left", "free", "number", "rule", "one"]) (sc := defScope s_Store_order) (by decide +kernel)) (fun _ _ _ _ _ => (pg_name (i := 12) sc_Store_order.nd rfl (Or.inl rfl) (Or.inr rfl))) (fun _ _ _ _ _ => (pts_one (pt_cmp (pc_din (hu_of hr) (pe_fldK (K := K) (pv 12) rfl) (pe_dget (hu_of hr) (pe_fldK (K := K) (pv 0) rfl) (pv 1) (fun _ _ => rfl)))))) (fun _ _ _ _ _ => (pv 12))) (pa_cons pe_bl pa_nil))) (pg_tup (n := 2) rfl (pgs_cons (pg_name (i := 5) sc_Store_order.nd rfl (Or.inr rfl)) (pgs_cons (pg_name (i := 6) sc_Store_order.nd rfl (Or.inl rfl)) pgs_nil)))) (pss_cons (ps_while PassesOwn.never (pt_val (pv 6)) (pss_cons (ps_setLc (i := 7) (own := [("rule", 12)]) rfl sc_Store_order.nd rfl rfl (sw_true rfl rfl rfl (by decide +kernel)) (pi_list (pv 3)) (blkOk_by (N := ["self", "formula", "numbers", "some", "materials", "used", "is_new", "more", "found", "left", "free", "number", "rule", "one"]) (sc := defScope s_Store_order) (by decide +kernel)) (fun _ _ _ _ _ => (pg_name (i := 12) sc_Store_order.nd rfl (Or.inr rfl))) (fun _ _ _ _ _ => (pts_one (PW.pt (pw_and (pt_cmpR (op_niInsK (K := K) (C := He.ga K "Rule") hr.units T.ruleM T.ruleE) (pv 12) (pv 5) (by rfl)) (pw_and1 (pt_val (pe_callB (cr_anyK (K := K) rfl) (by rfl) T.f_any bb_any (pa_cons (pe_lc (own := [("one", 13)]) rfl sc_Store_order.nd (pi_listK (K := K) (pv 5)) (blkOk_by (N := ["self", "formula", "numbers", "some", "materials", "used", "is_new", "more", "found", "left", "free", "number", "rule", "one"]) (sc := ({ kind := .function, names := [(Str.ofString ".0", .local), (Str.ofString "rule", .cell), (Str.ofString "any", .globalImplicit), (Str.ofString "used", .cell)], isGenerator := false, isCoroutine := false, more := [] } : Scope)) (by decide +kernel)) (fun _ _ _ _ _ => (pg_name (i := 13) sc_Store_order.nd rfl (Or.inl rfl) (Or.inr rfl))) (fun _ _ _ _ _ => pts_nil) (fun _ _ _ _ _ => (pe_meth (pv 13) T.cl_Rule T.mt_Rule_feeds (ok_Rule_feeds T) (hr.mono (by decide)) T.b_Rule_feeds .nil pass0 (pa_cons (pv 12) pa_nil)))) pa_nil)))))))) (fun _ _ _ _ _ => (pv 12))) (pss_one (ps_asg (pe_tup (pa_cons (pe_op op_cat (pv 5) (pv 7)) (pa_cons (pe_cmpR op_gt (pe_callB cr_lenSeq (by rfl) T.f_len bb_len (pa_cons (pv 7) pa_nil)) pe_int (nomark _)) pa_nil))) (pg_tup (n := 2) rfl (pgs_cons (pg_name (i := 5) sc_Store_order.nd rfl (Or.inr rfl)) (pgs_cons (pg_name (i := 6) sc_Store_order.nd rfl (Or.inl rfl)) pgs_nil))))))) (pss_cons (ps_if (pt_cmpR op_lt (pe_callB cr_lenSeq (by rfl) T.f_len bb_len (pa_cons (pv 5) pa_nil)) (pe_callB cr_lenSeq (by rfl) T.f_len bb_len (pa_cons (pv 3) pa_nil)) (nomark _)) (pss_one (ps_ret pe_non)) pss_nil) (pss_cons (ps_asg (pe_tup (pa_cons (pe_lst pa_nil) (pa_cons (pv 3) pa_nil))) (pg_tup (n := 2) rfl (pgs_cons (pg_name (i := 8) sc_Store_order.nd rfl (Or.inl rfl)) (pgs_cons (pg_name (i := 9) sc_Store_order.nd rfl (Or.inr rfl)) pgs_nil)))) (pss_cons (ps_while PassesOwn.never (pt_tru (pv 9)) (pss_cons (ps_set (i := 10) sc_Store_order.nd rfl (Or.inr rfl) (pe_lc (own := [("rule", 12)]) rfl sc_Store_order.nd (pi_list (pv 9)) (blkOk_by (N := ["self", "formula", "numbers", "some", "materials", "used", "is_new", "more", "found", "left", "free", "number", "rule", "one"]) (sc := defScope s_Store_order) (by decide +kernel)) (fun _ _ _ _ _ => (pg_name (i := 12) sc_Store_order.nd rfl (Or.inr rfl))) (fun _ _ _ _ _ => (pts_one (pt_not (pt_val (pe_callB (cr_anyK (K := K) rfl) (by rfl) T.f_any bb_any (pa_cons (pe_lc (own := [("one", 13)]) rfl sc_Store_order.nd (pi_listK (K := K) (pv 9)) (blkOk_by (N := ["self", "formula", "numbers", "some", "materials", "used", "is_new", "more", "found", "left", "free", "number", "rule", "one"]) (sc := ({ kind := .function, names := [(Str.ofString ".0", .local), (Str.ofString "rule", .cell), (Str.ofString "any", .globalImplicit), (Str.ofString "left", .cell)], isGenerator := false, isCoroutine := false, more := [] } : Scope)) (by decide +kernel)) (fun _ _ _ _ _ => (pg_name (i := 13) sc_Store_order.nd rfl (Or.inl rfl) (Or.inr rfl))) (fun _ _ _ _ _ => pts_nil) (fun _ _ _ _ _ => (pe_meth (pv 13) T.cl_Rule T.mt_Rule_feeds (ok_Rule_feeds T) (hr.mono (by decide)) T.b_Rule_feeds .nil pass0 (pa_cons (pv 12) pa_nil)))) pa_nil)))))) (fun _ _ _ _ _ => (pv 12)))) (pss_cons (ps_if (pt_not (pt_tru (pv 10))) (pss_one (ps_ret pe_non)) pss_nil) (pss_cons (ps_set (i := 8) sc_Store_order.nd rfl (Or.inl rfl) (pe_op op_cat (pv 8) (pv 10))) (pss_one (ps_set (i := 9) sc_Store_order.nd rfl (Or.inr rfl) (pe_lc (own := [("rule", 12)]) rfl sc_Store_order.nd (pi_list (pv 9)) (blkOk_by (N := ["self", "formula", "numbers", "some", "materials", "used", "is_new", "more", "found", "left", "free", "number", "rule", "one"]) (sc := defScope s_Store_order) (by decide +kernel)) (fun _ _ _ _ _ => (pg_name (i := 12) sc_Store_order.nd rfl (Or.inl rfl) (Or.inr rfl))) (fun _ _ _ _ _ => (pts_one (pt_cmpR (op_niInsK (K := K) (C := He.ga K "Rule") hr.units T.ruleM T.ruleE) (pv 12) (pv 10) (by rfl)))) (fun _ _ _ _ _ => (pv 12))))))))) (pss_one (ps_ret (pv 8))))))))))), ?_⟩)
  refine body_of h fun ⟨s, n, f, ns, rs⟩ ⟨hs, hf, ho, hsel, hlen⟩ F0 H0 => ?_
  have hlen : ns.length ≤ 10 := hlen
  have hns : ns.length < 16000000 := Nat.lt_of_le_of_lt hlen (by decide)
  have hrl : rs.length = ns.length := hsel.len
  have hrl' : rs.length < 16000000 := by rw [hrl]; exact hns
  have hro : ∀ r ∈ rs, RulOk s.ms r := fun r hr => hsel.ok hs hr
  refine ht_seq (ht_set (P := LstP (rs.map (RulP K))) (ev_isL (ev_lcL (ev_var rfl) (fun _ => true) (fun k => OptP (RulP K) (Pl.getA s.rs k)) (fun _ _ => et_yes) (fun k hk _ => ?_) hns) ?_)) ?_
  · obtain ⟨i, hi⟩ := List.mem_iff_getElem?.mp hk
    obtain ⟨r, _, hg⟩ := hsel.get hi
    rw [hg]
    exact ev_rul (T.ruls (ev_var rfl)) (ev_var rfl) hg
  · rw [filter_yes, show ns.map (fun k => OptP (RulP K) (Pl.getA s.rs k)) = (ns.map (Pl.getA s.rs)).map (OptP (RulP K)) by rw [List.map_map]; rfl, show ns.map (Pl.getA s.rs) = rs.map some from hsel, List.map_map]; rfl
  refine ht_seq (ht_set (P := LstP ((rs.map fun r => (r.material : Int)).map IntP)) (ev_isL (ev_lcL (ev_var rfl) (fun _ => true) (fun r => IntP (r.material : Int)) (fun _ _ => et_yes) (fun r hr _ => T.rmat (ev_var rfl)) hrl') (by rw [filter_yes, List.map_map]; rfl))) ?_
  have hmat : (rs.map fun r => (r.material : Int)) = (rs.map fun r => r.material).map fun (n : Nat) => (n : Int) := by rw [List.map_map]; rfl
  have hnd : (rs.map fun r => (r.material : Int)).Nodup ↔ (rs.map fun r => r.material).Nodup := by
    rw [hmat]
    unfold List.Nodup
    rw [List.pairwise_map]
    exact ⟨fun h => h.imp fun h e => h (by rw [e]), fun h => h.imp fun h e => h (by omega)⟩
  refine ht_guard (et_test (ev_lt (ev_lenSet (ev_var rfl) (by rw [List.length_map]; omega)) (ev_cb (ea_cons (ev_var rfl) ea_nil) cb_lenL))) (fun hb => ?_) fun hb => ?_
  · have hb := of_decide_eq_true hb
    have hq : Pl.orderM rs (mixtureOf f) = none := by
      unfold Pl.orderM
      rw [if_neg fun q => ?_]
      have := (uniq_iff _).mpr (hnd.mpr q)
      rw [List.length_map] at hb
      omega
    show HT _ _ _ (RetP No F0 H0 (OptP _ (Pl.orderM rs (mixtureOf f))))
    rw [hq]
    exact ht_ret ev_non
  have hnm : (rs.map fun r => r.material).Nodup := by
    by_cases q : (rs.map fun r => r.material).Nodup
    · exact q
    · exfalso
      have hb := of_decide_eq_false hb
      have h1 := uniq_len (rs.map fun r => (r.material : Int))
      have h2 := mt ((uniq_iff _).mp) (fun z => q (hnd.mp z))
      simp only [List.length_map] at *
      omega
  refine ht_name (i := 3) (φ := fun ps : List (Addr × Rule) => ps.map (fun p => p.2) = rs) (P' := fun ps => LstP (ps.map (PR K))) rfl lst_name fun ps hps => ?_
  subst hps
  refine ht_fact (i := 3) (φ := (ps.map fun p => p.1).Nodup) rfl (lst_inj hnm) fun hia => ?_
  have inj : Inj ps := ⟨hia, Pl.nodup_of_mats hnm⟩
  have hpl : ps.length = ns.length := by rw [← hrl, List.length_map]
  have hpl' : ps.length < 16000000 := by omega
  have h3 : ∀ p ∈ ps, p.2.replacements.length ≤ 3 := fun p hp => (hro p.2 (List.mem_map.mpr ⟨p, hp, rfl⟩)).some.2
  refine ht_seq (ht_asg (hg := tg_tup2 (P1 := LstP ((ps.filter fun p : Addr × Rule => (Pl.getA f p.2.material).isSome).map (PR K))) (P2 := BoolP true)) (ev_tup (ea_cons (ev_lcL (ev_var rfl) _ (PR K) (fun p hp => et_B (ev_din (T.rmat (ev_pr (ev_var rfl))) (ev_for (T.fors (ev_var rfl)) (ev_var rfl) hf))) (fun p hp _ => ev_var rfl) hpl') (ea_cons ev_bl ea_nil)) (show 2 ≤ sizeLine by decide))) ?_
  have hu0 : UAt ps (mixtureOf f) (ps.filter fun p : Addr × Rule => (Pl.getA f p.2.material).isSome) true := by
    refine ⟨fun p hp => (List.mem_filter.mp hp).1, ⟨0, ?_⟩, fun e => by cases e⟩
    rw [filter_snd (q' := fun r => (presentMaterials (mixtureOf f)).contains r.material) fun p hp => ?_]
    · exact Pl.UsedAt.start inj.r
    · rw [present ho, Bool.eq_iff_iff, List.contains_iff_mem]
      constructor
      · intro h
        obtain ⟨x, hx⟩ := Option.isSome_iff_exists.mp h
        exact get_key hx
      · intro h
        obtain ⟨x, hx⟩ := key_get h
        rw [hx]; rfl
  let G : List (Addr × Rule) × Bool → List (Option VP) := fun z => [some (StoP K s), some (IntP (n : Int)), some (LstP (ns.map fun (n : Nat) => IntP (n : Int))), some (LstP (ps.map (PR K))), none, some (LstP (z.1.map (PR K))), some (BoolP z.2), none, none, none, none, none, none, none]
  refine ht_seq (B := fun σ H => ∃ u, (UAt ps (mixtureOf f) u false) ∧ TyA No F0 H0 (G (u, false)) W0 σ H) (ht_whileT (β := {z : List (Addr × Rule) × Bool // UAt ps (mixtureOf f) z.1 z.2}) (fun z => G z.1) (fun _ => W0) (fun z => 2 * (ps.length - z.1.1.length) + (if z.1.2 = true then 1 else 0)) ⟨(_, true), hu0⟩ (fun σ H a => TyA.le (by repeat (first | exact trivial | refine ⟨.inl rfl, ?_⟩ | refine ⟨.inr rfl, ?_⟩)) σ H a) (fun z => z.1.2) (fun z => et_B (ev_var rfl)) (fun ⟨⟨u, b⟩, hu⟩ go => ?_) (fun ⟨⟨u, b⟩, hu⟩ go => ?_)) (ht_ex fun u => ?_)
  · have go : b = true := go
    subst go
    have hul : u.length ≤ ps.length := hu.len
    have hu3 : ∀ q ∈ u, q.2.replacements.length ≤ 3 := fun q hq => h3 q (hu.sub q hq)
    refine ht_seq (ht_set (ev_lcL (ev_var rfl) (fun p => !decide (p.1 ∈ u.map fun q => q.1) && Pl.fedBy (u.map fun q => q.2) p.2) (PR K) (fun p hp => et_and (et_test (ev_inR (ev_var rfl) (ev_var rfl))) fun _ => et_B (ev_fed rfl rfl (by decide) (Nat.lt_of_le_of_lt hul hpl') hu3 (by decide) (show 13 < 14 by decide))) (fun p hp _ => ev_var rfl) hpl')) ?_
    have hmore : (ps.filter fun p => !decide (p.1 ∈ u.map fun q => q.1) && Pl.fedBy (u.map fun q => q.2) p.2).map (fun p => p.2) = Pl.moreOf (ps.map fun p => p.2) (u.map fun p => p.2) :=
      filter_snd (q' := fun r => !(u.map fun p => p.2).contains r && Pl.fedBy (u.map fun p => p.2) r) fun p hp => by rw [inj.mem hu.sub hp]
    generalize hm : (ps.filter fun p => !decide (p.1 ∈ u.map fun q => q.1) && Pl.fedBy (u.map fun q => q.2) p.2) = m at hmore ⊢
    have hmp : ∀ p ∈ m, p ∈ ps := fun p hp => by rw [← hm] at hp; exact (List.mem_filter.mp hp).1
    obtain ⟨k, hk⟩ := hu.at_
    have hnew : UAt ps (mixtureOf f) (u ++ m) (decide (0 < m.length)) := by
      by_cases hz : m = []
      · subst hz
        rw [List.append_nil]
        exact ⟨hu.sub, ⟨k, hk⟩, fun _ => hmore.symm⟩
      · refine ⟨fun p hp => (List.mem_append.mp hp).elim (hu.sub p) (hmp p), ⟨k + 1, ?_⟩, fun e => ?_⟩
        · rw [List.map_append, hmore]
          exact hk.step inj.r (by rw [← hmore]; simpa using hz)
        · have := of_decide_eq_false e
          exact absurd (List.length_eq_zero_iff.mp (by omega)) hz
    have hnl := hnew.len
    rw [List.length_append] at hnl
    have hcat : u.length + m.length ≤ 16000000 := by omega
    refine ht_post ?_ (ht_asg (hg := tg_tup2 (P1 := LstP ((u ++ m).map (PR K))) (P2 := BoolP (decide (0 < m.length)))) (ev_tup (ea_cons (ev_isL (ev_cat (ev_var rfl) (ev_var rfl) (sz_le (by rw [List.length_map, List.length_map]; exact hcat))) (List.map_append ..).symm) (ea_cons (ev_isB (ev_gt (ev_cb (ea_cons (ev_var rfl) ea_nil) cb_lenL) ev_int) ?_) ea_nil)) (show 2 ≤ sizeLine by decide)))
    · refine fun σ H a => ⟨⟨(u ++ m, decide (0 < m.length)), hnew⟩, ?_, TyA.le (by repeat (first | exact trivial | refine ⟨.inl rfl, ?_⟩ | refine ⟨.inr rfl, ?_⟩)) σ H a⟩
      show 2 * (ps.length - (u ++ m).length) + (if decide (0 < m.length) = true then 1 else 0) < 2 * (ps.length - u.length) + (if true = true then 1 else 0)
      rw [List.length_append, if_pos rfl]
      by_cases hz : 0 < m.length
      · rw [if_pos (decide_eq_true hz)]
        omega
      · rw [if_neg (by rw [decide_eq_false hz]; decide)]
        omega
    · rw [List.length_map, Bool.eq_iff_iff, decide_eq_true_eq, decide_eq_true_eq]
      omega
  · have go : b = false := go
    subst go
    exact fun σ H a => ⟨u, hu, a⟩
  · refine fun σ H D a nx rt => ?_
    obtain ⟨hu, a⟩ := a
    refine (?_ : HT (TyA No F0 H0 (G (u, false)) W0) _ _ _) σ H D a nx rt
    obtain ⟨k, hk⟩ := hu.at_
    have hdone := hk.done inj.r (hu.end_ rfl)
    have hul := hu.len
    refine ht_guard (et_test (ev_lt (ev_cb (ea_cons (ev_var rfl) ea_nil) cb_lenL) (ev_cb (ea_cons (ev_var rfl) ea_nil) cb_lenL))) (fun hb => ?_) fun hb => ?_
    · have hb : u.length < ps.length := by
        have := of_decide_eq_true hb
        rw [List.length_map, List.length_map] at this
        have : (u.length : Int) < (ps.length : Int) := this
        omega
      have hq : Pl.orderM (ps.map fun p => p.2) (mixtureOf f) = none := by
        unfold Pl.orderM
        rw [if_pos hnm, if_pos]
        rw [← hdone, List.length_map, List.length_map]
        omega
      show HT _ _ _ (RetP No F0 H0 (OptP _ (Pl.orderM (ps.map fun p => p.2) (mixtureOf f))))
      rw [hq]
      exact ht_ret ev_non
    have hb : ¬ u.length < ps.length := by
      have := of_decide_eq_false hb
      rw [List.length_map, List.length_map] at this
      have : ¬ (u.length : Int) < (ps.length : Int) := this
      omega
    have hq : Pl.orderM (ps.map fun p => p.2) (mixtureOf f) = Pl.topo ps.length [] (ps.map fun p => p.2) := by
      unfold Pl.orderM
      rw [if_pos hnm, if_neg, List.length_map]
      rw [← hdone, List.length_map, List.length_map]
      omega
    show HT _ _ _ (RetP No F0 H0 (OptP _ (Pl.orderM (ps.map fun p => p.2) (mixtureOf f))))
    rw [hq]
    refine ht_seq (ht_asg (hg := tg_tup2 (P1 := LstP (([] : List (Addr × Rule)).map (PR K))) (P2 := LstP (ps.map (PR K)))) (ev_tup (ea_cons (ev_lst ea_nil) (ea_cons (ev_var rfl) ea_nil)) (show 2 ≤ sizeLine by decide))) ?_
    let G2 : List (Addr × Rule) × List (Addr × Rule) → List (Option VP) := fun z => [some (StoP K s), some (IntP (n : Int)), some (LstP (ns.map fun (n : Nat) => IntP (n : Int))), some (LstP (ps.map (PR K))), none, none, none, none, some (LstP (z.1.map (PR K))), some (LstP (z.2.map (PR K))), none, none, none, none]
    have ht0 : TAt ps (([], ps), ps.length) := ⟨fun p hp => absurd hp (by simp), fun p hp => hp, Nat.le_refl _, by show 0 + ps.length ≤ 10; omega, rfl⟩
    refine ht_seq (B := fun σ H => ∃ u, Pl.topo ps.length [] (ps.map fun p => p.2) = some (u.map fun p : Addr × Rule => p.2) ∧ TyA No F0 H0 (G2 (u, [])) W0 σ H) (ht_whileT (β := {z : (List (Addr × Rule) × List (Addr × Rule)) × Nat // TAt ps z}) (fun z => G2 z.1.1) (fun _ => W0) (fun z => z.1.1.2.length) ⟨(([], ps), ps.length), ht0⟩ (fun σ H a => TyA.le (by repeat (first | exact trivial | refine ⟨.inl rfl, ?_⟩ | refine ⟨.inr rfl, ?_⟩)) σ H a) (fun z => !(z.1.1.2.map (PR K)).isEmpty) (fun z => et_truL (ev_var rfl)) (fun ⟨⟨⟨fo, le⟩, nn⟩, hz⟩ go => ?_) (fun ⟨⟨⟨fo, le⟩, nn⟩, hz⟩ go => ?_)) (ht_ex fun u => ?_)
    · have hle : le ≠ [] := by
        rintro rfl
        cases go
      have hlp : le.length ≤ 10 := by have := hz.tl; simp only at this; omega
      have hl3 : ∀ q ∈ le, q.2.replacements.length ≤ 3 := fun q hq => h3 q (hz.ls q hq)
      obtain ⟨n', rfl⟩ : ∃ n', nn = n' + 1 := ⟨nn - 1, by have := hz.le; have := List.length_pos_iff.mpr hle; simp only at *; omega⟩
      refine ht_seq (ht_set (ev_lcL (ev_var rfl) (fun p => !Pl.fedBy (le.map fun q => q.2) p.2) (PR K) (fun p hp => et_not (et_B (ev_fed rfl rfl (by decide) (Nat.lt_of_le_of_lt hlp (by decide)) hl3 (by decide) (show 13 < 14 by decide)))) (fun p hp _ => ev_var rfl) (Nat.lt_of_le_of_lt hlp (by decide)))) ?_
      have hfree : (le.filter fun p => !Pl.fedBy (le.map fun q => q.2) p.2).map (fun p => p.2) = (le.map fun p => p.2).filter fun r => !Pl.fedBy (le.map fun q => q.2) r := filter_snd fun p hp => rfl
      generalize hm : (le.filter fun p => !Pl.fedBy (le.map fun q => q.2) p.2) = fr at hfree ⊢
      have hfp : ∀ p ∈ fr, p ∈ ps := fun p hp => by rw [← hm] at hp; exact hz.ls p (List.mem_filter.mp hp).1
      have hfl : fr.length ≤ le.length := by rw [← hm]; exact List.length_filter_le ..
      have hle' : le.map (fun p => p.2) ≠ [] := by simpa using hle
      refine ht_guard (et_not (et_truL (ev_var rfl))) (fun hb => ?_) fun hb => ?_
      · have hfr : fr = [] := by
          cases fr with
          | nil => rfl
          | cons _ _ => cases hb
        have ht := Pl.topo_stuck (n := n') (found := fo.map fun p => p.2) hle' (by rw [← hfree, hfr]; rfl)
        rw [← hz.tp, ht]
        exact ht_ret ev_non
      · have hfr : fr ≠ [] := by
          rintro rfl
          cases hb
        have hfr' : ((le.map fun p => p.2).filter fun r => !Pl.fedBy (le.map fun q => q.2) r) ≠ [] := by rw [← hfree]; simpa using hfr
        have hgo := Pl.topo_go (n := n') (found := fo.map fun p => p.2) hle' hfr'
        have hll := Pl.left_len hfr'
        have htl := hz.tl
        simp only at htl
        have hcat : fo.length + fr.length ≤ 16000000 := by omega
        refine ht_seq (ht_set (P := LstP ((fo ++ fr).map (PR K))) (ev_isL (ev_cat (ev_var rfl) (ev_var rfl) (sz_le (by rw [List.length_map, List.length_map]; exact hcat))) (List.map_append ..).symm)) ?_
        have hleft : (le.filter fun p => !decide (p.1 ∈ fr.map fun q => q.1)).map (fun p => p.2) = (le.map fun p => p.2).filter fun r => !((le.map fun p => p.2).filter fun r => !Pl.fedBy (le.map fun q => q.2) r).contains r :=
          filter_snd fun p hp => by rw [inj.mem hfp (hz.ls p hp), hfree]
        refine ht_post ?_ (ht_set (P := LstP ((le.filter fun p => !decide (p.1 ∈ fr.map fun q => q.1)).map (PR K))) (ev_lcL (ev_var rfl) _ (PR K) (fun p hp => et_test (ev_inR (ev_var rfl) (ev_var rfl))) (fun p hp _ => ev_var rfl) (Nat.lt_of_le_of_lt hlp (by decide))))
        have hlen2 : (le.filter fun p => !decide (p.1 ∈ fr.map fun q => q.1)).length < le.length := by
          rw [← hleft, List.length_map, List.length_map] at hll
          exact hll
        have hsum : fr.length + (le.filter fun p => !decide (p.1 ∈ fr.map fun q => q.1)).length ≤ le.length := by
          have e1 : (le.filter fun p => !decide (p.1 ∈ fr.map fun q => q.1)).length = ((le.map fun p => p.2).filter fun r => Pl.fedBy (le.map fun q => q.2) r).length := by
            rw [← Pl.left_next, ← hleft, List.length_map]
          have e2 : fr.length = ((le.map fun p => p.2).filter fun r => !Pl.fedBy (le.map fun q => q.2) r).length := by
            rw [← hfree, List.length_map]
          have e3 := (List.filter_append_perm (fun r => Pl.fedBy (le.map fun q => q.2) r) (le.map fun p => p.2)).length_eq
          rw [List.length_append, List.length_map] at e3
          omega
        refine fun σ H a => ⟨⟨((fo ++ fr, le.filter fun p => !decide (p.1 ∈ fr.map fun q => q.1)), n'), ⟨fun p hp => (List.mem_append.mp hp).elim (hz.fs p) (hfp p), fun p hp => hz.ls p (List.mem_filter.mp hp).1, ?_, ?_, ?_⟩⟩, hlen2, TyA.le (by repeat (first | exact trivial | refine ⟨.inl rfl, ?_⟩ | refine ⟨.inr rfl, ?_⟩)) σ H a⟩
        · have := hz.le
          simp only at this ⊢
          omega
        · show (fo ++ fr).length + (le.filter fun p => !decide (p.1 ∈ fr.map fun q => q.1)).length ≤ 10
          rw [List.length_append]
          omega
        · show Pl.topo n' ((fo ++ fr).map fun p => p.2) _ = _
          rw [← hz.tp, hgo, hleft, List.map_append, hfree]
    · have hle : le = [] := by
        cases le with
        | nil => rfl
        | cons _ _ => cases go
      subst hle
      refine fun σ H a => ⟨fo, ?_, a⟩
      rw [← hz.tp]
      exact Pl.topo_empty _ _
    · refine fun σ H D ⟨hu, a⟩ nx rt => ?_
      rw [hu] at rt
      refine (ht_ret (N := No) (F0 := F0) (H0 := H0) (B := fun _ _ => False) (ev_isL (ev_sub (ev_var (P := LstP (u.map (PR K))) (Γ := G2 (u, [])) (W := W0) rfl) (lst_sub (f := PR K) (g := fun p => RulP K p.2) fun p v F h => h.2)) (by rw [List.map_map]; rfl))) σ H D a (fun _ _ z => z.elim) rt
end Sw
set_option maxRecDepth 100000
set_option maxHeartbeats 2000000
/-! # The result of a set of rules -/
namespace Sw
open PySem L2
open SubstitutionSpec (Material Rule Mixture mixtureOf)
/-- the amounts behind i rules -/
structure AmB (ms : List (Nat × Material)) (i : Nat) (es : List (Nat × Rat)) : Prop where
  ok : Pl.AmtsOk es
  mat : ∀ k ∈ Pl.keysA es, k ∈ Pl.keysA ms
  bd : ∃ D M, 0 < D ∧ D ≤ 1000 ^ i ∧ M ≤ 1000000 * 4000 ^ i ∧ ∀ e ∈ es, Pl.Bd D M e.2
structure InB (ms : List (Nat × Material)) (D M p j : Nat) (es : List (Nat × Rat)) : Prop where
  ok : Pl.AmtsOk es
  mat : ∀ k ∈ Pl.keysA es, k ∈ Pl.keysA ms
  bd : ∀ e ∈ es, Pl.Bd (D * p) (M * (1000 * (1 + j))) e.2
theorem InB.getD {ms : List (Nat × Material)} {D M p j : Nat} {es : List (Nat × Rat)} (h : InB ms D M p j es) (hD : 0 < D * p) (k : Nat) : Pl.Bd (D * p) (M * (1000 * (1 + j))) ((Pl.getA es k).getD 0) := by
  cases e : Pl.getA es k with
  | none => exact Pl.Bd.zero hD _
  | some x => exact h.bd _ (Pl.getA_mem e)
theorem AmB.start {ms : List (Nat × Material)} {f : List (Nat × Nat)} (h : ForOk ms f) : AmB ms 0 (mixtureOf f) := by
  refine ⟨⟨?_, fun e he => ?_⟩, fun k hk => ?_, 1, 1000000, by decide, by decide, by decide, fun e he => ?_⟩
  · have : Pl.keysA (mixtureOf f) = Pl.keysA f := by unfold mixtureOf Pl.keysA; rw [List.map_map]; rfl
    rw [this]; exact h.asc.nodup
  · obtain ⟨c, hc, rfl⟩ := List.mem_map.mp he
    exact Pl.natpos (h.comp c hc).2.1
  · obtain ⟨e, he, rfl⟩ := List.mem_map.mp hk
    obtain ⟨c, hc, rfl⟩ := List.mem_map.mp he
    exact (h.comp c hc).1
  · obtain ⟨c, hc, rfl⟩ := List.mem_map.mp he
    refine ⟨by decide, c.2, ?_, (h.comp c hc).2.2⟩
    show (c.2 : Rat) = (c.2 : Rat) / ((1 : Nat) : Rat)
    have : ((1 : Nat) : Rat) = 1 := rfl
    rw [this]; grind
theorem AmB.into {ms : List (Nat × Material)} {i : Nat} {es : List (Nat × Rat)} (h : AmB ms i es) {r : Rule} (hr : RulOk ms r) {D M : Nat} (hb : ∀ e ∈ es, Pl.Bd D M e.2) : InB ms D M r.parts 0 (Pl.dropA es r.material) := by
  refine ⟨Pl.drop_ok h.ok _, fun k hk => h.mat k (Pl.drop_keys.mp hk).1, fun e he => ?_⟩
  refine ((hb e (List.mem_filter.mp he).1).scale hr.parts.1).mono (Nat.mul_le_mul_left _ ?_)
  have := hr.parts.2
  omega
theorem InB.step {ms : List (Nat × Material)} {D M j : Nat} {es : List (Nat × Rat)} {r : Rule} (hr : RulOk ms r) {x : Rat} (hx : Pl.Bd D M x) (hx0 : 0 < x) (h : InB ms D M r.parts j es) {p : Nat × Nat} (hp : p ∈ r.replacements) : InB ms D M r.parts (j + 1) (Pl.addP x r.parts es p) := by
  obtain ⟨h1, h2, h3, h4⟩ := hr.reps p hp
  have hD : 0 < D * r.parts := Nat.mul_pos hx.1 hr.parts.1
  refine ⟨Pl.addP_ok h.ok hx0 hr.parts.1 h2, fun k hk => ?_, fun e he => ?_⟩
  · unfold Pl.addP at hk
    rw [Pl.keys_put] at hk
    split at hk
    · exact h.mat k hk
    · rcases List.mem_append.mp hk with q | q
      · exact h.mat k q
      · rw [List.mem_singleton.mp q]; exact h1
  · rcases Pl.mem_put he with q | q
    · refine (h.bd e q).mono (Nat.mul_le_mul_left _ (by omega))
    · rw [q]
      refine ((h.getD hD p.1).add ((hx.mul h3).div hr.parts.1)).mono ?_
      rw [← Nat.mul_add]
      exact Nat.mul_le_mul_left _ (by omega)
theorem InB.out {ms : List (Nat × Material)} {D M j i : Nat} {es : List (Nat × Rat)} {r : Rule} (hr : RulOk ms r) (hD : 0 < D) (h1 : D ≤ 1000 ^ i) (h2 : M ≤ 1000000 * 4000 ^ i) (hj : j ≤ 3) (h : InB ms D M r.parts j es) : AmB ms (i + 1) es := by
  refine ⟨h.ok, h.mat, D * r.parts, M * (1000 * (1 + j)), Nat.mul_pos hD hr.parts.1, ?_, ?_, h.bd⟩
  · rw [Nat.pow_succ]
    exact Nat.mul_le_mul h1 hr.parts.2
  · rw [Nat.pow_succ, ← Nat.mul_assoc 1000000]
    exact Nat.mul_le_mul h2 (by omega)
theorem AmB.same {ms : List (Nat × Material)} {i : Nat} {es : List (Nat × Rat)} (h : AmB ms i es) : AmB ms (i + 1) es := by
  obtain ⟨D, M, h0, h1, h2, h3⟩ := h.bd
  refine ⟨h.ok, h.mat, D, M, h0, Nat.le_trans h1 (Nat.pow_le_pow_right (by decide) (by omega)), Nat.le_trans h2 (Nat.mul_le_mul_left _ (Nat.pow_le_pow_right (by decide) (by omega))), h3⟩
theorem p1000 {i : Nat} (h : i ≤ 10) : 1000 ^ i ≤ 2 ^ 100 := Nat.le_trans (Nat.pow_le_pow_right (by decide) h) (by decide)
theorem p4000 {i : Nat} (h : i ≤ 10) : 1000000 * 4000 ^ i ≤ 2 ^ 140 := Nat.le_trans (Nat.mul_le_mul_left _ (Nat.pow_le_pow_right (by decide) h)) (by decide)
theorem AmB.len {s : Sto} (hs : StoOk s) {i : Nat} {es : List (Nat × Rat)} (h : AmB s.ms i es) : es.length ≤ 24 := by
  have := keys_len 24 h.ok.nd fun k hk => hs.k24 (h.mat k hk)
  rwa [Pl.keysA, List.length_map] at this
theorem InB.len {s : Sto} (hs : StoOk s) {D M p j : Nat} {es : List (Nat × Rat)} (h : InB s.ms D M p j es) : es.length ≤ 24 := by
  have := keys_len 24 h.ok.nd fun k hk => hs.k24 (h.mat k hk)
  rwa [Pl.keysA, List.length_map] at this
/-- one rule on the amounts -/
theorem AmB.step {ms : List (Nat × Material)} {i : Nat} {es : List (Nat × Rat)} (h : AmB ms i es) {r : Rule} (hr : RulOk ms r) : AmB ms (i + 1) (Pl.stepP es r) := by
  unfold Pl.stepP
  cases e : Pl.getA es r.material with
  | none => exact h.same
  | some x =>
    obtain ⟨D, M, h0, h1, h2, h3⟩ := h.bd
    have hx := h3 _ (Pl.getA_mem e)
    have hx0 := h.ok.pos _ (Pl.getA_mem e)
    have key : ∀ (l : List (Nat × Nat)) (j : Nat) (es : List (Nat × Rat)), (∀ p ∈ l, p ∈ r.replacements) → InB ms D M r.parts j es → InB ms D M r.parts (j + l.length) (l.foldl (Pl.addP x r.parts) es) := by
      intro l
      induction l with
      | nil => intro j es _ q; exact q
      | cons p l ih =>
        intro j es hl q
        have := ih (j + 1) _ (fun p hp => hl p (List.mem_cons_of_mem _ hp)) (q.step hr hx hx0 (hl p List.mem_cons_self))
        rw [List.length_cons, show j + (l.length + 1) = j + 1 + l.length by omega]
        exact this
    have := key r.replacements 0 _ (fun p hp => hp) (h.into hr h3)
    rw [Nat.zero_add] at this
    exact this.out hr h0 h1 h2 hr.some.2
theorem AmB.fold {ms : List (Nat × Material)} : ∀ (l : List Rule) {i : Nat} {es : List (Nat × Rat)}, (∀ r ∈ l, RulOk ms r) → AmB ms i es → AmB ms (i + l.length) (l.foldl Pl.stepP es)
  | [], _, _, _, h => h
  | r :: l, i, es, hl, h => by
    have := AmB.fold l (fun x hx => hl x (List.mem_cons_of_mem _ hx)) (h.step (hl r List.mem_cons_self))
    rw [List.length_cons, show i + (l.length + 1) = i + 1 + l.length by omega]
    exact this
section
variable {N : Addr → Prop} {F0 H0 : Hp} {Γ Δ : List (Option VP)} {W : Wd} {R : VK} {te : TE} {P' : VP}
/-- i, j = e, {} -/
theorem ht_parD {α : Type} {i j : Nat} {Rf : α → VP} {G : Addr → List (Option VP)} (h : EvG te Γ W P') (e : ∀ d : Addr, (Γ.set i (some P')).set j (some (IsP (.ref d))) = G d) :
    HT (TyA N F0 H0 Γ W) (tPar i j (tCons te (tCons tDNewK tNil))) (fun σ H => ∃ d, TyA N F0 H0 (G d) (W.dct d [] Rf []) σ H) R := fun σ H D ⟨F, s⟩ nx rt => by
  refine h σ F H s.ok _ fun v F2 H2 n p => ?_
  have s2 := s.next n
  intro d hd
  refine ⟨v, .ref d, rfl, nx _ _ ⟨d, F2, e d ▸ ?_⟩⟩
  exact (s2.set p).fresh hd trivial
end
theorem ev_sortedT {Γ : List (Option VP)} {W : Wd} {te : TE} {es : List (Nat × Rat)} (h : EvG te Γ W (DctP FrP es)) (hn : (Pl.keysA es).Nodup) (hl : es.length < 64) : EvG (tCB rSortedDI (tCons te tNil)) Γ W (LstP ((Pl.sortT es).map fun e => IntP (e.1 : Int))) :=
  ev_isL (ev_cb (ea_cons h ea_nil) (cb_sortedD ((Pl.sortT es).map fun e => (e.1 : Int)) hl fun ys hp hs => sort_keys (Pl.sortT_perm hn).2 ys (hp.trans ((Pl.sortT_perm hn).1.map _).symm) hs)) (by rw [List.map_map]; rfl)
theorem take_puts {es : List (Nat × Rat)} (hn : (Pl.keysA es).Nodup) {i : Nat} {e : Nat × Rat} (h : (Pl.sortT es)[i]? = some e) : Pl.putA ((Pl.shareA es).take i) e.1 (e.2 / Pl.totA es) = (Pl.shareA es).take (i + 1) := by
  have hk : (Pl.keysA (Pl.shareA es)).Nodup := by
    have : Pl.keysA (Pl.shareA es) = Pl.keysA (Pl.sortT es) := by unfold Pl.shareA Pl.keysA; rw [List.map_map]; rfl
    rw [this]
    exact (Pl.sortT_perm hn).2.nodup
  have he : (Pl.shareA es)[i]? = some (e.1, e.2 / Pl.totA es) := by
    unfold Pl.shareA
    rw [List.getElem?_map, h]; rfl
  exact take_put hk he
/-- what a set of rules gives -/
def resP (rs : List Rule) (f : List (Nat × Nat)) : Option (List (Nat × Rat)) := (Pl.orderM rs (mixtureOf f)).map fun ord => Pl.shareA (Pl.amtsA ord (mixtureOf f))
variable {P : Program} {w : World} {K : PySem.W.Frag} {mg : Str → Option Value} {base : Heap}
def sp_result (K : PySem.W.Frag) : Sp := spF (ι := Sto × Nat × List (Nat × Nat) × List Nat × List Rule) (fun i => [StoP K i.1, IntP (i.2.1 : Int), LstP (i.2.2.2.1.map fun (n : Nat) => IntP (n : Int))])
  (fun i => StoOk i.1 ∧ Pl.getA i.1.fs i.2.1 = some i.2.2.1 ∧ ForOk i.1.ms i.2.2.1 ∧ Sel i.1 i.2.2.2.1 i.2.2.2.2 ∧ i.2.2.2.1.length ≤ 10) fun i => OptP ShP (resP i.2.2.2.2 i.2.2.1)
theorem order_sub {rs ord : List Rule} {mix : Mixture} (h : Pl.orderM rs mix = some ord) : ord.Perm rs := by
  cases e : SubstitutionSpec.isPlan rs mix with
  | true =>
    obtain ⟨o, h1, h2⟩ := Pl.orderM_some e
    rw [h] at h1
    cases h1
    exact h2.perm
  | false => rw [Pl.orderM_none e] at h; cases h
theorem keys_nil {α : Type} : Pl.keysA ([] : List (Nat × α)) = [] := rfl
theorem mix_nodup {ms : List (Nat × Material)} {f : List (Nat × Nat)} (h : ForOk ms f) : (Pl.keysA (mixtureOf f)).Nodup := (AmB.start h).ok.nd
theorem ok_Store_result (T : Txt K mg) : FnOk P w K mg base CX0 5 (He.fAd K ("Store", some "result")) (fdOf K ("Store", some "result")) ["self", "formula", "numbers"] (sp_result K) := by
  refine T.D_Store_result.ok sc_Store_result (spF_len fun _ => rfl) (fun cdv A outer s H vs Q E hr h => ⟨_, PSs.nox (pss_cons (ps_set (i := 3) sc_Store_result.nd rfl (Or.inl rfl) (pe_meth (pv 0) T.cl_Store T.mt_Store_order (ok_Store_order T) (hr.mono (by decide)) T.b_Store_order .nil pass0 (pa_cons (pv 1) (pa_cons (pv 2) pa_nil)))) (pss_cons (ps_if (pt_cmpR op_isN1 (pv 3) pe_non (nomark _)) (pss_one (ps_ret pe_non)) pss_nil) (pss_cons (ps_set (i := 4) sc_Store_result.nd rfl (Or.inl rfl) pe_dnewK) (pss_cons (ps_lk (ps_for PassesOwn.never rfl (pi_keys (pe_dget (hu_of hr) (pe_fld (pv 0) rfl) (pv 1) (fun _ _ => rfl))) (pg_name (i := 5) sc_Store_result.nd rfl (Or.inl rfl)) (pss_one (ps_dput (hu_of hr) (pv 4) (pv 5) (pe_tup (pa_cons (pe_dget (hu_of hr) (pe_dget (hu_of hr) (pe_fld (pv 0) rfl) (pv 1) (fun _ _ => rfl)) (pv 5) (fun _ _ => rfl)) (pa_cons pe_int pa_nil))) rfl)))) (pss_cons (ps_for PassesOwn.never rfl (pi_list (pv 3)) (pg_name (i := 6) sc_Store_result.nd rfl (Or.inl rfl)) (pss_one (ps_if (pt_cmp (pc_din (hu_of hr) (pe_fld (pv 6) rfl) (pv 4))) (pss_cons (ps_set (i := 7) sc_Store_result.nd rfl (Or.inl rfl) (pe_dpop1 (pv 4) (pe_fld (pv 6) rfl) ⟨rfl, rfl, rfl, rfl⟩)) (pss_one (ps_for PassesOwn.never rfl (pi_list (pe_fld (pv 6) rfl)) (pg_tup (n := 2) rfl (pgs_cons (pg_name (i := 5) sc_Store_result.nd rfl (Or.inl rfl)) (pgs_cons (pg_name (i := 8) sc_Store_result.nd rfl (Or.inl rfl)) pgs_nil))) (pss_cons (ps_set (i := 9) sc_Store_result.nd rfl (Or.inl rfl) (pe_call (ok_quotient T) (hr.mono (by decide)) (by rfl) T.g_quotient T.k_quotient T.b_quotient .nil pass0 (pa_cons (pe_call (ok_times T) (hr.mono (by decide)) (by rfl) T.g_times T.k_times T.b_times .nil pass0 (pa_cons (pv 7) (pa_cons (pv 8) pa_nil))) (pa_cons (pe_tup (pa_cons (pe_fld (pv 6) rfl) (pa_cons pe_int pa_nil))) pa_nil)))) (pss_one (ps_dput (hu_of hr) (pv 4) (pv 5) (pe_call (ok_plus T) (hr.mono (by decide)) (by rfl) T.g_plus T.k_plus T.b_plus .nil pass0 (pa_cons (pe_dget2 (hu_of hr) (pv 4) (pv 5) (pe_tup (pa_cons pe_int (pa_cons pe_int pa_nil))) ⟨rfl, rfl, rfl, rfl⟩) (pa_cons (pv 9) pa_nil))) rfl)))))) pss_nil))) (pss_cons (ps_par (i := 10) (j := 11) (by rfl) sc_Store_result.nd rfl rfl (by decide) rfl rfl (pa_cons (pe_tup (pa_cons pe_int (pa_cons pe_int pa_nil))) (pa_cons pe_dnewK pa_nil)) (by rfl)) (pss_cons (ps_lk (ps_for PassesOwn.never rfl (pi_keys (pv 4)) (pg_name (i := 5) sc_Store_result.nd rfl (Or.inl rfl)) (pss_one (ps_set (i := 10) sc_Store_result.nd rfl (Or.inl rfl) (pe_call (ok_plus T) (hr.mono (by decide)) (by rfl) T.g_plus T.k_plus T.b_plus .nil pass0 (pa_cons (pv 10) (pa_cons (pe_dget (hu_of hr) (pv 4) (pv 5) (fun _ _ => rfl)) pa_nil))))))) (pss_cons (ps_for PassesOwn.never rfl (pi_list (pe_callB (cr_sortedDI rfl) (by rfl) T.f_sorted bb_sorted (pa_cons (pv 4) pa_nil))) (pg_name (i := 5) sc_Store_result.nd rfl (Or.inl rfl)) (pss_one (ps_dput (hu_of hr) (pv 11) (pv 5) (pe_call (ok_quotient T) (hr.mono (by decide)) (by rfl) T.g_quotient T.k_quotient T.b_quotient .nil pass0 (pa_cons (pe_dget (hu_of hr) (pv 4) (pv 5) (fun _ _ => rfl)) (pa_cons (pv 10) pa_nil))) rfl))) (pss_one (ps_ret (pv 11))))))))))), ?_⟩)
  refine body_of h fun ⟨s, n, f, ns, rs⟩ ⟨hs, hf, ho, hsel, hlen⟩ F0 H0 => ?_
  have hlen : ns.length ≤ 10 := hlen
  refine ht_seq (ht_set (ev_meth (ev_var rfl) rfl (ea_cons (ev_var rfl) (ea_cons (ev_var rfl) ea_nil)) (spF_g (s, n, f, ns, rs) ⟨hs, hf, ho, hsel, hlen⟩))) ?_
  show HT (TyA No F0 H0 [some (StoP K s), some (IntP (n : Int)), some (LstP (ns.map fun (n : Nat) => IntP (n : Int))), some (OptP (fun ord => LstP (ord.map (RulP K))) (Pl.orderM rs (mixtureOf f))), none, none, none, none, none, none, none, none] W0) _ _ (RetP No F0 H0 (OptP ShP (resP rs f)))
  have hres : resP rs f = (Pl.orderM rs (mixtureOf f)).map fun ord => Pl.shareA (Pl.amtsA ord (mixtureOf f)) := rfl
  rw [hres]
  cases hord : Pl.orderM rs (mixtureOf f) with
  | none => exact ht_guard (b := true) (et_test (ev_isN (ev_var rfl) fun v F h => by rw [show v = V.non from h]; rfl)) (fun _ => ht_ret ev_non) fun hb => by cases hb
  | some ord =>
    have hperm := order_sub hord
    have hrl : ord.length ≤ 10 := by rw [hperm.length_eq, hsel.len]; exact hlen
    have hro : ∀ r ∈ ord, RulOk s.ms r := fun r hr => hsel.ok hs (hperm.mem_iff.mp hr)
    refine ht_guard (b := false) (et_test (ev_isN (ev_var rfl) fun v F ⟨a, _, h, _⟩ => by rw [h]; rfl)) (fun hb => by cases hb) fun _ => ?_
    refine ht_seq (ht_dnew (Rf := FrP) (G := fun d => [some (StoP K s), some (IntP (n : Int)), some (LstP (ns.map fun (n : Nat) => IntP (n : Int))), some (LstP (ord.map (RulP K))), some (IsP (.ref d)), none, none, none, none, none, none, none]) fun d => rfl) (ht_ex fun d => ?_)
    let G : List (Option VP) := [some (StoP K s), some (IntP (n : Int)), some (LstP (ns.map fun (n : Nat) => IntP (n : Int))), some (LstP (ord.map (RulP K))), some (IsP (.ref d)), none, none, none, none, none, none, none]
    have hfl : f.length ≤ 10 := ho.some.2
    refine ht_seq (ht_forKB (Rf := fun n : Nat => IntP (n : Int)) (es := f) (β := fun _ => List (Key × V)) (vv_dget (Rf := FormP) (vv_fld (vv_var rfl) T.cl_Store T.na_Store_formulas rfl) (vv_var rfl) hf) (fun i kvs => G) (fun i kvs => W0.dct d kvs FrP ((mixtureOf f).take i)) [] ?_) (ht_ex fun kvs => ?_)
    · intro F1 H1 i e kvs he
      have hm : (mixtureOf f)[i]? = some (e.1, (e.2 : Rat)) := by
        unfold mixtureOf
        rw [List.getElem?_map, he]; rfl
      refine ht_post ?_ (ht_dput (i := 4) (n := e.1) (x := (e.2 : Rat)) rfl (ev_var rfl) (ev_fr (i := (e.2 : Int)) (d := 1) (ea_cons (ev_form (ev_for (T.fors (ev_var rfl)) (ev_var rfl) hf) (ev_var rfl) (Pl.mem_getA ho.asc.nodup (List.mem_of_getElem? he))) (ea_cons ev_int ea_nil)) rfl rfl) ?_)
      · rintro σ H ⟨lvs, a⟩
        rw [take_put (mix_nodup ho) hm] at a
        exact ⟨lvs, TyA.le (by repeat (first | exact trivial | refine ⟨.inl rfl, ?_⟩ | refine ⟨.inr rfl, ?_⟩)) σ H a⟩
      · rw [List.length_take]
        have : (mixtureOf f).length = f.length := by unfold mixtureOf; rw [List.length_map]
        omega
    have hmx : (mixtureOf f).take f.length = mixtureOf f := List.take_of_length_le (by unfold mixtureOf; rw [List.length_map]; exact Nat.le_refl _)
    let es : Nat → List (Nat × Rat) := fun i => (ord.take i).foldl Pl.stepP (mixtureOf f)
    have hes : ∀ i, AmB s.ms ((ord.take i).length) (es i) := fun i => by
      have := AmB.fold (ord.take i) (fun r hr => hro r (List.mem_of_mem_take hr)) (AmB.start ho)
      rwa [Nat.zero_add] at this
    have htl : ∀ i, (ord.take i).length ≤ 10 := fun i => Nat.le_trans (List.length_take_le' ..) hrl
    rw [hmx]
    refine ht_seq (ht_forL (l := ord) (f := RulP K) (β := fun _ => List (Key × V)) (ev_var rfl) (fun i kvs => G) (fun i kvs => W0.dct d kvs FrP (es i)) R0 kvs ?_ hR0) (ht_ex fun kvs2 => ?_)
    · intro F1 H1 i r kvs hr
      have hrm := hro r (List.mem_of_getElem? hr)
      have hnext : es (i + 1) = Pl.stepP (es i) r := take_fold hr _ _
      have hb := hes i
      refine ht_if (et_B (ev_dinM (i := 4) (T.rmat (ev_var rfl)) rfl)) (fun hin => ?_) fun hin => ?_
      · obtain ⟨x, hx⟩ := Option.isSome_iff_exists.mp hin
        obtain ⟨D, M, h0, h1, h2, hbd⟩ := hb.bd
        have hxb := hbd _ (Pl.getA_mem hx)
        have hx0 := hb.ok.pos _ (Pl.getA_mem hx)
        have hD : D ≤ 2 ^ 100 := Nat.le_trans h1 (p1000 (htl i))
        have hM : M ≤ 2 ^ 140 := Nat.le_trans h2 (p4000 (htl i))
        refine ht_seq (ht_dpop (i := 4) (j := 7) (n := r.material) (x := x) rfl (T.rmat (ev_var rfl)) hx) (ht_ex fun kv0 => ?_)
        let ej : Nat → List (Nat × Rat) := fun j => (r.replacements.take j).foldl (Pl.addP x r.parts) (Pl.dropA (es i) r.material)
        have hej : ∀ j, ∃ jj, jj ≤ 3 ∧ InB s.ms D M r.parts jj (ej j) := fun j => by
          have key : ∀ (l : List (Nat × Nat)) (j : Nat) (es : List (Nat × Rat)), (∀ p ∈ l, p ∈ r.replacements) → InB s.ms D M r.parts j es → InB s.ms D M r.parts (j + l.length) (l.foldl (Pl.addP x r.parts) es) := by
            intro l
            induction l with
            | nil => intro j es _ q; exact q
            | cons p l ih =>
              intro j es hl q
              have := ih (j + 1) _ (fun p hp => hl p (List.mem_cons_of_mem _ hp)) (q.step hrm hxb hx0 (hl p List.mem_cons_self))
              rw [List.length_cons, show j + (l.length + 1) = j + 1 + l.length by omega]
              exact this
          exact ⟨_, Nat.le_trans (by rw [Nat.zero_add]; exact List.length_take_le' ..) hrm.some.2, key (r.replacements.take j) 0 _ (fun p hp => List.mem_of_mem_take hp) (hb.into hrm hbd)⟩
        have hDP : D * r.parts < 2 ^ 4000 := Nat.lt_of_le_of_lt (Nat.mul_le_mul hD (Nat.le_trans hrm.parts.2 (show 1000 ≤ 2 ^ 10 by decide))) (by rw [← Nat.pow_add]; exact Nat.pow_lt_pow_right (by decide) (by decide))
        have hMM : ∀ k, k ≤ 1000000 → M * k < 2 ^ 4000 := fun k hk => Nat.lt_of_le_of_lt (Nat.mul_le_mul hM (Nat.le_trans hk (show 1000000 ≤ 2 ^ 20 by decide))) (by rw [← Nat.pow_add]; exact Nat.pow_lt_pow_right (by decide) (by decide))
        have hD0 : D < 2 ^ 4000 := Nat.lt_of_le_of_lt hD (Nat.pow_lt_pow_right (by decide) (by decide))
        have hstep : Pl.stepP (es i) r = ej r.replacements.length := by
          show (match Pl.getA (es i) r.material with | none => es i | some x => _) = _
          rw [hx]
          show _ = (r.replacements.take r.replacements.length).foldl _ _
          rw [List.take_length]
        rw [hnext, hstep]
        refine ht_post ?_ (ht_forLT (l := r.replacements) (f := fun p => IntP (p.1 : Int)) (f2 := fun p => IntP (p.2 : Int)) (j := 5) (k := 8) (β := fun _ => List (Key × V)) (T.rrep (ev_var rfl)) (fun j kvs => (G.set 6 (some (RulP K r))).set 7 (some (FrP x))) (fun j kvs => W0.dct d kvs FrP (ej j)) R0 kv0 ?_ hR0)
        · exact fun σ H ⟨kvs, a⟩ => ⟨kvs, TyA.le (by repeat (first | exact trivial | refine ⟨.inl rfl, ?_⟩ | refine ⟨.inr rfl, ?_⟩)) σ H a⟩
        · intro F2 H2 j p kvs hp
          have hpm := List.mem_of_getElem? hp
          obtain ⟨q1, q2, q3, q4⟩ := hrm.reps p hpm
          obtain ⟨jj, hjj, hin⟩ := hej j
          have hxm := hxb.mul q3
          have hpd := hxm.div hrm.parts.1
          have sx : Sm x := hxb.sm hD0 (by have := hMM 1 (by decide); rwa [Nat.mul_one] at this)
          have sxm : Sm (x * (p.2 : Rat)) := hxm.sm hD0 (hMM 1000 (by decide))
          have sp : Sm (r.parts : Rat) := by
            refine ⟨?_, ?_⟩
            · rw [Rat.num_natCast, Int.natAbs_natCast]
              exact small4000 (Nat.le_trans hrm.parts.2 (by decide))
            · rw [Rat.den_natCast]
              exact Nat.one_lt_two_pow (by decide)
          have hpp : (0 : Rat) < (r.parts : Rat) := Pl.natpos hrm.parts.1
          refine ht_seq (ht_set (P := FrP (x * (p.2 : Rat) / (r.parts : Rat))) (ev_call (ea_cons (ev_call (ea_cons (ev_var rfl) (ea_cons (ev_var rfl) ea_nil)) (spF_g (x, p.2) ⟨sx, small4000 (Nat.le_trans q3 (by decide))⟩)) (ea_cons (ev_fr (q := (r.parts : Rat)) (i := (r.parts : Int)) (d := 1) (ea_cons (T.rpar (ev_var rfl)) (ea_cons ev_int ea_nil)) (Rat.num_natCast _).symm (Rat.den_natCast _).symm) ea_nil)) (spF_g (x * (p.2 : Rat), (r.parts : Rat)) ⟨sxm, sp, hpp⟩))) ?_
          have hnx : ej (j + 1) = Pl.putA (ej j) p.1 ((Pl.getA (ej j) p.1).getD 0 + x * (p.2 : Rat) / (r.parts : Rat)) := take_fold hp _ _
          rw [hnx]
          refine ht_post ?_ (ht_dput (i := 4) (n := p.1) (x := (Pl.getA (ej j) p.1).getD 0 + x * (p.2 : Rat) / (r.parts : Rat)) rfl (ev_var rfl) (ev_call (ea_cons (ev_get2M (i := 4) rfl (ev_var rfl) ev_f0) (ea_cons (ev_var rfl) ea_nil)) (spF_g ((Pl.getA (ej j) p.1).getD 0, x * (p.2 : Rat) / (r.parts : Rat)) ⟨(hin.getD hpd.1 p.1).sm hDP (hMM _ (by omega)), hpd.sm hDP (hMM 1000 (by decide))⟩)) ?_)
          · exact fun σ H ⟨lvs, a⟩ => ⟨lvs, TyA.le (by repeat (first | exact trivial | refine ⟨.inl rfl, ?_⟩ | refine ⟨.inr rfl, ?_⟩)) σ H a⟩
          · have := hin.len hs
            omega
      · have hst : es (i + 1) = es i := by
          rw [hnext]
          show (match Pl.getA (es i) r.material with | none => es i | some x => _) = _
          cases e : Pl.getA (es i) r.material with
          | none => rfl
          | some x => rw [e] at hin; cases hin
        rw [hst]
        exact ht_post (fun σ H a => ⟨kvs, TyA.le (by repeat (first | exact trivial | refine ⟨.inl rfl, ?_⟩ | refine ⟨.inr rfl, ?_⟩)) σ H a⟩) ht_next
    have hfin : es ord.length = Pl.amtsA ord (mixtureOf f) := by
      show (ord.take ord.length).foldl _ _ = _
      rw [List.take_length]; rfl
    rw [hfin]
    have hb : AmB s.ms ord.length (Pl.amtsA ord (mixtureOf f)) := by
      have := hes ord.length
      rwa [List.take_length, hfin] at this
    have hrs : (some ord).map (fun ord => Pl.shareA (Pl.amtsA ord (mixtureOf f))) = some (Pl.shareA (Pl.amtsA ord (mixtureOf f))) := rfl
    rw [hrs]
    generalize Pl.amtsA ord (mixtureOf f) = am at hb ⊢
    have hal := hb.len hs
    obtain ⟨D, M, h0, h1, h2, hbd⟩ := hb.bd
    have hD : D < 2 ^ 4000 := Nat.lt_of_le_of_lt (Nat.le_trans h1 (p1000 hrl)) (Nat.pow_lt_pow_right (by decide) (by decide))
    have hM : ∀ k, k ≤ 1000000 → k * M < 2 ^ 4000 := fun k hk => Nat.lt_of_le_of_lt (Nat.mul_le_mul (Nat.le_trans hk (show 1000000 ≤ 2 ^ 20 by decide)) (Nat.le_trans h2 (p4000 hrl))) (by rw [← Nat.pow_add]; exact Nat.pow_lt_pow_right (by decide) (by decide))
    have hsm : ∀ e ∈ am, Sm e.2 := fun e he => (hbd e he).sm hD (by have := hM 1 (by decide); rwa [Nat.one_mul] at this)
    have hst : ∀ i, Sm ((am.take i).foldl (fun a e => a + e.2) 0) := fun i => (Pl.totA_bd h0 (es := am.take i) fun e he => hbd e (List.mem_of_mem_take he)).sm hD (hM _ (by have := List.length_take_le' i am; omega))
    refine ht_pre (fun σ H a => frz_dct (i := 4) rfl rfl id id rfl σ H a) ?_
    refine ht_seq (ht_parD (Rf := FrP) (G := fun d => [some (StoP K s), some (IntP (n : Int)), some (LstP (ns.map fun (n : Nat) => IntP (n : Int))), some (LstP (ord.map (RulP K))), some (DctP FrP am), none, none, none, none, none, some (FrP 0), some (IsP (.ref d))]) ev_f0 fun d => rfl) (ht_ex fun d2 => ?_)
    let G3 : Rat → List (Option VP) := fun q => [some (StoP K s), some (IntP (n : Int)), some (LstP (ns.map fun (n : Nat) => IntP (n : Int))), some (LstP (ord.map (RulP K))), some (DctP FrP am), none, none, none, none, none, some (FrP q), some (IsP (.ref d2))]
    refine ht_seq (ht_forKB (Rf := FrP) (es := am) (β := fun _ => Unit) (vv_var rfl) (fun i _ => G3 ((am.take i).foldl (fun a e => a + e.2) 0)) (fun i _ => W0.dct d2 [] FrP []) () ?_) (ht_ex fun _ => ?_)
    · intro F1 H1 i e _ he
      have hem := List.mem_of_getElem? he
      refine ht_post (B := TyA _ F1 H1 ((G3 ((am.take (i + 1)).foldl (fun a e => a + e.2) 0)).set 5 (some (IntP (e.1 : Int)))) _) (fun σ H a => ⟨(), TyA.le (by repeat (first | exact trivial | refine ⟨.inl rfl, ?_⟩ | refine ⟨.inr rfl, ?_⟩)) σ H a⟩) ?_
      rw [take_fold he]
      exact ht_set (ev_call (ea_cons (ev_var rfl) (ea_cons (ev_sh (ev_var rfl) (ev_var rfl) (Pl.mem_getA hb.ok.nd hem)) ea_nil)) (spF_g ((am.take i).foldl (fun (a : Rat) (e : Nat × Rat) => a + e.2) 0, e.2) ⟨hst i, hsm e hem⟩))
    rw [List.take_length]
    show HT (TyA No F0 H0 (G3 (Pl.totA am)) _) _ _ _
    refine ht_seq (ht_forL (l := Pl.sortT am) (f := fun e => IntP (e.1 : Int)) (β := fun _ => List (Key × V)) (ev_sortedT (ev_var rfl) hb.ok.nd (by omega)) (fun i kvs => G3 (Pl.totA am)) (fun i kvs => W0.dct d2 kvs FrP ((Pl.shareA am).take i)) R0 [] ?_ hR0) (ht_ex fun kvs => ?_)
    · intro F1 H1 i e kvs he
      have hem : e ∈ am := (Pl.sortT_perm hb.ok.nd).1.mem_iff.mp (List.mem_of_getElem? he)
      have htot : Sm (Pl.totA am) := by have := hst am.length; rwa [List.take_length] at this
      rw [← take_puts hb.ok.nd he]
      refine ht_post ?_ (ht_dput (i := 11) (n := e.1) (x := e.2 / Pl.totA am) rfl (ev_var rfl) (ev_call (ea_cons (ev_sh (ev_var rfl) (ev_var rfl) (Pl.mem_getA hb.ok.nd hem)) (ea_cons (ev_var rfl) ea_nil)) (spF_g (e.2, Pl.totA am) ⟨hsm e hem, htot, Pl.tot_pos hb.ok hem⟩)) ?_)
      · exact fun σ H ⟨lvs, a⟩ => ⟨lvs, TyA.le (by repeat (first | exact trivial | refine ⟨.inl rfl, ?_⟩ | refine ⟨.inr rfl, ?_⟩)) σ H a⟩
      · have hl : (Pl.shareA am).length = am.length := by unfold Pl.shareA; rw [List.length_map, (Pl.sortT_perm hb.ok.nd).1.length_eq]
        rw [List.length_take]
        omega
    · have hl : (Pl.shareA am).take (Pl.sortT am).length = Pl.shareA am := List.take_of_length_le (by unfold Pl.shareA; rw [List.length_map]; exact Nat.le_refl _)
      refine ht_pre (fun σ H a => frz_dct (i := 11) (Rf := FrP) (es := Pl.shareA am) rfl rfl id id rfl σ H (hl ▸ a)) (ht_ret (ev_var rfl))
/-- what comes out is a mixture of shares -/
theorem resP_ok {s : Sto} (hs : StoOk s) {f : List (Nat × Nat)} (ho : ForOk s.ms f) {ns : List Nat} {rs : List Rule} (hsel : Sel s ns rs) (hlen : ns.length ≤ 10) {es : List (Nat × Rat)} (h : resP rs f = some es) : ShOk s.ms es := by
  unfold resP at h
  cases hord : Pl.orderM rs (mixtureOf f) with
  | none => rw [hord] at h; cases h
  | some ord =>
    rw [hord] at h
    obtain rfl : Pl.shareA (Pl.amtsA ord (mixtureOf f)) = es := Option.some.inj h
    have hperm := order_sub hord
    have hrl : ord.length ≤ 10 := by rw [hperm.length_eq, hsel.len]; exact hlen
    have hb : AmB s.ms ord.length (Pl.amtsA ord (mixtureOf f)) := by
      have := AmB.fold ord (fun r hr => hsel.ok hs (hperm.mem_iff.mp hr)) (AmB.start ho)
      rwa [Nat.zero_add] at this
    generalize Pl.amtsA ord (mixtureOf f) = am at hb ⊢
    obtain ⟨p1, p2⟩ := Pl.sortT_perm hb.ok.nd
    have hk : Pl.keysA (Pl.shareA am) = Pl.keysA (Pl.sortT am) := by unfold Pl.shareA Pl.keysA; rw [List.map_map]; rfl
    refine ⟨by unfold Pl.Asc; rw [hk]; exact p2, fun e he => ?_, ?_⟩
    · obtain ⟨c, hc, rfl⟩ := List.mem_map.mp he
      exact hb.mat _ (mem_key (e := c) (p1.mem_iff.mp hc))
    · by_cases hne : am = []
      · subst hne
        exact ⟨1, by decide, fun e he => by simp [Pl.shareA, Pl.sortT] at he⟩
      · obtain ⟨D, M, h0, h1, h2, hbd⟩ := hb.bd
        obtain ⟨m, hm, hms⟩ := Pl.share_bd hb.ok hbd hne
        refine ⟨m, ?_, fun e he => ?_⟩
        · have hal := hb.len hs
          have h3 : m ≤ 24 * 2 ^ 140 := Nat.le_trans hm (Nat.mul_le_mul hal (Nat.le_trans h2 (p4000 hrl)))
          have h4 : 24 * 2 ^ 140 < 2 ^ 600 := by
            have : (24 : Nat) * 2 ^ 140 ≤ 2 ^ 5 * 2 ^ 140 := Nat.mul_le_mul_right _ (by decide)
            rw [← Nat.pow_add] at this
            exact Nat.lt_of_le_of_lt this (Nat.pow_lt_pow_right (by decide) (by decide))
          omega
        · obtain ⟨c, hc, rfl⟩ := List.mem_map.mp he
          exact hms c (p1.mem_iff.mp hc)
end Sw
set_option maxRecDepth 100000
set_option maxHeartbeats 2000000
/-! # All plans, the acceptable ones -/
namespace Sw
open PySem L2
open SubstitutionSpec (Material Rule Mixture mixtureOf)
/-- ascending -/
def srt (ks : List Nat) : List Nat := ks.mergeSort
theorem srt_perm (ks : List Nat) : (srt ks).Perm ks := List.mergeSort_perm ks _
theorem srt_le (ks : List Nat) : (srt ks).Pairwise (· ≤ ·) := by
  have := List.pairwise_mergeSort (le := fun (a b : Nat) => decide (a ≤ b)) (fun a b c h1 h2 => by simp at *; omega) (fun a b => by simp; omega) ks
  exact this.imp fun h => of_decide_eq_true h
theorem srt_lt {ks : List Nat} (h : ks.Nodup) : (srt ks).Pairwise (· < ·) := by
  have h1 : (srt ks).Nodup := (srt_perm ks).nodup_iff.mpr h
  have h2 := srt_le ks
  unfold List.Nodup at h1
  exact (h1.and h2).imp fun ⟨a, b⟩ => by omega
/-- one rising list only -/
theorem srt_one {ks ls : List Nat} (h : ls.Perm ks) (hl : ls.Pairwise (· ≤ ·)) : ls = srt ks :=
  (h.trans (srt_perm ks).symm).eq_of_pairwise (le := (· ≤ ·)) (fun a b _ _ h1 h2 => Nat.le_antisymm h1 h2) hl (srt_le ks)
theorem ints_one {ks : List Nat} {ys : List Int} (hp : ys.Perm (ks.map fun (n : Nat) => (n : Int))) (hs : ys.Pairwise (· ≤ ·)) : ys = (srt ks).map fun (n : Nat) => (n : Int) := by
  refine (hp.trans ((srt_perm ks).map _).symm).eq_of_pairwise (le := (· ≤ ·)) (fun a b _ _ h1 h2 => Int.le_antisymm h1 h2) hs ?_
  rw [List.pairwise_map]
  exact (srt_le ks).imp fun h => by omega
section
variable {N : Addr → Prop} {F0 H0 : Hp} {Γ Δ : List (Option VP)} {W : Wd} {R : VK} {te : TE} {P' : VP}
theorem ev_sortedN {α : Type} {Rf : α → VP} {es : List (Nat × α)} (h : EvG te Γ W (DctP Rf es)) (hl : es.length < 64) : EvG (tCB rSortedDI (tCons te tNil)) Γ W (LstP ((srt (Pl.keysA es)).map fun (n : Nat) => IntP (n : Int))) :=
  ev_isL (ev_cb (ea_cons h ea_nil) (cb_sortedD ((srt (Pl.keysA es)).map fun (n : Nat) => (n : Int)) hl fun ys hp hs => ints_one (by unfold Pl.keysA; rw [List.map_map]; exact hp) hs)) (by rw [List.map_map]; rfl)
/-- i, j = e, [..] -/
theorem ht_parL {i j : Nat} {t : TA} {Ps : List VP} {G : Addr → List (Option VP)} (h : EvG te Γ W P') (ht : EvA t Γ W Ps) (e : ∀ d : Addr, (Γ.set i (some P')).set j (some (IsP (.ref d))) = G d) (hl : Ps.length ≤ sizeLine := by decide) :
    HT (TyA N F0 H0 Γ W) (tPar i j (tCons te (tCons (tLst t) tNil))) (fun σ H => ∃ d xs, TyA N F0 H0 (G d) (W.lst d xs Ps) σ H) R := fun σ H D ⟨F, s⟩ nx rt => by
  refine h σ F H s.ok _ fun v F2 H2 n p => ?_
  have s2 := s.next n
  refine ht σ F2 H2 s2.ok _ fun xs F3 H3 n3 p3 => ⟨by rw [p3.len]; exact hl, fun d hd => ?_⟩
  have s3 := s2.next n3
  refine ⟨v, .ref d, rfl, nx _ _ ⟨d, xs, F3, e d ▸ ?_⟩⟩
  exact (s3.set (P'.mono p n3.f)).fresh hd p3
end
/-! ### the codes -/
def maskN (ns : List Nat) (code : Nat) : List Nat := ((List.range ns.length).filter fun i => decide (code / 2 ^ i % 2 = 1)).map fun i => ns.getD i 0
def numsP (ns : List Nat) : VP := LstP (ns.map fun (n : Nat) => IntP (n : Int))
def PlP (p : List Nat × List (Nat × Rat)) : VP := TupP [numsP p.1, ShP p.2]
def selR (s : Sto) (ns : List Nat) : List Rule := ns.filterMap (Pl.getA s.rs)
theorem sel_of {s : Sto} : ∀ {ns : List Nat}, (∀ n ∈ ns, n ∈ Pl.keysA s.rs) → Sel s ns (selR s ns)
  | [], _ => rfl
  | n :: ns, h => by
    obtain ⟨r, hr⟩ := key_get (h n List.mem_cons_self)
    have ih := sel_of (s := s) (ns := ns) fun x hx => h x (List.mem_cons_of_mem _ hx)
    unfold Sel selR at ih ⊢
    rw [List.map_cons, List.filterMap_cons, hr, List.map_cons]
    show some r :: _ = some r :: _
    rw [ih]
def numsOf (s : Sto) : List Nat := srt (Pl.keysA s.rs)
theorem nums_mem {s : Sto} {n : Nat} (h : n ∈ numsOf s) : n ∈ Pl.keysA s.rs := (srt_perm _).mem_iff.mp h
theorem mask_mem {ns : List Nat} {code n : Nat} (h : n ∈ maskN ns code) : n ∈ ns := by
  obtain ⟨i, hi, rfl⟩ := List.mem_map.mp h
  have := List.mem_range.mp (List.mem_filter.mp hi).1
  rw [List.getD_eq_getElem?_getD, List.getElem?_eq_getElem this]
  exact List.getElem_mem _
theorem mask_len (ns : List Nat) (code : Nat) : (maskN ns code).length ≤ ns.length := by
  unfold maskN
  rw [List.length_map]
  have := List.length_filter_le (fun i => decide (code / 2 ^ i % 2 = 1)) (List.range ns.length)
  rwa [List.length_range] at this
def planAt (s : Sto) (f : List (Nat × Nat)) (code : Nat) : Option (List Nat × List (Nat × Rat)) := (resP (selR s (maskN (numsOf s) code)) f).map fun es => (maskN (numsOf s) code, es)
def plansP (s : Sto) (f : List (Nat × Nat)) : List (List Nat × List (Nat × Rat)) := (List.range (2 ^ (numsOf s).length)).filterMap (planAt s f)
def accP (s : Sto) (f : List (Nat × Nat)) : List (List Nat × List (Nat × Rat)) := (plansP s f).filter fun p => decide ((faultP s p.2).1 = 0)
theorem nums_len {s : Sto} (hs : StoOk s) : (numsOf s).length ≤ 10 := by
  unfold numsOf
  rw [(srt_perm _).length_eq, Pl.keysA, List.length_map]
  exact hs.rl
theorem plan_ok {s : Sto} (hs : StoOk s) {f : List (Nat × Nat)} (ho : ForOk s.ms f) {p : List Nat × List (Nat × Rat)} (h : p ∈ plansP s f) : ShOk s.ms p.2 := by
  obtain ⟨code, _, e⟩ := List.mem_filterMap.mp h
  unfold planAt at e
  obtain ⟨es, h1, h2⟩ := Option.map_eq_some_iff.mp e
  subst h2
  exact resP_ok hs ho (sel_of fun n hn => nums_mem (mask_mem hn)) (Nat.le_trans (mask_len _ _) (nums_len hs)) h1
theorem plans_len (s : Sto) (f : List (Nat × Nat)) (hs : StoOk s) : (plansP s f).length ≤ 1024 := by
  unfold plansP
  refine Nat.le_trans (List.length_filterMap_le _ _) ?_
  rw [List.length_range]
  exact Nat.le_trans (Nat.pow_le_pow_right (by decide) (nums_len hs)) (by decide)
variable {P : Program} {w : World} {K : PySem.W.Frag} {mg : Str → Option Value} {base : Heap}
def preF (i : Sto × Nat × List (Nat × Nat)) : Prop := StoOk i.1 ∧ Pl.getA i.1.fs i.2.1 = some i.2.2 ∧ ForOk i.1.ms i.2.2
def sp_plans (K : PySem.W.Frag) : Sp := spF (ι := Sto × Nat × List (Nat × Nat)) (fun i => [StoP K i.1, IntP (i.2.1 : Int)]) preF fun i => LstP ((plansP i.1 i.2.2).map PlP)
theorem take_fm {α β : Type} {f : α → Option β} {l : List α} {i : Nat} {x : α} (h : l[i]? = some x) : (l.take (i + 1)).filterMap f = (l.take i).filterMap f ++ (match f x with | some y => [y] | none => []) := by
  rw [take_next h, List.filterMap_append]
  congr 1
  rw [List.filterMap_cons]
  cases f x <;> rfl
theorem ok_Store_plans (T : Txt K mg) : FnOk P w K mg base CX0 6 (He.fAd K ("Store", some "plans")) (fdOf K ("Store", some "plans")) ["self", "formula"] (sp_plans K) := by
  refine T.D_Store_plans.ok sc_Store_plans (spF_len fun _ => rfl) (fun cdv A outer s H vs Q E hr h => ⟨_, PSs.nox (pss_cons (ps_par (i := 2) (j := 3) (by rfl) sc_Store_plans.nd rfl rfl (by decide) rfl rfl (pa_cons (pe_callB (cr_sortedDI rfl) (by rfl) T.f_sorted bb_sorted (pa_cons (pe_fld (pv 0) rfl) pa_nil)) (pa_cons (pe_lst pa_nil) pa_nil)) (by rfl)) (pss_cons (ps_for PassesOwn.never rfl (pi_range1 (by rfl) T.f_range (pa_cons (pe_op op_oneShl1 pe_int (pe_callB cr_lenSeq (by rfl) T.f_len bb_len (pa_cons (pv 2) pa_nil))) pa_nil)) (pg_name (i := 4) sc_Store_plans.nd rfl (Or.inr rfl)) (pss_cons (ps_setLc (i := 5) (own := [("at", 7), ("number", 8)]) rfl sc_Store_plans.nd rfl rfl (sw_true rfl rfl rfl (by decide +kernel)) (pi_enum (by rfl) T.f_enumerate (pa_cons (pv 2) pa_nil)) (blkOk_by (N := ["self", "formula", "numbers", "found", "code", "some", "shares", "at", "number"]) (sc := defScope s_Store_plans) (by decide +kernel)) (fun _ _ _ _ _ => (pg_tupK (K := K) (n := 2) rfl (pgs_cons (pg_name (i := 7) sc_Store_plans.nd rfl (Or.inl rfl) (Or.inr rfl)) (pgs_cons (pg_name (i := 8) sc_Store_plans.nd rfl (Or.inl rfl) (Or.inr rfl)) pgs_nil)))) (fun _ _ _ _ _ => (pts_one (pt_cmpR op_eq (pe_op op_odd1 (pe_op op_shrN1 (pv 4) (pv 7)) pe_int) pe_int (nomark _)))) (fun _ _ _ _ _ => (pv 8))) (pss_cons (ps_set (i := 6) sc_Store_plans.nd rfl (Or.inl rfl) (pe_meth (pv 0) T.cl_Store T.mt_Store_result (ok_Store_result T) (hr.mono (by decide)) T.b_Store_result .nil pass0 (pa_cons (pv 1) (pa_cons (pv 5) pa_nil)))) (pss_one (ps_if (pt_cmpR op_notN1 (pv 6) pe_non (nomark _)) (pss_one (ps_expr (pe_bm PySem.F.plainAttrs_list PySem.F.slot_list_append PySem.F.type_list_append mt_append (pv 3) (pa_cons (pe_tup (pa_cons (pv 5) (pa_cons (pv 6) pa_nil))) pa_nil)))) pss_nil))))) (pss_one (ps_ret (pv 3))))), ?_⟩)
  refine body_of h fun ⟨s, n, f⟩ ⟨hs, hf, ho⟩ F0 H0 => ?_
  have hnl : (numsOf s).length ≤ 10 := nums_len hs
  refine ht_seq (ht_parL (Ps := []) (G := fun d => [some (StoP K s), some (IntP (n : Int)), some (numsP (numsOf s)), some (IsP (.ref d)), none, none, none, none, none]) (ev_sortedN (T.ruls (ev_var rfl)) (Nat.lt_of_le_of_lt hs.rl (by decide))) ea_nil fun d => rfl) (ht_ex fun d => ht_ex fun xs => ?_)
  let G : List (Option VP) := [some (StoP K s), some (IntP (n : Int)), some (numsP (numsOf s)), some (IsP (.ref d)), none, none, none, none, none]
  have hpow : 2 ^ (numsOf s).length ≤ 1024 := Nat.le_trans (Nat.pow_le_pow_right (by decide) hnl) (by decide)
  have hcast : ∀ k : Nat, ((2 : Int) ^ k) = ((2 ^ k : Nat) : Int) := fun k => by rw [Int.natCast_pow]; rfl
  refine ht_seq (ht_forG (js := [4]) (g := gName 4) (β := fun _ => List V) (it_range1 (n := 2 ^ (numsOf s).length) (ev_is (ev_oneShl (n := (numsOf s).length) (ev_is (ev_cb (ea_cons (ev_var rfl) ea_nil) cb_lenL) (by rw [List.length_map])) (by omega)) (hcast _)) (Nat.lt_of_le_of_lt hpow (by decide))) (fun i xs => G) (fun i xs => W0.lst d xs (((List.range i).filterMap (planAt s f)).map PlP)) (fun i xs => G.set 4 (some (IntP (i : Int)))) R0 xs (fun i x hi => tg_name) ?_ hR0) (ht_ex fun xs2 => ?_)
  · intro F1 H1 code xs hcode
    have hcl : ((List.range code).filterMap (planAt s f)).length ≤ 1024 := by
      refine Nat.le_trans (List.length_filterMap_le _ _) ?_
      rw [List.length_range]; omega
    have hbit : ∀ i, i < (numsOf s).length → (numsOf s)[i]? = some ((numsOf s).getD i 0) := fun i hi => by
      rw [List.getD_eq_getElem?_getD, List.getElem?_eq_getElem hi]; rfl
    refine ht_seq (ht_set (P := numsP (maskN (numsOf s) code)) (ev_isL (ev_lc (js := [7, 8]) (it_enum (ev_var rfl)) (fun i => ((wipeG (G.set 4 (some (IntP (code : Int)))) [7, 8]).set 7 (some (IntP (i : Int)))).set 8 (some (IntP ((numsOf s).getD i 0 : Int)))) (fun i => decide (code / 2 ^ i % 2 = 1)) (fun i => IntP ((numsOf s).getD i 0 : Int)) (fun i hi => ?_) (fun i hi => ?_) (fun i hi _ => ev_var rfl) (by rw [List.length_map]; omega)) ?_)) ?_
    · rw [List.length_map] at hi
      rw [getD_map (hbit i hi)]
      exact tg_tup2
    · refine et_is (et_test (ev_eqI (ev_odd (n := code / 2 ^ i) (ev_is (ev_shr (i := (code : Int)) (n := i) (ev_var rfl) (ev_var rfl)) (by rw [hcast, ← Int.natCast_ediv]))) ev_int)) ?_
      rw [Bool.eq_iff_iff, decide_eq_true_eq, decide_eq_true_eq]
      omega
    · unfold givn maskN
      rw [List.length_map, List.map_map]
      rfl
    have hsel := sel_of (s := s) (ns := maskN (numsOf s) code) fun n hn => nums_mem (mask_mem hn)
    refine ht_seq (ht_set (ev_meth (ev_var rfl) rfl (ea_cons (ev_var rfl) (ea_cons (ev_var rfl) ea_nil)) (spF_g (s, n, f, maskN (numsOf s) code, selR s (maskN (numsOf s) code)) ⟨hs, hf, ho, hsel, Nat.le_trans (mask_len _ _) hnl⟩))) ?_
    have hnx : (List.range (code + 1)).filterMap (planAt s f) = (List.range code).filterMap (planAt s f) ++ (match planAt s f code with | some y => [y] | none => []) := by
      rw [List.range_succ, List.filterMap_append, List.filterMap_cons]
      cases planAt s f code <;> rfl
    rw [hnx]
    have hpa : planAt s f code = (resP (selR s (maskN (numsOf s) code)) f).map fun es => (maskN (numsOf s) code, es) := rfl
    show HT (TyA _ F1 H1 [some (StoP K s), some (IntP (n : Int)), some (numsP (numsOf s)), some (IsP (.ref d)), some (IntP (code : Int)), some (numsP (maskN (numsOf s) code)), some (OptP ShP (resP (selR s (maskN (numsOf s) code)) f)), none, none] _) _ _ _
    rw [hpa]
    cases hr : resP (selR s (maskN (numsOf s) code)) f with
    | none =>
      refine ht_if (b := false) (et_test (ev_notN (ev_var rfl) fun v F h => by rw [show v = V.non from h]; rfl)) (fun hb => by cases hb) fun _ => ?_
      rw [Option.map_none, List.append_nil]
      exact ht_post (fun σ H a => ⟨xs, TyA.le (by repeat (first | exact trivial | refine ⟨.inl rfl, ?_⟩ | refine ⟨.inr rfl, ?_⟩)) σ H a⟩) ht_next
    | some es =>
      refine ht_if (b := true) (et_test (ev_notN (ev_var rfl) fun v F ⟨a, _, h, _⟩ => by rw [h]; rfl)) (fun _ => ?_) fun hb => by cases hb
      rw [Option.map_some, List.map_append]
      exact ht_post (fun σ H ⟨ys, a⟩ => ⟨ys, TyA.le (by repeat (first | exact trivial | refine ⟨.inl rfl, ?_⟩ | refine ⟨.inr rfl, ?_⟩)) σ H a⟩) (ht_append (i := 3) rfl (ev_tup (ea_cons (ev_var (P := numsP (maskN (numsOf s) code)) rfl) (ea_cons (ev_var (P := ShP es) rfl) ea_nil)) (show 2 ≤ sizeLine by decide)) (by rw [List.length_map]; omega))
  · refine ht_pre (fun σ H a => frz_lst (i := 3) rfl rfl id id rfl σ H a) (ht_ret (ev_var rfl))
def sp_acceptable (K : PySem.W.Frag) : Sp := spF (ι := Sto × Nat × List (Nat × Nat)) (fun i => [StoP K i.1, IntP (i.2.1 : Int)]) preF fun i => LstP ((accP i.1 i.2.2).map PlP)
theorem ok_Store_acceptable (T : Txt K mg) : FnOk P w K mg base CX0 7 (He.fAd K ("Store", some "acceptable")) (fdOf K ("Store", some "acceptable")) ["self", "formula"] (sp_acceptable K) := by
  refine T.D_Store_acceptable.ok sc_Store_acceptable (spF_len fun _ => rfl) (fun cdv A outer s H vs Q E hr h => ⟨_, PSs.nox (pss_one (ps_ret (pe_lc (own := [("some", 2), ("shares", 3)]) rfl sc_Store_acceptable.nd (pi_list (pe_meth (pv 0) T.cl_Store T.mt_Store_plans (ok_Store_plans T) (hr.mono (by decide)) T.b_Store_plans .nil pass0 (pa_cons (pv 1) pa_nil))) (blkOk_by (N := ["self", "formula", "some", "shares"]) (sc := defScope s_Store_acceptable) (by decide +kernel)) (fun _ _ _ _ _ => (pg_tupK (K := K) (n := 2) rfl (pgs_cons (pg_name (i := 2) sc_Store_acceptable.nd rfl (Or.inl rfl) (Or.inr rfl)) (pgs_cons (pg_name (i := 3) sc_Store_acceptable.nd rfl (Or.inl rfl) (Or.inr rfl)) pgs_nil)))) (fun _ _ _ _ _ => (pts_one (pt_cmpR op_eq (pe_ix (ix_tupK (K := K)) (pe_meth (pv 0) T.cl_Store T.mt_Store_fault (ok_Store_fault T) (hr.mono (by decide)) T.b_Store_fault .nil pass0 (pa_cons (pv 3) pa_nil)) pe_int (fun _ _ => rfl)) pe_int (nomark _)))) (fun _ _ _ _ _ => (pe_tup (pa_cons (pv 2) (pa_cons (pv 3) pa_nil))))))), ?_⟩)
  refine body_of h fun ⟨s, n, f⟩ ⟨hs, hf, ho⟩ F0 H0 => ?_
  refine ht_ret (ev_lcLT (l := plansP s f) (f := fun p => numsP p.1) (f2 := fun p => ShP p.2) (ev_meth (ev_var rfl) rfl (ea_cons (ev_var rfl) ea_nil) (spF_g (s, n, f) ⟨hs, hf, ho⟩)) (fun p => decide ((faultP s p.2).1 = 0)) PlP (fun p hp => ?_) (fun p hp _ => ?_) (Nat.lt_of_le_of_lt (plans_len s f hs) (by decide)))
  · refine et_is (et_test (ev_eqI (ev_ixT (P := IntP ((faultP s p.2).1 : Int)) (ev_meth (ev_var rfl) rfl (ea_cons (ev_var rfl) ea_nil) (spF_g (s, p.2) ⟨hs, plan_ok hs ho hp⟩)) ev_int rfl) ev_int)) ?_
    rw [Bool.eq_iff_iff, decide_eq_true_eq, decide_eq_true_eq]
    omega
  · exact ev_tup (ea_cons (ev_var (P := numsP p.1) rfl) (ea_cons (ev_var (P := ShP p.2) rfl) ea_nil)) (show 2 ≤ sizeLine by decide)
end Sw
set_option maxRecDepth 100000
set_option maxHeartbeats 2000000
/-! # The best plan -/
namespace Sw
open PySem L2
open SubstitutionSpec (Material Rule Mixture mixtureOf sequenceLess lessOrTie)
abbrev Outc := SubstitutionSpec.Outcome
def choF (o : Outc) : List (Str × VP) := [("numbers", numsP o.ruleIds), ("cost", FrP o.cost), ("distance", FrP o.distance)]
def ChoP (K : PySem.W.Frag) (o : Outc) : VP := ObjP (He.ga K "Choice") (choF o)
def isB (w : Str) (a b : Outc) : Bool := if w = "smallest" then a.isSmaller b else if w = "nearest" then a.isNearer b else a.isCheaper b
theorem list_lt : ∀ ns ms : List Nat, PySem.W.DatumOrd.lt (ns.map fun (n : Nat) => (n : Int)) (ms.map fun (n : Nat) => (n : Int)) = sequenceLess ns ms
  | [], [] => rfl
  | [], _ :: _ => rfl
  | _ :: _, [] => rfl
  | a :: as, b :: bs => by
    have ih := list_lt as bs
    show (if (a : Int) = (b : Int) then PySem.W.DatumOrd.lt (as.map fun (n : Nat) => (n : Int)) (bs.map fun (n : Nat) => (n : Int)) else decide ((a : Int) < (b : Int))) = (decide (a < b) || (a == b && sequenceLess as bs))
    rw [ih]
    by_cases c : a = b
    · subst c
      rw [if_pos rfl]
      simp
    · rw [if_neg (by omega)]
      have : (a == b) = false := by simpa using c
      rw [this]
      simp
theorem il_lt (ns ms : List Nat) : PySem.W.DatumOrd.lt ((ns.length : Int), ns.map fun (n : Nat) => (n : Int)) ((ms.length : Int), ms.map fun (n : Nat) => (n : Int)) = (decide (ns.length < ms.length) || (ns.length == ms.length && sequenceLess ns ms)) := by
  show (if (ns.length : Int) = (ms.length : Int) then PySem.W.DatumOrd.lt (ns.map fun (n : Nat) => (n : Int)) (ms.map fun (n : Nat) => (n : Int)) else decide ((ns.length : Int) < (ms.length : Int))) = _
  rw [list_lt]
  by_cases c : ns.length = ms.length
  · rw [if_pos (by omega), c]
    simp
  · rw [if_neg (by omega)]
    have : (ns.length == ms.length) = false := by simpa using c
    rw [this]
    simp
/-- the first pair that differs -/
def lexq : List (Rat × Rat) → Bool → Bool
  | [], b => b
  | x :: l, b => if x.1 = x.2 then lexq l b else decide (x.1 < x.2)
theorem lexq_at : ∀ {l : List (Rat × Rat)} {i : Nat} {x : Rat × Rat} {b : Bool}, (∀ y ∈ l.take i, y.1 = y.2) → l[i]? = some x → x.1 ≠ x.2 → lexq l b = decide (x.1 < x.2)
  | [], _, _, _, _, h, _ => by simp at h
  | a :: l, 0, x, b, _, h, hx => by
    have : a = x := by simpa using h
    subst this
    exact if_neg hx
  | a :: l, i + 1, x, b, hk, h, hx => by
    have h0 : a.1 = a.2 := hk a (by simp)
    show (if a.1 = a.2 then lexq l b else _) = _
    rw [if_pos h0]
    exact lexq_at (i := i) (fun y hy => hk y (by rw [List.take_succ_cons]; exact List.mem_cons_of_mem _ hy)) (by simpa using h) hx
theorem lexq_end : ∀ {l : List (Rat × Rat)} {b : Bool}, (∀ y ∈ l, y.1 = y.2) → lexq l b = b
  | [], _, _ => rfl
  | a :: l, b, h => by
    show (if a.1 = a.2 then lexq l b else _) = _
    rw [if_pos (h a List.mem_cons_self)]
    exact lexq_end fun y hy => h y (List.mem_cons_of_mem _ hy)
theorem less_lex (a b : Rat) (t : Bool) : lessOrTie a b t = if a = b then t else decide (a < b) := by
  unfold lessOrTie
  by_cases c : a = b
  · subst c
    have : ¬ a < a := Rat.lt_irrefl
    simp [this]
  · simp [c]
section
variable {N : Addr → Prop} {F0 H0 : Hp} {Γ : List (Option VP)} {W : Wd} {R : VK} {t : TS} {t1 t2 : TE} {K : PySem.W.Frag}
/-- for x, y in zip of two tuples -/
theorem ht_forZT {α : Type} {l : List α} {f f2 : α → VP} {j k : Nat} {β : Nat → Type} (h1 : EvG t1 Γ W (TupP (l.map f))) (h2 : EvG t2 Γ W (TupP (l.map f2))) (G : ∀ i, β i → List (Option VP)) (Ws : ∀ i, β i → Wd) (R1 : (Addr → Prop) → Hp → Hp → VK) (x0 : β 0)
    (hb : ∀ F1 H1 i x (b : β i), l[i]? = some x → HT (TyA (Nl N W) F1 H1 (((G i b).set j (some (f x))).set k (some (f2 x))) (Ws i b)) t (fun σ H => ∃ b' : β (i + 1), TyA (Nl N W) F1 H1 (G (i + 1) b') (Ws (i + 1) b') σ H) (R1 (Nl N W) F1 H1))
    (hR : ∀ F1 H1 σ, TyS N F0 H0 Γ W F1 σ H1 → ∀ v H, R1 (Nl N W) F1 H1 v H → R v H) (e0 : Γ = G 0 x0 := by rfl) (w0 : W = Ws 0 x0 := by rfl) :
    HT (TyA N F0 H0 Γ W) (tFor (RZ.iZipA K (tCons t1 (tCons t2 tNil))) (gTup K 2 (gCons (gName j) (gCons (gName k) gNil))) t) (fun σ H => ∃ b : β l.length, TyA N F0 H0 (G l.length b) (Ws l.length b) σ H) R := by
  have hi := it_zipT (K := K) h1 h2 (by simp)
  rcases l with _ | ⟨a0, l⟩
  · exact ht_forG (N := N) (F0 := F0) (H0 := H0) (t := t) (R := R) (js := []) (g := gTup K 2 (gCons (gName j) (gCons (gName k) gNil))) hi G Ws (fun i b => G i b) R1 x0 (fun i x hi => by simp at hi) (fun F1 H1 i b hi => by simp at hi) hR e0 w0
  have h := ht_forG (N := N) (F0 := F0) (H0 := H0) (t := t) (R := R) (js := [j, k]) (g := gTup K 2 (gCons (gName j) (gCons (gName k) gNil))) hi G Ws (fun i b => ((G i b).set j (some (f ((a0 :: l).getD i a0)))).set k (some (f2 ((a0 :: l).getD i a0)))) R1 x0 (fun i x hi => ?_) (fun F1 H1 i b hi => ?_) hR e0 w0
  · rw [List.length_map] at h
    exact h
  · rw [List.length_map] at hi
    obtain ⟨y, hy⟩ := lt_get hi
    rw [getD_map hy, getD_map hy, show (a0 :: l).getD i a0 = y by rw [List.getD_eq_getElem?_getD, hy]; rfl]
    exact tg_tup2
  · rw [List.length_map] at hi
    obtain ⟨y, hy⟩ := lt_get hi
    rw [show (a0 :: l).getD i a0 = y by rw [List.getD_eq_getElem?_getD, hy]; rfl]
    exact hb F1 H1 i y b hy
end
section
variable {Γ : List (Option VP)} {W : Wd} {te : TE} {K : PySem.W.Frag} {mg : Str → Option Value} {o : Outc}
theorem Txt.onum (T : Txt K mg) (h : EvG te Γ W (ChoP K o)) : EvG (tFld K te "numbers") Γ W (numsP o.ruleIds) := ev_fld h T.cl_Choice T.na_Choice_numbers rfl
theorem Txt.ocost (T : Txt K mg) (h : EvG te Γ W (ChoP K o)) : EvG (tFld K te "cost") Γ W (FrP o.cost) := ev_fld h T.cl_Choice T.na_Choice_cost rfl
theorem Txt.odist (T : Txt K mg) (h : EvG te Γ W (ChoP K o)) : EvG (tFld K te "distance") Γ W (FrP o.distance) := ev_fld h T.cl_Choice T.na_Choice_distance rfl
end
theorem nums_ints (ns : List Nat) : numsP ns = LstP ((ns.map fun (n : Nat) => (n : Int)).map IntP) := by
  unfold numsP
  rw [List.map_map]; rfl
def OSm (o : Outc) : Prop := Sm o.cost ∧ Sm o.distance
variable {P : Program} {w : World} {K : PySem.W.Frag} {mg : Str → Option Value} {base : Heap}
def sp_is_before (K : PySem.W.Frag) : Sp := spF (ι := Outc × Outc × Str) (fun i => [ChoP K i.1, ChoP K i.2.1, StrP i.2.2]) (fun i => OSm i.1 ∧ OSm i.2.1) fun i => BoolP (isB i.2.2 i.1 i.2.1)
theorem ok_Choice_is_before (T : Txt K mg) : FnOk P w K mg base CX0 3 (He.fAd K ("Choice", some "is_before")) (fdOf K ("Choice", some "is_before")) ["self", "other", "word"] (sp_is_before K) := by
  refine T.D_Choice_is_before.ok sc_Choice_is_before (spF_len fun _ => rfl) (fun cdv A outer s H vs Q E hr h => ⟨_, PSs.nox (pss_cons (ps_if (pt_cmpR op_eq (pv 2) pe_str (nomark _)) (pss_one (ps_ret (pe_cmpR (op_ltIL hr.units) (pe_tup (pa_cons (pe_callB cr_lenSeq (by rfl) T.f_len bb_len (pa_cons (pe_fld (pv 0) rfl) pa_nil)) (pa_cons (pe_fld (pv 0) rfl) pa_nil))) (pe_tup (pa_cons (pe_callB cr_lenSeq (by rfl) T.f_len bb_len (pa_cons (pe_fld (pv 1) rfl) pa_nil)) (pa_cons (pe_fld (pv 1) rfl) pa_nil))) (nomark _)))) pss_nil) (pss_cons (ps_par (i := 3) (j := 4) (by rfl) sc_Choice_is_before.nd rfl rfl (by decide) rfl rfl (pa_cons (pe_tup (pa_cons (pe_fld (pv 0) rfl) (pa_cons (pe_fld (pv 0) rfl) pa_nil))) (pa_cons (pe_tup (pa_cons (pe_fld (pv 1) rfl) (pa_cons (pe_fld (pv 1) rfl) pa_nil))) pa_nil)) (by rfl)) (pss_cons (ps_if (pt_cmpR op_eq (pv 2) pe_str (nomark _)) (pss_one (ps_par (i := 3) (j := 4) (by rfl) sc_Choice_is_before.nd rfl rfl (by decide) rfl rfl (pa_cons (pe_revT (pv 3)) (pa_cons (pe_revT (pv 4)) pa_nil)) (by rfl))) pss_nil) (pss_cons (ps_for PassesOwn.never rfl (RZ.pi_zipA (by rfl) T.f_zip (pa_cons (pv 3) (pa_cons (pv 4) pa_nil))) (pg_tup (n := 2) rfl (pgs_cons (pg_name (i := 5) sc_Choice_is_before.nd rfl (Or.inl rfl)) (pgs_cons (pg_name (i := 6) sc_Choice_is_before.nd rfl (Or.inl rfl)) pgs_nil))) (pss_one (ps_if (pt_cmpR (op_neD hr.units) (pv 5) (pv 6) (nomark _)) (pss_one (ps_ret (pe_call (ok_is_less T) (hr.mono (by decide)) (by rfl) T.g_is_less T.k_is_less T.b_is_less .nil pass0 (pa_cons (pv 5) (pa_cons (pv 6) pa_nil))))) pss_nil))) (pss_one (ps_ret (pe_cmpR (op_ltL hr.units) (pe_fld (pv 0) rfl) (pe_fld (pv 1) rfl) (nomark _)))))))), ?_⟩)
  refine body_of h fun ⟨a, b, w⟩ ⟨ha, hb⟩ F0 H0 => ?_
  refine ht_guard (et_test (ev_eqS (ev_var rfl) ev_str)) (fun hw => ?_) fun hw => ?_
  · have hw : w = "smallest" := of_decide_eq_true hw
    refine ht_ret (ev_isB (ev_ltIL (i := (a.ruleIds.length : Int)) (j := (b.ruleIds.length : Int)) (ns := a.ruleIds.map fun (n : Nat) => (n : Int)) (ms := b.ruleIds.map fun (n : Nat) => (n : Int)) ?_ ?_) ?_)
    · exact ev_tup (ea_cons (ev_is (ev_cb (ea_cons (T.onum (ev_var rfl)) ea_nil) cb_lenL) (by rw [List.length_map])) (ea_cons (ev_sub (T.onum (ev_var rfl)) fun v F h => nums_ints a.ruleIds ▸ h) ea_nil)) (show 2 ≤ sizeLine by decide)
    · exact ev_tup (ea_cons (ev_is (ev_cb (ea_cons (T.onum (ev_var rfl)) ea_nil) cb_lenL) (by rw [List.length_map])) (ea_cons (ev_sub (T.onum (ev_var rfl)) fun v F h => nums_ints b.ruleIds ▸ h) ea_nil)) (show 2 ≤ sizeLine by decide)
    · rw [il_lt]
      show _ = isB w a b
      unfold isB
      rw [if_pos hw]; rfl
  have hw : ¬ w = "smallest" := of_decide_eq_false hw
  refine ht_seq (ht_par (ea_cons (ev_tup (ea_cons (T.ocost (ev_var rfl)) (ea_cons (T.odist (ev_var rfl)) ea_nil)) (show 2 ≤ sizeLine by decide)) (ea_cons (ev_tup (ea_cons (T.ocost (ev_var rfl)) (ea_cons (T.odist (ev_var rfl)) ea_nil)) (show 2 ≤ sizeLine by decide)) ea_nil))) ?_
  let L : List (Rat × Rat) := if w = "nearest" then [(a.distance, b.distance), (a.cost, b.cost)] else [(a.cost, b.cost), (a.distance, b.distance)]
  let G : List (Option VP) := [some (ChoP K a), some (ChoP K b), some (StrP w), some (TupP (L.map fun x => FrP x.1)), some (TupP (L.map fun x => FrP x.2)), none, none]
  have hL : ∀ x ∈ L, Sm x.1 ∧ Sm x.2 := by
    intro x hx
    have : x = (a.distance, b.distance) ∨ x = (a.cost, b.cost) := by
      show _
      by_cases c : w = "nearest"
      · have hx : x ∈ [(a.distance, b.distance), (a.cost, b.cost)] := by simpa only [L, if_pos c] using hx
        simpa using hx
      · have hx : x ∈ [(a.cost, b.cost), (a.distance, b.distance)] := by simpa only [L, if_neg c] using hx
        have : x = (a.cost, b.cost) ∨ x = (a.distance, b.distance) := by simpa using hx
        exact this.symm
    rcases this with e | e <;> subst e
    · exact ⟨ha.2, hb.2⟩
    · exact ⟨ha.1, hb.1⟩
  have hisB : isB w a b = lexq L (sequenceLess a.ruleIds b.ruleIds) := by
    unfold isB
    rw [if_neg hw]
    by_cases c : w = "nearest"
    · rw [if_pos c]
      show _ = lexq (if w = "nearest" then _ else _) _
      rw [if_pos c]
      unfold SubstitutionSpec.Outcome.isNearer
      rw [less_lex, less_lex]
      rfl
    · rw [if_neg c]
      show _ = lexq (if w = "nearest" then _ else _) _
      rw [if_neg c]
      unfold SubstitutionSpec.Outcome.isCheaper
      rw [less_lex, less_lex]
      rfl
  refine ht_seq (B := TyA No F0 H0 G W0) (ht_if (et_test (ev_eqS (ev_var rfl) ev_str)) (fun hn => ?_) fun hn => ?_) ?_
  · have hn : w = "nearest" := of_decide_eq_true hn
    have e : L = [(a.distance, b.distance), (a.cost, b.cost)] := by simp only [L, if_pos hn]
    show HT _ _ (TyA No F0 H0 [some (ChoP K a), some (ChoP K b), some (StrP w), some (TupP (L.map fun x => FrP x.1)), some (TupP (L.map fun x => FrP x.2)), none, none] W0) _
    rw [e]
    exact ht_par (ea_cons (ev_revT (ev_var rfl)) (ea_cons (ev_revT (ev_var rfl)) ea_nil))
  · have hn : ¬ w = "nearest" := of_decide_eq_false hn
    have e : L = [(a.cost, b.cost), (a.distance, b.distance)] := by simp only [L, if_neg hn]
    show HT _ _ (TyA No F0 H0 [some (ChoP K a), some (ChoP K b), some (StrP w), some (TupP (L.map fun x => FrP x.1)), some (TupP (L.map fun x => FrP x.2)), none, none] W0) _
    rw [e]
    exact ht_next
  show HT _ _ _ (RetP No F0 H0 (BoolP (isB w a b)))
  rw [hisB]
  clear_value L
  refine ht_seq (ht_forZT (l := L) (f := fun x => FrP x.1) (f2 := fun x => FrP x.2) (β := fun i => {u : Unit // ∀ y ∈ L.take i, y.1 = y.2}) (ev_var rfl) (ev_var rfl) (fun i _ => G) (fun i _ => W0) (fun N F H => RetP N F H (BoolP (lexq L (sequenceLess a.ruleIds b.ruleIds)))) ⟨(), fun y hy => by simp at hy⟩ ?_ hRP) (ht_ex fun ⟨_, hu⟩ => ?_)
  · intro F1 H1 i x ⟨_, hu⟩ hx
    obtain ⟨s1, s2⟩ := hL x (List.mem_of_getElem? hx)
    refine ht_if (et_test (ev_neFr (ev_var rfl) (ev_var rfl))) (fun hne => ?_) fun heq => ?_
    · have hne : x.1 ≠ x.2 := by simpa using hne
      rw [lexq_at hu hx hne]
      exact ht_ret (ev_call (ea_cons (ev_var rfl) (ea_cons (ev_var rfl) ea_nil)) (spF_g (x.1, x.2) ⟨s1, s2⟩))
    · have heq : x.1 = x.2 := by simpa using heq
      refine ht_post (fun σ H a => ⟨⟨(), fun y hy => ?_⟩, TyA.le (by repeat (first | exact trivial | refine ⟨.inl rfl, ?_⟩ | refine ⟨.inr rfl, ?_⟩)) σ H a⟩) ht_next
      rw [take_next hx] at hy
      rcases List.mem_append.mp hy with q | q
      · exact hu y q
      · rw [List.mem_singleton.mp q]; exact heq
  · rw [List.take_length] at hu
    rw [lexq_end hu]
    exact ht_ret (ev_isB (ev_ltL (ev_sub (T.onum (ev_var rfl)) fun v F h => nums_ints a.ruleIds ▸ h) (ev_sub (T.onum (ev_var rfl)) fun v F h => nums_ints b.ruleIds ▸ h)) (list_lt _ _))
/-! ### chosen -/
def outc (s : Sto) (f : List (Nat × Nat)) (p : List Nat × List (Nat × Rat)) : Outc := ⟨p.1, costP s p.2, distP s p.2 (mixP f)⟩
def betterF (w : Str) (b : Option Outc) (o : Outc) : Option Outc := match b with
  | none => some o
  | some x => if isB w o x = true then some o else some x
def bestF (s : Sto) (f : List (Nat × Nat)) (w : Str) (most : Int) (b : Option Outc) (p : List Nat × List (Nat × Rat)) : Option Outc :=
  if (decide (most < 0) || !decide ((most : Rat) < costP s p.2)) = true then betterF w b (outc s f p) else b
def chosenP (s : Sto) (f : List (Nat × Nat)) (w : Str) (most : Int) : Option Outc := (accP s f).foldl (bestF s f w most) none
theorem dist_Sm {s : Sto} {a b : List (Nat × Rat)} (hs : StoOk s) (ha : ShOk s.ms a) (hb : ShOk s.ms b) : Sm (distP s a b) := by
  obtain ⟨D, M, hD, hM, hbd⟩ := dist_sm hs ha hb
  refine (dsum_bd (hbd 0).1 hbd (List.range 6)).sm (Nat.lt_of_lt_of_le hD (pow_le (by decide))) ?_
  refine Nat.lt_of_lt_of_le (Nat.mul_lt_mul'' (show (List.range 6).length < 2 ^ 3 by decide) hM) ?_
  rw [← Nat.pow_add]
  exact pow_le (by decide)
theorem cost_Sm {s : Sto} {a : List (Nat × Rat)} (hs : StoOk s) (ha : ShOk s.ms a) : Sm (costP s a) := by
  have := wsum_sm hs ha (Nat.le_refl 1000000) (pr_le hs) a.length
  rwa [List.take_length] at this
theorem acc_ok {s : Sto} (hs : StoOk s) {f : List (Nat × Nat)} (ho : ForOk s.ms f) {p : List Nat × List (Nat × Rat)} (h : p ∈ accP s f) : ShOk s.ms p.2 := plan_ok hs ho (List.mem_filter.mp h).1
theorem out_Sm {s : Sto} (hs : StoOk s) {f : List (Nat × Nat)} (ho : ForOk s.ms f) {p : List Nat × List (Nat × Rat)} (h : p ∈ accP s f) : OSm (outc s f p) := ⟨cost_Sm hs (acc_ok hs ho h), dist_Sm hs (acc_ok hs ho h) ho.mix⟩
theorem best_mem {s : Sto} {f : List (Nat × Nat)} {w : Str} {most : Int} : ∀ (l : List (List Nat × List (Nat × Rat))) (b0 : Option Outc) {b : Outc}, l.foldl (bestF s f w most) b0 = some b → b0 = some b ∨ ∃ p ∈ l, b = outc s f p
  | [], b0, b, h => .inl h
  | p :: l, b0, b, h => by
    rcases best_mem l _ h with q | ⟨x, hx, q⟩
    · unfold bestF betterF at q
      split at q
      · cases b0 with
        | none => exact .inr ⟨p, List.mem_cons_self, (Option.some.inj q).symm⟩
        | some y =>
          simp only at q
          split at q
          · exact .inr ⟨p, List.mem_cons_self, (Option.some.inj q).symm⟩
          · exact .inl q
      · exact .inl q
    · exact .inr ⟨x, List.mem_cons_of_mem _ hx, q⟩
def sp_chosen (K : PySem.W.Frag) : Sp := spF (ι := (Sto × Nat × List (Nat × Nat)) × Str × Int) (fun i => [StoP K i.1.1, IntP (i.1.2.1 : Int), StrP i.2.1, IntP i.2.2]) (fun i => preF i.1 ∧ i.2.2 ≤ 1000000 ∧ -1 ≤ i.2.2) fun i => OptP (ChoP K) (chosenP i.1.1 i.1.2.2 i.2.1 i.2.2)
theorem ok_chosen (T : Txt K mg) : FnOk P w K mg base CX0 8 (He.fAd K ("chosen", none)) (fdOf K ("chosen", none)) ["store", "formula", "word", "most"] (sp_chosen K) := by
  refine T.D_chosen.ok sc_chosen (spF_len fun _ => rfl) (fun cdv A outer s H vs Q E hr h => ⟨_, PSs.nox (pss_cons (ps_par (i := 4) (j := 5) (by rfl) sc_chosen.nd rfl rfl (by decide) rfl rfl (pa_cons pe_non (pa_cons (pe_meth (pv 0) T.cl_Store T.mt_Store_mixture (ok_Store_mixture T) (hr.mono (by decide)) T.b_Store_mixture .nil pass0 (pa_cons (pv 1) pa_nil)) pa_nil)) (by rfl)) (pss_cons (ps_for PassesOwn.never rfl (pi_list (pe_meth (pv 0) T.cl_Store T.mt_Store_acceptable (ok_Store_acceptable T) (hr.mono (by decide)) T.b_Store_acceptable .nil pass0 (pa_cons (pv 1) pa_nil))) (pg_tup (n := 2) rfl (pgs_cons (pg_name (i := 6) sc_chosen.nd rfl (Or.inl rfl)) (pgs_cons (pg_name (i := 7) sc_chosen.nd rfl (Or.inl rfl)) pgs_nil))) (pss_cons (ps_set (i := 8) sc_chosen.nd rfl (Or.inl rfl) (pe_meth (pv 0) T.cl_Store T.mt_Store_cost_told (ok_Store_cost_told T) (hr.mono (by decide)) T.b_Store_cost_told .nil pass0 (pa_cons (pv 7) pa_nil))) (pss_one (ps_if (PW.pt (pw_or (pt_cmpR op_lt (pv 3) pe_int (nomark _)) (pw_or1 (pt_not (pt_val (pe_call (ok_is_less T) (hr.mono (by decide)) (by rfl) T.g_is_less T.k_is_less T.b_is_less .nil pass0 (pa_cons (pe_tup (pa_cons (pv 3) (pa_cons pe_int pa_nil))) (pa_cons (pv 8) pa_nil)))))))) (pss_cons (ps_set (i := 9) sc_chosen.nd rfl (Or.inl rfl) (pe_make T.mk_Choice (ok_Choice_init T) (hr.mono (by decide)) (by rfl) T.g_Choice T.b_Choice_init .nil pass0 (pa_cons (pv 6) (pa_cons (pv 8) (pa_cons (pe_meth (pv 0) T.cl_Store T.mt_Store_distance_told (ok_Store_distance_told T) (hr.mono (by decide)) T.b_Store_distance_told .nil pass0 (pa_cons (pv 7) (pa_cons (pv 5) pa_nil))) pa_nil))))) (pss_one (ps_if (PW.pt (pw_or (pt_cmpR op_isN1 (pv 4) pe_non (nomark _)) (pw_or1 (pt_val (pe_meth (pv 9) T.cl_Choice T.mt_Choice_is_before (ok_Choice_is_before T) (hr.mono (by decide)) T.b_Choice_is_before .nil pass0 (pa_cons (pv 4) (pa_cons (pv 2) pa_nil))))))) (pss_one (ps_set (i := 4) sc_chosen.nd rfl (Or.inl rfl) (pv 9))) pss_nil))) pss_nil)))) (pss_one (ps_ret (pv 4))))), ?_⟩)
  refine body_of h fun ⟨⟨s, n, f⟩, w, most⟩ ⟨⟨hs, hf, ho⟩, hm1, hm2⟩ F0 H0 => ?_
  have hm1 : most ≤ 1000000 := hm1
  have hm2 : -1 ≤ most := hm2
  refine ht_seq (ht_par (ea_cons ev_non (ea_cons (ev_meth (ev_var rfl) rfl (ea_cons (ev_var rfl) ea_nil) (spF_g (s, n, f) ⟨hf, ho⟩)) ea_nil))) ?_
  let G : Option Outc → List (Option VP) := fun b => [some (StoP K s), some (IntP (n : Int)), some (StrP w), some (IntP most), some (OptP (ChoP K) b), some (ShP (mixP f)), none, none, none, none]
  refine ht_seq (ht_forLT (l := accP s f) (f := fun p => numsP p.1) (f2 := fun p => ShP p.2) (β := fun _ => Unit) (ev_meth (ev_var rfl) rfl (ea_cons (ev_var rfl) ea_nil) (spF_g (s, n, f) ⟨hs, hf, ho⟩)) (fun i _ => G (((accP s f).take i).foldl (bestF s f w most) none)) (fun i _ => W0) R0 () ?_ hR0) (ht_ex fun _ => ?_)
  · intro F1 H1 i p _ hp
    have hpm := List.mem_of_getElem? hp
    have hsh := acc_ok hs ho hpm
    have hos := out_Sm hs ho hpm
    rw [take_fold hp]
    have hbm : ∀ b, ((accP s f).take i).foldl (bestF s f w most) none = some b → OSm b := fun b hb => by
      rcases best_mem _ _ hb with q | ⟨x, hx, q⟩
      · cases q
      · rw [q]; exact out_Sm hs ho (List.mem_of_mem_take hx)
    generalize ((accP s f).take i).foldl (bestF s f w most) none = best at hbm ⊢
    have smm : Sm (most : Rat) := by
      refine ⟨?_, ?_⟩
      · rw [Rat.num_intCast]
        exact small4000 (by omega)
      · rw [Rat.den_intCast]
        exact Nat.one_lt_two_pow (by decide)
    refine ht_seq (ht_set (ev_meth (ev_var rfl) rfl (ea_cons (ev_var rfl) ea_nil) (spF_g (s, p.2) ⟨hs, hsh⟩))) ?_
    have hbf : bestF s f w most best p = if (decide (most < 0) || !decide ((most : Rat) < costP s p.2)) = true then betterF w best (outc s f p) else best := rfl
    refine ht_if (et_or (et_test (ev_lt (ev_var rfl) ev_int)) fun _ => et_not (et_B (ev_call (ea_cons (ev_fr (i := most) (d := 1) (q := (most : Rat)) (ea_cons (ev_var rfl) (ea_cons ev_int ea_nil)) (Rat.num_intCast _).symm (Rat.den_intCast _).symm) (ea_cons (ev_var rfl) ea_nil)) (spF_g ((most : Rat), costP s p.2) ⟨smm, cost_Sm hs hsh⟩)))) (fun hc => ?_) fun hc => ?_
    · rw [hbf, if_pos hc]
      refine ht_seq (ht_set (P := ChoP K (outc s f p)) (ev_make (fs := ["numbers", "cost", "distance"]) (Ps := [numsP p.1, FrP (costP s p.2), FrP (distP s p.2 (mixP f))]) (ea_cons (ev_var rfl) (ea_cons (ev_var rfl) (ea_cons (ev_meth (ev_var rfl) rfl (ea_cons (ev_var rfl) (ea_cons (ev_var rfl) ea_nil)) (spF_g (s, p.2, mixP f) ⟨hs, hsh, ho.mix⟩)) ea_nil))))) ?_
      cases best with
      | none =>
        refine ht_if (b := true) (et_is (et_or (a := true) (b := true) (et_test (ev_isN (ev_var rfl) fun v F h => by rw [show v = V.non from h]; rfl)) (fun h => by cases h)) rfl) (fun _ => ?_) fun h => by cases h
        exact ht_post (B := TyA _ F1 H1 ((((((G none).set 6 (some (numsP p.1))).set 7 (some (ShP p.2))).set 8 (some (FrP (costP s p.2)))).set 9 (some (ChoP K (outc s f p)))).set 4 (some (ChoP K (outc s f p)))) W0) (fun σ H a => ⟨(), TyA.le (by repeat (first | exact trivial | refine ⟨.inl rfl, ?_⟩ | refine ⟨.inr rfl, ?_⟩)) σ H a⟩) (ht_set (ev_var rfl))
      | some b =>
        refine ht_if (et_is (et_or (a := false) (b := isB w (outc s f p) b) (et_test (ev_isN (ev_var rfl) fun v F ⟨a, dx, us, h, _⟩ => by rw [h]; rfl)) fun _ => et_B (ev_meth (ev_var rfl) rfl (ea_cons (ev_var (P := ChoP K b) rfl) (ea_cons (ev_var rfl) ea_nil)) (spF_g (outc s f p, b, w) ⟨hos, hbm b rfl⟩))) (Bool.false_or _)) (fun hb => ?_) fun hb => ?_
        · have e : betterF w (some b) (outc s f p) = some (outc s f p) := if_pos hb
          rw [e]
          exact ht_post (B := TyA _ F1 H1 ((((((G (some b)).set 6 (some (numsP p.1))).set 7 (some (ShP p.2))).set 8 (some (FrP (costP s p.2)))).set 9 (some (ChoP K (outc s f p)))).set 4 (some (ChoP K (outc s f p)))) W0) (fun σ H a => ⟨(), TyA.le (by repeat (first | exact trivial | refine ⟨.inl rfl, ?_⟩ | refine ⟨.inr rfl, ?_⟩)) σ H a⟩) (ht_set (ev_var rfl))
        · have e : betterF w (some b) (outc s f p) = some b := if_neg (by rw [hb]; decide)
          rw [e]
          exact ht_post (fun σ H a => ⟨(), TyA.le (by repeat (first | exact trivial | refine ⟨.inl rfl, ?_⟩ | refine ⟨.inr rfl, ?_⟩)) σ H a⟩) ht_next
    · rw [hbf, if_neg (by rw [hc]; decide)]
      exact ht_post (fun σ H a => ⟨(), TyA.le (by repeat (first | exact trivial | refine ⟨.inl rfl, ?_⟩ | refine ⟨.inr rfl, ?_⟩)) σ H a⟩) ht_next
  · rw [List.take_length]
    exact ht_ret (ev_var rfl)
end Sw
set_option maxRecDepth 100000
set_option maxHeartbeats 2000000
/-! # Reached materials -/
namespace Sw
open PySem L2
open SubstitutionSpec (Material Rule)
section
variable {N : Addr → Prop} {F0 H0 : Hp} {Γ Δ : List (Option VP)} {W W2 : Wd} {R : VK} {B : As} {t : TS} {F H : Hp} {σ : L2.St}
/-- the same told in other words -/
theorem TyA.reW (hX : W2.X = W.X) (hl : ∀ a, W2.loc a → W.loc a) (hg : ∀ F, W.g F → W2.g F) : ∀ σ H, TyA N F0 H0 Γ W σ H → TyA N F0 H0 Γ W2 σ H := fun σ H ⟨F, s⟩ =>
  ⟨F, s.n, ⟨s.ok.t, s.ok.s, by rw [hX]; exact s.ok.x, hg F s.ok.g, by rw [hX]; exact s.ok.xf⟩, fun a ha => s.l a (hl a ha), s.nn⟩
theorem upd_comm {X : Hp} {d l : Addr} {o u : HO} (h : d ≠ l) : upd (upd X d o) l u = upd (upd X l u) d o := by
  funext a
  by_cases c : a = l
  · subst c
    rw [upd_same, upd_ne (Ne.symm h), upd_same]
  · by_cases c2 : a = d
    · subst c2
      rw [upd_ne h, upd_same, upd_same]
    · rw [upd_ne c, upd_ne c2, upd_ne c2, upd_ne c]
theorem sw_dl {α : Type} {d l : Addr} {kvs : List (Key × V)} {Rf : α → VP} {es : List (Nat × α)} {xs : List V} {Ps : List VP} (h : d ≠ l) : ∀ σ H, TyA N F0 H0 Γ ((W.dct d kvs Rf es).lst l xs Ps) σ H → TyA N F0 H0 Γ ((W.lst l xs Ps).dct d kvs Rf es) σ H :=
  TyA.reW (upd_comm (Ne.symm h)) (fun a ha => (show a = d ∨ a = l ∨ W.loc a from ha).elim (fun e => .inr (.inl e)) fun e => e.elim .inl fun e => .inr (.inr e)) fun F hg => ⟨⟨hg.1.1, hg.2⟩, hg.1.2⟩
theorem sw_ld {α : Type} {d l : Addr} {kvs : List (Key × V)} {Rf : α → VP} {es : List (Nat × α)} {xs : List V} {Ps : List VP} (h : d ≠ l) : ∀ σ H, TyA N F0 H0 Γ ((W.lst l xs Ps).dct d kvs Rf es) σ H → TyA N F0 H0 Γ ((W.dct d kvs Rf es).lst l xs Ps) σ H :=
  TyA.reW (upd_comm h) (fun a ha => (show a = l ∨ a = d ∨ W.loc a from ha).elim (fun e => .inr (.inl e)) fun e => e.elim .inl fun e => .inr (.inr e)) fun F hg => ⟨⟨hg.1.1, hg.2⟩, hg.1.2⟩
/-- i, j = {}, [..] -/
theorem ht_parDL {α : Type} {i j : Nat} {Rf : α → VP} {ta : TA} {Ps : List VP} {G : Addr → Addr → List (Option VP)} (h : EvA ta Γ W Ps) (e : ∀ d l : Addr, (Γ.set i (some (IsP (.ref d)))).set j (some (IsP (.ref l))) = G d l) (hl : Ps.length ≤ sizeLine := by decide) :
    HT (TyA N F0 H0 Γ W) (tPar i j (tCons tDNewK (tCons (tLst ta) tNil))) (fun σ H => ∃ d l xs, d ≠ l ∧ TyA N F0 H0 (G d l) ((W.dct d [] Rf []).lst l xs Ps) σ H) R := fun σ H D ⟨F, s⟩ nx rt => by
  intro d hd
  have s1 : TyS N F0 H0 (Γ.set i (some (IsP (.ref d)))) (W.dct d [] Rf []) F (σ.set i (some (.ref d))) (upd H d (.dK [])) := s.fresh hd trivial
  have s1' : TyS N F0 H0 Γ (W.dct d [] Rf []) F σ (upd H d (.dK [])) := ⟨s1.n, ⟨s.ok.t, s1.ok.s, s1.ok.x, s1.ok.g, s1.ok.xf⟩, s1.l, s1.nn⟩
  have sW : TyS N F0 H0 Γ W F σ (upd H d (.dK [])) := s.next (New.loc s.ok.s hd)
  refine h σ F _ sW.ok _ fun xs F2 H2 n p => ⟨by rw [p.len]; exact hl, fun l hl' => ?_⟩
  have s2 := s1'.next n
  have hdl : d ≠ l := fun z => by
    subst z
    have := n.ex d _ upd_same
    rw [hl'] at this
    cases this
  have s3 : TyS N F0 H0 (Γ.set i (some (IsP (.ref d)))) (W.dct d [] Rf []) F2 (σ.set i (some (.ref d))) H2 := s2.set (P := IsP (.ref d)) rfl
  exact ⟨.ref d, .ref l, rfl, nx _ _ ⟨d, l, xs, hdl, F2, e d l ▸ s3.fresh hl' p⟩⟩
theorem ht_and {φ : Prop} {A : As} (h : φ → HT A t B R) : HT (fun σ H => φ ∧ A σ H) t B R := fun σ H D ⟨p, a⟩ nx rt => h p σ H D a nx rt
end
def BlP (b : Bool) : VP := BoolP b
/-- what the search keeps: es found, line to do -/
structure RIn (s : Sto) (m : Nat) (es : List (Nat × Bool)) (line : List Nat) : Prop where
  nd : (Pl.keysA es).Nodup
  sub : ∀ k ∈ Pl.keysA es, k ∈ Pl.reachL s.rs m 24
  ln : ∀ x ∈ line, x = m ∨ x ∈ Pl.keysA es
/-- what a material is replaced by is found -/
def Cld (s : Sto) (es : List (Nat × Bool)) (y : Nat) : Prop := ∀ e ∈ s.rs, e.2.material = y → ∀ p ∈ e.2.replacements, p.1 ∈ Pl.keysA es
def musz (es : List (Nat × Bool)) (line : List Nat) : Nat := 25 * (24 - es.length) + line.length
structure RAt (s : Sto) (m : Nat) (es : List (Nat × Bool)) (line : List Nat) : Prop where
  i : RIn s m es line
  sz : musz es line ≤ 601
  c : ∀ y, y = m ∨ y ∈ Pl.keysA es → y ∈ line ∨ Cld s es y
/-- within the turn for x: the first i rules are done, and j replacements of the next -/
structure RTn (s : Sto) (m x mu : Nat) (done : List (Nat × Rule)) (part : List (Nat × Nat)) (es : List (Nat × Bool)) (line : List Nat) : Prop where
  i : RIn s m es line
  xi : x = m ∨ x ∈ Pl.keysA es
  c : ∀ y, y = m ∨ y ∈ Pl.keysA es → y = x ∨ y ∈ line ∨ Cld s es y
  d : ∀ e ∈ done, e.2.material = x → ∀ p ∈ e.2.replacements, p.1 ∈ Pl.keysA es
  p : ∀ p ∈ part, p.1 ∈ Pl.keysA es
  mui : musz es line < mu
theorem RIn.len {s : Sto} {m : Nat} {es : List (Nat × Bool)} {line : List Nat} (h : RIn s m es line) : es.length ≤ 24 := by
  have := keys_len 24 h.nd fun k hk => Pl.reach_lt (h.sub k hk)
  rwa [Pl.keysA, List.length_map] at this
theorem keys_mono {es : List (Nat × Bool)} {t k : Nat} (h : k ∈ Pl.keysA es) : k ∈ Pl.keysA (Pl.putA es t true) := by
  rw [Pl.keys_put]
  split
  · exact h
  · exact List.mem_append_left _ h
theorem key_new {es : List (Nat × Bool)} {t : Nat} : t ∈ Pl.keysA (Pl.putA es t true) := by
  rw [Pl.keys_put]
  split
  · assumption
  · exact List.mem_append_right _ (List.mem_singleton.mpr rfl)
/-- one more is found -/
theorem RTn.add {s : Sto} (hs : StoOk s) {m x mu : Nat} {done : List (Nat × Rule)} {part : List (Nat × Nat)} {es : List (Nat × Bool)} {line : List Nat} (h : RTn s m x mu done part es line) {e : Nat × Rule} (he : e ∈ s.rs) (hx : e.2.material = x) {p : Nat × Nat} (hp : p ∈ e.2.replacements) (hn : p.1 ∉ Pl.keysA es) :
    RTn s m x mu done (part ++ [p]) (Pl.putA es p.1 true) (line ++ [p.1]) := by
  have hb : ∀ e ∈ s.rs, ∀ p ∈ e.2.replacements, p.1 < 24 := fun e he p hp => hs.k24 ((hs.ri e he).2.reps p hp).1
  have hput : Pl.putA es p.1 true = es ++ [(p.1, true)] := put_new hn
  have hkeys : Pl.keysA (Pl.putA es p.1 true) = Pl.keysA es ++ [p.1] := by rw [Pl.keys_put, if_neg hn]
  have hin : p.1 ∈ Pl.reachL s.rs m 24 := Pl.reach_closed hb he (hx ▸ h.xi.imp id (h.i.sub x)) hp
  have hcl : ∀ y, Cld s es y → Cld s (Pl.putA es p.1 true) y := fun y hy e he q p hp => keys_mono (hy e he q p hp)
  have hi : RIn s m (Pl.putA es p.1 true) (line ++ [p.1]) := by
    refine ⟨Pl.nodup_put _ _ h.i.nd, fun k hk => ?_, fun y hy => ?_⟩
    · rw [hkeys] at hk
      rcases List.mem_append.mp hk with q | q
      · exact h.i.sub k q
      · rw [List.mem_singleton.mp q]; exact hin
    · rcases List.mem_append.mp hy with q | q
      · exact (h.i.ln y q).imp id keys_mono
      · rw [List.mem_singleton.mp q]; exact .inr key_new
  refine ⟨hi, h.xi.imp id keys_mono, fun y hy => ?_, fun e he q p hp => keys_mono (h.d e he q p hp), fun q hq => ?_, ?_⟩
  · rw [hkeys] at hy
    have : (y = m ∨ y ∈ Pl.keysA es) ∨ y = p.1 := by
      rcases hy with q | q
      · exact .inl (.inl q)
      · rcases List.mem_append.mp q with q | q
        · exact .inl (.inr q)
        · exact .inr (List.mem_singleton.mp q)
    rcases this with q | q
    · rcases h.c y q with q | q | q
      · exact .inl q
      · exact .inr (.inl (List.mem_append_left _ q))
      · exact .inr (.inr (hcl y q))
    · exact .inr (.inl (List.mem_append_right _ (List.mem_singleton.mpr q)))
  · rcases List.mem_append.mp hq with q | q
    · exact keys_mono (h.p _ q)
    · rw [List.mem_singleton.mp q]; exact key_new
  · have hl := hi.len
    have hm := h.mui
    unfold musz at hm ⊢
    rw [hput, List.length_append, List.length_singleton] at hl ⊢
    rw [List.length_append, List.length_singleton]
    omega
variable {P : Program} {w : World} {K : PySem.W.Frag} {mg : Str → Option Value} {base : Heap}
def sp_reached (K : PySem.W.Frag) : Sp := spF (ι := Sto × Nat) (fun i => [StoP K i.1, IntP (i.2 : Int)]) (fun i => StoOk i.1) fun i => numsP (Pl.reachL i.1.rs i.2 24)
theorem ok_Store_reached (T : Txt K mg) : FnOk P w K mg base CX0 2 (He.fAd K ("Store", some "reached")) (fdOf K ("Store", some "reached")) ["self", "material"] (sp_reached K) := by
  refine T.D_Store_reached.ok sc_Store_reached (spF_len fun _ => rfl) (fun cdv A outer s H vs Q E hr h => ⟨_, PSs.nox (pss_cons (ps_par (i := 2) (j := 3) (by rfl) sc_Store_reached.nd rfl rfl (by decide) rfl rfl (pa_cons pe_dnewK (pa_cons (pe_lst (pa_cons (pv 1) pa_nil)) pa_nil)) (by rfl)) (pss_cons (ps_while PassesOwn.never (pt_tru (pv 3)) (pss_cons (ps_set (i := 4) sc_Store_reached.nd rfl (Or.inl rfl) (pe_bm0 PySem.F.plainAttrs_list PySem.F.slot_list_pop PySem.F.type_list_pop mt_pop (pv 3))) (pss_one (ps_lk (ps_for PassesOwn.never rfl (pi_keys (pe_fld (pv 0) rfl)) (pg_name (i := 5) sc_Store_reached.nd rfl (Or.inl rfl)) (pss_cons (ps_set (i := 6) sc_Store_reached.nd rfl (Or.inl rfl) (pe_dget (hu_of hr) (pe_fld (pv 0) rfl) (pv 5) (fun _ _ => rfl))) (pss_one (ps_if (pt_cmpR op_eq (pe_fld (pv 6) rfl) (pv 4) (nomark _)) (pss_one (ps_for PassesOwn.never rfl (pi_list (pe_fld (pv 6) rfl)) (pg_tup (n := 2) rfl (pgs_cons (pg_name (i := 7) sc_Store_reached.nd rfl (Or.inl rfl)) (pgs_cons (pg_name (i := 8) sc_Store_reached.nd rfl (Or.inl rfl)) pgs_nil))) (pss_one (ps_if (pt_cmp (pc_dnotin (hu_of hr) (pv 7) (pv 2))) (pss_cons (ps_dput (hu_of hr) (pv 2) (pv 7) pe_bl rfl) (pss_one (ps_expr (pe_bm PySem.F.plainAttrs_list PySem.F.slot_list_append PySem.F.type_list_append mt_append (pv 3) (pa_cons (pv 7) pa_nil))))) pss_nil)))) pss_nil)))))))) (pss_one (ps_ret (pe_callB (cr_sortedDI rfl) (by rfl) T.f_sorted bb_sorted (pa_cons (pv 2) pa_nil)))))), ?_⟩)
  refine body_of h fun ⟨s, m⟩ hs F0 H0 => ?_
  refine ht_seq (ht_parDL (Rf := BlP) (Ps := [IntP (m : Int)]) (G := fun d l => [some (StoP K s), some (IntP (m : Int)), some (IsP (.ref d)), some (IsP (.ref l)), none, none, none, none, none]) (ea_cons (ev_var rfl) ea_nil) (fun d l => rfl) (show 1 ≤ sizeLine by decide)) (ht_ex fun d => ht_ex fun l => ht_ex fun xs0 => ht_and fun hdl => ?_)
  let G : List (Option VP) := [some (StoP K s), some (IntP (m : Int)), some (IsP (.ref d)), some (IsP (.ref l)), none, none, none, none, none]
  let Wl : List (Key × V) → List (Nat × Bool) → List V → List Nat → Wd := fun kvs es xs line => (W0.dct d kvs BlP es).lst l xs (line.map fun (n : Nat) => IntP (n : Int))
  have h0 : RAt s m [] [m] := ⟨⟨List.Pairwise.nil, fun k hk => absurd hk (by simp [Pl.keysA]), fun x hx => .inl (List.mem_singleton.mp hx)⟩, (show 25 * (24 - 0) + 1 ≤ 601 by decide), fun y hy => .inl (by rcases hy with q | q; exact List.mem_singleton.mpr q; simp [Pl.keysA] at q)⟩
  refine ht_seq (B := fun σ H => ∃ (kvs : List (Key × V)) (es : List (Nat × Bool)), RAt s m es [] ∧ ∃ xs, TyA No F0 H0 G (Wl kvs es xs []) σ H)
    (ht_whileT (β := {z : (List (Key × V) × List (Nat × Bool)) × (List V × List Nat) // RAt s m z.1.2 z.2.2}) (fun z => G) (fun z => Wl z.1.1.1 z.1.1.2 z.1.2.1 z.1.2.2) (fun z => musz z.1.1.2 z.1.2.2) ⟨(([], []), (xs0, [m])), h0⟩ (fun σ H a => a) (fun z => !(z.1.2.2.map fun (n : Nat) => IntP (n : Int)).isEmpty) (fun z => et_truM (i := 3) rfl) (fun ⟨⟨⟨kvs, es⟩, ⟨xs, line⟩⟩, hz⟩ go => ?_) (fun ⟨⟨⟨kvs, es⟩, ⟨xs, line⟩⟩, hz⟩ go => ?_)) (ht_ex fun kvs => ht_ex fun es => ht_and fun hz => ht_ex fun xs => ?_)
  · have hne : line ≠ [] := by
      rintro rfl
      cases go
    obtain ⟨ini, x, rfl⟩ : ∃ ini x, line = ini ++ [x] := ⟨line.dropLast, line.getLast hne, (List.dropLast_concat_getLast hne).symm⟩
    have hz : RAt s m es (ini ++ [x]) := hz
    show HT (TyA No F0 H0 G ((W0.dct d kvs BlP es).lst l xs ((ini ++ [x]).map fun (n : Nat) => IntP (n : Int)))) _ _ _
    rw [show (ini ++ [x]).map (fun (n : Nat) => IntP (n : Int)) = ini.map (fun (n : Nat) => IntP (n : Int)) ++ [IntP (x : Int)] by rw [List.map_append]; rfl]
    refine ht_seq (ht_lpop (i := 3) (j := 4) (G := []) rfl) (ht_ex fun xs1 => ?_)
    have t0 : RTn s m x (musz es (ini ++ [x])) [] [] es ini := by
      refine ⟨⟨hz.i.nd, hz.i.sub, fun y hy => hz.i.ln y (List.mem_append_left _ hy)⟩, hz.i.ln x (by simp), fun y hy => ?_, fun e he => absurd he (by simp), fun e he => absurd he (by simp), ?_⟩
      · rcases hz.c y hy with q | q
        · rcases List.mem_append.mp q with q | q
          · exact .inr (.inl q)
          · exact .inl (List.mem_singleton.mp q)
        · exact .inr (.inr q)
      · unfold musz
        rw [List.length_append, List.length_singleton]
        omega
    let Gx : List (Option VP) := G.set 4 (some (IntP (x : Int)))
    let β : List (Nat × Rule) → List (Nat × Nat) → Type := fun dn pt => {z : (List (Key × V) × List (Nat × Bool)) × (List V × List Nat) // RTn s m x (musz es (ini ++ [x])) dn pt z.1.2 z.2.2}
    refine ht_post ?_ (ht_forKB (Rf := RulP K) (es := s.rs) (β := fun i => β (s.rs.take i) []) (vv_fld (vv_var rfl) T.cl_Store T.na_Store_rules rfl) (fun i z => Gx) (fun i z => Wl z.1.1.1 z.1.1.2 z.1.2.1 z.1.2.2) ⟨((kvs, es), (xs1, ini)), t0⟩ ?_)
    · rintro σ H ⟨⟨⟨⟨kvs2, es2⟩, ⟨xs2, line2⟩⟩, ht⟩, a⟩
      rw [List.take_length] at ht
      refine ⟨⟨((kvs2, es2), (xs2, line2)), ht.i, Nat.le_of_lt (Nat.lt_of_lt_of_le ht.mui hz.sz), fun y hy => ?_⟩, ht.mui, TyA.le (by repeat (first | exact trivial | refine ⟨.inl rfl, ?_⟩ | refine ⟨.inr rfl, ?_⟩)) σ H a⟩
      rcases ht.c y hy with q | q | q
      · subst q
        exact .inr fun e he hm => ht.d e he hm
      · exact .inl q
      · exact .inr q
    · rintro F1 H1 i e ⟨⟨⟨kvs1, es1⟩, ⟨xs1, line1⟩⟩, ht⟩ he
      have hem := List.mem_of_getElem? he
      have hro := (hs.ri e hem).2
      refine ht_seq (ht_set (ev_rul (T.ruls (ev_var rfl)) (ev_var rfl) (Pl.mem_getA hs.rn hem))) ?_
      refine ht_if (et_test (ev_eqI (T.rmat (ev_var rfl)) (ev_var rfl))) (fun hx => ?_) fun hx => ?_
      · have hx : e.2.material = x := by
          have := of_decide_eq_true hx
          omega
        have ht : RTn s m x (musz es (ini ++ [x])) (s.rs.take i) [] es1 line1 := ht
        refine ht_post ?_ (ht_forLT (l := e.2.replacements) (f := fun p => IntP (p.1 : Int)) (f2 := fun p => IntP (p.2 : Int)) (j := 7) (k := 8) (β := fun j => β (s.rs.take i) (e.2.replacements.take j)) (T.rrep (ev_var rfl)) (fun j z => (Gx.set 5 (some (IntP (e.1 : Int)))).set 6 (some (RulP K e.2))) (fun j z => Wl z.1.1.1 z.1.1.2 z.1.2.1 z.1.2.2) R0 ⟨((kvs1, es1), (xs1, line1)), ht⟩ ?_ hR0)
        · rintro σ H ⟨⟨⟨⟨kvs2, es2⟩, ⟨xs2, line2⟩⟩, ht2⟩, a⟩
          rw [List.take_length] at ht2
          refine ⟨⟨((kvs2, es2), (xs2, line2)), ht2.i, ht2.xi, ht2.c, fun e' he' hm => ?_, fun p hp => absurd hp (by simp), ht2.mui⟩, TyA.le (by repeat (first | exact trivial | refine ⟨.inl rfl, ?_⟩ | refine ⟨.inr rfl, ?_⟩)) σ H a⟩
          rw [take_next he] at he'
          rcases List.mem_append.mp he' with q | q
          · exact ht2.d e' q hm
          · rw [List.mem_singleton.mp q]
            exact ht2.p
        · rintro F2 H2 j p ⟨⟨⟨kvs2, es2⟩, ⟨xs2, line2⟩⟩, ht2⟩ hp
          have hpm := List.mem_of_getElem? hp
          have ht2 : RTn s m x (musz es (ini ++ [x])) (s.rs.take i) (e.2.replacements.take j) es2 line2 := ht2
          have hln : line2.length < 16000000 := by
            have h1 := ht2.mui
            have h2 := hz.sz
            unfold musz at h1 h2
            omega
          refine ht_pre (sw_dl hdl) ?_
          refine ht_if (et_B (ev_dninM (i := 2) (n := p.1) (ev_var rfl) rfl)) (fun hb => ?_) fun hb => ?_
          · have hn : p.1 ∉ Pl.keysA es2 := by
              intro q
              obtain ⟨y, hy⟩ := key_get q
              rw [hy] at hb
              cases hb
            have hel := ht2.i.len
            have hel2 : es2.length < 1000000 := by omega
            refine ht_seq (ht_dput (i := 2) (n := p.1) (x := true) rfl (ev_var rfl) ev_bl hel2) (ht_ex fun kvs3 => ?_)
            refine ht_pre (sw_ld hdl) (ht_post ?_ (ht_append (i := 3) (P := IntP (p.1 : Int)) rfl (ev_var rfl) (by rw [List.length_map]; exact hln)))
            rintro σ H ⟨ys, a⟩
            have hq : RTn s m x (musz es (ini ++ [x])) (s.rs.take i) (e.2.replacements.take (j + 1)) (Pl.putA es2 p.1 true) (line2 ++ [p.1]) := by
              rw [take_next hp]
              exact ht2.add hs hem hx hpm hn
            refine ⟨⟨((kvs3, Pl.putA es2 p.1 true), (ys, line2 ++ [p.1])), hq⟩, TyA.le (Γ := ((((G.set 4 (some (IntP (x : Int)))).set 5 (some (IntP (e.1 : Int)))).set 6 (some (RulP K e.2))).set 7 (some (IntP (p.1 : Int)))).set 8 (some (IntP (p.2 : Int)))) (by repeat (first | exact trivial | refine ⟨.inl rfl, ?_⟩ | refine ⟨.inr rfl, ?_⟩)) σ H ?_⟩
            · show TyA _ _ _ _ ((W0.dct d kvs3 BlP (Pl.putA es2 p.1 true)).lst l ys ((line2 ++ [p.1]).map fun (n : Nat) => IntP (n : Int))) σ H
              rw [List.map_append]
              exact a
          · have hn : p.1 ∈ Pl.keysA es2 := by
              cases q : Pl.getA es2 p.1 with
              | none => rw [q] at hb; cases hb
              | some y => exact get_key q
            refine ht_pre (sw_ld hdl) (ht_post ?_ ht_next)
            intro σ H a
            refine ⟨⟨((kvs2, es2), (xs2, line2)), ht2.i, ht2.xi, ht2.c, ht2.d, fun q hq => ?_, ht2.mui⟩, TyA.le (by repeat (first | exact trivial | refine ⟨.inl rfl, ?_⟩ | refine ⟨.inr rfl, ?_⟩)) σ H a⟩
            rw [take_next hp] at hq
            rcases List.mem_append.mp hq with z | z
            · exact ht2.p q z
            · rw [List.mem_singleton.mp z]; exact hn
      · have hx : e.2.material ≠ x := by
          have := of_decide_eq_false hx
          omega
        refine ht_post ?_ ht_next
        intro σ H a
        have ht : RTn s m x (musz es (ini ++ [x])) (s.rs.take i) [] es1 line1 := ht
        refine ⟨⟨((kvs1, es1), (xs1, line1)), ht.i, ht.xi, ht.c, fun e' he' hm => ?_, ht.p, ht.mui⟩, TyA.le (by repeat (first | exact trivial | refine ⟨.inl rfl, ?_⟩ | refine ⟨.inr rfl, ?_⟩)) σ H a⟩
        rw [take_next he] at he'
        rcases List.mem_append.mp he' with q | q
        · exact ht.d e' q hm
        · exact absurd (List.mem_singleton.mp q ▸ hm) hx
  · have hle : line = [] := by
      cases line with
      | nil => rfl
      | cons _ _ => cases go
    subst hle
    exact fun σ H a => ⟨kvs, es, hz, xs, a⟩
  · refine ht_pre (fun σ H a => frz_dct (i := 2) (W := W0.lst l xs _) (Rf := BlP) (es := es) rfl ?_ ?_ id rfl σ H (sw_dl hdl σ H a)) ?_
    · show upd W0.X l _ d = none
      rw [upd_ne hdl]; rfl
    · exact fun h => (show d = l ∨ False from h).elim hdl id
    · have hb : ∀ e ∈ s.rs, ∀ p ∈ e.2.replacements, p.1 < 24 := fun e he p hp => hs.k24 ((hs.ri e he).2.reps p hp).1
      have hcl : ∀ y, y = m ∨ y ∈ Pl.keysA es → Cld s es y := fun y hy => (hz.c y hy).resolve_left (by simp)
      have hfin : srt (Pl.keysA es) = Pl.reachL s.rs m 24 := by
        refine (srt_one ?_ ((Pl.reach_asc 24).imp Nat.le_of_lt)).symm
        refine (List.perm_ext_iff_of_nodup ((Pl.reach_asc 24).imp Nat.ne_of_lt) hz.i.nd).mpr fun t => ⟨fun ht => ?_, hz.i.sub t⟩
        exact Pl.reach_least (C := Pl.keysA es) (fun e he hy p hp => hcl e.2.material hy e he rfl p hp) 24 t ht
      refine ht_ret (ev_isL (ev_sortedN (Rf := BlP) (ev_var rfl) (Nat.lt_of_le_of_lt hz.i.len (by decide))) ?_)
      rw [hfin]
end Sw
set_option maxRecDepth 100000
set_option maxHeartbeats 2000000
/-! # Cycles -/
namespace Sw
open PySem L2
open SubstitutionSpec (Material Rule)
theorem ev_un {Γ : List (Option VP)} {W : Wd} {te : TE} {i : Int} (h : EvG te Γ W (IntP i)) : EvG (tUn (rU fun i => .int (-i)) te) Γ W (IntP (-i)) := fun σ F H o Q k => h σ F H o _ fun v F2 H2 n p => ⟨i, p, k _ F2 H2 n rfl⟩
def feedsN (s : Sto) (a b : Nat) : Bool := match Pl.getA s.rs a, Pl.getA s.rs b with
  | some r, some r' => r.feeds r'
  | _, _ => false
/-- may be put behind a path that begins with a and ends with z -/
def cand (s : Sto) (path : List Nat) (n : Nat) : Bool := decide (path.headD 0 < n) && (!decide (n ∈ path) && feedsN s (path.getLastD 0) n)
/-- the first cycle that goes on from the path with d rules more -/
def cyF (s : Sto) : Nat → List Nat → List Nat
  | 0, path => if feedsN s (path.getLastD 0) (path.headD 0) = true then path else []
  | d + 1, path => match (numsOf s).find? (fun n => cand s path n && !(cyF s d (path ++ [n])).isEmpty) with
    | some n => cyF s d (path ++ [n])
    | none => []
structure CyI where
  s : Sto
  path : List Nat
  many : Nat
structure CyOk (d : Nat) (i : CyI) : Prop where
  ok : StoOk i.s
  ne : i.path ≠ []
  mem : ∀ n ∈ i.path, n ∈ Pl.keysA i.s.rs
  len : i.path.length + d = i.many
  ten : i.many ≤ 11
def sp_cf (K : PySem.W.Frag) (d : Nat) : Sp := spF (ι := CyI) (fun i => [StoP K i.s, numsP i.path, IntP (i.many : Int)]) (CyOk d) fun i => numsP (cyF i.s d i.path)
variable {P : Program} {w : World} {K : PySem.W.Frag} {mg : Str → Option Value} {base : Heap}
theorem nums_at {ns : List Nat} {i : Int} {n : Nat} (h : atI ns i = some n) : atI (ns.map fun (n : Nat) => IntP (n : Int)) i = some (IntP (n : Int)) := by
  unfold atI at *
  rw [List.length_map]
  obtain ⟨j, h1, h2⟩ := Option.bind_eq_some_iff.mp h
  rw [h1]
  show (ns.map _)[j]? = _
  rw [List.getElem?_map, h2]; rfl
theorem getLast_at {ns : List Nat} (h : ns ≠ []) : atI ns (-1) = some (ns.getLastD 0) := by
  have e := (List.dropLast_concat_getLast h).symm
  have e2 : ns.getLastD 0 = ns.getLast h := by
    cases ns with
    | nil => exact absurd rfl h
    | cons a l => rfl
  rw [e2]
  conv => lhs; rw [e]
  exact atI_last _ _
theorem head_at {ns : List Nat} (h : ns ≠ []) : atI ns 0 = some (ns.headD 0) := by
  cases ns with
  | nil => exact absurd rfl h
  | cons a l => exact atI_nat (j := 0) rfl
theorem last_mem {ns : List Nat} (h : ns ≠ []) : ns.getLastD 0 ∈ ns := by
  cases ns with
  | nil => exact absurd rfl h
  | cons a l => show (a :: l).getLast _ ∈ _; exact List.getLast_mem _
theorem head_mem {ns : List Nat} (h : ns ≠ []) : ns.headD 0 ∈ ns := by
  cases ns with
  | nil => exact absurd rfl h
  | cons a l => exact List.mem_cons_self
theorem feeds_eq {s : Sto} {a b : Nat} {r r' : Rule} (h : Pl.getA s.rs a = some r) (h' : Pl.getA s.rs b = some r') : feedsN s a b = r.feeds r' := by
  unfold feedsN
  rw [h, h']
theorem niN {Γ : List (Option VP)} {W : Wd} {ta tb : TE} {n : Nat} {ns : List Nat} (ha : EvG ta Γ W (IntP (n : Int))) (hb : EvG tb Γ W (numsP ns)) : EvG (tOp (rIn K true) ta tb) Γ W (BoolP (!decide (n ∈ ns))) := by
  refine ev_isB (ev_niL ha (ev_isL hb (nums_list ns))) ?_
  congr 1
  rw [Bool.eq_iff_iff, decide_eq_true_eq, decide_eq_true_eq, List.mem_map]
  constructor
  · rintro ⟨m, hm, e⟩
    have : m = n := by omega
    exact this ▸ hm
  · intro h
    exact ⟨n, h, rfl⟩
where nums_list (ns : List Nat) : (ns.map fun (n : Nat) => IntP (n : Int)) = (ns.map fun (n : Nat) => (n : Int)).map IntP := by rw [List.map_map]; rfl
theorem cf_step (T : Txt K mg) (d : Nat) {sp' : Sp} (ok_Store_cycle_from : Txt K mg → FnOk P w K mg base CX0 (d + 2) (He.fAd K ("Store", some "cycle_from")) (fdOf K ("Store", some "cycle_from")) ["self", "path", "many"] sp')
    (hsp : ∀ i : CyI, ∀ d', d = d' + 1 → CyOk d' i → SpG sp' W0 [StoP K i.s, numsP i.path, IntP (i.many : Int)] (numsP (cyF i.s d' i.path))) :
    FnOk P w K mg base CX0 (d + 3) (He.fAd K ("Store", some "cycle_from")) (fdOf K ("Store", some "cycle_from")) ["self", "path", "many"] (sp_cf K d) := by
  refine T.D_Store_cycle_from.ok sc_Store_cycle_from (spF_len fun _ => rfl) (fun cdv A outer s H vs Q E hr h => ⟨_, PSs.nox (pss_cons (ps_set (i := 3) sc_Store_cycle_from.nd rfl (Or.inl rfl) (pe_dget (hu_of hr) (pe_fld (pv 0) rfl) (pe_ix ix_list (pv 1) (pe_un un_neg pe_int) (fun _ _ => rfl)) (fun _ _ => rfl))) (pss_cons (ps_if (pt_cmpR op_eq (pe_callB cr_lenSeq (by rfl) T.f_len bb_len (pa_cons (pv 1) pa_nil)) (pv 2) (nomark _)) (pss_one (ps_ret (pe_ifExp (pt_val (pe_meth (pv 3) T.cl_Rule T.mt_Rule_feeds (ok_Rule_feeds T) (hr.mono (by first | decide | omega)) T.b_Rule_feeds .nil pass0 (pa_cons (pe_dget (hu_of hr) (pe_fld (pv 0) rfl) (pe_ix ix_list (pv 1) pe_int (fun _ _ => rfl)) (fun _ _ => rfl)) pa_nil))) (pv 1) (pe_lst pa_nil)))) pss_nil) (pss_cons (ps_for PassesOwn.never rfl (pi_list (pe_callB (cr_sortedDI rfl) (by rfl) T.f_sorted bb_sorted (pa_cons (pe_fld (pv 0) rfl) pa_nil))) (pg_name (i := 4) sc_Store_cycle_from.nd rfl (Or.inl rfl)) (pss_one (ps_if (PW.pt (pw_and (pt_cmpR op_gt (pv 4) (pe_ix ix_list (pv 1) pe_int (fun _ _ => rfl)) (nomark _)) (pw_and (pt_cmpR op_notIn_seq (pv 4) (pv 1) (by rfl)) (pw_and1 (pt_val (pe_meth (pv 3) T.cl_Rule T.mt_Rule_feeds (ok_Rule_feeds T) (hr.mono (by first | decide | omega)) T.b_Rule_feeds .nil pass0 (pa_cons (pe_dget (hu_of hr) (pe_fld (pv 0) rfl) (pv 4) (fun _ _ => rfl)) pa_nil))))))) (pss_cons (ps_set (i := 5) sc_Store_cycle_from.nd rfl (Or.inl rfl) (pe_meth (pv 0) T.cl_Store T.mt_Store_cycle_from (ok_Store_cycle_from T) (hr.mono (by first | decide | omega)) T.b_Store_cycle_from .nil pass0 (pa_cons (pe_op op_cat (pv 1) (pe_lst (pa_cons (pv 4) pa_nil))) (pa_cons (pv 2) pa_nil)))) (pss_one (ps_if (pt_tru (pv 5)) (pss_one (ps_ret (pv 5))) pss_nil))) pss_nil))) (pss_one (ps_ret (pe_lst pa_nil)))))), ?_⟩)
  refine body_of h fun ⟨s, path, many⟩ ⟨hs, hne, hmem, hlen, hten⟩ F0 H0 => ?_
  have hne : path ≠ [] := hne
  have hlen : path.length + d = many := hlen
  have hten : many ≤ 11 := hten
  obtain ⟨rl, hrl⟩ := key_get (hmem _ (last_mem hne))
  obtain ⟨rh, hrh⟩ := key_get (hmem _ (head_mem hne))
  have hrl : Pl.getA s.rs (path.getLastD 0) = some rl := hrl
  have hrh : Pl.getA s.rs (path.headD 0) = some rh := hrh
  have hrok := (hs.ri _ (Pl.getA_mem hrl)).2
  refine ht_seq (ht_set (ev_rul (T.ruls (ev_var rfl)) (ev_ixL (P := IntP (path.getLastD 0 : Int)) (ev_var (P := numsP path) rfl) (ev_un ev_int) (nums_at (getLast_at hne))) hrl)) ?_
  refine ht_guard (et_test (ev_eqI (ev_cb (ea_cons (ev_var (P := numsP path) rfl) ea_nil) cb_lenL) (ev_var rfl))) (fun hb => ?_) fun hb => ?_
  · have hd : d = 0 := by
      have := of_decide_eq_true hb
      rw [List.length_map] at this
      have : (path.length : Int) = (many : Int) := this
      omega
    subst hd
    refine ht_ret (ev_if (et_B (ev_meth (ev_var rfl) rfl (ea_cons (ev_rul (T.ruls (ev_var rfl)) (ev_ixL (P := IntP (path.headD 0 : Int)) (ev_var (P := numsP path) rfl) ev_int (nums_at (head_at hne))) hrh) ea_nil) (spF_g (rl, rh) hrok.some.2))) (fun hf => ?_) fun hf => ?_)
    · have e : cyF s 0 path = path := by
        show (if feedsN s (path.getLastD 0) (path.headD 0) = true then path else []) = _
        rw [feeds_eq hrl hrh, if_pos hf]
      show EvG _ _ _ (numsP (cyF s 0 path))
      rw [e]
      exact ev_var rfl
    · have e : cyF s 0 path = [] := by
        show (if feedsN s (path.getLastD 0) (path.headD 0) = true then path else []) = _
        rw [feeds_eq hrl hrh, if_neg (by rw [hf]; decide)]
      show EvG _ _ _ (numsP (cyF s 0 path))
      rw [e]
      exact ev_lst ea_nil
  · obtain ⟨d', rfl⟩ : ∃ d', d = d' + 1 := ⟨d - 1, by
      have := of_decide_eq_false hb
      rw [List.length_map] at this
      have : ¬ (path.length : Int) = (many : Int) := this
      omega⟩
    have hcy : cyF s (d' + 1) path = match (numsOf s).find? (fun n => cand s path n && !(cyF s d' (path ++ [n])).isEmpty) with | some n => cyF s d' (path ++ [n]) | none => [] := rfl
    show HT _ _ _ (RetP No F0 H0 (numsP (cyF s (d' + 1) path)))
    refine ht_seq (ht_forL (l := numsOf s) (f := fun (n : Nat) => IntP (n : Int)) (β := fun i => {u : Unit // ∀ n ∈ (numsOf s).take i, (cand s path n && !(cyF s d' (path ++ [n])).isEmpty) = false}) (ev_sortedN (T.ruls (ev_var rfl)) (Nat.lt_of_le_of_lt hs.rl (by decide))) (fun i _ => [some (StoP K s), some (numsP path), some (IntP (many : Int)), some (RulP K rl), none, none]) (fun i _ => W0) (fun N F H => RetP N F H (numsP (cyF s (d' + 1) path))) ⟨(), fun k hk => by simp at hk⟩ ?_ hRP) (ht_ex fun ⟨_, hno⟩ => ?_)
    · intro F1 H1 i n ⟨_, hu⟩ hn
      have hnk := nums_mem (List.mem_of_getElem? hn)
      obtain ⟨rn, hrn⟩ := key_get hnk
      refine ht_if (et_is (et_and (et_test (ev_gt (ev_var rfl) (ev_ixL (P := IntP (path.headD 0 : Int)) (ev_var (P := numsP path) rfl) ev_int (nums_at (head_at hne))))) fun _ => et_and (et_test (niN (ev_var rfl) (ev_var rfl))) fun _ => et_B (ev_meth (ev_var rfl) rfl (ea_cons (ev_rul (T.ruls (ev_var rfl)) (ev_var rfl) hrn) ea_nil) (spF_g (rl, rn) hrok.some.2))) (b := cand s path n) ?_) (fun hc => ?_) fun hc => ?_
      · unfold cand
        rw [feeds_eq hrl hrn]
        congr 1
        rw [Bool.eq_iff_iff, decide_eq_true_eq, decide_eq_true_eq]
        omega
      · refine ht_seq (ht_set (P := numsP (cyF s d' (path ++ [n]))) (ev_meth (ev_var rfl) rfl (ea_cons (ev_isL (ev_cat (ev_var (P := numsP path) rfl) (ev_lst (ea_cons (ev_var (P := IntP (n : Int)) rfl) ea_nil) (show 1 ≤ sizeLine by decide)) (sz_le (by rw [List.length_map]; show path.length + 1 ≤ 16000000; omega))) (Qs := (path ++ [n]).map fun (n : Nat) => IntP (n : Int)) (by rw [List.map_append]; rfl)) (ea_cons (ev_var rfl) ea_nil)) (hsp ⟨s, path ++ [n], many⟩ d' rfl ⟨hs, by simp, fun x hx => (List.mem_append.mp hx).elim (hmem x) fun q => List.mem_singleton.mp q ▸ hnk, by show (path ++ [n]).length + d' = many; rw [List.length_append, List.length_singleton]; omega, hten⟩))) ?_
        refine ht_if (et_truL (ev_var (P := numsP (cyF s d' (path ++ [n]))) rfl)) (fun hb => ?_) fun hb => ?_
        · have hfd := find_at (p := fun n => cand s path n && !(cyF s d' (path ++ [n])).isEmpty) hu hn (by
            rw [hc, Bool.true_and]
            rw [List.isEmpty_map] at hb
            exact hb)
          rw [hcy, hfd]
          exact ht_ret (ev_var rfl)
        · refine ht_post (fun σ H a => ⟨⟨(), take_all (p := fun n => cand s path n && !(cyF s d' (path ++ [n])).isEmpty) hn hu ?_⟩, TyA.le (by repeat (first | exact trivial | refine ⟨.inl rfl, ?_⟩ | refine ⟨.inr rfl, ?_⟩)) σ H a⟩) ht_next
          rw [hc, Bool.true_and]
          rw [List.isEmpty_map] at hb
          exact hb
      · refine ht_post (fun σ H a => ⟨⟨(), take_all (p := fun n => cand s path n && !(cyF s d' (path ++ [n])).isEmpty) hn hu ?_⟩, TyA.le (by repeat (first | exact trivial | refine ⟨.inl rfl, ?_⟩ | refine ⟨.inr rfl, ?_⟩)) σ H a⟩) ht_next
        rw [hc, Bool.false_and]
    · rw [hcy, find_no (p := fun n => cand s path n && !(cyF s d' (path ++ [n])).isEmpty) hno]
      exact ht_ret (ev_lst ea_nil (show 0 ≤ sizeLine by decide))
theorem ok_cf (T : Txt K mg) : ∀ d, FnOk P w K mg base CX0 (d + 3) (He.fAd K ("Store", some "cycle_from")) (fdOf K ("Store", some "cycle_from")) ["self", "path", "many"] (sp_cf K d)
  | 0 => cf_step T 0 (sp' := fun _ _ _ _ => False) (fun _ => ⟨fun _ _ _ _ h => h.elim, fun _ _ _ _ _ _ _ _ _ _ _ _ _ h => h.elim⟩) fun i d' e => by cases e
  | d + 1 => cf_step T (d + 1) (fun T => ok_cf T d) fun i d' e h => by cases e; exact spF_g i h
def sp_cfU (K : PySem.W.Frag) : Sp := fun vs H Q E => ∃ d, d ≤ 9 ∧ sp_cf K d vs H Q E
theorem ok_Store_cycle_from (T : Txt K mg) : FnOk P w K mg base CX0 12 (He.fAd K ("Store", some "cycle_from")) (fdOf K ("Store", some "cycle_from")) ["self", "path", "many"] (sp_cfU K) :=
  ⟨fun vs H Q E ⟨d, _, i, F, _, a, _⟩ => by rw [a.len]; rfl, fun A outer s H args us vs Q E hr h0 hb hv ⟨d, hd, h⟩ => ((ok_cf T d).mono (by omega)).run A outer s H args us vs Q E hr h0 hb hv h⟩
theorem cfU_g {W : Wd} {s : Sto} {path : List Nat} {many d : Nat} (hd : d ≤ 9) (h : CyOk d ⟨s, path, many⟩) : SpG (sp_cfU K) W [StoP K s, numsP path, IntP (many : Int)] (numsP (cyF s d path)) := fun vs F H a q x g Q E k => ⟨d, hd, spF_g (Ps := fun i : CyI => [StoP K i.s, numsP i.path, IntP (i.many : Int)]) (Rr := fun i => numsP (cyF i.s d i.path)) ⟨s, path, many⟩ h vs F H a q x g Q E k⟩
/-- the first cycle of so many rules -/
def cyLen (s : Sto) (many : Nat) : List Nat := match (numsOf s).find? (fun n => !(cyF s (many - 1) [n]).isEmpty) with
  | some n => cyF s (many - 1) [n]
  | none => []
def cycP (s : Sto) : List Nat := match ((List.range (s.rs.length - 1)).map fun i => i + 2).find? (fun m => !(cyLen s m).isEmpty) with
  | some m => cyLen s m
  | none => []
def sp_cycle (K : PySem.W.Frag) : Sp := spF (ι := Sto) (fun s => [StoP K s]) StoOk fun s => numsP (cycP s)
theorem ok_Store_cycle (T : Txt K mg) : FnOk P w K mg base CX0 13 (He.fAd K ("Store", some "cycle")) (fdOf K ("Store", some "cycle")) ["self"] (sp_cycle K) := by
  refine T.D_Store_cycle.ok sc_Store_cycle (spF_len fun _ => rfl) (fun cdv A outer s H vs Q E hr h => ⟨_, PSs.nox (pss_cons (ps_for PassesOwn.never rfl (pi_range2 (by rfl) T.f_range (pa_cons pe_int (pa_cons (pe_op op_add (pe_callB cr_lenD (by rfl) T.f_len bb_len (pa_cons (pe_fld (pv 0) rfl) pa_nil)) pe_int) pa_nil))) (pg_name (i := 1) sc_Store_cycle.nd rfl (Or.inl rfl)) (pss_one (ps_for PassesOwn.never rfl (pi_list (pe_callB (cr_sortedDI rfl) (by rfl) T.f_sorted bb_sorted (pa_cons (pe_fld (pv 0) rfl) pa_nil))) (pg_name (i := 2) sc_Store_cycle.nd rfl (Or.inl rfl)) (pss_cons (ps_set (i := 3) sc_Store_cycle.nd rfl (Or.inl rfl) (pe_meth (pv 0) T.cl_Store T.mt_Store_cycle_from (ok_Store_cycle_from T) (hr.mono (by decide)) T.b_Store_cycle_from .nil pass0 (pa_cons (pe_lst (pa_cons (pv 2) pa_nil)) (pa_cons (pv 1) pa_nil)))) (pss_one (ps_if (pt_tru (pv 3)) (pss_one (ps_ret (pv 3))) pss_nil)))))) (pss_one (ps_ret (pe_lst pa_nil)))), ?_⟩)
  refine body_of h fun s hs F0 H0 => ?_
  have hrl := hs.rl
  let L : List Nat := (List.range (s.rs.length - 1)).map fun i => i + 2
  have hL : ∀ i, i < s.rs.length - 1 → L[i]? = some (i + 2) := fun i hi => by
    show ((List.range (s.rs.length - 1)).map fun i => i + 2)[i]? = _
    rw [List.getElem?_map, List.getElem?_range hi]; rfl
  have hLl : L.length = s.rs.length - 1 := by
    show ((List.range (s.rs.length - 1)).map fun i => i + 2).length = _
    rw [List.length_map, List.length_range]
  have hcy : cycP s = match L.find? (fun m => !(cyLen s m).isEmpty) with | some m => cyLen s m | none => [] := rfl
  let G : List (Option VP) := [some (StoP K s), none, none, none]
  have hn : ((s.rs.length : Int) + 1 - 2).toNat = s.rs.length - 1 := by omega
  refine ht_seq (ht_forG (js := [1]) (g := gName 1) (β := fun i => {u : Unit // ∀ m ∈ L.take i, (!(cyLen s m).isEmpty) = false}) (it_range2 (lo := 2) (hi := (s.rs.length : Int) + 1) ev_int (ev_add (ev_cb (ea_cons (T.ruls (ev_var rfl)) ea_nil) cb_lenD) ev_int) (by omega) (by omega) (by omega) (by omega)) (fun i _ => G) (fun i _ => W0) (fun i _ => G.set 1 (some (IntP (2 + (i : Int))))) (fun N F H => RetP N F H (numsP (cycP s))) ⟨(), fun k hk => by simp at hk⟩ (fun i x hi => tg_name) ?_ hRP) (ht_ex fun ⟨_, hno⟩ => ?_)
  · rintro F1 H1 i ⟨_, hu⟩ hi
    rw [hn] at hi
    have hi2 := hL i hi
    have hmany : (2 + (i : Int)) = ((i + 2 : Nat) : Int) := by omega
    refine ht_seq (ht_forL (l := numsOf s) (f := fun (n : Nat) => IntP (n : Int)) (β := fun j => {u : Unit // ∀ n ∈ (numsOf s).take j, (!(cyF s (i + 1) [n]).isEmpty) = false}) (ev_sortedN (T.ruls (ev_var rfl)) (Nat.lt_of_le_of_lt hs.rl (by decide))) (fun j _ => [some (StoP K s), some (IntP (2 + (i : Int))), none, none]) (fun j _ => W0) (fun N F H => RetP N F H (numsP (cycP s))) ⟨(), fun k hk => by simp at hk⟩ ?_ hRP) (ht_ex fun ⟨_, hno⟩ => ?_)
    · rintro F2 H2 j n ⟨_, hv⟩ hnn
      have hnk := nums_mem (List.mem_of_getElem? hnn)
      refine ht_seq (ht_set (P := numsP (cyF s (i + 1) [n])) (ev_meth (ev_var rfl) rfl (ea_cons (ev_lst (ea_cons (ev_var (P := IntP (n : Int)) rfl) ea_nil) (show 1 ≤ sizeLine by decide)) (ea_cons (ev_is (ev_var rfl) hmany) ea_nil)) (cfU_g (d := i + 1) (path := [n]) (many := i + 2) (by omega) ⟨hs, by simp, fun x hx => List.mem_singleton.mp hx ▸ hnk, by show 1 + (i + 1) = i + 2; omega, by show i + 2 ≤ 11; omega⟩))) ?_
      refine ht_if (et_truL (ev_var (P := numsP (cyF s (i + 1) [n])) rfl)) (fun hb => ?_) fun hb => ?_
      · rw [List.isEmpty_map] at hb
        have e1 : cyLen s (i + 2) = cyF s (i + 1) [n] := by
          unfold cyLen
          rw [show i + 2 - 1 = i + 1 by omega, find_at (p := fun n => !(cyF s (i + 1) [n]).isEmpty) hv hnn hb]
        have e2 := find_at (p := fun m => !(cyLen s m).isEmpty) hu hi2 (by rw [e1]; exact hb)
        rw [hcy, e2]
        show HT _ _ _ (RetP _ _ _ (numsP (cyLen s (i + 2))))
        rw [e1]
        exact ht_ret (ev_var rfl)
      · rw [List.isEmpty_map] at hb
        exact ht_post (fun σ H a => ⟨⟨(), take_all (p := fun n => !(cyF s (i + 1) [n]).isEmpty) hnn hv hb⟩, TyA.le (by repeat (first | exact trivial | refine ⟨.inl rfl, ?_⟩ | refine ⟨.inr rfl, ?_⟩)) σ H a⟩) ht_next
    · refine ht_post (fun σ H a => ⟨⟨(), take_all (p := fun m => !(cyLen s m).isEmpty) hi2 hu ?_⟩, TyA.le (by repeat (first | exact trivial | refine ⟨.inl rfl, ?_⟩ | refine ⟨.inr rfl, ?_⟩)) σ H a⟩) ht_next
      unfold cyLen
      rw [show i + 2 - 1 = i + 1 by omega, find_no (p := fun n => !(cyF s (i + 1) [n]).isEmpty) hno]
      rfl
  · rw [hn, ← hLl] at hno
    rw [hcy, find_no (p := fun m => !(cyLen s m).isEmpty) hno]
    exact ht_ret (ev_lst ea_nil (show 0 ≤ sizeLine by decide))
end Sw
set_option maxRecDepth 100000
set_option maxHeartbeats 2000000
/-! # Refusals, pairs -/
namespace Sw
open PySem L2
open SubstitutionSpec (Material Rule)
section
variable {K : PySem.W.Frag} {mg : Str → Option Value}
theorem Txt.xf (T : Txt K mg) : XfC K (refA K) := xfB_ok T.parts.2.2.2.1
theorem Txt.keepR (T : Txt K mg) : PySem.W.keepIn K (.ref (refA K)) = true := He.keep_ok (T.fact 107 (f := .keep "Refused") rfl)
theorem Txt.exmR (T : Txt K mg) : PySem.W.exmOne K (.ref (refA K)) (.ref (refA K)) = some true := He.exm_ok (T.fact 108 (f := .exm "Refused" "Refused" true) rfl)
theorem Txt.oex (T : Txt K mg) : OexC K (refA K) := ⟨oexB_ok T.parts.2.2.1, T.parts.2.2.2.2.1, T.xf.exC, T.parts.2.2.2.2.2.1, T.keepR⟩
theorem Txt.rinit (T : Txt K mg) : PySem.W.findIn K (.ref (refA K)) "__init__" = some (some (.ref (refI K))) := T.parts.2.2.2.2.2.2.1
theorem Txt.rinitT (T : Txt K mg) : PySem.W.typeIn K (.ref (refI K)) = some (.type "function") := T.parts.2.2.2.2.2.2.2.1
end
variable {P : Program} {w : World} {K : PySem.W.Frag} {mg : Str → Option Value} {base : Heap}
def spRI (C : Addr) : Sp := fun vs H Q _ => ∃ (a : Addr) (c : V), vs = [.ref a, c] ∧ H a = some (exo a C none) ∧ ∀ dx, H dx = none → dx ≠ a → Q .non (upd (upd H dx (exd dx [(("code" : Str), c)])) a (exo a C (some dx)))
theorem ok_Refused_init (T : Txt K mg) : FnOk P w K mg base CX0 2 (He.fAd K ("Refused", some "__init__")) (fdOf K ("Refused", some "__init__")) ["self", "code"] (spRI (refA K)) := by
  refine T.D_Refused_init.ok sc_Refused_init (fun vs H Q E ⟨a, c, e, _⟩ => by rw [e]; rfl) (fun cdv A outer s H vs Q E hr h => ⟨_, PSs.nox (pss_one (ps_ost (pv 0) (pv 1))), ?_⟩)
  obtain ⟨a, c, rfl, ha, k⟩ := h
  refine ⟨c, rfl, _, rfl, a, refA K, rfl, T.oex, T.na_Refused_code, .inl ⟨ha, fun dx h1 h2 => k dx h1 h2⟩⟩
theorem spNeed_len {CR : Addr} (vs : List V) (H : Hp) (Q : VK) (E : XK) : spNeed CR vs H Q E → vs.length = 2 := fun ⟨b, c, F, e, _⟩ => by rw [e]; rfl
theorem ok_need (T : Txt K mg) : FnOk P w K mg base (L2.CX P w) 4 (He.fAd K ("need", none)) (fdOf K ("need", none)) ["is_right", "code"] (spNeed (refA K)) := by
  refine T.D_need.ok sc_need (spNeed_len) (fun cdv A outer s H vs Q E hr h => ⟨_, (pss_one (ps_if (pt_not (pt_val (pv 0))) (pss_one (ps_raise rfl (takes_of rfl rfl rfl rfl) (pmk_oex T.oex T.rinit T.rinitT (ok_Refused_init T) (hr.mono (by decide)) T.b_Refused_init .nil pass0 (by rfl) T.g_Refused (pa_cons (pv 1) pa_nil)))) pss_nil)), ?_⟩)
  obtain ⟨b, c, F, rfl, hs, h1, h2⟩ := h
  refine ⟨_, rfl, b, rfl, ?_⟩
  cases b with
  | true => exact (h1 rfl).here hs rfl
  | false =>
    refine ⟨.int c, rfl, by show 1 ≤ 1000; decide, fun a ha => ⟨a, .int c, rfl, upd_same, fun dx hdx hne => ⟨rfl, dx, [(("code" : Str), .int c)], upd_same, ?_, ?_, ?_⟩⟩⟩
    · rw [upd_ne hne, upd_same]
    · rw [upd_ne hne] at hdx; exact hdx
    · have hdx' : H dx = none := by rw [upd_ne hne] at hdx; exact hdx
      have e : upd (del (upd (upd (upd H a (exo a (refA K) none)) dx (exd dx [(("code" : Str), .int c)])) a (exo a (refA K) (some dx))) a) dx (.xd [(("code" : Str), .int c)]) = upd H dx (.xd [(("code" : Str), .int c)]) := by
        funext x
        by_cases q : x = dx
        · subst q
          rw [upd_same, upd_same]
        · rw [upd_ne q, upd_ne q]
          by_cases z : x = a
          · subst z
            rw [del_same, ha]
          · rw [del_ne z, upd_ne z, upd_ne q, upd_ne z]
      have q := h2 rfl F _ dx (New.loc (o := .xd [(("code" : Str), .int c)]) hs hdx') upd_same
      rw [← e] at q
      exact q
/-! ### within bounds -/
def allIn (lo hi : Int) (ns : List Int) : Bool := ns.all fun n => decide (lo ≤ n) && decide (n ≤ hi)
def IntsP (ns : List Int) : VP := LstP (ns.map IntP)
def sp_within : Sp := spF (ι := List Int × Int × Int) (fun i => [IntsP i.1, IntP i.2.1, IntP i.2.2]) (fun i => i.1.length < 16000000) fun i => BoolP (allIn i.2.1 i.2.2 i.1)
theorem ok_are_within (T : Txt K mg) : FnOk P w K mg base CX0 2 (He.fAd K ("are_within", none)) (fdOf K ("are_within", none)) ["numbers", "least", "most"] sp_within := by
  refine T.D_are_within.ok sc_are_within (spF_len fun _ => rfl) (fun cdv A outer s H vs Q E hr h => ⟨_, PSs.nox (pss_one (ps_ret (pe_callB (cr_all rfl) (by rfl) T.f_all bb_all (pa_cons (pe_lc (own := [("number", 3)]) rfl sc_are_within.nd (pi_list (pv 0)) (blkOk_by (N := ["numbers", "least", "most", "number"]) (sc := defScope s_are_within) (by decide +kernel)) (fun _ _ _ _ _ => (pg_name (i := 3) sc_are_within.nd rfl (Or.inl rfl) (Or.inr rfl))) (fun _ _ _ _ _ => pts_nil) (fun _ _ _ _ _ => (pe_chain op_le op_le (pv 1) (pv 3) (pv 2)))) pa_nil)))), ?_⟩)
  refine body_of h fun ⟨ns, lo, hi⟩ hl F0 H0 => ?_
  refine ht_ret (ev_isB (ev_cb (ea_cons (ev_isL (ev_lcL (l := ns) (f := IntP) (ev_var rfl) (fun _ => true) (fun n => BoolP (decide (lo ≤ n) && decide (n ≤ hi))) (fun _ _ => et_yes) (fun n _ _ => ev_chainI (ev_var rfl) (ev_var rfl) (ev_var rfl)) hl) (Qs := (ns.map fun n => decide (lo ≤ n) && decide (n ≤ hi)).map BoolP) (by rw [filter_yes, List.map_map]; rfl)) ea_nil) cb_all) ?_)
  unfold allIn
  rw [List.all_map]
  rfl
/-! ### pairs -/
theorem toPairs_some : ∀ {row : List Int}, row.length % 2 = 0 → ∃ prs, SubstitutionSpec.toPairs row = some prs ∧ prs.length * 2 = row.length ∧ ∀ i x, prs[i]? = some x → row[2 * i]? = some x.1 ∧ row[2 * i + 1]? = some x.2
  | [], _ => ⟨[], rfl, rfl, fun i x h => by simp at h⟩
  | [_], h => by simp at h
  | a :: b :: r, h => by
    obtain ⟨prs, h1, h2, h3⟩ := toPairs_some (row := r) (by simp only [List.length_cons] at h; omega)
    refine ⟨(a, b) :: prs, ?_, ?_, fun i x hx => ?_⟩
    · show (SubstitutionSpec.toPairs r).map _ = _
      rw [h1]; rfl
    · simp only [List.length_cons]; omega
    · cases i with
      | zero =>
        have : (a, b) = x := by simpa using hx
        subst this
        exact ⟨rfl, rfl⟩
      | succ i =>
        obtain ⟨q1, q2⟩ := h3 i x (by simpa using hx)
        refine ⟨?_, ?_⟩
        · rw [show 2 * (i + 1) = 2 * i + 1 + 1 by omega, List.getElem?_cons_succ, List.getElem?_cons_succ]; exact q1
        · rw [show 2 * (i + 1) + 1 = 2 * i + 1 + 1 + 1 by omega, List.getElem?_cons_succ, List.getElem?_cons_succ]; exact q2
theorem toPairs_none : ∀ {row : List Int}, row.length % 2 = 1 → SubstitutionSpec.toPairs row = none
  | [], h => by simp at h
  | [_], _ => rfl
  | a :: b :: r, h => by
    show (SubstitutionSpec.toPairs r).map _ = _
    rw [toPairs_none (row := r) (by simp only [List.length_cons] at h; omega)]; rfl
def IPairP (p : Int × Int) : VP := TupP [IntP p.1, IntP p.2]
def outP (row : List Int) (most greatest : Nat) : Except Int VP := match SubstitutionSpec.parseParts row most greatest with
  | some ps => .ok (LstP (ps.map PairP))
  | none => .error (-1)
def sp_pairs : Sp := spX (ι := List Int × Nat × Nat) (refA K) (fun i => [IntsP i.1, IntP (i.2.1 : Int), IntP (i.2.2 : Int)]) (fun i => i.1.length ≤ 22 ∧ i.2.1 ≤ 10) fun i => outP i.1 i.2.1 i.2.2
theorem all_two {α : Type} {f g : α → Bool} : ∀ l : List α, (l.all fun x => f x && g x) = (l.all f && l.all g)
  | [] => rfl
  | a :: l => by
    rw [List.all_cons, List.all_cons, List.all_cons, all_two l]
    cases f a <;> cases g a <;> cases l.all f <;> rfl
theorem rg_two : ∀ k, k < 23 → k % 2 = 0 → Builtin.Range.small 0 ((k : Nat) : Int) 2 = true ∧ Builtin.Range.rangeSize 0 ((k : Nat) : Int) 2 = ((k / 2 : Nat) : Int) := by decide +kernel
theorem ite_two {α : Type} {p q : Prop} [Decidable p] [Decidable q] {a b : α} (h : p ↔ q) : (if p then a else b) = if q then a else b := by
  by_cases c : p
  · rw [if_pos c, if_pos (h.mp c)]
  · rw [if_neg c, if_neg fun z => c (h.mpr z)]
theorem parse_some {row : List Int} {prs : List (Int × Int)} {most greatest : Nat} (h : SubstitutionSpec.toPairs row = some prs) :
    SubstitutionSpec.parseParts row most greatest = if 1 ≤ prs.length ∧ prs.length ≤ most ∧ (allIn 0 23 (prs.map fun p => p.1) = true ∧ (prs.map fun p => p.1).Nodup) ∧ allIn 1 greatest (prs.map fun p => p.2) = true then some (prs.map fun p => (p.1.toNat, p.2.toNat)) else none := by
  unfold SubstitutionSpec.parseParts
  rw [h]
  simp only
  have key : (prs.all fun p => SubstitutionSpec.isIdentifier SubstitutionSpec.materialCount p.1 && SubstitutionSpec.inRange 1 greatest p.2) = (allIn 0 23 (prs.map fun p => p.1) && allIn 1 greatest (prs.map fun p => p.2)) := by
    unfold allIn
    rw [List.all_map, List.all_map, ← all_two]
    congr 1
    funext p
    simp only [Function.comp]
    unfold SubstitutionSpec.isIdentifier SubstitutionSpec.inRange
    show (decide (0 ≤ p.1) && decide (p.1 < ((24 : Nat) : Int)) && _) = (decide (0 ≤ p.1) && decide (p.1 ≤ 23) && _)
    congr 2
    rw [Bool.eq_iff_iff, decide_eq_true_eq, decide_eq_true_eq]
    omega
  refine ite_two ?_
  rw [key, Bool.and_eq_true]
  constructor
  · rintro ⟨a, b, ⟨c, d⟩, e⟩; exact ⟨a, b, ⟨c, e⟩, d⟩
  · rintro ⟨a, b, ⟨c, e⟩, d⟩; exact ⟨a, b, ⟨c, d⟩, e⟩
theorem ok_pairs (T : Txt K mg) : FnOk P w K mg base (L2.CX P w) 5 (He.fAd K ("pairs", none)) (fdOf K ("pairs", none)) ["row", "most", "greatest"] (sp_pairs (K := K)) := by
  refine T.D_pairs.ok sc_pairs (spX_len fun _ => rfl) (fun cdv A outer s H vs Q E hr h => ⟨_, (pss_cons (ps_expr (pe_call (ok_need T) (hr.mono (by decide)) (by rfl) T.g_need T.k_need T.b_need .nil (passes_call (takes_of rfl rfl rfl rfl) fun _ _ _ _ h => h) (pa_cons (pe_and (pe_cmpR op_eq (pe_op op_modN (pe_callB cr_lenSeq (by rfl) T.f_len bb_len (pa_cons (pv 0) pa_nil)) pe_int) pe_int (nomark _)) (pe_one (pe_chain op_le op_le pe_int (pe_callB cr_lenSeq (by rfl) T.f_len bb_len (pa_cons (pv 0) pa_nil)) (pe_op op_mulW pe_int (pv 1))))) (pa_cons (pe_un un_neg pe_int) pa_nil)))) (pss_cons (ps_setLc (i := 3) (own := [("at", 5)]) rfl sc_pairs.nd rfl rfl (sw_true rfl rfl rfl (by decide +kernel)) (pi_range3 (by rfl) T.f_range (pa_cons pe_int (pa_cons (pe_callB cr_lenSeq (by rfl) T.f_len bb_len (pa_cons (pv 0) pa_nil)) (pa_cons pe_int pa_nil)))) (blkOk_by (N := ["row", "most", "greatest", "found", "materials", "at", "material", "amount"]) (sc := defScope s_pairs) (by decide +kernel)) (fun _ _ _ _ _ => (pg_name (i := 5) sc_pairs.nd rfl (Or.inl rfl) (Or.inr rfl))) (fun _ _ _ _ _ => pts_nil) (fun _ _ _ _ _ => (pe_tup (pa_cons (pe_ix (ix_listK (K := K)) (pv 0) (pv 5) (fun _ _ => rfl)) (pa_cons (pe_ix (ix_listK (K := K)) (pv 0) (pe_op op_add (pv 5) pe_int) (fun _ _ => rfl)) pa_nil))))) (pss_cons (ps_setLc (i := 4) (own := [("material", 6), ("amount", 7)]) rfl sc_pairs.nd rfl rfl (sw_true rfl rfl rfl (by decide +kernel)) (pi_list (pv 3)) (blkOk_by (N := ["row", "most", "greatest", "found", "materials", "at", "material", "amount"]) (sc := defScope s_pairs) (by decide +kernel)) (fun _ _ _ _ _ => (pg_tupK (K := K) (n := 2) rfl (pgs_cons (pg_name (i := 6) sc_pairs.nd rfl (Or.inl rfl) (Or.inr rfl)) (pgs_cons (pg_name (i := 7) sc_pairs.nd rfl (Or.inl rfl) (Or.inr rfl)) pgs_nil)))) (fun _ _ _ _ _ => pts_nil) (fun _ _ _ _ _ => (pv 6))) (pss_cons (ps_expr (pe_call (ok_need T) (hr.mono (by decide)) (by rfl) T.g_need T.k_need T.b_need .nil (passes_call (takes_of rfl rfl rfl rfl) fun _ _ _ _ h => h) (pa_cons (pe_and (pe_call (ok_are_within T) (hr.mono (by decide)) (by rfl) T.g_are_within T.k_are_within T.b_are_within .nil pass0 (pa_cons (pv 4) (pa_cons pe_int (pa_cons (pe_globI T.i_MATERIALS (by rfl)) pa_nil)))) (pe_one (pe_cmpR op_eq (pe_lenSetG T.f_len T.f_set (pv 4)) (pe_callB cr_lenSeq (by rfl) T.f_len bb_len (pa_cons (pv 4) pa_nil)) (nomark _)))) (pa_cons (pe_un un_neg pe_int) pa_nil)))) (pss_cons (ps_expr (pe_call (ok_need T) (hr.mono (by decide)) (by rfl) T.g_need T.k_need T.b_need .nil (passes_call (takes_of rfl rfl rfl rfl) fun _ _ _ _ h => h) (pa_cons (pe_call (ok_are_within T) (hr.mono (by decide)) (by rfl) T.g_are_within T.k_are_within T.b_are_within .nil pass0 (pa_cons (pe_lc (own := [("material", 6), ("amount", 7)]) rfl sc_pairs.nd (pi_list (pv 3)) (blkOk_by (N := ["row", "most", "greatest", "found", "materials", "at", "material", "amount"]) (sc := defScope s_pairs) (by decide +kernel)) (fun _ _ _ _ _ => (pg_tupK (K := K) (n := 2) rfl (pgs_cons (pg_name (i := 6) sc_pairs.nd rfl (Or.inl rfl) (Or.inr rfl)) (pgs_cons (pg_name (i := 7) sc_pairs.nd rfl (Or.inl rfl) (Or.inr rfl)) pgs_nil)))) (fun _ _ _ _ _ => pts_nil) (fun _ _ _ _ _ => (pv 7))) (pa_cons pe_int (pa_cons (pv 2) pa_nil)))) (pa_cons (pe_un un_neg pe_int) pa_nil)))) (pss_one (ps_ret (pv 3)))))))), ?_⟩)
  refine body_ofX h fun ⟨row, most, greatest⟩ ⟨hl, hm⟩ F0 H0 R hR hE => ?_
  have hl : row.length ≤ 22 := hl
  have hm : most ≤ 10 := hm
  have hfe : SubstitutionSpec.parseParts row most greatest = none → RetX (refA K) F0 H0 E (-1) := fun e => hE (-1) (by show outP row most greatest = _; unfold outP; rw [e])
  refine ht_need (b := decide ((row.length : Int).fmod 2 = 0) && (decide ((2 : Int) ≤ row.length) && decide ((row.length : Int) ≤ 2 * (most : Int)))) (ev_andV (ev_eqI (ev_modN (ev_cb (ea_cons (ev_var (P := IntsP row) rfl) ea_nil) (by have := cb_lenL (K := K) (Ps := row.map IntP) (W := W0); rwa [List.length_map] at this)) ev_int (by decide)) ev_int) fun _ => ev_chainI ev_int (ev_cb (ea_cons (ev_var (P := IntsP row) rfl) ea_nil) (by have := cb_lenL (K := K) (Ps := row.map IntP) (W := W0); rwa [List.length_map] at this)) (ev_mulW ev_int (ev_var rfl) (wide_mul (a := 2) (b := 4) (by decide) (by omega) (by decide) (by decide) (by decide)))) (ev_un ev_int) (fun hb => ?_) fun hb => ?_
  · apply hfe
    by_cases c : row.length % 2 = 0
    · obtain ⟨prs, h1, h2, h3⟩ := toPairs_some c
      rw [parse_some h1, if_neg]
      rintro ⟨q1, q2, _⟩
      have : (decide ((row.length : Int).fmod 2 = 0) && (decide ((2 : Int) ≤ row.length) && decide ((row.length : Int) ≤ 2 * (most : Int)))) = true := by
        rw [Bool.and_eq_true, Bool.and_eq_true, decide_eq_true_eq, decide_eq_true_eq, decide_eq_true_eq, Int.fmod_eq_emod_of_nonneg _ (by decide)]
        omega
      rw [this] at hb
      cases hb
    · unfold SubstitutionSpec.parseParts
      rw [toPairs_none (by omega)]
  · rw [Bool.and_eq_true, Bool.and_eq_true, decide_eq_true_eq, decide_eq_true_eq, decide_eq_true_eq, Int.fmod_eq_emod_of_nonneg _ (by decide)] at hb
    obtain ⟨hb1, hb2, hb3⟩ := hb
    obtain ⟨prs, h1, h2, h3⟩ := toPairs_some (row := row) (by omega)
    have hpl : prs.length ≤ 11 := by omega
    have hat : ∀ (i : Nat) (x : Int × Int), prs[i]? = some x → atI (row.map IntP) (0 + (i : Int) * 2) = some (IntP x.1) ∧ atI (row.map IntP) (0 + (i : Int) * 2 + 1) = some (IntP x.2) := fun i x hx => by
      obtain ⟨q1, q2⟩ := h3 i x hx
      have e1 : (0 + (i : Int) * 2) = ((2 * i : Nat) : Int) := by omega
      have e2 : (0 + (i : Int) * 2 + 1) = ((2 * i + 1 : Nat) : Int) := by omega
      rw [e2, e1]
      exact ⟨atI_nat (by rw [List.getElem?_map, q1]; rfl), atI_nat (by rw [List.getElem?_map, q2]; rfl)⟩
    refine ht_seq (ht_set (P := LstP (prs.map IPairP)) (ev_isL (ev_lc (it_range3 (n := prs.length) ev_int (ev_cb (ea_cons (ev_var (P := IntsP row) rfl) ea_nil) (by have := cb_lenL (K := K) (Ps := row.map IntP) (W := W0); rwa [List.length_map] at this)) ev_int ?_) (fun i => (wipeG [some (IntsP row), some (IntP (most : Int)), some (IntP (greatest : Int)), none, none, none, none, none] [5]).set 5 (some (IntP (0 + (i : Int) * 2)))) (fun _ => true) (fun i => IPairP (prs.getD i (0, 0))) (fun i hi => tg_name) (fun _ _ => et_yes) (fun i hi _ => ?_) (by omega)) ?_)) ?_
    · obtain ⟨r1, r2⟩ := rg_two row.length (by omega) (by omega)
      refine ⟨by decide, by decide, r1, ?_⟩
      rw [r2]
      omega
    · obtain ⟨x, hx⟩ := lt_get hi
      obtain ⟨q1, q2⟩ := hat i x hx
      rw [show prs.getD i (0, 0) = x by rw [List.getD_eq_getElem?_getD, hx]; rfl]
      exact ev_tup (ea_cons (ev_ixL (ev_var (P := IntsP row) rfl) (ev_var rfl) q1) (ea_cons (ev_ixL (ev_var (P := IntsP row) rfl) (ev_add (ev_var rfl) ev_int) q2) ea_nil)) (show 2 ≤ sizeLine by decide)
    · exact (givn_list IPairP (fun _ => true) prs (fun _ _ _ => rfl) fun i x hx => by rw [List.getD_eq_getElem?_getD, hx]; rfl).trans (by rw [filter_yes])
    have hpl2 : prs.length < 16000000 := by omega
    refine ht_seq (ht_set (P := IntsP (prs.map fun p => p.1)) (ev_isL (ev_lcLT (f := fun p : Int × Int => IntP p.1) (f2 := fun p => IntP p.2) (ev_var rfl) (fun _ => true) (fun p => IntP p.1) (fun _ _ => et_yes) (fun _ _ _ => ev_var rfl) hpl2) (by rw [filter_yes, List.map_map]; rfl))) ?_
    refine ht_need (b := allIn 0 23 (prs.map fun p : Int × Int => p.1) && decide ((uniq (prs.map fun p => p.1)).length = (prs.map fun p => p.1).length)) (ev_andV (ev_call (ea_cons (ev_var rfl) (ea_cons ev_int (ea_cons ev_int ea_nil))) (spF_g ((prs.map fun p : Int × Int => p.1), (0 : Int), (23 : Int)) (by show (prs.map fun p : Int × Int => p.1).length < 16000000; rw [List.length_map]; exact hpl2))) fun _ => ev_isB (ev_eqI (ev_lenSet (ev_var rfl) (by rw [List.length_map]; omega)) (ev_cb (ea_cons (ev_var (P := IntsP (prs.map fun p => p.1)) rfl) ea_nil) (by have := cb_lenL (K := K) (Ps := (prs.map fun p => p.1).map IntP) (W := W0); rwa [List.length_map] at this))) ?_) (ev_un ev_int) (fun hb => ?_) fun hb => ?_
    · rw [Bool.eq_iff_iff, decide_eq_true_eq, decide_eq_true_eq]
      omega
    · apply hfe
      rw [parse_some h1, if_neg]
      rintro ⟨_, _, ⟨q1, q2⟩, _⟩
      rw [q1, (uniq_iff _).mpr q2] at hb
      simp at hb
    rw [Bool.and_eq_true, decide_eq_true_eq, uniq_iff] at hb
    refine ht_need (b := allIn 1 greatest (prs.map fun p : Int × Int => p.2)) (ev_call (ea_cons (ev_isL (ev_lcLT (f := fun p : Int × Int => IntP p.1) (f2 := fun p => IntP p.2) (ev_var rfl) (fun _ => true) (fun p => IntP p.2) (fun _ _ => et_yes) (fun _ _ _ => ev_var rfl) hpl2) (Qs := (prs.map fun p : Int × Int => p.2).map IntP) (by rw [filter_yes, List.map_map]; rfl)) (ea_cons ev_int (ea_cons (ev_var rfl) ea_nil))) (spF_g ((prs.map fun p : Int × Int => p.2), (1 : Int), (greatest : Int)) (by show (prs.map fun p : Int × Int => p.2).length < 16000000; rw [List.length_map]; exact hpl2))) (ev_un ev_int) (fun hc => ?_) fun hc => ?_
    · apply hfe
      rw [parse_some h1, if_neg]
      rintro ⟨_, _, _, q⟩
      rw [q] at hc
      cases hc
    · have hp : SubstitutionSpec.parseParts row most greatest = some (prs.map fun p => (p.1.toNat, p.2.toNat)) := by
        rw [parse_some h1, if_pos ⟨by omega, by omega, hb, hc⟩]
      refine ht_rt (fun v H r => hR (LstP ((prs.map fun p => (p.1.toNat, p.2.toNat)).map PairP)) (by show outP row most greatest = _; unfold outP; rw [hp]) v H r) (ht_ret (ev_isL (ev_var rfl) ?_))
      rw [List.map_map]
      refine List.map_congr_left fun p hpm => ?_
      have a1 := List.all_eq_true.mp hb.1 p.1 (List.mem_map.mpr ⟨p, hpm, rfl⟩)
      have a2 := List.all_eq_true.mp hc p.2 (List.mem_map.mpr ⟨p, hpm, rfl⟩)
      rw [Bool.and_eq_true, decide_eq_true_eq, decide_eq_true_eq] at a1 a2
      show TupP [IntP p.1, IntP p.2] = TupP [IntP ((p.1.toNat : Nat) : Int), IntP ((p.2.toNat : Nat) : Int)]
      rw [Int.toNat_of_nonneg a1.1, Int.toNat_of_nonneg (by omega)]
end Sw
set_option maxRecDepth 100000
set_option maxHeartbeats 2000000
/-! # Copies of stores; the desk -/
namespace Sw
open PySem L2
open SubstitutionSpec (Material Rule)
section
variable {N : Addr → Prop} {F0 H0 : Hp} {Γ Δ : List (Option VP)} {W W' : Wd} {F H F2 H2 : Hp} {σ : L2.St} {A B : As} {R : VK} {P P' : VP} {t u : TS} {te ta tb : TE} {K : PySem.W.Frag}
/-- what stands at S changes no more -/
theorem TyS.frzS {S : Hp} (s : TyS N F0 H0 Γ W F σ H) (hS : ∀ a o, S a = some o → W.X a = some o ∧ W.loc a ∧ ¬ N a ∧ Plain o) (hX : ∀ a o, W'.X a = some o → W.X a = some o ∧ S a = none) (hl : ∀ a, W'.loc a → W.loc a ∧ S a = none) (hg : W'.g (un F S)) : TyS N F0 H0 Γ W' (un F S) σ H := by
  have hFS : ∀ a o, S a = some o → F a = none := fun a o h => (s.l a (hS a o h).2.1).1
  have hun : ∀ a, F a = none → S a = none → un F S a = none := fun a h1 h2 => by unfold un; rw [h1]; exact h2
  have e : Ex F (un F S) := un_l F S
  have hs : Sub (un F S) H := fun a o h => by
    rcases un_cases h with q | ⟨_, q⟩
    · exact s.ok.s a o q
    · exact ⟨(hS a o q).2.2.2, .inl (s.ok.x a o (hS a o q).1)⟩
  refine ⟨⟨s.n.f.trans e, s.n.h, hs, fun a h q => ?_⟩, ⟨s.ok.t.mono e, hs, fun a o h => s.ok.x a o (hX a o h).1, hg, fun a ha => ?_⟩, fun a ha => ?_, fun a ha => ⟨(s.nn a ha).1, hun a (s.nn a ha).2 ?_⟩⟩
  · cases e1 : F a with
    | some o => exact s.n.n a h (by rw [e1]; simp)
    | none =>
      cases e2 : S a with
      | none => exact absurd (hun a e1 e2) q
      | some o => exact (s.l a (hS a o e2).2.1).2.1.resolve_right (hS a o e2).2.2.1
  · cases e1 : W'.X a with
    | none => exact absurd e1 ha
    | some o =>
      obtain ⟨q1, q2⟩ := hX a o e1
      exact hun a (s.ok.xf a (by rw [q1]; simp)) q2
  · obtain ⟨q1, q2⟩ := hl a ha
    exact ⟨hun a (s.l a q1).1 q2, (s.l a q1).2⟩
  · cases e2 : S a with
    | none => rfl
    | some o => exact absurd ha (hS a o e2).2.2.1
/-- a promise for arguments among which are things that may change -/
def SpGx (sp : Sp) (W : Wd) (Ps : List VP) (R : VP) : Prop := ∀ vs F H, AllP Ps vs F → Sub F H → Ex W.X H → W.g F → (∀ a, W.X a ≠ none → F a = none) → ∀ Q E, Ret F H Q R → sp vs H Q E
theorem ev_callx {sp : Sp} {E : XK} {t : TA} {Ps : List VP} (h : EvA t Γ W Ps) (hs : SpGx sp W Ps P) : EvG (tCall sp [] E t) Γ W P := fun σ F H o Q k => by
  refine h σ F H o _ fun xs F1 H1 n1 p1 => ?_
  have o1 := o.next n1
  show sp (xs ++ []) H1 Q E
  rw [List.append_nil]
  exact hs xs F1 H1 p1 n1.s o1.x o1.g o1.xf Q E fun v F2 H2 n2 p2 => k v F2 H2 (New.trans n1 n2) p2
/-- an attribute of a thing that may change -/
theorem ev_fldX {i : Nat} {d C dx : Addr} {fs : List (Str × V)} {f : Str} {v : V} (hs : Γ[i]? = some (some (IsP (.ref d)))) (hX : W.X d = some (.ins C dx fs)) (hc : Cls K C) (hn : NoAttr K C f) (hf : fs.lookup f = some v) (hg : ∀ F, W.g F → P v F) : EvG (tFld K (tVar i) f) Γ W P := fun σ F H o Q k => by
  obtain ⟨u, h1, rfl⟩ := o.t.get hs
  exact ⟨_, h1, d, C, dx, fs, v, rfl, o.x d _ hX, hc, hn, hf, k.here o.s (hg F o.g)⟩
end
/-! ### a copy of a store -/
structure Tw where
  x : Addr
  dx : Addr
  d1 : Addr
  d2 : Addr
  d3 : Addr
  k1 : List (Key × V)
  k2 : List (Key × V)
  k3 : List (Key × V)
def Tw.o (t : Tw) (K : PySem.W.Frag) : HO := .ins (He.ga K "Store") t.dx [("materials", .ref t.d1), ("rules", .ref t.d2), ("formulas", .ref t.d3)]
/-- the four things that are new -/
def Tw.at_ (t : Tw) (K : PySem.W.Frag) : Hp := fun a => if a = t.x then some (t.o K) else if a = t.d1 then some (.dK t.k1) else if a = t.d2 then some (.dK t.k2) else if a = t.d3 then some (.dK t.k3) else none
structure Tw.Ne (t : Tw) : Prop where
  x1 : t.x ≠ t.d1
  x2 : t.x ≠ t.d2
  x3 : t.x ≠ t.d3
  d12 : t.d1 ≠ t.d2
  d13 : t.d1 ≠ t.d3
  d23 : t.d2 ≠ t.d3
section
variable {t : Tw} {K : PySem.W.Frag}
theorem Tw.Ne.ax (h : t.Ne) : t.at_ K t.x = some (t.o K) := if_pos rfl
theorem Tw.Ne.a1 (h : t.Ne) : t.at_ K t.d1 = some (.dK t.k1) := by unfold Tw.at_; rw [if_neg h.x1.symm, if_pos rfl]
theorem Tw.Ne.a2 (h : t.Ne) : t.at_ K t.d2 = some (.dK t.k2) := by unfold Tw.at_; rw [if_neg h.x2.symm, if_neg h.d12.symm, if_pos rfl]
theorem Tw.Ne.a3 (h : t.Ne) : t.at_ K t.d3 = some (.dK t.k3) := by unfold Tw.at_; rw [if_neg h.x3.symm, if_neg h.d13.symm, if_neg h.d23.symm, if_pos rfl]
theorem Tw.at_of {a : Addr} {o : HO} (h : t.at_ K a = some o) : (a = t.x ∨ a = t.d1 ∨ a = t.d2 ∨ a = t.d3) ∧ Plain o := by
  unfold Tw.at_ at h
  split at h
  · cases h; exact ⟨.inl (by assumption), trivial⟩
  · split at h
    · cases h; exact ⟨.inr (.inl (by assumption)), trivial⟩
    · split at h
      · cases h; exact ⟨.inr (.inr (.inl (by assumption))), trivial⟩
      · split at h
        · cases h; exact ⟨.inr (.inr (.inr (by assumption))), trivial⟩
        · cases h
theorem Tw.at_no {a : Addr} (h : t.at_ K a = none) : a ≠ t.x ∧ a ≠ t.d1 ∧ a ≠ t.d2 ∧ a ≠ t.d3 := by
  unfold Tw.at_ at h
  split at h
  · cases h
  · split at h
    · cases h
    · split at h
      · cases h
      · split at h
        · cases h
        · exact ⟨by assumption, by assumption, by assumption, by assumption⟩
end
def Wd.twin (W : Wd) (K : PySem.W.Frag) (t : Tw) (s : Sto) : Wd := ⟨un (t.at_ K) W.X, fun a => t.at_ K a ≠ none ∨ W.loc a, fun F => W.g F ∧ Ents (MatP K) s.ms t.k1 F ∧ Ents (RulP K) s.rs t.k2 F ∧ Ents FormP s.fs t.k3 F, fun h e => ⟨W.mono h.1 e, h.2.1.mono e, h.2.2.1.mono e, h.2.2.2.mono e⟩⟩
/-- the new things are none of the others -/
structure TwOk (N : Addr → Prop) (W : Wd) (K : PySem.W.Frag) (t : Tw) : Prop where
  ne : t.Ne
  x : ∀ a, t.at_ K a ≠ none → W.X a = none ∧ ¬ W.loc a ∧ ¬ N a
/-- self.twin() -/
def spTwin (K : PySem.W.Frag) : Sp := fun vs H Q E => ∃ (s : Sto) (F : Hp), AllP [StoP K s] vs F ∧ Sub F H ∧ ∀ (t : Tw) (H2 : Hp), New F H F H2 → t.Ne → (∀ a o, t.at_ K a = some o → H2 a = some o ∧ H a = none) → Ents (MatP K) s.ms t.k1 F → Ents (RulP K) s.rs t.k2 F → Ents FormP s.fs t.k3 F → Q (.ref t.x) H2
theorem twin_arg {K : PySem.W.Frag} {mg : Str → Option Value} {α : Type} {Rf : α → VP} {es : List (Nat × α)} {f : Str} {σ : L2.St} {F H : Hp} {v : V} {C : Addr} {Ps : List (Str × VP)} {tr : TA} {Q : List V → Hp → Prop} (h0 : σ[0]? = some (some v)) (hv : ObjP C Ps v F) (s : Sub F H) (hc : Cls K C) (hn : NoAttr K C f) (hf : Ps.lookup f = some (DctP Rf es))
    (k : ∀ kvs, Ents Rf es kvs F → ∀ p, H p = none → tr σ (upd H p (.dK kvs)) fun vs H' => Q (.ref p :: vs) H') : tCons (tCB rDictD (tCons (tFld K (tVar 0) f) tNil)) tr σ H Q := by
  obtain ⟨a, dx, us, rfl, h2, h3⟩ := hv
  obtain ⟨y, h4, b, kvs, rfl, h5, h6⟩ := h3.get hf
  refine ⟨_, h0, a, C, dx, us, .ref b, rfl, s.ins h2, hc, hn, h4, b, kvs, rfl, s.rd h5, fun p hp => ?_⟩
  exact k kvs h6 p hp
variable {P : Program} {w : World} {K : PySem.W.Frag} {mg : Str → Option Value} {base : Heap}
theorem spTwin_len (vs : List V) (H : Hp) (Q : VK) (E : XK) : spTwin K vs H Q E → vs.length = 1 := fun ⟨s, F, a, _⟩ => a.len
theorem ok_Store_twin (T : Txt K mg) : FnOk P w K mg base CX0 4 (He.fAd K ("Store", some "twin")) (fdOf K ("Store", some "twin")) ["self"] (spTwin K) := by
  refine T.D_Store_twin.ok sc_Store_twin (spTwin_len) (fun cdv A outer s H vs Q E hr h => ⟨_, PSs.nox (pss_one (ps_ret (pe_make T.mk_Store (ok_Store_init T) (hr.mono (by decide)) (by rfl) T.g_Store T.b_Store_init .nil pass0 (pa_cons (pe_callTy cr_dictD (by rfl) T.f_dict bb_dict (pa_cons (pe_fld (pv 0) rfl) pa_nil)) (pa_cons (pe_callTy cr_dictD (by rfl) T.f_dict bb_dict (pa_cons (pe_fld (pv 0) rfl) pa_nil)) (pa_cons (pe_callTy cr_dictD (by rfl) T.f_dict bb_dict (pa_cons (pe_fld (pv 0) rfl) pa_nil)) pa_nil)))))), ?_⟩)
  obtain ⟨s, F, a, hs, k⟩ := h
  match vs, a with
  | [v], a =>
    have hv : StoP K s v F := a.1
    unfold tRet tMake
    refine twin_arg (mg := mg) (Ps := stoF K s) (Rf := MatP K) (es := s.ms) rfl hv hs T.cl_Store T.na_Store_materials rfl fun k1 e1 d1 hd1 => ?_
    have n1 := New.loc (o := .dK k1) hs hd1
    refine twin_arg (mg := mg) (Ps := stoF K s) (Rf := RulP K) (es := s.rs) rfl hv n1.s T.cl_Store T.na_Store_rules rfl fun k2 e2 d2 hd2 => ?_
    have n2 := New.loc (o := .dK k2) n1.s hd2
    refine twin_arg (mg := mg) (Ps := stoF K s) (Rf := FormP) (es := s.fs) rfl hv n2.s T.cl_Store T.na_Store_formulas rfl fun k3 e3 d3 hd3 => ?_
    have n3 := New.loc (o := .dK k3) n2.s hd3
    have n123 := New.trans (New.trans n1 n2) n3
    have h12 : d2 ≠ d1 := fun z => by rw [z, upd_same] at hd2; cases hd2
    have h23 : d3 ≠ d2 := fun z => by rw [z, upd_same] at hd3; cases hd3
    have h13 : d3 ≠ d1 := fun z => by rw [z, upd_ne (Ne.symm h12), upd_same] at hd3; cases hd3
    refine fun x dx hx hdx hne => ?_
    have hxn : H x = none ∧ x ≠ d1 ∧ x ≠ d2 ∧ x ≠ d3 := by
      have q3 : x ≠ d3 := fun z => by rw [z, upd_same] at hx; cases hx
      rw [upd_ne q3] at hx
      have q2 : x ≠ d2 := fun z => by rw [z, upd_same] at hx; cases hx
      rw [upd_ne q2] at hx
      have q1 : x ≠ d1 := fun z => by rw [z, upd_same] at hx; cases hx
      rw [upd_ne q1] at hx
      exact ⟨hx, q1, q2, q3⟩
    have hdxn : H dx = none ∧ dx ≠ d1 ∧ dx ≠ d2 ∧ dx ≠ d3 := by
      have q3 : dx ≠ d3 := fun z => by rw [z, upd_same] at hdx; cases hdx
      rw [upd_ne q3] at hdx
      have q2 : dx ≠ d2 := fun z => by rw [z, upd_same] at hdx; cases hdx
      rw [upd_ne q2] at hdx
      have q1 : dx ≠ d1 := fun z => by rw [z, upd_same] at hdx; cases hdx
      rw [upd_ne q1] at hdx
      exact ⟨hdx, q1, q2, q3⟩
    refine ⟨x, dx, [.ref d1, .ref d2, .ref d3], rfl, rfl, upd_same, fun H' hx' hk => ⟨rfl, ?_⟩⟩
    have hk2 : ∀ b, b ≠ x → b ≠ dx → H' b = upd (upd (upd H d1 (.dK k1)) d2 (.dK k2)) d3 (.dK k3) b := fun b q1 q2 => by rw [hk b q1, upd_ne q1, upd_ne q2]
    have hd1' : H d1 = none := hd1
    have hd2' : H d2 = none := by rw [upd_ne h12] at hd2; exact hd2
    have hd3' : H d3 = none := by rw [upd_ne h23, upd_ne h13] at hd3; exact hd3
    have hold : ∀ b o, H b = some o → H' b = some o := fun b o hb => by
      have q1 : b ≠ x := ne_of_none hb hxn.1
      have q2 : b ≠ dx := ne_of_none hb hdxn.1
      rw [hk2 b q1 q2]
      exact n123.ex b o hb
    have ne : Tw.Ne ⟨x, dx, d1, d2, d3, k1, k2, k3⟩ := ⟨hxn.2.1, hxn.2.2.1, hxn.2.2.2, Ne.symm h12, Ne.symm h13, Ne.symm h23⟩
    refine k ⟨x, dx, d1, d2, d3, k1, k2, k3⟩ H' ⟨Ex.refl F, fun b o _ hb => hold b o hb, hs.ex hold, fun b h q => absurd h q⟩ ne (fun b o hb => ?_) e1 e2 e3
    obtain ⟨hc, _⟩ := Tw.at_of hb
    rcases hc with q | q | q | q
    · have q : b = x := q
      subst q
      rw [ne.ax] at hb
      cases hb
      exact ⟨hx', hxn.1⟩
    · have q : b = d1 := q
      subst q
      rw [ne.a1] at hb
      cases hb
      exact ⟨by rw [hk2 b (Ne.symm hxn.2.1) (Ne.symm hdxn.2.1), upd_ne (Ne.symm h13), upd_ne (Ne.symm h12), upd_same], hd1'⟩
    · have q : b = d2 := q
      subst q
      rw [ne.a2] at hb
      cases hb
      exact ⟨by rw [hk2 b (Ne.symm hxn.2.2.1) (Ne.symm hdxn.2.2.1), upd_ne (Ne.symm h23), upd_same], hd2'⟩
    · have q : b = d3 := q
      subst q
      rw [ne.a3] at hb
      cases hb
      exact ⟨by rw [hk2 b (Ne.symm hxn.2.2.2) (Ne.symm hdxn.2.2.2), upd_same], hd3'⟩
section
variable {N : Addr → Prop} {F0 H0 : Hp} {Γ Δ : List (Option VP)} {W : Wd} {R : VK} {te tb tv : TE} {E : XK} {s : Sto}
/-- found = store.twin() -/
theorem ht_twin {i : Nat} {G : Addr → List (Option VP)} (h : EvG te Γ W (StoP K s)) (e : ∀ x : Addr, Γ.set i (some (IsP (.ref x))) = G x) :
    HT (TyA N F0 H0 Γ W) (tAsg (tMeth (He.ga K "Store") "twin" (spTwin K) [] E te tNil) (gName i)) (fun σ H => ∃ t, TwOk N W K t ∧ TyA N F0 H0 (G t.x) (W.twin K t s) σ H) R := fun σ H D ⟨F, q⟩ nx rt => by
  refine h σ F H q.ok _ fun v F1 H1 n1 p1 => ?_
  have q1 := q.next n1
  obtain ⟨a, dx, vs, rfl, h2, h3⟩ := id p1
  refine ⟨a, dx, vs, rfl, n1.s.ins h2, h3.no rfl, ?_⟩
  refine ⟨s, F1, ⟨p1, trivial⟩, n1.s, fun t H2 n2 ne hat e1 e2 e3 => ?_⟩
  have q2 := q1.next n2
  have hH1 : ∀ b, t.at_ K b ≠ none → H1 b = none := fun b hb => by
    cases z : t.at_ K b with
    | none => exact absurd z hb
    | some o => exact (hat b o z).2
  have hX : ∀ b, t.at_ K b ≠ none → W.X b = none := fun b hb => by
    cases z : W.X b with
    | none => rfl
    | some o => have := q1.ok.x b o z; rw [hH1 b hb] at this; cases this
  have hok : TwOk N W K t := ⟨ne, fun b hb => ⟨hX b hb, fun hl => (q1.l b hl).2.2 (hH1 b hb), fun hn => (q1.nn b hn).1 (hH1 b hb)⟩⟩
  refine nx _ _ ⟨t, hok, F1, e t.x ▸ ?_⟩
  refine ⟨q2.n, ⟨q2.ok.t.set rfl, q2.ok.s, fun b o hb => ?_, ⟨q2.ok.g, e1, e2, e3⟩, fun b hb => ?_⟩, fun b hb => ?_, q2.nn⟩
  · rcases un_cases hb with z | ⟨_, z⟩
    · exact (hat b o z).1
    · exact q2.ok.x b o z
  · cases z : t.at_ K b with
    | some o => exact q1.ok.s.free (hat b o z).2
    | none =>
      refine q2.ok.xf b fun y => hb ?_
      show un (t.at_ K) W.X b = none
      unfold un
      rw [z]; exact y
  · rcases hb with z | z
    · refine ⟨q1.ok.s.free (hH1 b z), .inl (q1.none0 (hH1 b z)), ?_⟩
      cases y : t.at_ K b with
      | none => exact absurd y z
      | some o => rw [(hat b o y).1]; simp
    · exact q2.l b z
theorem twin_X {t : Tw} {a : Addr} {o : HO} (h : t.at_ K a = some o) : (W.twin K t s).X a = some o := un_l _ _ a o h
/-- one of the dicts is changed -/
theorem TyS.twch {F H : Hp} {σ : L2.St} {t t' : Tw} {s' : Sto} {d : Addr} {o : HO} (q : TyS N F0 H0 Γ (W.twin K t s) F σ H) (hd : t.at_ K d ≠ none) (ha : t'.at_ K = upd (t.at_ K) d o) (hg : (W.twin K t' s').g F) : TyS N F0 H0 Γ (W.twin K t' s') F σ (upd H d o) := by
  refine q.change (.inl hd) ?_ ?_ hg
  · show un (t'.at_ K) W.X = upd (un (t.at_ K) W.X) d o
    rw [ha]
    funext b
    by_cases c : b = d
    · subst c
      rw [upd_same]
      unfold un
      rw [upd_same]
    · rw [upd_ne c]
      unfold un
      rw [upd_ne c]
  · funext b
    show (t'.at_ K b ≠ none ∨ W.loc b) = (t.at_ K b ≠ none ∨ W.loc b)
    rw [ha]
    by_cases c : b = d
    · subst c
      rw [upd_same]
      simp [hd]
    · rw [upd_ne c]
theorem tw_k1 {t : Tw} (h : t.Ne) (k : List (Key × V)) : ({t with k1 := k} : Tw).at_ K = upd (t.at_ K) t.d1 (.dK k) := by
  funext b
  unfold upd
  by_cases c : b = t.d1
  · subst c
    rw [if_pos rfl]
    exact (show ({t with k1 := k} : Tw).Ne from ⟨h.x1, h.x2, h.x3, h.d12, h.d13, h.d23⟩).a1
  · rw [if_neg c]
    unfold Tw.at_
    simp only [if_neg c]
    rfl
theorem tw_k2 {t : Tw} (h : t.Ne) (k : List (Key × V)) : ({t with k2 := k} : Tw).at_ K = upd (t.at_ K) t.d2 (.dK k) := by
  funext b
  unfold upd
  by_cases c : b = t.d2
  · subst c
    rw [if_pos rfl]
    exact (show ({t with k2 := k} : Tw).Ne from ⟨h.x1, h.x2, h.x3, h.d12, h.d13, h.d23⟩).a2
  · rw [if_neg c]
    unfold Tw.at_
    simp only [if_neg c]
    rfl
theorem tw_k3 {t : Tw} (h : t.Ne) (k : List (Key × V)) : ({t with k3 := k} : Tw).at_ K = upd (t.at_ K) t.d3 (.dK k) := by
  funext b
  unfold upd
  by_cases c : b = t.d3
  · subst c
    rw [if_pos rfl]
    exact (show ({t with k3 := k} : Tw).Ne from ⟨h.x1, h.x2, h.x3, h.d12, h.d13, h.d23⟩).a3
  · rw [if_neg c]
    unfold Tw.at_
    simp only [if_neg c]
    rfl
theorem ht_twput1 (T : Txt K mg) {i n : Nat} {t : Tw} {m : Material} (hs : Γ[i]? = some (some (IsP (.ref t.x)))) (ok : TwOk N W K t) (hk : EvG tb Γ (W.twin K t s) (IntP (n : Int))) (h : EvG te Γ (W.twin K t s) (MatP K m)) (hz : s.ms.length < 1000000) :
    HT (TyA N F0 H0 Γ (W.twin K t s)) (sDPut (tFld K (tVar i) "materials") tb te) (fun σ H => ∃ t', TwOk N W K t' ∧ t'.x = t.x ∧ TyA N F0 H0 Γ (W.twin K t' {s with ms := Pl.putA s.ms n m}) σ H) R := fun σ H D ⟨F, q⟩ nx rt => by
  refine h σ F H q.ok _ fun v F1 H1 n1 p1 => ?_
  have q1 := q.next n1
  obtain ⟨u, h1, rfl⟩ := q1.ok.t.get hs
  refine ⟨_, h1, t.x, He.ga K "Store", t.dx, _, .ref t.d1, rfl, q1.ok.x _ _ (twin_X ok.ne.ax), T.cl_Store, T.na_Store_materials, rfl, ?_⟩
  refine hk σ F1 H1 q1.ok _ fun y F2 H2 n2 p2 => ?_
  have q2 := q1.next n2
  obtain rfl : y = V.int (n : Int) := p2
  obtain ⟨g0, g1, g2, g3⟩ := q2.ok.g
  have hd : H2 t.d1 = some (.dK t.k1) := q2.ok.x _ _ (twin_X ok.ne.a1)
  refine ⟨t.d1, _, rfl, DPut.k (k := Sum.inl (n : Int)) hd (by rw [g1.len]; exact sz_lt (by omega)), nx _ _ ⟨{t with k1 := putK t.k1 (Sum.inl (n : Int)) v}, ⟨⟨ok.ne.x1, ok.ne.x2, ok.ne.x3, ok.ne.d12, ok.ne.d13, ok.ne.d23⟩, fun a ha => ok.x a ?_⟩, rfl, F2, ?_⟩⟩
  · rw [tw_k1 ok.ne] at ha
    by_cases c : a = t.d1
    · rw [c, ok.ne.a1]; simp
    · rwa [upd_ne c] at ha
  · exact q2.twch (by rw [ok.ne.a1]; simp) (tw_k1 ok.ne _) ⟨g0, g1.put ((MatP K m).mono p1 n2.f), g2, g3⟩
theorem ht_twput2 (T : Txt K mg) {i n : Nat} {t : Tw} {r : Rule} (hs : Γ[i]? = some (some (IsP (.ref t.x)))) (ok : TwOk N W K t) (hk : EvG tb Γ (W.twin K t s) (IntP (n : Int))) (h : EvG te Γ (W.twin K t s) (RulP K r)) (hz : s.rs.length < 1000000) :
    HT (TyA N F0 H0 Γ (W.twin K t s)) (sDPut (tFld K (tVar i) "rules") tb te) (fun σ H => ∃ t', TwOk N W K t' ∧ t'.x = t.x ∧ TyA N F0 H0 Γ (W.twin K t' {s with rs := Pl.putA s.rs n r}) σ H) R := fun σ H D ⟨F, q⟩ nx rt => by
  refine h σ F H q.ok _ fun v F1 H1 n1 p1 => ?_
  have q1 := q.next n1
  obtain ⟨u, h1, rfl⟩ := q1.ok.t.get hs
  refine ⟨_, h1, t.x, He.ga K "Store", t.dx, _, .ref t.d2, rfl, q1.ok.x _ _ (twin_X ok.ne.ax), T.cl_Store, T.na_Store_rules, rfl, ?_⟩
  refine hk σ F1 H1 q1.ok _ fun y F2 H2 n2 p2 => ?_
  have q2 := q1.next n2
  obtain rfl : y = V.int (n : Int) := p2
  obtain ⟨g0, g1, g2, g3⟩ := q2.ok.g
  have hd : H2 t.d2 = some (.dK t.k2) := q2.ok.x _ _ (twin_X ok.ne.a2)
  refine ⟨t.d2, _, rfl, DPut.k (k := Sum.inl (n : Int)) hd (by rw [g2.len]; exact sz_lt (by omega)), nx _ _ ⟨{t with k2 := putK t.k2 (Sum.inl (n : Int)) v}, ⟨⟨ok.ne.x1, ok.ne.x2, ok.ne.x3, ok.ne.d12, ok.ne.d13, ok.ne.d23⟩, fun a ha => ok.x a ?_⟩, rfl, F2, ?_⟩⟩
  · rw [tw_k2 ok.ne] at ha
    by_cases c : a = t.d2
    · rw [c, ok.ne.a2]; simp
    · rwa [upd_ne c] at ha
  · exact q2.twch (by rw [ok.ne.a2]; simp) (tw_k2 ok.ne _) ⟨g0, g1, g2.put ((RulP K r).mono p1 n2.f), g3⟩
theorem ht_twput3 (T : Txt K mg) {i n : Nat} {t : Tw} {f : List (Nat × Nat)} (hs : Γ[i]? = some (some (IsP (.ref t.x)))) (ok : TwOk N W K t) (hk : EvG tb Γ (W.twin K t s) (IntP (n : Int))) (h : EvG te Γ (W.twin K t s) (FormP f)) (hz : s.fs.length < 1000000) :
    HT (TyA N F0 H0 Γ (W.twin K t s)) (sDPut (tFld K (tVar i) "formulas") tb te) (fun σ H => ∃ t', TwOk N W K t' ∧ t'.x = t.x ∧ TyA N F0 H0 Γ (W.twin K t' {s with fs := Pl.putA s.fs n f}) σ H) R := fun σ H D ⟨F, q⟩ nx rt => by
  refine h σ F H q.ok _ fun v F1 H1 n1 p1 => ?_
  have q1 := q.next n1
  obtain ⟨u, h1, rfl⟩ := q1.ok.t.get hs
  refine ⟨_, h1, t.x, He.ga K "Store", t.dx, _, .ref t.d3, rfl, q1.ok.x _ _ (twin_X ok.ne.ax), T.cl_Store, T.na_Store_formulas, rfl, ?_⟩
  refine hk σ F1 H1 q1.ok _ fun y F2 H2 n2 p2 => ?_
  have q2 := q1.next n2
  obtain rfl : y = V.int (n : Int) := p2
  obtain ⟨g0, g1, g2, g3⟩ := q2.ok.g
  have hd : H2 t.d3 = some (.dK t.k3) := q2.ok.x _ _ (twin_X ok.ne.a3)
  refine ⟨t.d3, _, rfl, DPut.k (k := Sum.inl (n : Int)) hd (by rw [g3.len]; exact sz_lt (by omega)), nx _ _ ⟨{t with k3 := putK t.k3 (Sum.inl (n : Int)) v}, ⟨⟨ok.ne.x1, ok.ne.x2, ok.ne.x3, ok.ne.d12, ok.ne.d13, ok.ne.d23⟩, fun a ha => ok.x a ?_⟩, rfl, F2, ?_⟩⟩
  · rw [tw_k3 ok.ne] at ha
    by_cases c : a = t.d3
    · rw [c, ok.ne.a3]; simp
    · rwa [upd_ne c] at ha
  · exact q2.twch (by rw [ok.ne.a3]; simp) (tw_k3 ok.ne _) ⟨g0, g1, g2, g3.put (FormP f |>.mono p1 n2.f)⟩
/-- found.rules.pop(n) -/
theorem ht_twpop2 (T : Txt K mg) {i n : Nat} {t : Tw} {r : Rule} (hs : Γ[i]? = some (some (IsP (.ref t.x)))) (ok : TwOk N W K t) (hk : EvG tb Γ (W.twin K t s) (IntP (n : Int))) (hr : Pl.getA s.rs n = some r) :
    HT (TyA N F0 H0 Γ (W.twin K t s)) (tDrop (tDPop1 (tFld K (tVar i) "rules") tb)) (fun σ H => ∃ t', TwOk N W K t' ∧ t'.x = t.x ∧ TyA N F0 H0 Γ (W.twin K t' {s with rs := Pl.dropA s.rs n}) σ H) R := fun σ H D ⟨F, q1⟩ nx rt => by
  obtain ⟨u, h1, rfl⟩ := q1.ok.t.get hs
  have hd1 : H t.d2 = some (.dK t.k2) := q1.ok.x _ _ (twin_X ok.ne.a2)
  refine ⟨_, h1, t.x, He.ga K "Store", t.dx, _, .ref t.d2, rfl, q1.ok.x _ _ (twin_X ok.ne.ax), T.cl_Store, T.na_Store_rules, rfl, t.d2, rfl, .inl ⟨_, .inl hd1⟩, ?_⟩
  refine hk σ F H q1.ok _ fun y F2 H2 n2 p2 => ?_
  have q2 := q1.next n2
  obtain rfl : y = V.int (n : Int) := p2
  obtain ⟨g0, g1, g2, g3⟩ := q2.ok.g
  have hd : H2 t.d2 = some (.dK t.k2) := q2.ok.x _ _ (twin_X ok.ne.a2)
  obtain ⟨v, z1, z2⟩ := g2.get.1 r hr
  refine ⟨t.k2, Sum.inl (n : Int), v, hd, rfl, z1, nx _ _ ⟨{t with k2 := dropK t.k2 (Sum.inl (n : Int))}, ⟨⟨ok.ne.x1, ok.ne.x2, ok.ne.x3, ok.ne.d12, ok.ne.d13, ok.ne.d23⟩, fun a ha => ok.x a ?_⟩, rfl, F2, ?_⟩⟩
  · rw [tw_k2 ok.ne] at ha
    by_cases c : a = t.d2
    · rw [c, ok.ne.a2]; simp
    · rwa [upd_ne c] at ha
  · exact q2.twch (by rw [ok.ne.a2]; simp) (tw_k2 ok.ne _) ⟨g0, g1, g2.drop, g3⟩
/-- the copy changes no more -/
theorem frz_twin {i : Nat} {t : Tw} (hs : Γ[i]? = some (some (IsP (.ref t.x)))) (ok : TwOk N W K t) (e : Γ.set i (some (StoP K s)) = Δ := by rfl) : ∀ σ H, TyA N F0 H0 Γ (W.twin K t s) σ H → TyA N F0 H0 Δ W σ H := fun σ H ⟨F, q⟩ => by
  subst e
  obtain ⟨g0, g1, g2, g3⟩ := q.ok.g
  have e0 : Ex F (un F (t.at_ K)) := un_l _ _
  have hF : ∀ a o, t.at_ K a = some o → un F (t.at_ K) a = some o := fun a o h => by
    unfold un
    rw [(q.l a (.inl (by rw [h]; simp))).1]
    exact h
  have q2 := q.frzS (S := t.at_ K) (W' := W) (fun a o h => ⟨twin_X h, .inl (by rw [h]; simp), (ok.x a (by rw [h]; simp)).2.2, (Tw.at_of h).2⟩) (fun a o h => by
    have z : t.at_ K a = none := by
      cases y : t.at_ K a with
      | none => rfl
      | some u => rw [(ok.x a (by rw [y]; simp)).1] at h; cases h
    exact ⟨by show un (t.at_ K) W.X a = some o; unfold un; rw [z]; exact h, z⟩) (fun a h => ⟨.inr h, by
      cases y : t.at_ K a with
      | none => rfl
      | some u => exact absurd h (ok.x a (by rw [y]; simp)).2.1⟩) (W.mono g0 e0)
  refine ⟨_, q2.slots (Typed.re (i := i) (x := .ref t.x) q2.ok.t hs ⟨t.x, t.dx, _, rfl, hF _ _ ok.ne.ax, ⟨rfl, t.d1, t.k1, rfl, hF _ _ ok.ne.a1, g1.mono e0⟩, ⟨rfl, t.d2, t.k2, rfl, hF _ _ ok.ne.a2, g2.mono e0⟩, ⟨rfl, t.d3, t.k3, rfl, hF _ _ ok.ne.a3, g3.mono e0⟩, trivial⟩)⟩
end
end Sw
set_option maxRecDepth 100000
set_option maxHeartbeats 2000000
/-! # The desk -/
namespace Sw
open PySem L2
open SubstitutionSpec (Material Rule)
def dkO (K : PySem.W.Frag) (dx : Addr) (sv bv : V) : HO := .ins (He.ga K "Desk") dx [("store", sv), ("before", bv)]
structure DkAt (K : PySem.W.Frag) (H F : Hp) (d dx : Addr) (sv bv : V) (s : Sto) (bs : List Sto) : Prop where
  h : H d = some (dkO K dx sv bv)
  f : F d = none
  s : StoP K s sv F
  b : LstP (bs.map (StoP K)) bv F
/-- what is known of the desk -/
def Wdk (K : PySem.W.Frag) (d dx : Addr) (sv bv : V) (s : Sto) (bs : List Sto) : Wd := ⟨fun a => if a = d then some (dkO K dx sv bv) else none, fun _ => False, fun F => StoP K s sv F ∧ LstP (bs.map (StoP K)) bv F, fun h e => ⟨(StoP K s).mono h.1 e, (LstP _).mono h.2 e⟩⟩
/-- given back, the desk as it is then -/
def RetD (K : PySem.W.Frag) (F0 H0 : Hp) (d dx : Addr) (s : Sto) (bs : List Sto) (P : VP) : VK := fun v H => ∃ F sv bv, NewX (fun a => a = d) F0 H0 F H ∧ DkAt K H F d dx sv bv s bs ∧ P v F
abbrev ResD := Except Int (VP × Sto × List Sto)
/-- a call that may change the desk -/
def MutG (K : PySem.W.Frag) (CR : Addr) (sp : Sp) (d dx : Addr) (sv bv : V) (s : Sto) (bs : List Sto) (Ps : List VP) (res : ResD) : Prop := ∀ ws F H, AllP Ps ws F → Sub F H → DkAt K H F d dx sv bv s bs → ∀ Q E,
  (∀ R s' bs', res = .ok (R, s', bs') → ∀ v H2, RetD K F H d dx s' bs' R v H2 → Q v H2) → (∀ c, res = .error c → RetX CR F H E c) → sp (.ref d :: ws) H Q E
/-- the promise of a def that may change the desk, its first argument -/
def spD {ι : Type} (K : PySem.W.Frag) (CR : Addr) (Ps : ι → List VP) (pre : ι → Sto → List Sto → Prop) (out : ι → Sto → List Sto → ResD) : Sp := fun vs H Q E => ∃ (i : ι) (F : Hp) (d dx : Addr) (sv bv : V) (s : Sto) (bs : List Sto) (ws : List V), pre i s bs ∧ vs = .ref d :: ws ∧ AllP (Ps i) ws F ∧ Sub F H ∧ DkAt K H F d dx sv bv s bs ∧
  (∀ R s' bs', out i s bs = .ok (R, s', bs') → ∀ v H2, RetD K F H d dx s' bs' R v H2 → Q v H2) ∧ (∀ c, out i s bs = .error c → RetX CR F H E c)
/-- one that looks at the desk only -/
def spL {ι : Type} (K : PySem.W.Frag) (CR : Addr) (Ps : ι → List VP) (pre : ι → Sto → List Sto → Prop) (out : ι → Sto → List Sto → Except Int VP) : Sp := fun vs H Q E => ∃ (i : ι) (F : Hp) (d dx : Addr) (sv bv : V) (s : Sto) (bs : List Sto) (ws : List V), pre i s bs ∧ vs = .ref d :: ws ∧ AllP (Ps i) ws F ∧ Sub F H ∧ DkAt K H F d dx sv bv s bs ∧
  (∀ R, out i s bs = .ok R → Ret F H Q R) ∧ (∀ c, out i s bs = .error c → RetX CR F H E c)
section
variable {F0 H0 F H : Hp} {Γ Δ : List (Option VP)} {W : Wd} {A B : As} {R : VK} {P P' : VP} {t u : TS} {te tb : TE} {ta : TA} {K : PySem.W.Frag} {mg : Str → Option Value} {CR d dx : Addr} {sv bv : V} {s : Sto} {bs : List Sto} {E : XK} {σ : L2.St} {sp : Sp} {Ps : List VP} {res : ResD} {N : Addr → Prop}
theorem wdk_x : (Wdk K d dx sv bv s bs).X d = some (dkO K dx sv bv) := if_pos rfl
theorem TyS.dk (q : TyS N F0 H0 Γ (Wdk K d dx sv bv s bs) F σ H) : DkAt K H F d dx sv bv s bs := ⟨q.ok.x d _ wdk_x, q.ok.xf d (by rw [wdk_x]; simp), q.ok.g.1, q.ok.g.2⟩
theorem spD_g {ι : Type} {Ps : ι → List VP} {pre : ι → Sto → List Sto → Prop} {out : ι → Sto → List Sto → ResD} (i : ι) (h : pre i s bs) : MutG K CR (spD K CR Ps pre out) d dx sv bv s bs (Ps i) (out i s bs) := fun ws F H a q dk Q E k1 k2 => ⟨i, F, d, dx, sv, bv, s, bs, ws, h, rfl, a, q, dk, k1, k2⟩
theorem spD_len {ι : Type} {Ps : ι → List VP} {pre : ι → Sto → List Sto → Prop} {out : ι → Sto → List Sto → ResD} {n : Nat} (h : ∀ i, (Ps i).length + 1 = n) (vs : List V) (H : Hp) (Q : VK) (E : XK) : spD K CR Ps pre out vs H Q E → vs.length = n := fun ⟨i, F, d, dx, sv, bv, s, bs, ws, _, e, a, _⟩ => by rw [e, List.length_cons, a.len, h i]
theorem spL_len {ι : Type} {Ps : ι → List VP} {pre : ι → Sto → List Sto → Prop} {out : ι → Sto → List Sto → Except Int VP} {n : Nat} (h : ∀ i, (Ps i).length + 1 = n) (vs : List V) (H : Hp) (Q : VK) (E : XK) : spL K CR Ps pre out vs H Q E → vs.length = n := fun ⟨i, F, d, dx, sv, bv, s, bs, ws, _, e, a, _⟩ => by rw [e, List.length_cons, a.len, h i]
/-- the state at the entry -/
theorem TyS.entryD {Ns : List Str} {ws : List V} (a : AllP Ps ws F) (q : Sub F H) (dk : DkAt K H F d dx sv bv s bs) : TyS No F H (some (IsP (.ref d)) :: Ps.map some ++ List.replicate (Ns.length - (Ps.length + 1)) none) (Wdk K d dx sv bv s bs) F (start Ns (.ref d :: ws)) H := by
  have hd : ∀ b o, (Wdk K d dx sv bv s bs).X b = some o → b = d ∧ o = dkO K dx sv bv := fun b o h => by
    have h : (if b = d then some (dkO K dx sv bv) else none) = some o := h
    split at h
    · cases h; exact ⟨by assumption, rfl⟩
    · cases h
  refine ⟨New.refl q, ⟨?_, q, fun b o h => ?_, ⟨dk.s, dk.b⟩, fun b h => ?_⟩, fun _ h => h.elim, fun _ h => h.elim⟩
  · have := Typed.start (N := Ns) (Ps := IsP (.ref d) :: Ps) (vs := .ref d :: ws) (F := F) ⟨rfl, a⟩
    rw [List.length_cons, a.len] at this
    exact this
  · obtain ⟨rfl, rfl⟩ := hd b o h
    exact dk.h
  · cases e : (Wdk K d dx sv bv s bs).X b with
    | none => exact absurd e h
    | some o =>
      obtain ⟨rfl, rfl⟩ := hd b o e
      exact dk.f
theorem body_ofD {ι : Type} {Ps : ι → List VP} {pre : ι → Sto → List Sto → Prop} {out : ι → Sto → List Sto → ResD} {Ns : List Str} {vs : List V} {Q : VK} (h : spD K CR Ps pre out vs H Q E)
    (k : ∀ i s bs, pre i s bs → ∀ d dx sv bv F0 H0 (R : VK), (∀ Rr s' bs', out i s bs = .ok (Rr, s', bs') → ∀ v H, RetD K F0 H0 d dx s' bs' Rr v H → R v H) → (∀ c, out i s bs = .error c → RetX CR F0 H0 E c) →
      HT (TyA No F0 H0 (some (IsP (.ref d)) :: (Ps i).map some ++ List.replicate (Ns.length - ((Ps i).length + 1)) none) (Wdk K d dx sv bv s bs)) t (fun _ H => R .non H) R) :
    t { nx := fun _ H' => Q .non H', rt := Q } (start Ns vs) H := by
  obtain ⟨i, F, d, dx, sv, bv, s, bs, ws, hp, rfl, a, q, dk, r1, r2⟩ := h
  exact k i s bs hp d dx sv bv F H Q r1 r2 (start Ns _) H _ ⟨F, TyS.entryD a q dk⟩ (fun σ' H' q => q) fun v H' q => q
theorem body_ofL {ι : Type} {Ps : ι → List VP} {pre : ι → Sto → List Sto → Prop} {out : ι → Sto → List Sto → Except Int VP} {Ns : List Str} {vs : List V} {Q : VK} (h : spL K CR Ps pre out vs H Q E)
    (k : ∀ i s bs, pre i s bs → ∀ d dx sv bv F0 H0 (R : VK), (∀ Rr, out i s bs = .ok Rr → ∀ v H, RetP No F0 H0 Rr v H → R v H) → (∀ c, out i s bs = .error c → RetX CR F0 H0 E c) →
      HT (TyA No F0 H0 (some (IsP (.ref d)) :: (Ps i).map some ++ List.replicate (Ns.length - ((Ps i).length + 1)) none) (Wdk K d dx sv bv s bs)) t (fun _ H => R .non H) R) :
    t { nx := fun _ H' => Q .non H', rt := Q } (start Ns vs) H := by
  obtain ⟨i, F, d, dx, sv, bv, s, bs, ws, hp, rfl, a, q, dk, r1, r2⟩ := h
  exact k i s bs hp d dx sv bv F H Q (fun Rr e v H' ⟨F', n, p⟩ => r1 Rr e v F' H' n p) r2 (start Ns _) H _ ⟨F, TyS.entryD a q dk⟩ (fun σ' H' q => q) fun v H' q => q
/-- calls of those that look only -/
theorem spL_g {ι : Type} {Ps : ι → List VP} {pre : ι → Sto → List Sto → Prop} {out : ι → Sto → List Sto → Except Int VP} (i : ι) (h : pre i s bs) (e : out i s bs = .ok P) : SpGx (spL K CR Ps pre out) (Wdk K d dx sv bv s bs) (IsP (.ref d) :: Ps i) P := fun vs F H a q x g xf Q E k => by
  match vs, a with
  | v :: ws, a =>
    obtain rfl : v = V.ref d := a.1
    exact ⟨i, F, d, dx, sv, bv, s, bs, ws, h, rfl, a.2, q, ⟨x d _ wdk_x, xf d (by rw [wdk_x]; simp), g.1, g.2⟩, fun R e' => (by rw [e] at e'; cases e'; exact k), fun c e' => (by rw [e] at e'; cases e')⟩
theorem spL_x {ι : Type} {Ps : ι → List VP} {pre : ι → Sto → List Sto → Prop} {out : ι → Sto → List Sto → Except Int VP} (i : ι) (h : pre i s bs) {c : Int} (e : out i s bs = .error c) : SpX CR (spL K CR Ps pre out) (Wdk K d dx sv bv s bs) (IsP (.ref d) :: Ps i) c := fun vs F H a q x g xf Q E k => by
  match vs, a with
  | v :: ws, a =>
    obtain rfl : v = V.ref d := a.1
    exact ⟨i, F, d, dx, sv, bv, s, bs, ws, h, rfl, a.2, q, ⟨x d _ wdk_x, xf d (by rw [wdk_x]; simp), g.1, g.2⟩, fun R e' => (by rw [e] at e'; cases e'), fun c' e' => (by rw [e] at e'; cases e'; exact k)⟩
/-- desk.store -/
theorem Txt.dsto (T : Txt K mg) {i : Nat} (hs : Γ[i]? = some (some (IsP (.ref d)))) : EvG (tFld K (tVar i) "store") Γ (Wdk K d dx sv bv s bs) (StoP K s) := ev_fldX hs wdk_x (He.cls_ok (T.fact 83 (f := .cls "Desk") rfl)) T.na_Desk_store rfl fun F g => g.1
theorem Txt.dbef (T : Txt K mg) {i : Nat} (hs : Γ[i]? = some (some (IsP (.ref d)))) : EvG (tFld K (tVar i) "before") Γ (Wdk K d dx sv bv s bs) (LstP (bs.map (StoP K))) := ev_fldX hs wdk_x (He.cls_ok (T.fact 83 (f := .cls "Desk") rfl)) T.na_Desk_before rfl fun F g => g.2
theorem RetD.from (q : TyS No F0 H0 Γ (Wdk K d dx sv bv s bs) F σ H) {s' : Sto} {bs' : List Sto} {v : V} {H2 : Hp} (r : RetD K F H d dx s' bs' P v H2) : RetD K F0 H0 d dx s' bs' P v H2 := by
  obtain ⟨F2, sv2, bv2, n, dk, p⟩ := r
  exact ⟨F2, sv2, bv2, NewX.trans (NewX.weak q.n) n fun x e _ => e ▸ dk.f, dk, p⟩
/-- return f(desk, ..), f may change the desk -/
theorem ht_retC (h : EvA ta Γ (Wdk K d dx sv bv s bs) (IsP (.ref d) :: Ps)) (hm : MutG K CR sp d dx sv bv s bs Ps res) (hR : ∀ Rr s' bs', res = .ok (Rr, s', bs') → ∀ v H, RetD K F0 H0 d dx s' bs' Rr v H → R v H) (hE : ∀ c, res = .error c → RetX CR F0 H0 E c) :
    HT (TyA No F0 H0 Γ (Wdk K d dx sv bv s bs)) (tRet (tCall sp [] E ta)) B R := fun σ H D ⟨F, q⟩ nx rt => by
  refine h σ F H q.ok _ fun xs F1 H1 n1 p1 => ?_
  have q1 := q.next n1
  match xs, p1 with
  | v :: ws, p1 =>
    obtain rfl : v = V.ref d := p1.1
    show sp (V.ref d :: (ws ++ [])) H1 _ E
    rw [List.append_nil]
    exact hm ws F1 H1 p1.2 q1.ok.s q1.dk _ E (fun Rr s' bs' e v H2 r => rt v H2 (hR Rr s' bs' e v H2 (r.from q1))) fun c e => (hE c e).next q1.n
/-- return desk.m(..) -/
theorem ht_retM {i : Nat} {m : Str} (hs : Γ[i]? = some (some (IsP (.ref d)))) (hl : List.lookup m [(("store" : Str), sv), ("before", bv)] = none) (h : EvA ta Γ (Wdk K d dx sv bv s bs) Ps) (hm : MutG K CR sp d dx sv bv s bs Ps res) (hR : ∀ Rr s' bs', res = .ok (Rr, s', bs') → ∀ v H, RetD K F0 H0 d dx s' bs' Rr v H → R v H) (hE : ∀ c, res = .error c → RetX CR F0 H0 E c) :
    HT (TyA No F0 H0 Γ (Wdk K d dx sv bv s bs)) (tRet (tMeth (He.ga K "Desk") m sp [] E (tVar i) ta)) B R := fun σ H D ⟨F, q⟩ nx rt => by
  obtain ⟨u, h1, rfl⟩ := q.ok.t.get hs
  refine ⟨_, h1, d, dx, _, rfl, q.ok.x d _ wdk_x, hl, ?_⟩
  refine h σ F H q.ok _ fun ws F1 H1 n1 p1 => ?_
  have q1 := q.next n1
  show sp (V.ref d :: (ws ++ [])) H1 _ E
  rw [List.append_nil]
  exact hm ws F1 H1 p1 q1.ok.s q1.dk _ E (fun Rr s' bs' e v H2 r => rt v H2 (hR Rr s' bs' e v H2 (r.from q1))) fun c e => (hE c e).next q1.n
/-- what is known of the desk, behind a change -/
theorem TyS.fromD {s' : Sto} {bs' : List Sto} {sv2 bv2 : V} {F2 H2 : Hp} (q : TyS No F0 H0 Γ (Wdk K d dx sv bv s bs) F σ H) (n : NewX (fun a => a = d) F H F2 H2) (dk : DkAt K H2 F2 d dx sv2 bv2 s' bs') : TyS (fun a => a = d) F0 H0 Γ (Wdk K d dx sv2 bv2 s' bs') F2 σ H2 := by
  refine ⟨NewX.trans (NewX.weak q.n) n fun x e _ => e ▸ dk.f, ⟨q.ok.t.mono n.f, n.s, fun b o h => ?_, ⟨dk.s, dk.b⟩, fun b h => ?_⟩, fun _ h => h.elim, fun a ha => ?_⟩
  · have h : (if b = d then some (dkO K dx sv2 bv2) else none) = some o := h
    split at h
    · rename_i c
      cases h
      rw [c]; exact dk.h
    · cases h
  · have h : (if b = d then some (dkO K dx sv2 bv2) else none) ≠ none := h
    split at h
    · rename_i c
      rw [c]; exact dk.f
    · exact absurd rfl h
  · have ha : a = d := ha
    subst ha
    exact ⟨by rw [dk.h]; simp, dk.f⟩
/-- desk.m(..) as a statement -/
theorem ht_dropM {i : Nat} {m : Str} {s' : Sto} {bs' : List Sto} (hs : Γ[i]? = some (some (IsP (.ref d)))) (hl : List.lookup m [(("store" : Str), sv), ("before", bv)] = none) (h : EvA ta Γ (Wdk K d dx sv bv s bs) Ps) (hm : MutG K CR sp d dx sv bv s bs Ps (.ok (P, s', bs'))) :
    HT (TyA No F0 H0 Γ (Wdk K d dx sv bv s bs)) (tDrop (tMeth (He.ga K "Desk") m sp [] E (tVar i) ta)) (fun σ H => ∃ sv2 bv2, TyA (fun a => a = d) F0 H0 Γ (Wdk K d dx sv2 bv2 s' bs') σ H) R := fun σ H D ⟨F, q⟩ nx rt => by
  obtain ⟨u, h1, rfl⟩ := q.ok.t.get hs
  refine ⟨_, h1, d, dx, _, rfl, q.ok.x d _ wdk_x, hl, ?_⟩
  refine h σ F H q.ok _ fun ws F1 H1 n1 p1 => ?_
  have q1 := q.next n1
  show sp (V.ref d :: (ws ++ [])) H1 _ E
  rw [List.append_nil]
  refine hm ws F1 H1 p1 q1.ok.s q1.dk _ E (fun Rr s2 bs2 e v H2 r => ?_) fun c e => (by cases e)
  cases e
  obtain ⟨F2, sv2, bv2, n, dk, p⟩ := r
  exact nx _ _ ⟨sv2, bv2, F2, q1.fromD n dk⟩
/-- return e, behind a change -/
theorem ht_retW (h : EvG te Γ (Wdk K d dx sv bv s bs) P) (k : ∀ v H, RetD K F0 H0 d dx s bs P v H → R v H) : HT (TyA (fun a => a = d) F0 H0 Γ (Wdk K d dx sv bv s bs)) (tRet te) B R := fun σ H D ⟨F, q⟩ nx rt => by
  refine h σ F H q.ok _ fun v F2 H2 n p => ?_
  have q2 := q.next n
  exact rt _ _ (k v H2 ⟨F2, sv, bv, q2.n, q2.dk, p⟩)
/-- nothing was changed -/
theorem TyA.toD : ∀ σ H, TyA No F0 H0 Γ (Wdk K d dx sv bv s bs) σ H → TyA (fun a => a = d) F0 H0 Γ (Wdk K d dx sv bv s bs) σ H := fun σ H ⟨F, q⟩ => ⟨F, q.n.weak, q.ok, fun _ h => h.elim, fun a ha => by
  have ha : a = d := ha
  subst ha
  exact ⟨by rw [q.dk.h]; simp, q.dk.f⟩⟩
theorem ht_retN (h : EvG te Γ (Wdk K d dx sv bv s bs) P) (k : ∀ v H, RetD K F0 H0 d dx s bs P v H → R v H) : HT (TyA No F0 H0 Γ (Wdk K d dx sv bv s bs)) (tRet te) B R := ht_pre TyA.toD (ht_retW h k)
/-- the desk's attributes set -/
theorem TyS.changeD {sv2 bv2 : V} {s' : Sto} {bs' : List Sto} (q : TyS (fun a => a = d) F0 H0 Γ (Wdk K d dx sv bv s bs) F σ H) (h1 : StoP K s' sv2 F) (h2 : LstP (bs'.map (StoP K)) bv2 F) : TyS (fun a => a = d) F0 H0 Γ (Wdk K d dx sv2 bv2 s' bs') F σ (upd H d (dkO K dx sv2 bv2)) := by
  have hf : F d = none := (q.nn d rfl).2
  refine ⟨⟨q.n.f, fun a o c e => ?_, q.n.s.upd hf, q.n.n⟩, ⟨q.ok.t, q.ok.s.upd hf, fun b o h => ?_, ⟨h1, h2⟩, fun b h => ?_⟩, fun _ h => h.elim, fun a ha => ?_⟩
  · have c : ¬ a = d := c
    rw [upd_ne c]
    exact q.n.h a o c e
  · have h : (if b = d then some (dkO K dx sv2 bv2) else none) = some o := h
    split at h
    · rename_i c
      cases h
      rw [c, upd_same]
    · cases h
  · have h : (if b = d then some (dkO K dx sv2 bv2) else none) ≠ none := h
    split at h
    · rename_i c
      rw [c]; exact hf
    · exact absurd rfl h
  · have ha : a = d := ha
    subst ha
    exact ⟨by rw [upd_same]; simp, hf⟩
theorem ht_setB (T : Txt K mg) {i : Nat} {bs' : List Sto} (hs : Γ[i]? = some (some (IsP (.ref d)))) (h : EvG te Γ (Wdk K d dx sv bv s bs) (LstP (bs'.map (StoP K)))) :
    HT (TyA (fun a => a = d) F0 H0 Γ (Wdk K d dx sv bv s bs)) (sFld K (tVar i) te "before") (fun σ H => ∃ bv2, TyA (fun a => a = d) F0 H0 Γ (Wdk K d dx sv bv2 s bs') σ H) R := fun σ H D ⟨F, q⟩ nx rt => by
  refine h σ F H q.ok _ fun v F2 H2 n p => ?_
  have q2 := q.next n
  obtain ⟨u, h1, rfl⟩ := q2.ok.t.get hs
  exact ⟨_, h1, d, He.ga K "Desk", dx, _, rfl, q2.dk.h, He.cls_ok (T.fact 83 (f := .cls "Desk") rfl), T.na_Desk_before, by show 2 < 1000; decide, nx _ _ ⟨v, F2, q2.changeD q2.dk.s p⟩⟩
theorem ht_setS (T : Txt K mg) {i : Nat} {s' : Sto} (hs : Γ[i]? = some (some (IsP (.ref d)))) (h : EvG te Γ (Wdk K d dx sv bv s bs) (StoP K s')) :
    HT (TyA (fun a => a = d) F0 H0 Γ (Wdk K d dx sv bv s bs)) (sFld K (tVar i) te "store") (fun σ H => ∃ sv2, TyA (fun a => a = d) F0 H0 Γ (Wdk K d dx sv2 bv s' bs) σ H) R := fun σ H D ⟨F, q⟩ nx rt => by
  refine h σ F H q.ok _ fun v F2 H2 n p => ?_
  have q2 := q.next n
  obtain ⟨u, h1, rfl⟩ := q2.ok.t.get hs
  exact ⟨_, h1, d, He.ga K "Desk", dx, _, rfl, q2.dk.h, He.cls_ok (T.fact 83 (f := .cls "Desk") rfl), T.na_Desk_store, by show 2 < 1000; decide, nx _ _ ⟨v, F2, q2.changeD p q2.dk.b⟩⟩
theorem ht_fall (k : ∀ H, RetD K F0 H0 d dx s bs NonP .non H → R .non H) : ∀ σ H, TyA (fun a => a = d) F0 H0 Γ (Wdk K d dx sv bv s bs) σ H → R .non H := fun σ H ⟨F, q⟩ => k H ⟨F, sv, bv, q.n, q.dk, rfl⟩
end
variable {P : Program} {w : World} {K : PySem.W.Frag} {mg : Str → Option Value} {base : Heap}
def sp_put (K : PySem.W.Frag) : Sp := spD (ι := Sto) K (refA K) (fun s' => [StoP K s']) (fun _ _ bs => bs.length ≤ 100) fun s' s bs => .ok (NonP, s', bs ++ [s])
theorem ok_Desk_put (T : Txt K mg) : FnOk P w K mg base CX0 2 (He.fAd K ("Desk", some "put")) (fdOf K ("Desk", some "put")) ["self", "store"] (sp_put K) := by
  refine T.D_Desk_put.ok sc_Desk_put (spD_len fun _ => rfl) (fun cdv A outer s H vs Q E hr h => ⟨_, PSs.nox (pss_cons (ps_fld (pv 0) (pe_op op_cat (pe_fld (pv 0) rfl) (pe_lst (pa_cons (pe_fld (pv 0) rfl) pa_nil))) rfl) (pss_one (ps_fld (pv 0) (pv 1) rfl))), ?_⟩)
  refine body_ofD h fun s' s bs hl d dx sv bv F0 H0 R hR hE => ?_
  refine ht_pre TyA.toD ?_
  refine ht_seq (ht_setB T (bs' := bs ++ [s]) rfl (ev_isL (ev_cat (T.dbef rfl) (ev_lst (ea_cons (T.dsto rfl) ea_nil) (show 1 ≤ sizeLine by decide)) (sz_le (by rw [List.length_map]; show bs.length + 1 ≤ 16000000; omega))) (by rw [List.map_append]; rfl))) (ht_ex fun bv2 => ?_)
  refine ht_post (fun σ H ⟨sv2, a⟩ => ht_fall (fun H r => hR NonP s' (bs ++ [s]) rfl _ H r) σ H a) (ht_setS T rfl (ev_var rfl))
def VOk : VP := IntsP [0]
theorem ev_ok {Γ : List (Option VP)} {W : Wd} : EvG (tLst (tCons (tC (.int 0)) tNil)) Γ W VOk := ev_lst (ea_cons ev_int ea_nil) (show 1 ≤ sizeLine by decide)
def sp_put_material (K : PySem.W.Frag) : Sp := spD (ι := Nat × Material) K (refA K) (fun i => [IntP (i.1 : Int), MatP K i.2]) (fun _ s bs => StoOk s ∧ bs.length ≤ 100) fun i s bs => .ok (VOk, {s with ms := Pl.putA s.ms i.1 i.2}, bs ++ [s])
theorem ok_Desk_put_material (T : Txt K mg) : FnOk P w K mg base CX0 5 (He.fAd K ("Desk", some "put_material")) (fdOf K ("Desk", some "put_material")) ["self", "number", "material"] (sp_put_material K) := by
  refine T.D_Desk_put_material.ok sc_Desk_put_material (spD_len fun _ => rfl) (fun cdv A outer s H vs Q E hr h => ⟨_, PSs.nox (pss_cons (ps_set (i := 3) sc_Desk_put_material.nd rfl (Or.inl rfl) (pe_meth0 (pe_fld (pv 0) rfl) T.cl_Store T.mt_Store_twin (ok_Store_twin T) (hr.mono (by decide)) T.b_Store_twin .nil pass0)) (pss_cons (ps_dput (hu_of hr) (pe_fld (pv 3) rfl) (pv 1) (pv 2) rfl) (pss_cons (ps_expr (pe_meth (pv 0) T.cl_Desk T.mt_Desk_put (ok_Desk_put T) (hr.mono (by decide)) T.b_Desk_put .nil pass0 (pa_cons (pv 3) pa_nil))) (pss_one (ps_ret (pe_lst (pa_cons pe_int pa_nil))))))), ?_⟩)
  refine body_ofD h fun ⟨n, m⟩ s bs ⟨hs, hl⟩ d dx sv bv F0 H0 R hR hE => ?_
  refine ht_seq (ht_twin (G := fun x => [some (IsP (.ref d)), some (IntP (n : Int)), some (MatP K m), some (IsP (.ref x))]) (T.dsto rfl) fun x => rfl) (ht_ex fun t => ht_and fun ok => ?_)
  refine ht_seq (ht_twput1 T (i := 3) (n := n) (m := m) rfl ok (ev_var rfl) (ev_var rfl) (Nat.lt_of_le_of_lt hs.ml (by decide))) (ht_ex fun t' => ht_and fun ok' => ht_and fun hx => ?_)
  rw [← hx]
  refine ht_pre (fun σ H a => frz_twin (i := 3) rfl ok' rfl σ H a) ?_
  refine ht_seq (ht_dropM (i := 0) rfl rfl (ea_cons (ev_var rfl) ea_nil) (spD_g (Ps := fun s' => [StoP K s']) {s with ms := Pl.putA s.ms n m} hl)) (ht_ex fun sv2 => ht_ex fun bv2 => ?_)
  exact ht_retW ev_ok fun v H r => hR VOk _ _ rfl v H r
/-- rule None takes the rule away -/
def sp_put_rule (K : PySem.W.Frag) : Sp := spD (ι := Nat × Option Rule) K (refA K) (fun i => [IntP (i.1 : Int), OptP (RulP K) i.2]) (fun i s bs => StoOk s ∧ bs.length ≤ 100 ∧ (i.2 = none → (Pl.getA s.rs i.1).isSome)) fun i s bs => .ok (VOk, {s with rs := match i.2 with | some r => Pl.putA s.rs i.1 r | none => Pl.dropA s.rs i.1}, bs ++ [s])
theorem ok_Desk_put_rule (T : Txt K mg) : FnOk P w K mg base CX0 5 (He.fAd K ("Desk", some "put_rule")) (fdOf K ("Desk", some "put_rule")) ["self", "number", "rule"] (sp_put_rule K) := by
  refine T.D_Desk_put_rule.ok sc_Desk_put_rule (spD_len fun _ => rfl) (fun cdv A outer s H vs Q E hr h => ⟨_, PSs.nox (pss_cons (ps_set (i := 3) sc_Desk_put_rule.nd rfl (Or.inl rfl) (pe_meth0 (pe_fld (pv 0) rfl) T.cl_Store T.mt_Store_twin (ok_Store_twin T) (hr.mono (by decide)) T.b_Store_twin .nil pass0)) (pss_cons (ps_if (pt_cmpR op_isN1 (pv 2) pe_non (nomark _)) (pss_one (ps_expr (pe_dpop1 (pe_fld (pv 3) rfl) (pv 1) ⟨rfl, rfl, rfl, rfl⟩))) (pss_one (ps_dput (hu_of hr) (pe_fld (pv 3) rfl) (pv 1) (pv 2) rfl))) (pss_cons (ps_expr (pe_meth (pv 0) T.cl_Desk T.mt_Desk_put (ok_Desk_put T) (hr.mono (by decide)) T.b_Desk_put .nil pass0 (pa_cons (pv 3) pa_nil))) (pss_one (ps_ret (pe_lst (pa_cons pe_int pa_nil))))))), ?_⟩)
  refine body_ofD h fun ⟨n, r⟩ s bs ⟨hs, hl, hr⟩ d dx sv bv F0 H0 R hR hE => ?_
  refine ht_seq (ht_twin (G := fun x => [some (IsP (.ref d)), some (IntP (n : Int)), some (OptP (RulP K) r), some (IsP (.ref x))]) (T.dsto rfl) fun x => rfl) (ht_ex fun t => ht_and fun ok => ?_)
  cases r with
  | none =>
    obtain ⟨r0, hr0⟩ := Option.isSome_iff_exists.mp (hr rfl)
    refine ht_seq (ht_if (b := true) (et_test (ev_isN (ev_var rfl) fun v F h => by rw [show v = V.non from h]; rfl)) (fun _ => ht_twpop2 T (i := 3) (n := n) rfl ok (ev_var rfl) hr0) fun hb => by cases hb) (ht_ex fun t' => ht_and fun ok' => ht_and fun hx => ?_)
    rw [← hx]
    refine ht_pre (fun σ H a => frz_twin (i := 3) rfl ok' rfl σ H a) ?_
    refine ht_seq (ht_dropM (i := 0) rfl rfl (ea_cons (ev_var rfl) ea_nil) (spD_g (Ps := fun s' => [StoP K s']) {s with rs := Pl.dropA s.rs n} hl)) (ht_ex fun sv2 => ht_ex fun bv2 => ?_)
    exact ht_retW ev_ok fun v H r => hR VOk _ _ rfl v H r
  | some r =>
    refine ht_seq (ht_if (b := false) (et_test (ev_isN (ev_var rfl) fun v F ⟨a, _, us, h, _⟩ => by rw [h]; rfl)) (fun hb => by cases hb) fun _ => ht_twput2 T (i := 3) (n := n) (r := r) rfl ok (ev_var rfl) (ev_var (P := RulP K r) rfl) (Nat.lt_of_le_of_lt hs.rl (by decide))) (ht_ex fun t' => ht_and fun ok' => ht_and fun hx => ?_)
    rw [← hx]
    refine ht_pre (fun σ H a => frz_twin (i := 3) rfl ok' rfl σ H a) ?_
    refine ht_seq (ht_dropM (i := 0) rfl rfl (ea_cons (ev_var rfl) ea_nil) (spD_g (Ps := fun s' => [StoP K s']) {s with rs := Pl.putA s.rs n r} hl)) (ht_ex fun sv2 => ht_ex fun bv2 => ?_)
    exact ht_retW ev_ok fun v H r => hR VOk _ _ rfl v H r
def sp_put_formula (K : PySem.W.Frag) : Sp := spD (ι := Nat × List (Nat × Nat)) K (refA K) (fun i => [IntP (i.1 : Int), FormP i.2]) (fun _ s bs => StoOk s ∧ bs.length ≤ 100) fun i s bs => .ok (NonP, {s with fs := Pl.putA s.fs i.1 i.2}, bs ++ [s])
theorem ok_Desk_put_formula (T : Txt K mg) : FnOk P w K mg base CX0 5 (He.fAd K ("Desk", some "put_formula")) (fdOf K ("Desk", some "put_formula")) ["self", "number", "amounts"] (sp_put_formula K) := by
  refine T.D_Desk_put_formula.ok sc_Desk_put_formula (spD_len fun _ => rfl) (fun cdv A outer s H vs Q E hr h => ⟨_, PSs.nox (pss_cons (ps_set (i := 3) sc_Desk_put_formula.nd rfl (Or.inl rfl) (pe_meth0 (pe_fld (pv 0) rfl) T.cl_Store T.mt_Store_twin (ok_Store_twin T) (hr.mono (by decide)) T.b_Store_twin .nil pass0)) (pss_cons (ps_dput (hu_of hr) (pe_fld (pv 3) rfl) (pv 1) (pv 2) rfl) (pss_one (ps_expr (pe_meth (pv 0) T.cl_Desk T.mt_Desk_put (ok_Desk_put T) (hr.mono (by decide)) T.b_Desk_put .nil pass0 (pa_cons (pv 3) pa_nil)))))), ?_⟩)
  refine body_ofD h fun ⟨n, f⟩ s bs ⟨hs, hl⟩ d dx sv bv F0 H0 R hR hE => ?_
  refine ht_seq (ht_twin (G := fun x => [some (IsP (.ref d)), some (IntP (n : Int)), some (FormP f), some (IsP (.ref x))]) (T.dsto rfl) fun x => rfl) (ht_ex fun t => ht_and fun ok => ?_)
  refine ht_seq (ht_twput3 T (i := 3) (n := n) (f := f) rfl ok (ev_var rfl) (ev_var rfl) (Nat.lt_of_le_of_lt hs.fl (by decide))) (ht_ex fun t' => ht_and fun ok' => ht_and fun hx => ?_)
  rw [← hx]
  refine ht_pre (fun σ H a => frz_twin (i := 3) rfl ok' rfl σ H a) ?_
  refine ht_post (fun σ H ⟨sv2, bv2, a⟩ => ht_fall (fun H r => hR NonP _ _ rfl _ H r) σ H a) (ht_dropM (i := 0) rfl rfl (ea_cons (ev_var rfl) ea_nil) (spD_g (Ps := fun s' => [StoP K s']) {s with fs := Pl.putA s.fs n f} hl))
end Sw
set_option maxRecDepth 100000
set_option maxHeartbeats 2000000
/-! # Sorted pairs; the changes -/
namespace Sw
open PySem L2
open SubstitutionSpec (Material Rule toFormula)
theorem fOf_perm {ps : List (Nat × Nat)} (h : (Pl.keysA ps).Nodup) : (toFormula ps).Perm ps ∧ Pl.Asc (toFormula ps) := by
  have key : ∀ (es t : List (Nat × Nat)), (Pl.keysA (es ++ t)).Nodup → Pl.Asc t → (es.foldl (fun t e => SubstitutionSpec.Table.insert e.1 e.2 t) t).Perm (es ++ t) ∧ Pl.Asc (es.foldl (fun t e => SubstitutionSpec.Table.insert e.1 e.2 t) t) := by
    intro es
    induction es with
    | nil => intro t _ ha; exact ⟨List.Perm.refl _, ha⟩
    | cons e es ih =>
      intro t hn ha
      have hn' : (e.1 :: Pl.keysA (es ++ t)).Nodup := hn
      rw [List.nodup_cons] at hn'
      have hk : e.1 ∉ Pl.keysA t := fun q => hn'.1 (by unfold Pl.keysA; rw [List.map_append]; exact List.mem_append_right _ q)
      have hp := Pl.insert_perm (x := e.2) hk
      have hn2 : (Pl.keysA (es ++ SubstitutionSpec.Table.insert e.1 e.2 t)).Nodup := by
        have : (es ++ SubstitutionSpec.Table.insert e.1 e.2 t).Perm (e :: (es ++ t)) := (hp.append_left es).trans List.perm_middle
        exact (Pl.keys_perm this).nodup_iff.mpr hn
      obtain ⟨a, b⟩ := ih (SubstitutionSpec.Table.insert e.1 e.2 t) hn2 (Pl.asc_insert ha)
      exact ⟨a.trans ((hp.append_left es).trans List.perm_middle), b⟩
  have := key ps [] (by rwa [List.append_nil]) List.Pairwise.nil
  rwa [List.append_nil] at this
/-- one ascending list only -/
theorem asc_one {α : Type} {l m : List (Nat × α)} (hp : l.Perm m) (hl : Pl.Asc l) (hm : Pl.Asc m) : l = m := by
  unfold Pl.Asc Pl.keysA at hl hm
  rw [List.pairwise_map] at hl hm
  exact hp.eq_of_pairwise (le := fun a b => a.1 < b.1) (fun a b _ _ h1 h2 => absurd h1 (by omega)) hl hm
/-- the pair that stands at a value -/
def kF (F : Hp) (v : V) : Int × Int := match v with
  | .ref t => (match F t with
    | some (.tup [.int a, .int b]) => (a, b)
    | _ => (0, 0))
  | _ => (0, 0)
theorem kF_of {F : Hp} {v : V} {p : Nat × Nat} (h : PairP p v F) : kF F v = ((p.1 : Int), (p.2 : Int)) := by
  obtain ⟨a, xs, rfl, h2, h3⟩ := h
  match xs, h3 with
  | [x, y], h3 =>
    obtain rfl : x = _ := h3.1
    obtain rfl : y = _ := h3.2.1
    unfold kF
    simp only [h2]
theorem all_pairs {F : Hp} : ∀ {ps : List (Nat × Nat)} {xs : List V}, AllP (ps.map PairP) xs F → xs.map (fun v => ((kF F v).1.toNat, (kF F v).2.toNat)) = ps ∧ ∀ v ∈ xs, ∃ p, PairP p v F
  | [], [], _ => ⟨rfl, fun v hv => by cases hv⟩
  | p :: ps, x :: xs, h => by
    obtain ⟨h1, h2⟩ := all_pairs h.2
    refine ⟨?_, fun v hv => ?_⟩
    · rw [List.map_cons, h1, kF_of h.1]
      rfl
    · rcases List.mem_cons.mp hv with e | e
      · exact ⟨p, e ▸ h.1⟩
      · exact h2 v e
  | [], _ :: _, h => h.elim
  | _ :: _, [], h => h.elim
theorem pairs_all {F : Hp} : ∀ {ys : List V}, (∀ v ∈ ys, ∃ p, PairP p v F) → AllP ((ys.map fun v => ((kF F v).1.toNat, (kF F v).2.toNat)).map PairP) ys F
  | [], _ => trivial
  | y :: ys, h => by
    refine ⟨?_, pairs_all fun v hv => h v (List.mem_cons_of_mem _ hv)⟩
    obtain ⟨p, hp⟩ := h y List.mem_cons_self
    show PairP ((kF F y).1.toNat, (kF F y).2.toNat) y F
    rw [kF_of hp]
    exact hp
section
variable {Γ : List (Option VP)} {W : Wd} {te : TE} {K : PySem.W.Frag}
theorem ev_sortedPO {ps : List (Nat × Nat)} (h : EvG te Γ W (LstP (ps.map PairP))) (hn : (Pl.keysA ps).Nodup) : EvG (tCB (rSortedPO K) (tCons te tNil)) Γ W (LstP ((toFormula ps).map PairP)) := by
  refine ev_cb (ea_cons h ea_nil) (cb_one fun v F H ⟨a, xs, e, h2, h3⟩ q _ _ Q k => ?_)
  subst e
  obtain ⟨h4, h5⟩ := all_pairs h3
  refine ⟨a, xs, kF F, rfl, SqL.of (q.lst h2), fun x hx => ?_, fun ys p hs hst hp => ?_⟩
  · obtain ⟨p, hp⟩ := h5 x hx
    have e := kF_of hp
    obtain ⟨t, zs, rfl, z2, z3⟩ := hp
    match zs, z3 with
    | [u, w], z3 =>
      obtain rfl : u = _ := z3.1
      obtain rfl : w = _ := z3.2.1
      exact ⟨t, rfl, by rw [e]; exact q.tup z2⟩
  · have hy : ∀ v ∈ ys, ∃ p, PairP p v F := fun v hv => h5 v (hst.perm.mem_iff.mp hv)
    have hqp : (ys.map fun v => ((kF F v).1.toNat, (kF F v).2.toNat)).Perm ps := by
      rw [← h4]
      exact hst.perm.map _
    have hqa : Pl.Asc (ys.map fun v => ((kF F v).1.toNat, (kF F v).2.toNat)) := by
      have hn2 : (Pl.keysA (ys.map fun v => ((kF F v).1.toNat, (kF F v).2.toNat))).Nodup := (Pl.keys_perm hqp).nodup_iff.mpr hn
      unfold Pl.Asc
      unfold Pl.keysA at hn2 ⊢
      rw [List.map_map, List.pairwise_map]
      rw [List.map_map] at hn2
      unfold List.Nodup at hn2
      rw [List.pairwise_map] at hn2
      refine List.Pairwise.imp_of_mem (fun {x y} hx hy' h => ?_) (hn2.and hs)
      obtain ⟨p1, e1⟩ := hy x hx
      obtain ⟨p2, e2⟩ := hy y hy'
      have a1 := kF_of e1
      have a2 := kF_of e2
      obtain ⟨b1, b2⟩ := h
      have b2 := SrtO.lexB_no.mp b2
      simp only [Function.comp, a1, a2] at b1 b2 ⊢
      omega
    have e : ys.map (fun v => ((kF F v).1.toNat, (kF F v).2.toNat)) = toFormula ps := asc_one (hqp.trans (fOf_perm hn).1.symm) hqa (fOf_perm hn).2
    exact k _ _ _ (New.upd q hp) ⟨p, ys, rfl, upd_same, (e ▸ pairs_all hy).mono (Ex.upd (q.free hp))⟩
/-- dict(..) of pairs with different keys -/
theorem ev_dictP {ps : List (Nat × Nat)} (h : EvG te Γ W (LstP (ps.map PairP))) (hn : (Pl.keysA ps).Nodup) : EvG (tCB (rDictP K) (tCons te tNil)) Γ W (FormP ps) := by
  refine ev_cb (ea_cons h ea_nil) (cb_one fun v F H ⟨a, xs, e, h2, h3⟩ q _ _ Q k => ?_)
  subst e
  let kvs : List (Key × V) := ps.map fun p => (Sum.inl (p.1 : Int), V.int (p.2 : Int))
  have refs : ∀ {ps : List (Nat × Nat)} {xs : List V}, AllP (ps.map PairP) xs F → ∃ as : List Addr, xs = as.map V.ref ∧ Paired (fun p kv => SqT K H p [kV kv.1, kv.2]) as (ps.map fun p => ((Sum.inl (p.1 : Int) : Key), V.int (p.2 : Int))) := by
    intro ps
    induction ps with
    | nil => intro xs h; cases xs with
      | nil => exact ⟨[], rfl, .nil⟩
      | cons _ _ => exact h.elim
    | cons p ps ih => intro xs h; cases xs with
      | nil => exact h.elim
      | cons x xs =>
        obtain ⟨as, e, hp⟩ := ih h.2
        obtain ⟨t, zs, e2, z2, z3⟩ := h.1
        match zs, z3 with
        | [u, w], z3 =>
          obtain rfl : u = _ := z3.1
          obtain rfl : w = _ := z3.2.1
          exact ⟨t :: as, by rw [e, e2]; rfl, .cons (SqT.of (q.tup z2)) hp⟩
  obtain ⟨as, e, hp⟩ := refs h3
  subst e
  refine ⟨a, as, _, rfl, SqL.of (q.lst h2), hp, fun p hp => ?_⟩
  have key : ∀ (l : List (Nat × Nat)) (es : List (Nat × Nat)) (acc : List (Key × V)), (Pl.keysA (es ++ l)).Nodup → Ents (fun n : Nat => IntP (n : Int)) es acc F → Ents (fun n : Nat => IntP (n : Int)) (es ++ l) (mergeK acc (l.map fun p => ((Sum.inl (p.1 : Int) : Key), V.int (p.2 : Int)))) F := by
    intro l
    induction l with
    | nil => intro es acc _ h; rw [List.append_nil]; exact h
    | cons x l ih =>
      intro es acc hn h
      have hx : x.1 ∉ Pl.keysA es := by
        unfold Pl.keysA at hn
        rw [List.map_append, List.map_cons, List.nodup_append] at hn
        intro q
        exact hn.2.2 _ q _ List.mem_cons_self rfl
      have e1 : es ++ x :: l = Pl.putA es x.1 x.2 ++ l := by rw [put_new hx]; simp
      rw [e1] at hn ⊢
      exact ih _ (putK acc (Sum.inl (x.1 : Int)) (V.int (x.2 : Int))) hn (h.put (x := x.2) (v := V.int (x.2 : Int)) (show IntP (x.2 : Int) (V.int (x.2 : Int)) F from rfl))
  have hE := key ps [] [] (by rwa [List.nil_append]) trivial
  rw [List.nil_append] at hE
  exact k _ _ _ (New.upd q hp) ⟨p, _, rfl, upd_same, hE.mono (Ex.upd (q.free hp))⟩
end
end Sw
set_option maxRecDepth 100000
set_option maxHeartbeats 2000000
/-! # The changes -/
namespace Sw
open PySem L2
open SubstitutionSpec (Material Rule toFormula isIdentifier inRange isProfile)
def BsOk (bs : List Sto) : Prop := bs.length ≤ 100
abbrev mC : Nat := SubstitutionSpec.materialCount
theorem ident {n : Int} {c : Nat} {k : Int} (h : k + 1 = (c : Int)) : (decide (0 ≤ n) && decide (n ≤ k)) = isIdentifier c n := by
  unfold isIdentifier
  congr 1
  rw [Bool.eq_iff_iff, decide_eq_true_eq, decide_eq_true_eq]
  omega
theorem ident_nat {n : Int} {c : Nat} (h : isIdentifier c n = true) : ∃ m : Nat, n = (m : Int) ∧ m < c := by
  unfold isIdentifier at h
  rw [Bool.and_eq_true, decide_eq_true_eq, decide_eq_true_eq] at h
  exact ⟨n.toNat, by omega, by omega⟩
theorem range_nat {n : Int} {a b : Nat} (h : inRange a b n = true) : ∃ m : Nat, n = (m : Int) ∧ a ≤ m ∧ m ≤ b := by
  unfold inRange at h
  rw [Bool.and_eq_true, decide_eq_true_eq, decide_eq_true_eq] at h
  exact ⟨n.toNat, by omega, by omega, by omega⟩
theorem rng0M (n : Int) : (decide (0 ≤ n) && decide (n ≤ 1000000)) = inRange 0 1000000 n := rfl
section
variable {F0 H0 : Hp} {Γ : List (Option VP)} {W : Wd} {B : As} {R : VK} {te ta tb : TE} {tt : TT} {N : Addr → Prop} {b : Bool}
theorem ht_retIf (h : EvT tt Γ W b) (h1 : b = true → HT (TyA N F0 H0 Γ W) (tRet ta) B R) (h2 : b = false → HT (TyA N F0 H0 Γ W) (tRet tb) B R) : HT (TyA N F0 H0 Γ W) (tRet (tIf tt ta tb)) B R := fun σ H D ⟨F, s⟩ nx rt =>
  h σ F H s.ok _ fun F2 H2 n => by
    cases b with
    | true => exact h1 rfl σ H2 D ⟨F2, s.next n⟩ nx rt
    | false => exact h2 rfl σ H2 D ⟨F2, s.next n⟩ nx rt
theorem ev_lenN {ns : List Int} (h : EvG te Γ W (IntsP ns)) {K : PySem.W.Frag} : EvG (tCB (rLenSeq K) (tCons te tNil)) Γ W (IntP (ns.length : Int)) := ev_is (ev_cb (ea_cons h ea_nil) cb_lenL) (by rw [List.length_map])
end
variable {P : Program} {w : World} {K : PySem.W.Frag} {mg : Str → Option Value} {base : Heap}
/-! ### materials -/
def oAddMat (mat price : Int) (row : List Int) (s : Sto) (bs : List Sto) : ResD :=
  if (isIdentifier mC mat && (inRange 0 1000000 price && isProfile row)) = false then .error (-1) else if (Pl.getA s.ms mat.toNat).isSome = true then .error (-8)
  else .ok (VOk, {s with ms := Pl.putA s.ms mat.toNat ⟨price.toNat, row.map Int.toNat, true, 1000000⟩}, bs ++ [s])
def sp_add_material (K : PySem.W.Frag) : Sp := spD (ι := Int × Int × List Int) K (refA K) (fun i => [IntsP [i.1, i.2.1], IntsP i.2.2]) (fun i s bs => StoOk s ∧ BsOk bs ∧ i.2.2.length ≤ 22) fun i s bs => oAddMat i.1 i.2.1 i.2.2 s bs
theorem ok_add_material (T : Txt K mg) : FnOk P w K mg base (L2.CX P w) 6 (He.fAd K ("add_material", none)) (fdOf K ("add_material", none)) ["desk", "numbers", "row"] (sp_add_material K) := by
  refine T.D_add_material.ok sc_add_material (spD_len fun _ => rfl) (fun cdv A outer s H vs Q E hr h => ⟨_, (pss_cons (ps_asg (pv 1) (pg_lst (n := 2) rfl (pgs_cons (pg_name (i := 3) sc_add_material.nd rfl (Or.inl rfl)) (pgs_cons (pg_name (i := 4) sc_add_material.nd rfl (Or.inl rfl)) pgs_nil)))) (pss_cons (ps_expr (pe_call (ok_need T) (hr.mono (by decide)) (by rfl) T.g_need T.k_need T.b_need .nil (passes_call (takes_of rfl rfl rfl rfl) fun _ _ _ _ h => h) (pa_cons (pe_and (pe_chain op_le op_le pe_int (pv 3) (pe_globI T.i_MATERIALS (by rfl))) (pe_and (pe_chain op_le op_le pe_int (pv 4) (pe_globI T.i_MOST (by rfl))) (pe_one (pe_cmpR op_eq (pe_callB cr_lenSeq (by rfl) T.f_len bb_len (pa_cons (pv 2) pa_nil)) (pe_globI T.i_ATTRIBUTES (by rfl)) (nomark _))))) (pa_cons (pe_un un_neg pe_int) pa_nil)))) (pss_cons (ps_expr (pe_call (ok_need T) (hr.mono (by decide)) (by rfl) T.g_need T.k_need T.b_need .nil (passes_call (takes_of rfl rfl rfl rfl) fun _ _ _ _ h => h) (pa_cons (pe_call (ok_are_within T) (hr.mono (by decide)) (by rfl) T.g_are_within T.k_are_within T.b_are_within .nil pass0 (pa_cons (pv 2) (pa_cons pe_int (pa_cons pe_int pa_nil)))) (pa_cons (pe_un un_neg pe_int) pa_nil)))) (pss_cons (ps_expr (pe_call (ok_need T) (hr.mono (by decide)) (by rfl) T.g_need T.k_need T.b_need .nil (passes_call (takes_of rfl rfl rfl rfl) fun _ _ _ _ h => h) (pa_cons (pe_cmp (pc_dnotin (hu_of hr) (pv 3) (pe_fld (pe_fld (pv 0) rfl) rfl))) (pa_cons (pe_un un_neg pe_int) pa_nil)))) (pss_one (ps_ret (pe_meth (pv 0) T.cl_Desk T.mt_Desk_put_material (ok_Desk_put_material T) (hr.mono (by decide)) T.b_Desk_put_material .nil pass0 (pa_cons (pv 3) (pa_cons (pe_make T.mk_Material (ok_Material_init T) (hr.mono (by decide)) (by rfl) T.g_Material T.b_Material_init .nil pass0 (pa_cons (pv 4) (pa_cons (pe_callTy cr_tupOf (by rfl) T.f_tuple bb_tuple (pa_cons (pv 2) pa_nil)) (pa_cons pe_bl (pa_cons (pe_globI T.i_WHOLE (by rfl)) pa_nil))))) pa_nil))))))))), ?_⟩)
  refine body_ofD h fun ⟨mat, price, row⟩ s bs ⟨hs, hl, hrow⟩ d dx sv bv F0 H0 R hR hE => ?_
  have hrow : row.length ≤ 22 := hrow
  have e1 : (isIdentifier mC mat && (inRange 0 1000000 price && isProfile row)) = false → RetX (refA K) F0 H0 E (-1) := fun q => hE (-1) (by show oAddMat mat price row s bs = _; unfold oAddMat; rw [if_pos q])
  refine ht_seq (ht_asg (hg := tg_lst2 (P1 := IntP mat) (P2 := IntP price)) (ev_var rfl)) ?_
  have hprof : isProfile row = (decide ((row.length : Int) = 6) && allIn 0 1000 row) := by
    unfold isProfile allIn
    congr 1
    rw [Bool.eq_iff_iff, decide_eq_true_eq, beq_iff_eq]
    show row.length = 6 ↔ _
    omega
  refine ht_need (ev_andV (ev_chainI ev_int (ev_var rfl) ev_int) fun _ => ev_andV (ev_chainI ev_int (ev_var rfl) ev_int) fun _ => ev_eqI (ev_lenN (ev_var (P := IntsP row) rfl)) ev_int) (ev_un ev_int) (fun hb => e1 ?_) fun hb => ?_
  · rw [ident (c := mC) rfl, rng0M] at hb
    rw [hprof]
    exact (show ∀ A B L W : Bool, (A && (B && L)) = false → (A && (B && (L && W))) = false by decide) _ _ _ _ hb
  rw [ident (c := mC) rfl, rng0M] at hb
  obtain ⟨hb1, hb2, hb3⟩ := (show ∀ A B L : Bool, (A && (B && L)) = true → A = true ∧ B = true ∧ L = true by decide) _ _ _ hb
  refine ht_need (ev_call (ea_cons (ev_var rfl) (ea_cons ev_int (ea_cons ev_int ea_nil))) (spF_g (row, (0 : Int), (1000 : Int)) (by show row.length < 16000000; omega))) (ev_un ev_int) (fun hc => e1 ?_) fun hc => ?_
  · rw [hprof, show allIn 0 1000 row = false from hc]
    exact (show ∀ A B L : Bool, (A && (B && (L && false))) = false by decide) _ _ _
  have hall : (isIdentifier mC mat && (inRange 0 1000000 price && isProfile row)) = true := by rw [hprof, hb1, hb2, hb3, show allIn 0 1000 row = true from hc]; rfl
  obtain ⟨n, rfl, hn⟩ := ident_nat hb1
  obtain ⟨q, rfl, _, hq⟩ := range_nat hb2
  refine ht_need (ev_dnin (n := n) (ev_var rfl) (T.mats (T.dsto rfl))) (ev_un ev_int) (fun hd => ?_) fun hd => ?_
  · refine hE (-8) ?_
    show oAddMat n q row s bs = _
    unfold oAddMat
    rw [if_neg (by rw [hall]; decide), if_pos]
    rw [Int.toNat_natCast]
    simpa using hd
  · have hres : oAddMat n q row s bs = .ok (VOk, {s with ms := Pl.putA s.ms n ⟨q, row.map Int.toNat, true, 1000000⟩}, bs ++ [s]) := by
      unfold oAddMat
      rw [if_neg (by rw [hall]; decide), if_neg, Int.toNat_natCast, Int.toNat_natCast]
      rw [Int.toNat_natCast]
      simpa using hd
    have hpr : row.map IntP = (row.map Int.toNat).map fun (n : Nat) => IntP (n : Int) := by
      rw [List.map_map]
      refine List.map_congr_left fun x hx => ?_
      have := List.all_eq_true.mp (show allIn 0 1000 row = true from hc) x hx
      rw [Bool.and_eq_true, decide_eq_true_eq, decide_eq_true_eq] at this
      show IntP x = IntP ((x.toNat : Nat) : Int)
      rw [Int.toNat_of_nonneg this.1]
    refine ht_retM (i := 0) rfl rfl (ea_cons (ev_var rfl) (ea_cons (ev_make (fs := ["price", "profile", "is_available", "most"]) (Ps := [IntP (q : Int), TupP ((row.map Int.toNat).map fun (n : Nat) => IntP (n : Int)), BoolP true, IntP ((1000000 : Nat) : Int)]) (ea_cons (ev_var rfl) (ea_cons (ev_cb (ea_cons (ev_isL (ev_var (P := IntsP row) rfl) hpr) ea_nil) cb_tupL) (ea_cons ev_bl (ea_cons ev_int ea_nil))))) ea_nil)) (spD_g (Ps := fun i : Nat × Material => [IntP (i.1 : Int), MatP K i.2]) (n, ⟨q, row.map Int.toNat, true, 1000000⟩) ⟨hs, hl⟩) (fun Rr s' bs' e v H r => hR Rr s' bs' (hres.trans e) v H r) fun c e => by cases e
/-- 2 to 5: unavailable, available, price, share -/
def oChange (w m : Int) (x : Option Int) (s : Sto) (bs : List Sto) : ResD :=
  if (isIdentifier mC m && (decide (w ≤ 3) || inRange 0 1000000 (x.getD 0))) = false then .error (-1) else match Pl.getA s.ms m.toNat with
  | none => .error (-3)
  | some old => if w ≤ 3 then (if old.isAvailable = decide (w = 2) then .ok (VOk, {s with ms := Pl.putA s.ms m.toNat {old with isAvailable := decide (w = 3)}}, bs ++ [s]) else .error (-8))
    else if w = 4 then .ok (VOk, {s with ms := Pl.putA s.ms m.toNat {old with price := (x.getD 0).toNat}}, bs ++ [s])
    else .ok (VOk, {s with ms := Pl.putA s.ms m.toNat {old with maxShare := (x.getD 0).toNat}}, bs ++ [s])
def sp_change_material (K : PySem.W.Frag) : Sp := spD (ι := Int × Int × Option Int) K (refA K) (fun i => [IntP i.1, IntsP (i.2.1 :: i.2.2.toList)]) (fun i s bs => StoOk s ∧ BsOk bs ∧ (i.1 ≤ 3 ∨ i.2.2.isSome = true)) fun i s bs => oChange i.1 i.2.1 i.2.2 s bs
theorem ok_change_material (T : Txt K mg) : FnOk P w K mg base (L2.CX P w) 6 (He.fAd K ("change_material", none)) (fdOf K ("change_material", none)) ["desk", "word", "numbers"] (sp_change_material K) := by
  refine T.D_change_material.ok sc_change_material (spD_len fun _ => rfl) (fun cdv A outer s H vs Q E hr h => ⟨_, (pss_cons (ps_set (i := 3) sc_change_material.nd rfl (Or.inl rfl) (pe_ix ix_list (pv 2) pe_int (fun _ _ => rfl))) (pss_cons (ps_expr (pe_call (ok_need T) (hr.mono (by decide)) (by rfl) T.g_need T.k_need T.b_need .nil (passes_call (takes_of rfl rfl rfl rfl) fun _ _ _ _ h => h) (pa_cons (pe_and (pe_chain op_le op_le pe_int (pv 3) (pe_globI T.i_MATERIALS (by rfl))) (pe_one (pe_or (pe_cmpR op_le (pv 1) pe_int (nomark _)) (pe_one (pe_chain op_le op_le pe_int (pe_ix ix_list (pv 2) pe_int (fun _ _ => rfl)) (pe_globI T.i_MOST (by rfl))))))) (pa_cons (pe_un un_neg pe_int) pa_nil)))) (pss_cons (ps_expr (pe_call (ok_need T) (hr.mono (by decide)) (by rfl) T.g_need T.k_need T.b_need .nil (passes_call (takes_of rfl rfl rfl rfl) fun _ _ _ _ h => h) (pa_cons (pe_cmp (pc_din (hu_of hr) (pv 3) (pe_fld (pe_fld (pv 0) rfl) rfl))) (pa_cons (pe_un un_neg pe_int) pa_nil)))) (pss_cons (ps_set (i := 4) sc_change_material.nd rfl (Or.inl rfl) (pe_dget (hu_of hr) (pe_fld (pe_fld (pv 0) rfl) rfl) (pv 3) (fun _ _ => rfl))) (pss_cons (ps_if (pt_cmpR op_le (pv 1) pe_int (nomark _)) (pss_cons (ps_expr (pe_call (ok_need T) (hr.mono (by decide)) (by rfl) T.g_need T.k_need T.b_need .nil (passes_call (takes_of rfl rfl rfl rfl) fun _ _ _ _ h => h) (pa_cons (pe_cmpR op_eq (pe_fld (pv 4) rfl) (pe_cmpR op_eq (pv 1) pe_int (nomark _)) (nomark _)) (pa_cons (pe_un un_neg pe_int) pa_nil)))) (pss_one (ps_ret (pe_meth (pv 0) T.cl_Desk T.mt_Desk_put_material (ok_Desk_put_material T) (hr.mono (by decide)) T.b_Desk_put_material .nil pass0 (pa_cons (pv 3) (pa_cons (pe_make T.mk_Material (ok_Material_init T) (hr.mono (by decide)) (by rfl) T.g_Material T.b_Material_init .nil pass0 (pa_cons (pe_fld (pv 4) rfl) (pa_cons (pe_fld (pv 4) rfl) (pa_cons (pe_cmpR op_eq (pv 1) pe_int (nomark _)) (pa_cons (pe_fld (pv 4) rfl) pa_nil))))) pa_nil)))))) pss_nil) (pss_cons (ps_if (pt_cmpR op_eq (pv 1) pe_int (nomark _)) (pss_one (ps_ret (pe_meth (pv 0) T.cl_Desk T.mt_Desk_put_material (ok_Desk_put_material T) (hr.mono (by decide)) T.b_Desk_put_material .nil pass0 (pa_cons (pv 3) (pa_cons (pe_make T.mk_Material (ok_Material_init T) (hr.mono (by decide)) (by rfl) T.g_Material T.b_Material_init .nil pass0 (pa_cons (pe_ix ix_list (pv 2) pe_int (fun _ _ => rfl)) (pa_cons (pe_fld (pv 4) rfl) (pa_cons (pe_fld (pv 4) rfl) (pa_cons (pe_fld (pv 4) rfl) pa_nil))))) pa_nil))))) pss_nil) (pss_one (ps_ret (pe_meth (pv 0) T.cl_Desk T.mt_Desk_put_material (ok_Desk_put_material T) (hr.mono (by decide)) T.b_Desk_put_material .nil pass0 (pa_cons (pv 3) (pa_cons (pe_make T.mk_Material (ok_Material_init T) (hr.mono (by decide)) (by rfl) T.g_Material T.b_Material_init .nil pass0 (pa_cons (pe_fld (pv 4) rfl) (pa_cons (pe_fld (pv 4) rfl) (pa_cons (pe_fld (pv 4) rfl) (pa_cons (pe_ix ix_list (pv 2) pe_int (fun _ _ => rfl)) pa_nil))))) pa_nil))))))))))), ?_⟩)
  refine body_ofD h fun ⟨w, m, x⟩ s bs ⟨hs, hl, hx⟩ d dx sv bv F0 H0 R hR hE => ?_
  refine ht_seq (ht_set (P := IntP m) (ev_ixL (ev_var (P := IntsP (m :: x.toList)) rfl) ev_int (atI_nat (j := 0) rfl))) ?_
  refine ht_need (b := isIdentifier mC m && (decide (w ≤ 3) || inRange 0 1000000 (x.getD 0))) (ev_andV (ev_isB (ev_chainI ev_int (ev_var rfl) ev_int) (ident (c := mC) rfl)) fun _ => ev_orV (ev_le (ev_var rfl) ev_int) fun hw => ?_) (ev_un ev_int) (fun hb => ?_) fun hb => ?_
  · have hw : ¬ w ≤ 3 := of_decide_eq_false hw
    obtain ⟨y, rfl⟩ := Option.isSome_iff_exists.mp (hx.resolve_left hw)
    exact ev_chainI ev_int (ev_ixL (P := IntP y) (ev_var (P := IntsP [m, y]) rfl) ev_int rfl) ev_int
  · exact hE (-1) (by show oChange w m x s bs = _; unfold oChange; rw [if_pos hb])
  obtain ⟨hb1, hb2⟩ := Bool.and_eq_true_iff.mp hb
  obtain ⟨n, rfl, hn⟩ := ident_nat hb1
  have hout : oChange w n x s bs = match Pl.getA s.ms n with
    | none => .error (-3)
    | some old => if w ≤ 3 then (if old.isAvailable = decide (w = 2) then .ok (VOk, {s with ms := Pl.putA s.ms n {old with isAvailable := decide (w = 3)}}, bs ++ [s]) else .error (-8))
      else if w = 4 then .ok (VOk, {s with ms := Pl.putA s.ms n {old with price := (x.getD 0).toNat}}, bs ++ [s])
      else .ok (VOk, {s with ms := Pl.putA s.ms n {old with maxShare := (x.getD 0).toNat}}, bs ++ [s]) := by
    unfold oChange
    rw [if_neg (by rw [hb]; decide), Int.toNat_natCast]
  refine ht_need (ev_din (n := n) (ev_var rfl) (T.mats (T.dsto rfl))) (ev_un ev_int) (fun hc => ?_) fun hc => ?_
  · refine hE (-3) (hout.trans ?_)
    cases q : Pl.getA s.ms n with
    | none => rfl
    | some y => rw [q] at hc; cases hc
  obtain ⟨old, hold⟩ := Option.isSome_iff_exists.mp hc
  rw [hold] at hout
  dsimp only at hout
  refine ht_seq (ht_set (P := MatP K old) (ev_mat (T.mats (T.dsto rfl)) (ev_var rfl) hold)) ?_
  let G : List (Option VP) := [some (IsP (.ref d)), some (IntP w), some (IntsP ((n : Int) :: x.toList)), some (IntP (n : Int)), some (MatP K old)]
  have make : ∀ (new : Material) (t1 t2 t3 t4 : TE), EvG t1 G (Wdk K d dx sv bv s bs) (IntP (new.price : Int)) → EvG t2 G (Wdk K d dx sv bv s bs) (TupP (new.profile.map fun (n : Nat) => IntP (n : Int))) → EvG t3 G (Wdk K d dx sv bv s bs) (BoolP new.isAvailable) → EvG t4 G (Wdk K d dx sv bv s bs) (IntP (new.maxShare : Int)) →
      oChange w n x s bs = .ok (VOk, {s with ms := Pl.putA s.ms n new}, bs ++ [s]) →
      ∀ B, HT (TyA No F0 H0 G (Wdk K d dx sv bv s bs)) (tRet (tMeth (He.ga K "Desk") "put_material" (sp_put_material K) [] E0 (tVar 0) (tCons (tVar 3) (tCons (tMake (He.ga K "Material") (spI (He.ga K "Material") ["price", "profile", "is_available", "most"]) [] E0 (tCons t1 (tCons t2 (tCons t3 (tCons t4 tNil))))) tNil)))) B R := fun new t1 t2 t3 t4 h1 h2 h3 h4 hres B =>
    ht_retM (i := 0) rfl rfl (ea_cons (ev_var rfl) (ea_cons (ev_make (fs := ["price", "profile", "is_available", "most"]) (Ps := [IntP (new.price : Int), TupP (new.profile.map fun (n : Nat) => IntP (n : Int)), BoolP new.isAvailable, IntP (new.maxShare : Int)]) (ea_cons h1 (ea_cons h2 (ea_cons h3 (ea_cons h4 ea_nil))))) ea_nil)) (spD_g (Ps := fun i : Nat × Material => [IntP (i.1 : Int), MatP K i.2]) (n, new) ⟨hs, hl⟩) (fun Rr s' bs' e v H r => hR Rr s' bs' (hres.trans e) v H r) fun c e => by cases e
  have hwI : ∀ k : Int, EvG (tOp rEq (tVar 1) (tC (.int k))) G (Wdk K d dx sv bv s bs) (BoolP (decide (w = k))) := fun k => ev_eqI (ev_var rfl) ev_int
  refine ht_seq (B := fun σ H => ¬ w ≤ 3 ∧ TyA No F0 H0 G (Wdk K d dx sv bv s bs) σ H) (ht_if (et_test (ev_le (ev_var rfl) ev_int)) (fun hw => ?_) fun hw => ht_post (fun σ H a => ⟨of_decide_eq_false hw, a⟩) ht_next) (ht_and fun hw => ?_)
  · have hw : w ≤ 3 := of_decide_eq_true hw
    rw [if_pos hw] at hout
    refine ht_need (ev_eqB (T.avail (ev_var rfl)) (hwI 2)) (ev_un ev_int) (fun hd => ?_) fun hd => ?_
    · exact hE (-8) (by show oChange w n x s bs = _; rw [hout, if_neg (of_decide_eq_false hd)])
    · rw [if_pos (of_decide_eq_true hd)] at hout
      exact make {old with isAvailable := decide (w = 3)} _ _ _ _ (T.price (m := old) (ev_var rfl)) (T.prof (m := old) (ev_var rfl)) (hwI 3) (T.most (m := old) (ev_var rfl)) hout _
  rw [if_neg hw] at hout
  obtain ⟨y, rfl⟩ := Option.isSome_iff_exists.mp (hx.resolve_left hw)
  have hy : inRange 0 1000000 y = true := by
    rw [show decide (w ≤ 3) = false from decide_eq_false hw] at hb2
    exact hb2
  obtain ⟨z, rfl, _, hz⟩ := range_nat hy
  refine ht_guard (et_test (hwI 4)) (fun h4 => ?_) fun h4 => ?_
  · have h4 : w = 4 := of_decide_eq_true h4
    rw [if_pos h4] at hout
    exact make {old with price := z} _ _ _ _ (ev_ixL (P := IntP (z : Int)) (ev_var (P := IntsP [(n : Int), (z : Int)]) rfl) ev_int rfl) (T.prof (m := old) (ev_var rfl)) (T.avail (m := old) (ev_var rfl)) (T.most (m := old) (ev_var rfl)) hout _
  · have h4 : ¬ w = 4 := of_decide_eq_false h4
    rw [if_neg h4] at hout
    exact make {old with maxShare := z} _ _ _ _ (T.price (m := old) (ev_var rfl)) (T.prof (m := old) (ev_var rfl)) (T.avail (m := old) (ev_var rfl)) (ev_ixL (P := IntP (z : Int)) (ev_var (P := IntsP [(n : Int), (z : Int)]) rfl) ev_int rfl) hout _
end Sw
set_option maxRecDepth 100000
set_option maxHeartbeats 2000000
/-! # Rules, formulas -/
namespace Sw
open PySem L2
open SubstitutionSpec (Material Rule toFormula isIdentifier inRange isProfile parseParts)
structure PartsOk (most greatest : Nat) (ps : List (Nat × Nat)) : Prop where
  len : 1 ≤ ps.length ∧ ps.length ≤ most
  mat : ∀ p ∈ ps, p.1 < 24
  amt : ∀ p ∈ ps, 1 ≤ p.2 ∧ p.2 ≤ greatest
  diff : (Pl.keysA ps).Nodup
theorem parse_ok {row : List Int} {most greatest : Nat} {ps : List (Nat × Nat)} (h : parseParts row most greatest = some ps) : PartsOk most greatest ps := by
  by_cases c : row.length % 2 = 0
  · obtain ⟨prs, h1, h2, h3⟩ := toPairs_some c
    rw [parse_some h1] at h
    split at h
    · rename_i q
      obtain ⟨q1, q2, ⟨q3, q4⟩, q5⟩ := q
      obtain rfl := Option.some.inj h
      have a1 : ∀ p ∈ prs, 0 ≤ p.1 ∧ p.1 ≤ 23 := fun p hp => by
        have := List.all_eq_true.mp q3 p.1 (List.mem_map.mpr ⟨p, hp, rfl⟩)
        rw [Bool.and_eq_true, decide_eq_true_eq, decide_eq_true_eq] at this
        exact this
      have a2 : ∀ p ∈ prs, 1 ≤ p.2 ∧ p.2 ≤ (greatest : Int) := fun p hp => by
        have := List.all_eq_true.mp q5 p.2 (List.mem_map.mpr ⟨p, hp, rfl⟩)
        rw [Bool.and_eq_true, decide_eq_true_eq, decide_eq_true_eq] at this
        exact this
      refine ⟨by rw [List.length_map]; exact ⟨q1, q2⟩, fun p hp => ?_, fun p hp => ?_, ?_⟩
      · obtain ⟨x, hx, rfl⟩ := List.mem_map.mp hp
        have := a1 x hx
        show x.1.toNat < 24
        omega
      · obtain ⟨x, hx, rfl⟩ := List.mem_map.mp hp
        have := a2 x hx
        show 1 ≤ x.2.toNat ∧ x.2.toNat ≤ greatest
        omega
      · unfold Pl.keysA List.Nodup
        rw [List.map_map, List.pairwise_map]
        unfold List.Nodup at q4
        rw [List.pairwise_map] at q4
        refine List.Pairwise.imp_of_mem (fun {x y} hx hy h e => h ?_) q4
        have b1 := a1 x hx
        have b2 := a1 y hy
        have e : x.1.toNat = y.1.toNat := e
        omega
    · cases h
  · unfold parseParts at h
    rw [toPairs_none (by omega)] at h
    cases h
def hasM (s : Sto) (m : Nat) : Bool := (Pl.getA s.ms m).isSome
def oAddRule (num mat parts : Int) (row : List Int) (s : Sto) (bs : List Sto) : ResD :=
  if (isIdentifier 10 num && (isIdentifier mC mat && inRange 1 1000 parts)) = false then .error (-1) else match parseParts row 3 1000 with
  | none => .error (-1)
  | some ps => if (hasM s mat.toNat && ps.all fun p => hasM s p.1) = false then .error (-3) else if (Pl.getA s.rs num.toNat).isSome = true then .error (-8) else if ps.any (fun p => p.1 == mat.toNat) = true then .error (-4)
    else .ok (VOk, {s with rs := Pl.putA s.rs num.toNat ⟨mat.toNat, parts.toNat, ps⟩}, bs ++ [s])
def oDelRule (num : Int) (s : Sto) (bs : List Sto) : ResD :=
  if isIdentifier 10 num = false then .error (-1) else if (Pl.getA s.rs num.toNat).isNone = true then .error (-3) else .ok (VOk, {s with rs := Pl.dropA s.rs num.toNat}, bs ++ [s])
def oSetForm (num : Int) (row : List Int) (s : Sto) (bs : List Sto) : ResD :=
  if isIdentifier 8 num = false then .error (-1) else match parseParts row 10 1000000 with
  | none => .error (-1)
  | some ps => if (ps.all fun p => hasM s p.1) = false then .error (-3) else .ok (VOk, {s with fs := Pl.putA s.fs num.toNat (toFormula ps)}, bs ++ [s])
variable {P : Program} {w : World} {K : PySem.W.Frag} {mg : Str → Option Value} {base : Heap}
def sp_add_rule (K : PySem.W.Frag) : Sp := spD (ι := (Int × Int × Int) × List Int) K (refA K) (fun i => [IntsP [i.1.1, i.1.2.1, i.1.2.2], IntsP i.2]) (fun i s bs => StoOk s ∧ BsOk bs ∧ i.2.length ≤ 22) fun i s bs => oAddRule i.1.1 i.1.2.1 i.1.2.2 i.2 s bs
theorem ok_add_rule (T : Txt K mg) : FnOk P w K mg base (L2.CX P w) 6 (He.fAd K ("add_rule", none)) (fdOf K ("add_rule", none)) ["desk", "numbers", "row"] (sp_add_rule K) := by
  refine T.D_add_rule.ok sc_add_rule (spD_len fun _ => rfl) (fun cdv A outer s H vs Q E hr h => ⟨_, (pss_cons (ps_asg (pv 1) (pg_lst (n := 3) rfl (pgs_cons (pg_name (i := 3) sc_add_rule.nd rfl (Or.inl rfl)) (pgs_cons (pg_name (i := 4) sc_add_rule.nd rfl (Or.inl rfl)) (pgs_cons (pg_name (i := 5) sc_add_rule.nd rfl (Or.inl rfl)) pgs_nil))))) (pss_cons (ps_expr (pe_call (ok_need T) (hr.mono (by decide)) (by rfl) T.g_need T.k_need T.b_need .nil (passes_call (takes_of rfl rfl rfl rfl) fun _ _ _ _ h => h) (pa_cons (pe_and (pe_chain op_le op_le pe_int (pv 3) (pe_globI T.i_RULES (by rfl))) (pe_and (pe_chain op_le op_le pe_int (pv 4) (pe_globI T.i_MATERIALS (by rfl))) (pe_one (pe_chain op_le op_le pe_int (pv 5) pe_int)))) (pa_cons (pe_un un_neg pe_int) pa_nil)))) (pss_cons (ps_set (i := 6) sc_add_rule.nd rfl (Or.inl rfl) (pe_call (ok_pairs T) (hr.mono (by decide)) (by rfl) T.g_pairs T.k_pairs T.b_pairs .nil (passes_call (takes_of rfl rfl rfl rfl) fun _ _ _ _ h => h) (pa_cons (pv 2) (pa_cons pe_int (pa_cons pe_int pa_nil))))) (pss_cons (ps_setLc (i := 7) (own := [("one", 8), ("share", 9)]) rfl sc_add_rule.nd rfl rfl (sw_true rfl rfl rfl (by decide +kernel)) (pi_list (pv 6)) (blkOk_by (N := ["desk", "numbers", "row", "number", "material", "parts", "some", "materials", "one", "share"]) (sc := defScope s_add_rule) (by decide +kernel)) (fun _ _ _ _ _ => (pg_tupK (K := K) (n := 2) rfl (pgs_cons (pg_name (i := 8) sc_add_rule.nd rfl (Or.inl rfl) (Or.inr rfl)) (pgs_cons (pg_name (i := 9) sc_add_rule.nd rfl (Or.inl rfl) (Or.inr rfl)) pgs_nil)))) (fun _ _ _ _ _ => pts_nil) (fun _ _ _ _ _ => (pv 8))) (pss_cons (ps_expr (pe_call (ok_need T) (hr.mono (by decide)) (by rfl) T.g_need T.k_need T.b_need .nil (passes_call (takes_of rfl rfl rfl rfl) fun _ _ _ _ h => h) (pa_cons (pe_callB (cr_all rfl) (by rfl) T.f_all bb_all (pa_cons (pe_lc (own := [("one", 8)]) rfl sc_add_rule.nd (pi_list (pe_op op_cat (pe_lst (pa_cons (pv 4) pa_nil)) (pv 7))) (blkOk_by (N := ["desk", "numbers", "row", "number", "material", "parts", "some", "materials", "one", "share"]) (sc := defScope s_add_rule) (by decide +kernel)) (fun _ _ _ _ _ => (pg_name (i := 8) sc_add_rule.nd rfl (Or.inl rfl) (Or.inr rfl))) (fun _ _ _ _ _ => pts_nil) (fun _ _ _ _ _ => (pe_cmp (pc_din (hu_of hr) (pv 8) (pe_fldK (K := K) (pe_fldK (K := K) (pv 0) rfl) rfl))))) pa_nil)) (pa_cons (pe_un un_neg pe_int) pa_nil)))) (pss_cons (ps_expr (pe_call (ok_need T) (hr.mono (by decide)) (by rfl) T.g_need T.k_need T.b_need .nil (passes_call (takes_of rfl rfl rfl rfl) fun _ _ _ _ h => h) (pa_cons (pe_cmp (pc_dnotin (hu_of hr) (pv 3) (pe_fld (pe_fld (pv 0) rfl) rfl))) (pa_cons (pe_un un_neg pe_int) pa_nil)))) (pss_cons (ps_expr (pe_call (ok_need T) (hr.mono (by decide)) (by rfl) T.g_need T.k_need T.b_need .nil (passes_call (takes_of rfl rfl rfl rfl) fun _ _ _ _ h => h) (pa_cons (pe_cmpR op_notIn_seq (pv 4) (pv 7) (by rfl)) (pa_cons (pe_un un_neg pe_int) pa_nil)))) (pss_one (ps_ret (pe_meth (pv 0) T.cl_Desk T.mt_Desk_put_rule (ok_Desk_put_rule T) (hr.mono (by decide)) T.b_Desk_put_rule .nil pass0 (pa_cons (pv 3) (pa_cons (pe_make T.mk_Rule (ok_Rule_init T) (hr.mono (by decide)) (by rfl) T.g_Rule T.b_Rule_init .nil pass0 (pa_cons (pv 4) (pa_cons (pv 5) (pa_cons (pv 6) pa_nil)))) pa_nil)))))))))))), ?_⟩)
  refine body_ofD h fun ⟨⟨num, mat, parts⟩, row⟩ s bs ⟨hs, hl, hrow⟩ d dx sv bv F0 H0 R hR hE => ?_
  have hrow : row.length ≤ 22 := hrow
  refine ht_seq (ht_asg (hg := tg_lst3 (P1 := IntP num) (P2 := IntP mat) (P3 := IntP parts)) (ev_var rfl)) ?_
  refine ht_need (b := isIdentifier 10 num && (isIdentifier mC mat && inRange 1 1000 parts)) (ev_andV (ev_isB (ev_chainI ev_int (ev_var rfl) ev_int) (ident (c := 10) rfl)) fun _ => ev_andV (ev_isB (ev_chainI ev_int (ev_var rfl) ev_int) (ident (c := mC) rfl)) fun _ => ev_isB (ev_chainI ev_int (ev_var rfl) ev_int) (show _ = inRange 1 1000 parts from rfl)) (ev_un ev_int) (fun hb => hE (-1) (by show oAddRule num mat parts row s bs = _; unfold oAddRule; rw [if_pos hb])) fun hb => ?_
  have hout0 : oAddRule num mat parts row s bs = match parseParts row 3 1000 with
    | none => .error (-1)
    | some ps => if (hasM s mat.toNat && ps.all fun p => hasM s p.1) = false then .error (-3) else if (Pl.getA s.rs num.toNat).isSome = true then .error (-8) else if ps.any (fun p => p.1 == mat.toNat) = true then .error (-4)
      else .ok (VOk, {s with rs := Pl.putA s.rs num.toNat ⟨mat.toNat, parts.toNat, ps⟩}, bs ++ [s]) := by
    unfold oAddRule
    rw [if_neg (by rw [hb]; decide)]
  obtain ⟨hb1, hb2, hb3⟩ := (show ∀ A B L : Bool, (A && (B && L)) = true → A = true ∧ B = true ∧ L = true by decide) _ _ _ hb
  obtain ⟨n, rfl, hn⟩ := ident_nat hb1
  obtain ⟨m, rfl, hm⟩ := ident_nat hb2
  obtain ⟨q, rfl, hq1, hq2⟩ := range_nat hb3
  rw [Int.toNat_natCast, Int.toNat_natCast, Int.toNat_natCast] at hout0
  have hargs : EvA (tCons (tVar 2) (tCons (tC (.int 3)) (tCons (tC (.int 1000)) tNil))) ((((([some (IsP (.ref d)), some (IntsP [(n : Int), (m : Int), (q : Int)]), some (IntsP row)] ++ List.replicate 7 none).set 3 (some (IntP (n : Int)))).set 4 (some (IntP (m : Int)))).set 5 (some (IntP (q : Int))))) (Wdk K d dx sv bv s bs) [IntsP row, IntP ((3 : Nat) : Int), IntP ((1000 : Nat) : Int)] := ea_cons (ev_var rfl) (ea_cons ev_int (ea_cons ev_int ea_nil))
  cases hp : parseParts row 3 1000 with
  | none =>
    rw [hp] at hout0
    exact ht_seq (B := fun _ _ => False) (ht_asgX (ex_call hargs (spX_x (Ps := fun i : List Int × Nat × Nat => [IntsP i.1, IntP (i.2.1 : Int), IntP (i.2.2 : Int)]) (row, 3, 1000) ⟨hrow, (show 3 ≤ 10 by decide)⟩ (by show outP row 3 1000 = _; unfold outP; rw [hp]))) (hE (-1) hout0)) fun _ _ _ z _ _ => z.elim
  | some ps =>
    rw [hp] at hout0
    dsimp only at hout0
    have hpo := parse_ok hp
    refine ht_seq (ht_set (P := LstP (ps.map PairP)) (ev_call hargs (spX_g (Ps := fun i : List Int × Nat × Nat => [IntsP i.1, IntP (i.2.1 : Int), IntP (i.2.2 : Int)]) (row, 3, 1000) ⟨hrow, (show 3 ≤ 10 by decide)⟩ (by show outP row 3 1000 = _; unfold outP; rw [hp])))) ?_
    have hpl : ps.length < 15000000 := by have := hpo.len.2; omega
    have hpl : ps.length < 16000000 := by omega
    have hp3 := hpo.len.2
    refine ht_seq (ht_set (P := numsP (Pl.keysA ps)) (ev_isL (ev_lcLT (f := fun p : Nat × Nat => IntP (p.1 : Int)) (f2 := fun p => IntP (p.2 : Int)) (ev_var rfl) (fun _ => true) (fun p => IntP (p.1 : Int)) (fun _ _ => et_yes) (fun _ _ _ => ev_var rfl) hpl) (by rw [filter_yes]; unfold Pl.keysA; rw [List.map_map]; rfl))) ?_
    have hkl : (Pl.keysA ps).length = ps.length := by unfold Pl.keysA; rw [List.length_map]
    have hcat : ∀ {Γ : List (Option VP)}, Γ[4]? = some (some (IntP (m : Int))) → Γ[7]? = some (some (numsP (Pl.keysA ps))) → EvG (tOp rCat (tLst (tCons (tVar 4) tNil)) (tVar 7)) Γ (Wdk K d dx sv bv s bs) (LstP ((m :: Pl.keysA ps).map fun (n : Nat) => IntP (n : Int))) := fun h4 h7 =>
      ev_isL (ev_cat (ev_lst (ea_cons (ev_var h4) ea_nil) (show 1 ≤ sizeLine by decide)) (ev_var h7) (sz_le (by rw [List.length_map]; show 1 + _ ≤ _; omega))) rfl
    refine ht_need (b := hasM s m && ps.all fun p => hasM s p.1) (ev_isB (ev_cb (ea_cons (ev_isL (ev_lcL (l := m :: Pl.keysA ps) (f := fun (n : Nat) => IntP (n : Int)) (hcat rfl rfl) (fun _ => true) (fun k => BoolP (hasM s k)) (fun _ _ => et_yes) (fun k _ _ => ev_din (n := k) (ev_var rfl) (T.mats (T.dsto rfl))) (by rw [List.length_cons, hkl]; omega)) (Qs := ((m :: Pl.keysA ps).map fun k => hasM s k).map BoolP) (by rw [filter_yes, List.map_map]; rfl)) ea_nil) cb_all) ?_) (ev_un ev_int) (fun hc => hE (-3) (by rw [if_pos hc] at hout0; exact hout0)) fun hc => ?_
    · rw [List.all_map, List.all_cons]
      congr 1
      unfold Pl.keysA
      rw [List.all_map]
      rfl
    rw [if_neg (by rw [hc]; decide)] at hout0
    refine ht_need (ev_dnin (n := n) (ev_var rfl) (T.ruls (T.dsto rfl))) (ev_un ev_int) (fun hd => hE (-8) (by rw [if_pos (by simpa using hd)] at hout0; exact hout0)) fun hd => ?_
    rw [if_neg (by simpa using hd)] at hout0
    have hany : (!decide (m ∈ Pl.keysA ps)) = !ps.any (fun p => p.1 == m) := by
      congr 1
      rw [Bool.eq_iff_iff, decide_eq_true_eq, List.any_eq_true]
      unfold Pl.keysA
      rw [List.mem_map]
      exact ⟨fun ⟨p, h1, h2⟩ => ⟨p, h1, by simpa using h2⟩, fun ⟨p, h1, h2⟩ => ⟨p, h1, by simpa using h2⟩⟩
    refine ht_need (ev_isB (niN (ns := Pl.keysA ps) (ev_var rfl) (ev_var rfl)) hany) (ev_un ev_int) (fun he => hE (-4) (by rw [if_pos (by rwa [Bool.not_eq_false'] at he)] at hout0; exact hout0)) fun he => ?_
    rw [if_neg (by rw [Bool.not_eq_true'] at he; rw [he]; decide)] at hout0
    refine ht_retM (i := 0) rfl rfl (ea_cons (ev_var rfl) (ea_cons (ev_make (fs := ["material", "parts", "replacements"]) (Ps := [IntP (m : Int), IntP (q : Int), LstP (ps.map PairP)]) (ea_cons (ev_var rfl) (ea_cons (ev_var rfl) (ea_cons (ev_var rfl) ea_nil)))) ea_nil)) (spD_g (Ps := fun i : Nat × Option Rule => [IntP (i.1 : Int), OptP (RulP K) i.2]) (n, some ⟨m, q, ps⟩) ⟨hs, hl, fun e => by cases e⟩) (fun Rr s' bs' e v H r => hR Rr s' bs' (hout0.trans e) v H r) fun c e => by cases e
def sp_remove_rule (K : PySem.W.Frag) : Sp := spD (ι := Int) K (refA K) (fun i => [IntP i]) (fun _ s bs => StoOk s ∧ BsOk bs) oDelRule
theorem ok_remove_rule (T : Txt K mg) : FnOk P w K mg base (L2.CX P w) 6 (He.fAd K ("remove_rule", none)) (fdOf K ("remove_rule", none)) ["desk", "number"] (sp_remove_rule K) := by
  refine T.D_remove_rule.ok sc_remove_rule (spD_len fun _ => rfl) (fun cdv A outer s H vs Q E hr h => ⟨_, (pss_cons (ps_expr (pe_call (ok_need T) (hr.mono (by decide)) (by rfl) T.g_need T.k_need T.b_need .nil (passes_call (takes_of rfl rfl rfl rfl) fun _ _ _ _ h => h) (pa_cons (pe_chain op_le op_le pe_int (pv 1) (pe_globI T.i_RULES (by rfl))) (pa_cons (pe_un un_neg pe_int) pa_nil)))) (pss_cons (ps_expr (pe_call (ok_need T) (hr.mono (by decide)) (by rfl) T.g_need T.k_need T.b_need .nil (passes_call (takes_of rfl rfl rfl rfl) fun _ _ _ _ h => h) (pa_cons (pe_cmp (pc_din (hu_of hr) (pv 1) (pe_fld (pe_fld (pv 0) rfl) rfl))) (pa_cons (pe_un un_neg pe_int) pa_nil)))) (pss_one (ps_ret (pe_meth (pv 0) T.cl_Desk T.mt_Desk_put_rule (ok_Desk_put_rule T) (hr.mono (by decide)) T.b_Desk_put_rule .nil pass0 (pa_cons (pv 1) (pa_cons pe_non pa_nil))))))), ?_⟩)
  refine body_ofD h fun num s bs ⟨hs, hl⟩ d dx sv bv F0 H0 R hR hE => ?_
  refine ht_need (b := isIdentifier 10 num) (ev_isB (ev_chainI ev_int (ev_var rfl) ev_int) (ident (c := 10) rfl)) (ev_un ev_int) (fun hb => hE (-1) (by unfold oDelRule; rw [if_pos hb])) fun hb => ?_
  obtain ⟨n, rfl, hn⟩ := ident_nat hb
  have hout0 : oDelRule n s bs = if (Pl.getA s.rs n).isNone = true then .error (-3) else .ok (VOk, {s with rs := Pl.dropA s.rs n}, bs ++ [s]) := by
    unfold oDelRule
    rw [if_neg (by rw [hb]; decide), Int.toNat_natCast]
  refine ht_need (ev_din (n := n) (ev_var rfl) (T.ruls (T.dsto rfl))) (ev_un ev_int) (fun hc => hE (-3) (by rw [if_pos (by simpa using hc)] at hout0; exact hout0)) fun hc => ?_
  rw [if_neg (by rw [Option.isNone_iff_eq_none]; intro z; rw [z] at hc; cases hc)] at hout0
  refine ht_retM (i := 0) rfl rfl (ea_cons (ev_var rfl) (ea_cons ev_non ea_nil)) (spD_g (Ps := fun i : Nat × Option Rule => [IntP (i.1 : Int), OptP (RulP K) i.2]) (n, none) ⟨hs, hl, fun _ => hc⟩) (fun Rr s' bs' e v H r => hR Rr s' bs' (hout0.trans e) v H r) fun c e => by cases e
def sp_set_formula (K : PySem.W.Frag) : Sp := spD (ι := Int × List Int) K (refA K) (fun i => [IntP i.1, IntsP i.2]) (fun i s bs => StoOk s ∧ BsOk bs ∧ i.2.length ≤ 22) fun i s bs => oSetForm i.1 i.2 s bs
theorem ok_set_formula (T : Txt K mg) : FnOk P w K mg base (L2.CX P w) 6 (He.fAd K ("set_formula", none)) (fdOf K ("set_formula", none)) ["desk", "number", "row"] (sp_set_formula K) := by
  refine T.D_set_formula.ok sc_set_formula (spD_len fun _ => rfl) (fun cdv A outer s H vs Q E hr h => ⟨_, (pss_cons (ps_expr (pe_call (ok_need T) (hr.mono (by decide)) (by rfl) T.g_need T.k_need T.b_need .nil (passes_call (takes_of rfl rfl rfl rfl) fun _ _ _ _ h => h) (pa_cons (pe_chain op_le op_le pe_int (pv 1) (pe_globI T.i_FORMULAS (by rfl))) (pa_cons (pe_un un_neg pe_int) pa_nil)))) (pss_cons (ps_set (i := 3) sc_set_formula.nd rfl (Or.inl rfl) (pe_call (ok_pairs T) (hr.mono (by decide)) (by rfl) T.g_pairs T.k_pairs T.b_pairs .nil (passes_call (takes_of rfl rfl rfl rfl) fun _ _ _ _ h => h) (pa_cons (pv 2) (pa_cons pe_int (pa_cons (pe_globI T.i_MOST (by rfl)) pa_nil))))) (pss_cons (ps_expr (pe_call (ok_need T) (hr.mono (by decide)) (by rfl) T.g_need T.k_need T.b_need .nil (passes_call (takes_of rfl rfl rfl rfl) fun _ _ _ _ h => h) (pa_cons (pe_callB (cr_all rfl) (by rfl) T.f_all bb_all (pa_cons (pe_lc (own := [("one", 4), ("amount", 5)]) rfl sc_set_formula.nd (pi_list (pv 3)) (blkOk_by (N := ["desk", "number", "row", "some", "one", "amount"]) (sc := defScope s_set_formula) (by decide +kernel)) (fun _ _ _ _ _ => (pg_tupK (K := K) (n := 2) rfl (pgs_cons (pg_name (i := 4) sc_set_formula.nd rfl (Or.inl rfl) (Or.inr rfl)) (pgs_cons (pg_name (i := 5) sc_set_formula.nd rfl (Or.inl rfl) (Or.inr rfl)) pgs_nil)))) (fun _ _ _ _ _ => pts_nil) (fun _ _ _ _ _ => (pe_cmp (pc_din (hu_of hr) (pv 4) (pe_fldK (K := K) (pe_fldK (K := K) (pv 0) rfl) rfl))))) pa_nil)) (pa_cons (pe_un un_neg pe_int) pa_nil)))) (pss_cons (ps_expr (pe_meth (pv 0) T.cl_Desk T.mt_Desk_put_formula (ok_Desk_put_formula T) (hr.mono (by decide)) T.b_Desk_put_formula .nil pass0 (pa_cons (pv 1) (pa_cons (pe_callTy (cr_dictP rfl) (by rfl) T.f_dict bb_dict (pa_cons (pe_callB cr_sortedPO (by rfl) T.f_sorted bb_sorted (pa_cons (pv 3) pa_nil)) pa_nil)) pa_nil)))) (pss_one (ps_ret (pe_lst (pa_cons pe_int pa_nil)))))))), ?_⟩)
  refine body_ofD h fun ⟨num, row⟩ s bs ⟨hs, hl, hrow⟩ d dx sv bv F0 H0 R hR hE => ?_
  have hrow : row.length ≤ 22 := hrow
  refine ht_need (b := isIdentifier 8 num) (ev_isB (ev_chainI ev_int (ev_var rfl) ev_int) (ident (c := 8) rfl)) (ev_un ev_int) (fun hb => hE (-1) (by show oSetForm num row s bs = _; unfold oSetForm; rw [if_pos hb])) fun hb => ?_
  obtain ⟨n, rfl, hn⟩ := ident_nat hb
  have hout0 : oSetForm n row s bs = match parseParts row 10 1000000 with
    | none => .error (-1)
    | some ps => if (ps.all fun p => hasM s p.1) = false then .error (-3) else .ok (VOk, {s with fs := Pl.putA s.fs n (toFormula ps)}, bs ++ [s]) := by
    unfold oSetForm
    rw [if_neg (by rw [hb]; decide), Int.toNat_natCast]
  have hargs : EvA (tCons (tVar 2) (tCons (tC (.int 10)) (tCons (tC (.int 1000000)) tNil))) [some (IsP (.ref d)), some (IntP (n : Int)), some (IntsP row), none, none, none] (Wdk K d dx sv bv s bs) [IntsP row, IntP ((10 : Nat) : Int), IntP ((1000000 : Nat) : Int)] := ea_cons (ev_var rfl) (ea_cons ev_int (ea_cons ev_int ea_nil))
  cases hp : parseParts row 10 1000000 with
  | none =>
    rw [hp] at hout0
    exact ht_seq (B := fun _ _ => False) (ht_asgX (ex_call hargs (spX_x (Ps := fun i : List Int × Nat × Nat => [IntsP i.1, IntP (i.2.1 : Int), IntP (i.2.2 : Int)]) (row, 10, 1000000) ⟨hrow, (show 10 ≤ 10 by decide)⟩ (by show outP row 10 1000000 = _; unfold outP; rw [hp]))) (hE (-1) hout0)) fun _ _ _ z _ _ => z.elim
  | some ps =>
    rw [hp] at hout0
    dsimp only at hout0
    have hpo := parse_ok hp
    refine ht_seq (ht_set (P := LstP (ps.map PairP)) (ev_call hargs (spX_g (Ps := fun i : List Int × Nat × Nat => [IntsP i.1, IntP (i.2.1 : Int), IntP (i.2.2 : Int)]) (row, 10, 1000000) ⟨hrow, (show 10 ≤ 10 by decide)⟩ (by show outP row 10 1000000 = _; unfold outP; rw [hp])))) ?_
    have hpl : ps.length < 15000000 := by have := hpo.len.2; omega
    have hpl : ps.length < 16000000 := by omega
    have hp3 := hpo.len.2
    refine ht_need (b := ps.all fun p => hasM s p.1) (ev_isB (ev_cb (ea_cons (ev_isL (ev_lcLT (l := ps) (f := fun p : Nat × Nat => IntP (p.1 : Int)) (f2 := fun p => IntP (p.2 : Int)) (ev_var rfl) (fun _ => true) (fun p => BoolP (hasM s p.1)) (fun _ _ => et_yes) (fun p _ _ => ev_din (n := p.1) (ev_var rfl) (T.mats (T.dsto rfl))) hpl) (Qs := (ps.map fun p => hasM s p.1).map BoolP) (by rw [filter_yes, List.map_map]; rfl)) ea_nil) cb_all) (by rw [List.all_map]; rfl)) (ev_un ev_int) (fun hc => hE (-3) (by rw [if_pos hc] at hout0; exact hout0)) fun hc => ?_
    rw [if_neg (by rw [hc]; decide)] at hout0
    refine ht_seq (ht_dropM (i := 0) rfl rfl (ea_cons (ev_var rfl) (ea_cons (ev_dictP (ev_sortedPO (ev_var rfl) hpo.diff) (fOf_perm hpo.diff).2.nodup) ea_nil)) (spD_g (Ps := fun i : Nat × List (Nat × Nat) => [IntP (i.1 : Int), FormP i.2]) (n, toFormula ps) ⟨hs, hl⟩)) (ht_ex fun sv2 => ht_ex fun bv2 => ?_)
    exact ht_retW ev_ok fun v H r => hR VOk _ _ hout0 v H r
/-! ### all changes -/
def oChanges (w : Int) (ns row : List Int) (s : Sto) (bs : List Sto) : ResD :=
  if w = 1 then oAddMat (ns.getD 0 0) (ns.getD 1 0) row s bs else if w ≤ 5 then oChange w (ns.getD 0 0) ns[1]? s bs else if w = 6 then oAddRule (ns.getD 0 0) (ns.getD 1 0) (ns.getD 2 0) row s bs
  else if w = 7 then oDelRule (ns.getD 0 0) s bs else oSetForm (ns.getD 0 0) row s bs
/-- as many numbers as the word wants -/
def many (w : Int) : Nat := (numbersL.getD w.toNat 0).toNat
structure InpOk (w : Int) (ns row : List Int) : Prop where
  wd : 1 ≤ w ∧ w ≤ 24
  n : ns.length = many w
  r : row.length ≤ 22
def sp_of_changes (K : PySem.W.Frag) : Sp := spD (ι := Int × List Int × List Int) K (refA K) (fun i => [IntP i.1, IntsP i.2.1, IntsP i.2.2]) (fun i s bs => StoOk s ∧ BsOk bs ∧ InpOk i.1 i.2.1 i.2.2 ∧ i.1 ≤ 8) fun i s bs => oChanges i.1 i.2.1 i.2.2 s bs
theorem len1 {ns : List Int} (h : ns.length = 1) : ∃ a, ns = [a] := match ns, h with | [a], _ => ⟨a, rfl⟩
theorem len2 {ns : List Int} (h : ns.length = 2) : ∃ a b, ns = [a, b] := match ns, h with | [a, b], _ => ⟨a, b, rfl⟩
theorem len3 {ns : List Int} (h : ns.length = 3) : ∃ a b c, ns = [a, b, c] := match ns, h with | [a, b, c], _ => ⟨a, b, c, rfl⟩
theorem ok_of_changes (T : Txt K mg) : FnOk P w K mg base (L2.CX P w) 7 (He.fAd K ("of_changes", none)) (fdOf K ("of_changes", none)) ["desk", "word", "numbers", "row"] (sp_of_changes K) := by
  refine T.D_of_changes.ok sc_of_changes (spD_len fun _ => rfl) (fun cdv A outer s H vs Q E hr h => ⟨_, (pss_cons (ps_if (pt_cmpR op_eq (pv 1) pe_int (nomark _)) (pss_one (ps_ret (pe_call (ok_add_material T) (hr.mono (by decide)) (by rfl) T.g_add_material T.k_add_material T.b_add_material .nil (passes_call (takes_of rfl rfl rfl rfl) fun _ _ _ _ h => h) (pa_cons (pv 0) (pa_cons (pv 2) (pa_cons (pv 3) pa_nil)))))) pss_nil) (pss_cons (ps_if (pt_cmpR op_le (pv 1) pe_int (nomark _)) (pss_one (ps_ret (pe_call (ok_change_material T) (hr.mono (by decide)) (by rfl) T.g_change_material T.k_change_material T.b_change_material .nil (passes_call (takes_of rfl rfl rfl rfl) fun _ _ _ _ h => h) (pa_cons (pv 0) (pa_cons (pv 1) (pa_cons (pv 2) pa_nil)))))) pss_nil) (pss_cons (ps_if (pt_cmpR op_eq (pv 1) pe_int (nomark _)) (pss_one (ps_ret (pe_call (ok_add_rule T) (hr.mono (by decide)) (by rfl) T.g_add_rule T.k_add_rule T.b_add_rule .nil (passes_call (takes_of rfl rfl rfl rfl) fun _ _ _ _ h => h) (pa_cons (pv 0) (pa_cons (pv 2) (pa_cons (pv 3) pa_nil)))))) pss_nil) (pss_one (ps_ret (pe_ifExp (pt_cmpR op_eq (pv 1) pe_int (nomark _)) (pe_call (ok_remove_rule T) (hr.mono (by decide)) (by rfl) T.g_remove_rule T.k_remove_rule T.b_remove_rule .nil (passes_call (takes_of rfl rfl rfl rfl) fun _ _ _ _ h => h) (pa_cons (pv 0) (pa_cons (pe_ix ix_list (pv 2) pe_int (fun _ _ => rfl)) pa_nil))) (pe_call (ok_set_formula T) (hr.mono (by decide)) (by rfl) T.g_set_formula T.k_set_formula T.b_set_formula .nil (passes_call (takes_of rfl rfl rfl rfl) fun _ _ _ _ h => h) (pa_cons (pv 0) (pa_cons (pe_ix ix_list (pv 2) pe_int (fun _ _ => rfl)) (pa_cons (pv 3) pa_nil)))))))))), ?_⟩)
  refine body_ofD h fun ⟨w, ns, row⟩ s bs ⟨hs, hl, hi, h8⟩ d dx sv bv F0 H0 R hR hE => ?_
  obtain ⟨⟨hw1, hw2⟩, hn, hrow⟩ := hi
  have hw1 : 1 ≤ w := hw1
  have h8 : w ≤ 8 := h8
  have hn : ns.length = many w := hn
  refine ht_guard (et_test (ev_eqI (ev_var rfl) ev_int)) (fun hb => ?_) fun hb => ?_
  · have hb : w = 1 := of_decide_eq_true hb
    subst hb
    obtain ⟨a, b, rfl⟩ := len2 hn
    exact ht_retC (ea_cons (ev_var rfl) (ea_cons (ev_var rfl) (ea_cons (ev_var rfl) ea_nil))) (spD_g (Ps := fun i : Int × Int × List Int => [IntsP [i.1, i.2.1], IntsP i.2.2]) (a, b, row) ⟨hs, hl, hrow⟩) (fun Rr s' bs' e v H r => hR Rr s' bs' e v H r) fun c e => hE c e
  have hb : ¬ w = 1 := of_decide_eq_false hb
  refine ht_guard (et_test (ev_le (ev_var rfl) ev_int)) (fun hc => ?_) fun hc => ?_
  · have hc : w ≤ 5 := of_decide_eq_true hc
    have hout : oChanges w ns row s bs = oChange w (ns.getD 0 0) ns[1]? s bs := by unfold oChanges; rw [if_neg hb, if_pos hc]
    have hns : ns = ns.getD 0 0 :: (ns[1]?).toList ∧ (w ≤ 3 ∨ (ns[1]?).isSome = true) := by
      have : w = 2 ∨ w = 3 ∨ w = 4 ∨ w = 5 := by omega
      rcases this with e | e | e | e <;> subst e
      · obtain ⟨a, rfl⟩ := len1 hn; exact ⟨rfl, .inl (by decide)⟩
      · obtain ⟨a, rfl⟩ := len1 hn; exact ⟨rfl, .inl (by decide)⟩
      · obtain ⟨a, b, rfl⟩ := len2 hn; exact ⟨rfl, .inr rfl⟩
      · obtain ⟨a, b, rfl⟩ := len2 hn; exact ⟨rfl, .inr rfl⟩
    refine ht_retC (Ps := [IntP w, IntsP (ns.getD 0 0 :: (ns[1]?).toList)]) (ea_cons (ev_var rfl) (ea_cons (ev_var rfl) (ea_cons (ev_var (by rw [← hns.1]; rfl)) ea_nil))) (spD_g (Ps := fun i : Int × Int × Option Int => [IntP i.1, IntsP (i.2.1 :: i.2.2.toList)]) (w, ns.getD 0 0, ns[1]?) ⟨hs, hl, hns.2⟩) (fun Rr s' bs' e v H r => hR Rr s' bs' (hout.trans e) v H r) fun c e => hE c (hout.trans e)
  have hc : ¬ w ≤ 5 := of_decide_eq_false hc
  refine ht_guard (et_test (ev_eqI (ev_var rfl) ev_int)) (fun hd => ?_) fun hd => ?_
  · have hd : w = 6 := of_decide_eq_true hd
    subst hd
    obtain ⟨a, b, c, rfl⟩ := len3 hn
    exact ht_retC (ea_cons (ev_var rfl) (ea_cons (ev_var rfl) (ea_cons (ev_var rfl) ea_nil))) (spD_g (Ps := fun i : (Int × Int × Int) × List Int => [IntsP [i.1.1, i.1.2.1, i.1.2.2], IntsP i.2]) ((a, b, c), row) ⟨hs, hl, hrow⟩) (fun Rr s' bs' e v H r => hR Rr s' bs' e v H r) fun c e => hE c e
  have hd : ¬ w = 6 := of_decide_eq_false hd
  refine ht_retIf (et_test (ev_eqI (ev_var rfl) ev_int)) (fun he => ?_) fun he => ?_
  · have he : w = 7 := of_decide_eq_true he
    subst he
    obtain ⟨a, rfl⟩ := len1 hn
    exact ht_retC (ea_cons (ev_var rfl) (ea_cons (ev_ixL (P := IntP a) (ev_var (P := IntsP [a]) rfl) ev_int rfl) ea_nil)) (spD_g (Ps := fun i : Int => [IntP i]) a ⟨hs, hl⟩) (fun Rr s' bs' e v H r => hR Rr s' bs' e v H r) fun c e => hE c e
  · have he : ¬ w = 7 := of_decide_eq_false he
    have : w = 8 := by omega
    subst this
    obtain ⟨a, rfl⟩ := len1 hn
    exact ht_retC (ea_cons (ev_var rfl) (ea_cons (ev_ixL (P := IntP a) (ev_var (P := IntsP [a]) rfl) ev_int rfl) (ea_cons (ev_var rfl) ea_nil))) (spD_g (Ps := fun i : Int × List Int => [IntP i.1, IntsP i.2]) (a, row) ⟨hs, hl, hrow⟩) (fun Rr s' bs' e v H r => hR Rr s' bs' e v H r) fun c e => hE c e
end Sw
set_option maxRecDepth 100000
set_option maxHeartbeats 2000000
/-! # Questions -/
namespace Sw
open PySem L2
open SubstitutionSpec (Material Rule toFormula isIdentifier inRange isRuleSet)
section
variable {F0 H0 : Hp} {Γ Δ : List (Option VP)} {W : Wd} {B : As} {R : VK} {te ta tb : TE} {tt : TT} {N : Addr → Prop} {b : Bool} {P : VP} {K : PySem.W.Frag}
theorem ht_lkSet {i : Nat} (h : EvG (tLkE te) Γ W P) (e : Γ.set i (some P) = Δ := by rfl) : HT (TyA N F0 H0 Γ W) (tLk (tAsg te (gName i))) (TyA N F0 H0 Δ W) R := fun σ H D ⟨F, s⟩ nx rt => by
  subst e
  exact h σ F H s.ok (fun x H' => D.nx (σ.set i (some x)) H') fun v F2 H2 n p => nx _ _ ⟨F2, (s.next n).set p⟩
theorem ev_catI {l m : List Int} (ha : EvG ta Γ W (IntsP l)) (hb : EvG tb Γ W (IntsP m)) (hl : l.length + m.length ≤ 16000000) : EvG (tOp rCat ta tb) Γ W (IntsP (l ++ m)) := ev_isL (ev_cat ha hb (sz_le (by rw [List.length_map, List.length_map]; exact hl))) (List.map_append ..).symm
theorem ev_frL {q : Rat} (h : EvG te Γ W (FrP q)) : EvG (tCB (rListOf K) (tCons te tNil)) Γ W (IntsP [q.num, (q.den : Int)]) := ev_cb (ea_cons h ea_nil) cb_listT
theorem numsI (l : List Nat) : numsP l = IntsP (l.map fun (n : Nat) => (n : Int)) := nums_ints l
theorem ev_numsI {l : List Nat} (h : EvG te Γ W (numsP l)) : EvG te Γ W (IntsP (l.map fun (n : Nat) => (n : Int))) := numsI l ▸ h
end
variable {P : Program} {w : World} {K : PySem.W.Frag} {mg : Str → Option Value} {base : Heap}
/-! ### numbers that are told -/
def oForm (num : Int) (s : Sto) : Except Int Int := if isIdentifier 8 num = false then .error (-1) else if (Pl.getA s.fs num.toNat).isSome = false then .error (-3) else .ok num
def oMat (num : Int) (s : Sto) : Except Int Int := if isIdentifier mC num = false then .error (-1) else if (Pl.getA s.ms num.toNat).isSome = false then .error (-3) else .ok num
def mapE {α : Type} (f : α → VP) : Except Int α → Except Int VP
  | .ok a => .ok (f a)
  | .error c => .error c
def sp_formula (K : PySem.W.Frag) : Sp := spL (ι := Int) K (refA K) (fun i => [IntP i]) (fun _ _ _ => True) fun i s _ => mapE IntP (oForm i s)
theorem ok_formula (T : Txt K mg) : FnOk P w K mg base (L2.CX P w) 5 (He.fAd K ("formula", none)) (fdOf K ("formula", none)) ["desk", "number"] (sp_formula K) := by
  refine T.D_formula.ok sc_formula (spL_len fun _ => rfl) (fun cdv A outer s H vs Q E hr h => ⟨_, (pss_cons (ps_expr (pe_call (ok_need T) (hr.mono (by decide)) (by rfl) T.g_need T.k_need T.b_need .nil (passes_call (takes_of rfl rfl rfl rfl) fun _ _ _ _ h => h) (pa_cons (pe_chain op_le op_le pe_int (pv 1) (pe_globI T.i_FORMULAS (by rfl))) (pa_cons (pe_un un_neg pe_int) pa_nil)))) (pss_cons (ps_expr (pe_call (ok_need T) (hr.mono (by decide)) (by rfl) T.g_need T.k_need T.b_need .nil (passes_call (takes_of rfl rfl rfl rfl) fun _ _ _ _ h => h) (pa_cons (pe_cmp (pc_din (hu_of hr) (pv 1) (pe_fld (pe_fld (pv 0) rfl) rfl))) (pa_cons (pe_un un_neg pe_int) pa_nil)))) (pss_one (ps_ret (pv 1))))), ?_⟩)
  refine body_ofL h fun num s bs _ d dx sv bv F0 H0 R hR hE => ?_
  refine ht_need (b := isIdentifier 8 num) (ev_isB (ev_chainI ev_int (ev_var rfl) ev_int) (ident (c := 8) rfl)) (ev_un ev_int) (fun hb => hE (-1) (by unfold oForm; rw [if_pos hb]; rfl)) fun hb => ?_
  obtain ⟨n, rfl, hn⟩ := ident_nat hb
  have hout : oForm n s = if (Pl.getA s.fs n).isSome = false then .error (-3) else .ok (n : Int) := by unfold oForm; rw [if_neg (by rw [hb]; decide), Int.toNat_natCast]
  refine ht_need (ev_din (n := n) (ev_var rfl) (T.fors (T.dsto rfl))) (ev_un ev_int) (fun hc => hE (-3) (by rw [hout, if_pos hc]; rfl)) fun hc => ?_
  exact ht_rt (fun v H r => hR (IntP (n : Int)) (by rw [hout, if_neg (by rw [hc]; decide)]; rfl) v H r) (ht_ret (ev_var rfl))
def sp_material_told (K : PySem.W.Frag) : Sp := spL (ι := Int) K (refA K) (fun i => [IntP i]) (fun _ _ _ => True) fun i s _ => mapE IntP (oMat i s)
theorem ok_material_told (T : Txt K mg) : FnOk P w K mg base (L2.CX P w) 5 (He.fAd K ("material_told", none)) (fdOf K ("material_told", none)) ["desk", "number"] (sp_material_told K) := by
  refine T.D_material_told.ok sc_material_told (spL_len fun _ => rfl) (fun cdv A outer s H vs Q E hr h => ⟨_, (pss_cons (ps_expr (pe_call (ok_need T) (hr.mono (by decide)) (by rfl) T.g_need T.k_need T.b_need .nil (passes_call (takes_of rfl rfl rfl rfl) fun _ _ _ _ h => h) (pa_cons (pe_chain op_le op_le pe_int (pv 1) (pe_globI T.i_MATERIALS (by rfl))) (pa_cons (pe_un un_neg pe_int) pa_nil)))) (pss_cons (ps_expr (pe_call (ok_need T) (hr.mono (by decide)) (by rfl) T.g_need T.k_need T.b_need .nil (passes_call (takes_of rfl rfl rfl rfl) fun _ _ _ _ h => h) (pa_cons (pe_cmp (pc_din (hu_of hr) (pv 1) (pe_fld (pe_fld (pv 0) rfl) rfl))) (pa_cons (pe_un un_neg pe_int) pa_nil)))) (pss_one (ps_ret (pv 1))))), ?_⟩)
  refine body_ofL h fun num s bs _ d dx sv bv F0 H0 R hR hE => ?_
  refine ht_need (b := isIdentifier mC num) (ev_isB (ev_chainI ev_int (ev_var rfl) ev_int) (ident (c := mC) rfl)) (ev_un ev_int) (fun hb => hE (-1) (by unfold oMat; rw [if_pos hb]; rfl)) fun hb => ?_
  obtain ⟨n, rfl, hn⟩ := ident_nat hb
  have hout : oMat n s = if (Pl.getA s.ms n).isSome = false then .error (-3) else .ok (n : Int) := by unfold oMat; rw [if_neg (by rw [hb]; decide), Int.toNat_natCast]
  refine ht_need (ev_din (n := n) (ev_var rfl) (T.mats (T.dsto rfl))) (ev_un ev_int) (fun hc => hE (-3) (by rw [hout, if_pos hc]; rfl)) fun hc => ?_
  exact ht_rt (fun v H r => hR (IntP (n : Int)) (by rw [hout, if_neg (by rw [hc]; decide)]; rfl) v H r) (ht_ret (ev_var rfl))
/-! ### flat -/
def flatI (ps : List (Int × Int)) : List Int := ps.flatMap fun p => [p.1, p.2]
theorem flat_len (ps : List (Int × Int)) : (flatI ps).length = 2 * ps.length := by
  induction ps with
  | nil => rfl
  | cons p ps ih =>
    have e : flatI (p :: ps) = p.1 :: p.2 :: flatI ps := rfl
    rw [e, List.length_cons, List.length_cons, List.length_cons]
    omega
def sp_flat : Sp := spF (ι := List (Int × Int)) (fun i => [LstP (i.map IPairP)]) (fun i => i.length ≤ 1000) fun i => IntsP (flatI i)
theorem ok_flat (T : Txt K mg) : FnOk P w K mg base CX0 2 (He.fAd K ("flat", none)) (fdOf K ("flat", none)) ["pairs_told"] sp_flat := by
  refine T.D_flat.ok sc_flat (spF_len fun _ => rfl) (fun cdv A outer s H vs Q E hr h => ⟨_, PSs.nox (pss_cons (ps_set (i := 1) sc_flat.nd rfl (Or.inl rfl) (pe_lst pa_nil)) (pss_cons (ps_for PassesOwn.never rfl (pi_list (pv 0)) (pg_name (i := 2) sc_flat.nd rfl (Or.inl rfl)) (pss_one (ps_expr (pe_bm PySem.F.plainAttrs_list PySem.F.slot_list_extend PySem.F.type_list_extend mt_extend (pv 1) (pa_cons (pe_callTy cr_listOf (by rfl) T.f_list bb_list (pa_cons (pv 2) pa_nil)) pa_nil))))) (pss_one (ps_ret (pv 1))))), ?_⟩)
  refine body_of h fun ps hl F0 H0 => ?_
  refine ht_seq (ht_lnew (Ps := []) (G := fun d => [some (LstP (ps.map IPairP)), some (IsP (.ref d)), none]) ea_nil fun d => rfl) (ht_ex fun d => ht_ex fun xs => ?_)
  refine ht_seq (ht_forL (l := ps) (f := IPairP) (β := fun _ => List V) (ev_var rfl) (fun i xs => [some (LstP (ps.map IPairP)), some (IsP (.ref d)), none]) (fun i xs => W0.lst d xs ((flatI (ps.take i)).map IntP)) R0 xs ?_ hR0) (ht_ex fun xs2 => ?_)
  · intro F1 H1 i p xs hp
    have hnx : flatI (ps.take (i + 1)) = flatI (ps.take i) ++ [p.1, p.2] := by
      unfold flatI
      rw [take_next hp, List.flatMap_append]
      rfl
    have h1 := flat_len (ps.take i)
    have h2 := List.length_take_le' i ps
    rw [hnx, List.map_append]
    refine ht_post (fun σ H ⟨ys, a⟩ => ⟨ys, TyA.le (by repeat (first | exact trivial | refine ⟨.inl rfl, ?_⟩ | refine ⟨.inr rfl, ?_⟩)) σ H a⟩) (ht_extend (i := 1) (Qs := [IntP p.1, IntP p.2]) rfl (ev_cb (ea_cons (ev_var (P := IPairP p) rfl) ea_nil) cb_listT) ?_)
    rw [List.length_map, h1]
    show 2 * (ps.take i).length + 2 ≤ 16000000
    omega
  · rw [List.take_length]
    refine ht_pre (fun σ H a => frz_lst (i := 1) rfl rfl id id rfl σ H a) (ht_ret (ev_var rfl))
/-! ### check -/
def oCheck (s : Sto) (f : List (Nat × Nat)) : List Int := if (faultP s (mixP f)).1 = 0 then [1] else [0, ((faultP s (mixP f)).1 : Int), ((faultP s (mixP f)).2 : Int)]
def sp_check (K : PySem.W.Frag) : Sp := spF (ι := Sto × Nat × List (Nat × Nat)) (fun i => [StoP K i.1, IntP (i.2.1 : Int)]) preF fun i => IntsP (oCheck i.1 i.2.2)
theorem ok_check (T : Txt K mg) : FnOk P w K mg base CX0 5 (He.fAd K ("check", none)) (fdOf K ("check", none)) ["store", "number"] (sp_check K) := by
  refine T.D_check.ok sc_check (spF_len fun _ => rfl) (fun cdv A outer s H vs Q E hr h => ⟨_, PSs.nox (pss_cons (ps_asg (pe_meth (pv 0) T.cl_Store T.mt_Store_fault (ok_Store_fault T) (hr.mono (by decide)) T.b_Store_fault .nil pass0 (pa_cons (pe_meth (pv 0) T.cl_Store T.mt_Store_mixture (ok_Store_mixture T) (hr.mono (by decide)) T.b_Store_mixture .nil pass0 (pa_cons (pv 1) pa_nil)) pa_nil)) (pg_tup (n := 2) rfl (pgs_cons (pg_name (i := 2) sc_check.nd rfl (Or.inl rfl)) (pgs_cons (pg_name (i := 3) sc_check.nd rfl (Or.inl rfl)) pgs_nil)))) (pss_one (ps_ret (pe_ifExp (pt_cmpR op_eq (pv 2) pe_int (nomark _)) (pe_lst (pa_cons pe_int pa_nil)) (pe_lst (pa_cons pe_int (pa_cons (pv 2) (pa_cons (pv 3) pa_nil)))))))), ?_⟩)
  refine body_of h fun ⟨s, n, f⟩ ⟨hs, hf, ho⟩ F0 H0 => ?_
  refine ht_seq (ht_asg (hg := tg_tup2 (P1 := IntP ((faultP s (mixP f)).1 : Int)) (P2 := IntP ((faultP s (mixP f)).2 : Int))) (ev_meth (ev_var rfl) rfl (ea_cons (ev_meth (ev_var rfl) rfl (ea_cons (ev_var rfl) ea_nil) (spF_g (s, n, f) ⟨hf, ho⟩)) ea_nil) (spF_g (s, mixP f) ⟨hs, ho.mix⟩))) ?_
  refine ht_ret (ev_if (et_test (ev_eqI (ev_var rfl) ev_int)) (fun hb => ?_) fun hb => ?_)
  · have hb : ((faultP s (mixP f)).1 : Int) = 0 := of_decide_eq_true hb
    have e : oCheck s f = [1] := by unfold oCheck; rw [if_pos (by omega)]
    show EvG _ _ _ (IntsP (oCheck s f))
    rw [e]
    exact ev_lst (ea_cons ev_int ea_nil) (show 1 ≤ sizeLine by decide)
  · have hb : ¬ ((faultP s (mixP f)).1 : Int) = 0 := of_decide_eq_false hb
    have e : oCheck s f = [0, ((faultP s (mixP f)).1 : Int), ((faultP s (mixP f)).2 : Int)] := by unfold oCheck; rw [if_neg (by omega)]
    show EvG _ _ _ (IntsP (oCheck s f))
    rw [e]
    exact ev_lst (ea_cons ev_int (ea_cons (ev_var rfl) (ea_cons (ev_var rfl) ea_nil))) (show 3 ≤ sizeLine by decide)
/-! ### result -/
def oRes (num : Int) (row others : List Int) (s : Sto) : Except Int (List (Nat × Rat)) :=
  if (isIdentifier 8 num && (others.all (isIdentifier 8) && isRuleSet row)) = false then .error (-1) else match Pl.getA s.fs num.toNat with
  | none => .error (-3)
  | some f => if (row.all fun r => (Pl.getA s.rs r.toNat).isSome) = false then .error (-3) else match resP (selR s (srt (row.map Int.toNat))) f with
    | none => .error (-4)
    | some es => .ok es
def sp_resultF (K : PySem.W.Frag) : Sp := spL (ι := Int × List Int × List Int) K (refA K) (fun i => [IntP i.1, IntsP i.2.1, IntsP i.2.2]) (fun i s _ => StoOk s ∧ (∀ e ∈ s.fs, ForOk s.ms e.2) ∧ i.2.1.length ≤ 22 ∧ i.2.2.length ≤ 22) fun i s _ => mapE ShP (oRes i.1 i.2.1 i.2.2 s)
theorem allIn_ident {c : Nat} {k : Int} (h : k + 1 = (c : Int)) (l : List Int) : allIn 0 k l = l.all (isIdentifier c) := by
  unfold allIn
  congr 1
  funext n
  exact ident h
theorem toNat_ints {row : List Int} (h : row.all (isIdentifier 10) = true) : (row.map Int.toNat).map (fun (n : Nat) => (n : Int)) = row := by
  rw [List.map_map]
  conv => rhs; rw [← List.map_id row]
  refine List.map_congr_left fun x hx => ?_
  obtain ⟨m, rfl, _⟩ := ident_nat (List.all_eq_true.mp h x hx)
  rfl
theorem ok_result (T : Txt K mg) : FnOk P w K mg base (L2.CX P w) 6 (He.fAd K ("result", none)) (fdOf K ("result", none)) ["desk", "number", "row", "others"] (sp_resultF K) := by
  refine T.D_result.ok sc_result (spL_len fun _ => rfl) (fun cdv A outer s H vs Q E hr h => ⟨_, (pss_cons (ps_expr (pe_call (ok_need T) (hr.mono (by decide)) (by rfl) T.g_need T.k_need T.b_need .nil (passes_call (takes_of rfl rfl rfl rfl) fun _ _ _ _ h => h) (pa_cons (pe_and (pe_call (ok_are_within T) (hr.mono (by decide)) (by rfl) T.g_are_within T.k_are_within T.b_are_within .nil pass0 (pa_cons (pe_op op_cat (pe_lst (pa_cons (pv 1) pa_nil)) (pv 3)) (pa_cons pe_int (pa_cons (pe_globI T.i_FORMULAS (by rfl)) pa_nil)))) (pe_one (pe_cmpR op_le (pe_callB cr_lenSeq (by rfl) T.f_len bb_len (pa_cons (pv 2) pa_nil)) (pe_op op_add (pe_globI T.i_RULES (by rfl)) pe_int) (nomark _)))) (pa_cons (pe_un un_neg pe_int) pa_nil)))) (pss_cons (ps_expr (pe_call (ok_need T) (hr.mono (by decide)) (by rfl) T.g_need T.k_need T.b_need .nil (passes_call (takes_of rfl rfl rfl rfl) fun _ _ _ _ h => h) (pa_cons (pe_and (pe_call (ok_are_within T) (hr.mono (by decide)) (by rfl) T.g_are_within T.k_are_within T.b_are_within .nil pass0 (pa_cons (pv 2) (pa_cons pe_int (pa_cons (pe_globI T.i_RULES (by rfl)) pa_nil)))) (pe_one (pe_cmpR op_eq (pe_lenSetG T.f_len T.f_set (pv 2)) (pe_callB cr_lenSeq (by rfl) T.f_len bb_len (pa_cons (pv 2) pa_nil)) (nomark _)))) (pa_cons (pe_un un_neg pe_int) pa_nil)))) (pss_cons (ps_set (i := 4) sc_result.nd rfl (Or.inr rfl) (pe_fld (pv 0) rfl)) (pss_cons (ps_expr (pe_call (ok_need T) (hr.mono (by decide)) (by rfl) T.g_need T.k_need T.b_need .nil (passes_call (takes_of rfl rfl rfl rfl) fun _ _ _ _ h => h) (pa_cons (pe_and (pe_cmp (pc_din (hu_of hr) (pv 1) (pe_fld (pv 4) rfl))) (pe_one (pe_callB (cr_all rfl) (by rfl) T.f_all bb_all (pa_cons (pe_lc (own := [("one", 6)]) rfl sc_result.nd (pi_list (pv 2)) (blkOk_by (N := ["desk", "number", "row", "others", "store", "found", "one"]) (sc := defScope s_result) (by decide +kernel)) (fun _ _ _ _ _ => (pg_name (i := 6) sc_result.nd rfl (Or.inl rfl) (Or.inr rfl))) (fun _ _ _ _ _ => pts_nil) (fun _ _ _ _ _ => (pe_cmp (pc_din (hu_of hr) (pv 6) (pe_fldK (K := K) (pv 4) rfl))))) pa_nil)))) (pa_cons (pe_un un_neg pe_int) pa_nil)))) (pss_cons (ps_set (i := 5) sc_result.nd rfl (Or.inl rfl) (pe_meth (pv 4) T.cl_Store T.mt_Store_result (ok_Store_result T) (hr.mono (by decide)) T.b_Store_result .nil pass0 (pa_cons (pv 1) (pa_cons (pe_callB cr_sorted (by rfl) T.f_sorted bb_sorted (pa_cons (pv 2) pa_nil)) pa_nil)))) (pss_cons (ps_expr (pe_call (ok_need T) (hr.mono (by decide)) (by rfl) T.g_need T.k_need T.b_need .nil (passes_call (takes_of rfl rfl rfl rfl) fun _ _ _ _ h => h) (pa_cons (pe_cmpR op_notN1 (pv 5) pe_non (nomark _)) (pa_cons (pe_un un_neg pe_int) pa_nil)))) (pss_one (ps_ret (pv 5))))))))), ?_⟩)
  refine body_ofL h fun ⟨num, row, others⟩ s bs ⟨hs, hfo, hrow, hoth⟩ d dx sv bv F0 H0 R hR hE => ?_
  have hrow : row.length ≤ 22 := hrow
  have hoth : others.length ≤ 22 := hoth
  have hrs : isRuleSet row = (decide ((row.length : Int) ≤ 9 + 1) && (row.all (isIdentifier 10) && decide row.Nodup)) := by
    unfold isRuleSet
    congr 1
    rw [Bool.eq_iff_iff, decide_eq_true_eq, decide_eq_true_eq]
    show row.length ≤ 10 ↔ _
    omega
  have e1 : (isIdentifier 8 num && (others.all (isIdentifier 8) && isRuleSet row)) = false → RetX (refA K) F0 H0 E (-1) := fun q => hE (-1) (by show mapE ShP (oRes num row others s) = _; unfold oRes; rw [if_pos q]; rfl)
  refine ht_need (b := (isIdentifier 8 num && others.all (isIdentifier 8)) && decide ((row.length : Int) ≤ 9 + 1)) (ev_andV (ev_isB (ev_call (ea_cons (ev_catI (l := [num]) (m := others) (ev_lst (ea_cons (ev_var rfl) ea_nil) (show 1 ≤ sizeLine by decide)) (ev_var rfl) (by show 1 + others.length ≤ 16000000; omega)) (ea_cons ev_int (ea_cons ev_int ea_nil))) (spF_g ([num] ++ others, (0 : Int), (7 : Int)) (by show ([num] ++ others).length < 16000000; rw [List.length_append]; show 1 + others.length < 16000000; omega))) (allIn_ident (c := 8) rfl _)) fun _ => ev_le (ev_lenN (ev_var rfl)) (ev_add ev_int ev_int)) (ev_un ev_int) (fun hb => e1 ?_) fun hb => ?_
  · rw [hrs]
    exact (show ∀ A B C D E : Bool, ((A && B) && C) = false → (A && (B && (C && (D && E)))) = false by decide) _ _ _ _ _ hb
  obtain ⟨hb1, hb2, hb3⟩ := (show ∀ A B C : Bool, ((A && B) && C) = true → A = true ∧ B = true ∧ C = true by decide) _ _ _ hb
  have huq : decide (((uniq row).length : Int) = (row.length : Int)) = decide row.Nodup := by
    rw [Bool.eq_iff_iff, decide_eq_true_eq, decide_eq_true_eq, ← uniq_iff]
    omega
  refine ht_need (b := row.all (isIdentifier 10) && decide row.Nodup) (ev_andV (ev_isB (ev_call (ea_cons (ev_var rfl) (ea_cons ev_int (ea_cons ev_int ea_nil))) (spF_g (row, (0 : Int), (9 : Int)) (by show row.length < 16000000; omega))) (allIn_ident (c := 10) rfl _)) fun _ => ev_isB (ev_eqI (ev_lenSet (ev_var rfl) (by omega)) (ev_lenN (ev_var (P := IntsP row) rfl))) huq) (ev_un ev_int) (fun hc => e1 ?_) fun hc => ?_
  · rw [hrs]
    rw [hc]
    exact (show ∀ A B C : Bool, (A && (B && (C && false))) = false by decide) _ _ _
  obtain ⟨hc1, hc2⟩ := Bool.and_eq_true_iff.mp hc
  have hall : (isIdentifier 8 num && (others.all (isIdentifier 8) && isRuleSet row)) = true := by rw [hrs, hb1, hb2, hb3, hc]; rfl
  obtain ⟨n, rfl, hn⟩ := ident_nat hb1
  have hout : oRes n row others s = match Pl.getA s.fs n with
    | none => .error (-3)
    | some f => if (row.all fun r => (Pl.getA s.rs r.toNat).isSome) = false then .error (-3) else match resP (selR s (srt (row.map Int.toNat))) f with
      | none => .error (-4)
      | some es => .ok es := by
    unfold oRes
    rw [if_neg (by rw [hall]; decide), Int.toNat_natCast]
  refine ht_seq (ht_set (T.dsto rfl)) ?_
  have hrn := toNat_ints hc1
  have hkm : ∀ r ∈ row, ∃ m : Nat, r = (m : Int) := fun r hr => by
    obtain ⟨m, e, _⟩ := ident_nat (List.all_eq_true.mp hc1 r hr)
    exact ⟨m, e⟩
  refine ht_need (b := (Pl.getA s.fs n).isSome && row.all fun r => (Pl.getA s.rs r.toNat).isSome) (ev_andV (ev_din (n := n) (ev_var rfl) (T.fors (ev_var rfl))) fun _ => ev_isB (ev_cb (ea_cons (ev_isL (ev_lcL (l := row) (f := IntP) (ev_var rfl) (fun _ => true) (fun r => BoolP (Pl.getA s.rs r.toNat).isSome) (fun _ _ => et_yes) (fun r hr _ => ?_) (by omega)) (Qs := (row.map fun r => (Pl.getA s.rs r.toNat).isSome).map BoolP) (by rw [filter_yes, List.map_map]; rfl)) ea_nil) cb_all) (by rw [List.all_map]; rfl)) (ev_un ev_int) (fun hd => hE (-3) ?_) fun hd => ?_
  · obtain ⟨m, rfl⟩ := hkm r hr
    exact ev_din (n := m) (ev_var rfl) (T.ruls (ev_var rfl))
  · show mapE ShP (oRes n row others s) = _
    rw [hout]
    cases q : Pl.getA s.fs n with
    | none => rfl
    | some f =>
      rw [q, Option.isSome_some, Bool.true_and] at hd
      dsimp only
      rw [if_pos hd]; rfl
  obtain ⟨hd1, hd2⟩ := Bool.and_eq_true_iff.mp hd
  obtain ⟨f, hf⟩ := Option.isSome_iff_exists.mp hd1
  have ho := hfo _ (Pl.getA_mem hf)
  rw [hf] at hout
  dsimp only at hout
  rw [if_neg (by rw [hd2]; decide)] at hout
  have hnd : row.Nodup := of_decide_eq_true hc2
  have hlen : row.length ≤ 10 := by have := of_decide_eq_true hb3; omega
  have hmem : ∀ x ∈ srt (row.map Int.toNat), x ∈ Pl.keysA s.rs := fun x hx => by
    obtain ⟨r, hr, rfl⟩ := List.mem_map.mp ((srt_perm _).mem_iff.mp hx)
    obtain ⟨y, hy⟩ := Option.isSome_iff_exists.mp (List.all_eq_true.mp hd2 r hr)
    exact get_key hy
  have hsl : (srt (row.map Int.toNat)).length ≤ 10 := by rw [(srt_perm _).length_eq, List.length_map]; exact hlen
  refine ht_seq (ht_set (P := OptP ShP (resP (selR s (srt (row.map Int.toNat))) f)) (ev_meth (ev_var (P := StoP K s) rfl) rfl (ea_cons (ev_var rfl) (ea_cons (ev_isL (ev_cb (ea_cons (ev_var (P := IntsP row) rfl) ea_nil) (cb_sorted ((srt (row.map Int.toNat)).map fun (n : Nat) => (n : Int)) (by omega) fun ys hp hs => ints_one (by rw [hrn]; exact hp) hs)) (by rw [List.map_map]; rfl)) ea_nil)) (spF_g (s, n, f, srt (row.map Int.toNat), selR s (srt (row.map Int.toNat))) ⟨hs, hf, ho, sel_of hmem, hsl⟩))) ?_
  cases hr : resP (selR s (srt (row.map Int.toNat))) f with
  | none =>
    rw [hr] at hout
    exact ht_need (b := false) (ev_notN (ev_var rfl) fun v F h => by rw [show v = V.non from h]; rfl) (ev_un ev_int) (fun _ => hE (-4) (by show mapE ShP (oRes n row others s) = _; rw [hout]; rfl)) fun hb => by cases hb
  | some es =>
    rw [hr] at hout
    refine ht_need (b := true) (ev_notN (ev_var rfl) fun v F ⟨a, _, h, _⟩ => by rw [h]; rfl) (ev_un ev_int) (fun hb => by cases hb) fun _ => ?_
    exact ht_rt (fun v H r => hR (ShP es) (by show mapE ShP (oRes n row others s) = _; rw [hout]; rfl) v H r) (ht_ret (ev_var rfl))
/-! ### plans counted, the best -/
def oCount (s : Sto) (f : List (Nat × Nat)) : List Int := [0, ((plansP s f).length : Int), ((accP s f).length : Int)]
def sp_count_plans (K : PySem.W.Frag) : Sp := spF (ι := Sto × Nat × List (Nat × Nat)) (fun i => [StoP K i.1, IntP (i.2.1 : Int)]) preF fun i => IntsP (oCount i.1 i.2.2)
theorem ok_count_plans (T : Txt K mg) : FnOk P w K mg base CX0 7 (He.fAd K ("count_plans", none)) (fdOf K ("count_plans", none)) ["store", "number"] (sp_count_plans K) := by
  refine T.D_count_plans.ok sc_count_plans (spF_len fun _ => rfl) (fun cdv A outer s H vs Q E hr h => ⟨_, PSs.nox (pss_cons (ps_set (i := 2) sc_count_plans.nd rfl (Or.inl rfl) (pe_meth (pv 0) T.cl_Store T.mt_Store_plans (ok_Store_plans T) (hr.mono (by decide)) T.b_Store_plans .nil pass0 (pa_cons (pv 1) pa_nil))) (pss_one (ps_ret (pe_lst (pa_cons pe_int (pa_cons (pe_callB cr_lenSeq (by rfl) T.f_len bb_len (pa_cons (pv 2) pa_nil)) (pa_cons (pe_callB cr_lenSeq (by rfl) T.f_len bb_len (pa_cons (pe_lc (own := [("numbers", 3), ("shares", 4)]) rfl sc_count_plans.nd (pi_list (pv 2)) (blkOk_by (N := ["store", "number", "some", "numbers", "shares"]) (sc := defScope s_count_plans) (by decide +kernel)) (fun _ _ _ _ _ => (pg_tupK (K := K) (n := 2) rfl (pgs_cons (pg_name (i := 3) sc_count_plans.nd rfl (Or.inl rfl) (Or.inr rfl)) (pgs_cons (pg_name (i := 4) sc_count_plans.nd rfl (Or.inl rfl) (Or.inr rfl)) pgs_nil)))) (fun _ _ _ _ _ => (pts_one (pt_cmpR op_eq (pe_ix (ix_tupK (K := K)) (pe_meth (pv 0) T.cl_Store T.mt_Store_fault (ok_Store_fault T) (hr.mono (by decide)) T.b_Store_fault .nil pass0 (pa_cons (pv 4) pa_nil)) pe_int (fun _ _ => rfl)) pe_int (nomark _)))) (fun _ _ _ _ _ => (pv 4))) pa_nil)) pa_nil))))))), ?_⟩)
  refine body_of h fun ⟨s, n, f⟩ ⟨hs, hf, ho⟩ F0 H0 => ?_
  refine ht_seq (ht_set (ev_meth (ev_var rfl) rfl (ea_cons (ev_var rfl) ea_nil) (spF_g (s, n, f) ⟨hs, hf, ho⟩))) ?_
  refine ht_ret (ev_lst (ea_cons ev_int (ea_cons (ev_is (ev_cb (ea_cons (ev_var rfl) ea_nil) cb_lenL) (by rw [List.length_map])) (ea_cons (ev_is (ev_cb (ea_cons (ev_lcLT (l := plansP s f) (f := fun p => numsP p.1) (f2 := fun p => ShP p.2) (ev_var rfl) (fun p => decide ((faultP s p.2).1 = 0)) (fun p => ShP p.2) (fun p hp => ?_) (fun p hp _ => ev_var rfl) (Nat.lt_of_le_of_lt (plans_len s f hs) (by decide))) ea_nil) cb_lenL) (by rw [List.length_map]; rfl)) ea_nil))) (show 3 ≤ sizeLine by decide))
  refine et_is (et_test (ev_eqI (ev_ixT (P := IntP ((faultP s p.2).1 : Int)) (ev_meth (ev_var rfl) rfl (ea_cons (ev_var rfl) ea_nil) (spF_g (s, p.2) ⟨hs, plan_ok hs ho hp⟩)) ev_int rfl) ev_int)) ?_
  rw [Bool.eq_iff_iff, decide_eq_true_eq, decide_eq_true_eq]
  omega
def outL (o : Outc) : List Int := [0, (o.ruleIds.length : Int)] ++ o.ruleIds.map (fun (n : Nat) => (n : Int)) ++ [o.cost.num, (o.cost.den : Int)] ++ [o.distance.num, (o.distance.den : Int)]
def oBest (s : Sto) (f : List (Nat × Nat)) (w : Str) (most : Int) : Except Int (List Int) := match chosenP s f w most with
  | none => .error (-4)
  | some o => .ok (outL o)
def sp_best (K : PySem.W.Frag) : Sp := spX (ι := (Sto × Nat × List (Nat × Nat)) × Str × Int) (refA K) (fun i => [StoP K i.1.1, IntP (i.1.2.1 : Int), StrP i.2.1, IntP i.2.2]) (fun i => preF i.1 ∧ i.2.2 ≤ 1000000 ∧ -1 ≤ i.2.2) fun i => mapE IntsP (oBest i.1.1 i.1.2.2 i.2.1 i.2.2)
theorem chosen_len {s : Sto} (hs : StoOk s) {f : List (Nat × Nat)} {w : Str} {most : Int} {o : Outc} (h : chosenP s f w most = some o) : o.ruleIds.length ≤ 10 := by
  rcases best_mem _ _ h with q | ⟨p, hp, rfl⟩
  · cases q
  · obtain ⟨code, _, e⟩ := List.mem_filterMap.mp (List.mem_filter.mp hp).1
    unfold planAt at e
    obtain ⟨es, h1, h2⟩ := Option.map_eq_some_iff.mp e
    rw [← h2]
    exact Nat.le_trans (mask_len _ _) (nums_len hs)
theorem ok_best (T : Txt K mg) : FnOk P w K mg base (L2.CX P w) 9 (He.fAd K ("best", none)) (fdOf K ("best", none)) ["store", "number", "word", "most"] (sp_best K) := by
  refine T.D_best.ok sc_best (spX_len fun _ => rfl) (fun cdv A outer s H vs Q E hr h => ⟨_, (pss_cons (ps_set (i := 4) sc_best.nd rfl (Or.inl rfl) (pe_call (ok_chosen T) (hr.mono (by decide)) (by rfl) T.g_chosen T.k_chosen T.b_chosen .nil pass0 (pa_cons (pv 0) (pa_cons (pv 1) (pa_cons (pv 2) (pa_cons (pv 3) pa_nil)))))) (pss_cons (ps_expr (pe_call (ok_need T) (hr.mono (by decide)) (by rfl) T.g_need T.k_need T.b_need .nil (passes_call (takes_of rfl rfl rfl rfl) fun _ _ _ _ h => h) (pa_cons (pe_cmpR op_notN1 (pv 4) pe_non (nomark _)) (pa_cons (pe_un un_neg pe_int) pa_nil)))) (pss_one (ps_ret (pe_op op_cat (pe_op op_cat (pe_op op_cat (pe_lst (pa_cons pe_int (pa_cons (pe_callB cr_lenSeq (by rfl) T.f_len bb_len (pa_cons (pe_fld (pv 4) rfl) pa_nil)) pa_nil))) (pe_fld (pv 4) rfl)) (pe_callTy cr_listOf (by rfl) T.f_list bb_list (pa_cons (pe_fld (pv 4) rfl) pa_nil))) (pe_callTy cr_listOf (by rfl) T.f_list bb_list (pa_cons (pe_fld (pv 4) rfl) pa_nil))))))), ?_⟩)
  refine body_ofX h fun ⟨⟨s, n, f⟩, w, most⟩ hp F0 H0 R hR hE => ?_
  have hs := hp.1.1
  refine ht_seq (ht_set (ev_call (ea_cons (ev_var rfl) (ea_cons (ev_var rfl) (ea_cons (ev_var rfl) (ea_cons (ev_var rfl) ea_nil)))) (spF_g ((s, n, f), w, most) hp))) ?_
  show HT (TyA No F0 H0 [some (StoP K s), some (IntP (n : Int)), some (StrP w), some (IntP most), some (OptP (ChoP K) (chosenP s f w most))] W0) _ _ _
  cases hc : chosenP s f w most with
  | none => exact ht_need (b := false) (ev_notN (ev_var rfl) fun v F h => by rw [show v = V.non from h]; rfl) (ev_un ev_int) (fun _ => hE (-4) (by show mapE IntsP (oBest s f w most) = _; unfold oBest; rw [hc]; rfl)) fun hb => by cases hb
  | some o =>
    have hol := chosen_len hs hc
    refine ht_need (b := true) (ev_notN (ev_var rfl) fun v F ⟨a, _, _, h, _⟩ => by rw [h]; rfl) (ev_un ev_int) (fun hb => by cases hb) fun _ => ?_
    refine ht_rt (fun v H r => hR (IntsP (outL o)) (by show mapE IntsP (oBest s f w most) = _; unfold oBest; rw [hc]; rfl) v H r) (ht_ret ?_)
    refine ev_catI (ev_catI (ev_catI (l := [0, (o.ruleIds.length : Int)]) (ev_lst (ea_cons ev_int (ea_cons (ev_is (ev_cb (ea_cons (T.onum (o := o) (ev_var (P := ChoP K o) rfl)) ea_nil) cb_lenL) (by rw [List.length_map])) ea_nil)) (show 2 ≤ sizeLine by decide)) (ev_numsI (T.onum (o := o) (ev_var (P := ChoP K o) rfl))) ?_) (ev_frL (T.ocost (o := o) (ev_var (P := ChoP K o) rfl))) ?_) (ev_frL (T.odist (o := o) (ev_var (P := ChoP K o) rfl))) ?_
    · rw [List.length_map]; show 2 + o.ruleIds.length ≤ 16000000; omega
    · rw [List.length_append, List.length_map]; show 2 + o.ruleIds.length + 2 ≤ 16000000; omega
    · rw [List.length_append, List.length_append, List.length_map]; show 2 + o.ruleIds.length + 2 + 2 ≤ 16000000; omega
/-! ### cycles, the summary -/
def oCycle (s : Sto) : List Int := if (cycP s).isEmpty = true then [0] else [1, ((cycP s).length : Int)] ++ (cycP s).map fun (n : Nat) => (n : Int)
theorem cyF_len {s : Sto} : ∀ (d : Nat) (path : List Nat), (cyF s d path).length ≤ path.length + d
  | 0, path => by
    show (if feedsN s (path.getLastD 0) (path.headD 0) = true then path else []).length ≤ _
    split
    · omega
    · exact Nat.zero_le _
  | d + 1, path => by
    show (match (numsOf s).find? (fun n => cand s path n && !(cyF s d (path ++ [n])).isEmpty) with | some n => cyF s d (path ++ [n]) | none => []).length ≤ _
    split
    · rename_i n _
      have := cyF_len d (path ++ [n]) (s := s)
      rw [List.length_append, List.length_singleton] at this
      omega
    · exact Nat.zero_le _
theorem cyc_len {s : Sto} (hs : StoOk s) : (cycP s).length ≤ 1000 := by
  have hl := hs.rl
  unfold cycP
  split
  · rename_i m hm
    have := List.mem_of_find?_eq_some hm
    obtain ⟨i, hi, rfl⟩ := List.mem_map.mp this
    have hi := List.mem_range.mp hi
    unfold cyLen
    split
    · rename_i n _
      have := cyF_len (i + 2 - 1) [n] (s := s)
      have : ([n] : List Nat).length = 1 := rfl
      omega
    · exact Nat.zero_le _
  · exact Nat.zero_le _
def sp_cycleF (K : PySem.W.Frag) : Sp := spF (ι := Sto) (fun s => [StoP K s]) StoOk fun s => IntsP (oCycle s)
theorem ok_cycle (T : Txt K mg) : FnOk P w K mg base CX0 14 (He.fAd K ("cycle", none)) (fdOf K ("cycle", none)) ["store"] (sp_cycleF K) := by
  refine T.D_cycle.ok sc_cycle (spF_len fun _ => rfl) (fun cdv A outer s H vs Q E hr h => ⟨_, PSs.nox (pss_cons (ps_set (i := 1) sc_cycle.nd rfl (Or.inl rfl) (pe_meth0 (pv 0) T.cl_Store T.mt_Store_cycle (ok_Store_cycle T) (hr.mono (by decide)) T.b_Store_cycle .nil pass0)) (pss_one (ps_ret (pe_ifExp (pt_tru (pv 1)) (pe_op op_cat (pe_lst (pa_cons pe_int (pa_cons (pe_callB cr_lenSeq (by rfl) T.f_len bb_len (pa_cons (pv 1) pa_nil)) pa_nil))) (pv 1)) (pe_lst (pa_cons pe_int pa_nil)))))), ?_⟩)
  refine body_of h fun s hs F0 H0 => ?_
  have hcl := cyc_len hs
  refine ht_seq (ht_set (P := numsP (cycP s)) (ev_meth (ta := tVar 0) (t := tNil) (Ps := []) (ev_var rfl) rfl ea_nil (spF_g s hs))) ?_
  refine ht_ret (ev_if (et_truL (ev_var (P := numsP (cycP s)) rfl)) (fun hb => ?_) fun hb => ?_)
  · rw [List.isEmpty_map] at hb
    have e : oCycle s = [1, ((cycP s).length : Int)] ++ (cycP s).map fun (n : Nat) => (n : Int) := by unfold oCycle; rw [if_neg (by rw [Bool.not_eq_true'] at hb; rw [hb]; decide)]
    rw [e]
    exact ev_catI (ev_lst (ea_cons ev_int (ea_cons (ev_is (ev_cb (ea_cons (ev_var (P := numsP (cycP s)) rfl) ea_nil) cb_lenL) (by rw [List.length_map])) ea_nil)) (show 2 ≤ sizeLine by decide)) (ev_numsI (ev_var rfl)) (by rw [List.length_map]; show 2 + (cycP s).length ≤ 16000000; omega)
  · rw [List.isEmpty_map] at hb
    have e : oCycle s = [0] := by unfold oCycle; rw [if_pos (by rw [Bool.not_eq_false'] at hb; exact hb)]
    rw [e]
    exact ev_ok
def oSum (s : Sto) : List Int := [0, (s.ms.length : Int), ((s.ms.filter fun e => !e.2.isAvailable).length : Int), (s.rs.length : Int), (s.fs.length : Int)]
def sp_summary (K : PySem.W.Frag) : Sp := spF (ι := Sto) (fun s => [StoP K s]) StoOk fun s => IntsP (oSum s)
theorem ok_summary (T : Txt K mg) : FnOk P w K mg base CX0 2 (He.fAd K ("summary", none)) (fdOf K ("summary", none)) ["store"] (sp_summary K) := by
  refine T.D_summary.ok sc_summary (spF_len fun _ => rfl) (fun cdv A outer s H vs Q E hr h => ⟨_, PSs.nox (pss_cons (ps_lk (ps_setLc (i := 1) (own := [("one", 2)]) rfl sc_summary.nd rfl rfl (sw_true rfl rfl rfl (by decide +kernel)) (pi_keys (pe_fld (pv 0) rfl)) (blkOk_by (N := ["store", "gone", "one"]) (sc := defScope s_summary) (by decide +kernel)) (fun _ _ _ _ _ => (pg_name (i := 2) sc_summary.nd rfl (Or.inl rfl) (Or.inr rfl))) (fun _ _ _ _ _ => (pts_one (pt_not (pt_val (pe_fldK (K := K) (pe_dget (hu_of hr) (pe_fldK (K := K) (pv 0) rfl) (pv 2) (fun _ _ => rfl)) rfl))))) (fun _ _ _ _ _ => (pv 2)))) (pss_one (ps_ret (pe_lst (pa_cons pe_int (pa_cons (pe_callB cr_lenD (by rfl) T.f_len bb_len (pa_cons (pe_fld (pv 0) rfl) pa_nil)) (pa_cons (pe_callB cr_lenSeq (by rfl) T.f_len bb_len (pa_cons (pv 1) pa_nil)) (pa_cons (pe_callB cr_lenD (by rfl) T.f_len bb_len (pa_cons (pe_fld (pv 0) rfl) pa_nil)) (pa_cons (pe_callB cr_lenD (by rfl) T.f_len bb_len (pa_cons (pe_fld (pv 0) rfl) pa_nil)) pa_nil))))))))), ?_⟩)
  refine body_of h fun s hs F0 H0 => ?_
  have hg : EvG (tLkE (tLc (iKeys (tFld K (tVar 0) "materials")) (gName 2) (tNot (tB (tFld K (tDGet (tFld K (tVar 0) "materials") (tVar 2)) "is_available"))) (tVar 2) [2])) [some (StoP K s), none, none] W0 (LstP ((s.ms.filter fun e => !e.2.isAvailable).map fun e => IntP (e.1 : Int))) :=
    ev_lcKL (es := s.ms) (vv_fld (vv_var (P := StoP K s) rfl) T.cl_Store T.na_Store_materials rfl) (fun e => !e.2.isAvailable) (fun e => IntP (e.1 : Int)) (fun e he => et_not (et_B (T.avail (ev_mat (T.mats (s := s) (ev_var rfl)) (ev_var rfl) (Pl.mem_getA hs.mn he))))) (fun _ _ _ => ev_var rfl) (Nat.lt_of_le_of_lt hs.ml (by decide))
  refine ht_seq (ht_lkSet hg) ?_
  exact ht_ret (ev_lst (ea_cons ev_int (ea_cons (ev_cb (ea_cons (T.mats (ev_var rfl)) ea_nil) cb_lenD) (ea_cons (ev_is (ev_cb (ea_cons (ev_var rfl) ea_nil) cb_lenL) (by rw [List.length_map])) (ea_cons (ev_cb (ea_cons (T.ruls (ev_var rfl)) ea_nil) cb_lenD) (ea_cons (ev_cb (ea_cons (T.fors (ev_var rfl)) ea_nil) cb_lenD) ea_nil))))) (show 5 ≤ sizeLine by decide))
end Sw
set_option maxRecDepth 100000
set_option maxHeartbeats 2000000
/-! # Dependents, undo, plans applied -/
namespace Sw
open PySem L2
open SubstitutionSpec (Material Rule toFormula isIdentifier inRange isRuleSet)
section
variable {N : Addr → Prop} {F0 H0 : Hp} {Γ Δ : List (Option VP)} {W : Wd} {F H : Hp} {σ : L2.St} {A B : As} {R : VK} {P P' : VP} {t u : TS} {te ta tb td : TE} {tr : TA} {K : PySem.W.Frag} {mg : Str → Option Value} {s : Sto} {E : XK} {CR : Addr} {c : Int}
/-- what is new is none of what was known -/
def Fresh (N : Addr → Prop) (W : Wd) (d : Addr) : Prop := W.X d = none ∧ ¬ W.loc d ∧ ¬ N d
theorem TyS.newly (q : TyS N F0 H0 Γ W F σ H) {d : Addr} (h : H d = none) : Fresh N W d := by
  refine ⟨?_, fun z => (q.l d z).2.2 h, fun z => (q.nn d z).1 h⟩
  cases e : W.X d with
  | none => rfl
  | some o =>
    have := q.ok.x d o e
    rw [h] at this
    cases this
theorem ht_parLx {i j : Nat} {Ps : List VP} {G : Addr → List (Option VP)} (h : EvG te Γ W P') (ht : EvA tr Γ W Ps) (e : ∀ d : Addr, (Γ.set i (some P')).set j (some (IsP (.ref d))) = G d) (hl : Ps.length ≤ sizeLine := by decide) :
    HT (TyA N F0 H0 Γ W) (tPar i j (tCons te (tCons (tLst tr) tNil))) (fun σ H => ∃ d xs, Fresh N W d ∧ TyA N F0 H0 (G d) (W.lst d xs Ps) σ H) R := fun σ H D ⟨F, s⟩ nx rt => by
  refine h σ F H s.ok _ fun v F2 H2 n p => ?_
  have s2 := s.next n
  refine ht σ F2 H2 s2.ok _ fun xs F3 H3 n3 p3 => ⟨by rw [p3.len]; exact hl, fun d hd => ?_⟩
  have s3 := s2.next n3
  refine ⟨v, .ref d, rfl, nx _ _ ⟨d, xs, s3.newly hd, F3, e d ▸ ?_⟩⟩
  exact (s3.set (P'.mono p n3.f)).fresh hd p3
theorem ht_lnewx {G : Addr → List (Option VP)} {i : Nat} {Ps : List VP} (h : EvA tr Γ W Ps) (e : ∀ d : Addr, Γ.set i (some (IsP (.ref d))) = G d) (hl : Ps.length ≤ sizeLine := by decide) : HT (TyA N F0 H0 Γ W) (tAsg (tLst tr) (gName i)) (fun σ H => ∃ d xs, Fresh N W d ∧ TyA N F0 H0 (G d) (W.lst d xs Ps) σ H) R := fun σ H D ⟨F, s⟩ nx rt =>
  h σ F H s.ok _ fun xs F2 H2 n p => ⟨by rw [p.len]; exact hl, fun d hd => nx _ _ ⟨d, xs, (s.next n).newly hd, F2, e d ▸ (s.next n).fresh hd p⟩⟩
theorem ht_dnewx {α : Type} {G : Addr → List (Option VP)} {i : Nat} {Rf : α → VP} (e : ∀ d : Addr, Γ.set i (some (IsP (.ref d))) = G d) : HT (TyA N F0 H0 Γ W) (tAsg tDNewK (gName i)) (fun σ H => ∃ d, Fresh N W d ∧ TyA N F0 H0 (G d) (W.dct d [] Rf []) σ H) R := fun σ H D ⟨F, s⟩ nx rt d hd =>
  nx _ _ ⟨d, s.newly hd, F, e d ▸ s.fresh hd trivial⟩
/-! the copy, in a pair -/
theorem TyS.tw {F1 H1 H2 : Hp} {t : Tw} (q1 : TyS N F0 H0 Γ W F1 σ H1) (n2 : New F1 H1 F1 H2) (ne : t.Ne) (hat : ∀ a o, t.at_ K a = some o → H2 a = some o ∧ H1 a = none) (e1 : Ents (MatP K) s.ms t.k1 F1) (e2 : Ents (RulP K) s.rs t.k2 F1) (e3 : Ents FormP s.fs t.k3 F1) :
    TwOk N W K t ∧ TyS N F0 H0 Γ (W.twin K t s) F1 σ H2 := by
  have q2 := q1.next n2
  have hH1 : ∀ b, t.at_ K b ≠ none → H1 b = none := fun b hb => by
    cases z : t.at_ K b with
    | none => exact absurd z hb
    | some o => exact (hat b o z).2
  refine ⟨⟨ne, fun b hb => q1.newly (hH1 b hb)⟩, q2.n, ⟨q2.ok.t, q2.ok.s, fun b o hb => ?_, ⟨q2.ok.g, e1, e2, e3⟩, fun b hb => ?_⟩, fun b hb => ?_, q2.nn⟩
  · rcases un_cases hb with z | ⟨_, z⟩
    · exact (hat b o z).1
    · exact q2.ok.x b o z
  · cases z : t.at_ K b with
    | some o => exact q1.ok.s.free (hat b o z).2
    | none =>
      refine q2.ok.xf b fun y => hb ?_
      show un (t.at_ K) W.X b = none
      unfold un
      rw [z]; exact y
  · rcases hb with z | z
    · refine ⟨q1.ok.s.free (hH1 b z), .inl (q1.none0 (hH1 b z)), ?_⟩
      cases y : t.at_ K b with
      | none => exact absurd y z
      | some o => rw [(hat b o y).1]; simp
    · exact q2.l b z
theorem ht_parTw {i j : Nat} {G : Addr → List (Option VP)} (h0 : EvG te Γ W P') (h : EvG tb Γ W (StoP K s)) (e : ∀ x : Addr, (Γ.set i (some P')).set j (some (IsP (.ref x))) = G x) :
    HT (TyA N F0 H0 Γ W) (tPar i j (tCons te (tCons (tMeth (He.ga K "Store") "twin" (spTwin K) [] E tb tNil) tNil))) (fun σ H => ∃ t, TwOk N W K t ∧ TyA N F0 H0 (G t.x) (W.twin K t s) σ H) R := fun σ H D ⟨F, q⟩ nx rt => by
  refine h0 σ F H q.ok _ fun v0 F1 H1 n1 p0 => ?_
  have q1 := q.next n1
  refine h σ F1 H1 q1.ok _ fun v F2 H2 n2 p1 => ?_
  have q2 := q1.next n2
  obtain ⟨a, dx, vs, rfl, h2, h3⟩ := id p1
  refine ⟨a, dx, vs, rfl, n2.s.ins h2, h3.no rfl, ?_⟩
  refine ⟨s, F2, ⟨p1, trivial⟩, n2.s, fun t H3 n3 ne hat e1 e2 e3 => ?_⟩
  obtain ⟨ok, q3⟩ := q2.tw n3 ne hat e1 e2 e3
  refine ⟨v0, _, rfl, nx _ _ ⟨t, ok, F2, e t.x ▸ (q3.set (P'.mono p0 n2.f)).set rfl⟩⟩
/-! a dict that changes, walked -/
def Wd.frz {α : Type} (W : Wd) (d : Addr) (ob : Obj) (kvs : List (Key × V)) (Rf : α → VP) (es : List (Nat × α)) : Wd := W.put d (.frz ob (.dK kvs)) (fun F => Ents Rf es kvs F) Ents.mono
theorem ht_forKM {α : Type} {Rf : α → VP} {es : List (Nat × α)} {kvs : List (Key × V)} {d : Addr} {i j : Nat} {β : Nat → Type} (hs : Γ[i]? = some (some (IsP (.ref d)))) (hW : Fresh N W d) (G : ∀ i, β i → List (Option VP)) (x0 : β 0)
    (hb : ∀ N1 F1 H1 ob i e (b : β i), es[i]? = some e → HT (TyA N1 F1 H1 ((G i b).set j (some (IntP (e.1 : Int)))) (W.frz d ob kvs Rf es)) t (fun σ H => ∃ b' : β (i + 1), TyA N1 F1 H1 (G (i + 1) b') (W.frz d ob kvs Rf es) σ H) (fun _ _ => False))
    (e0 : Γ = G 0 x0 := by rfl) :
    HT (TyA N F0 H0 Γ (W.dct d kvs Rf es)) (tLk (tFor (iKeys (tVar i)) (gName j) t)) (fun σ H => ∃ b : β es.length, TyA N F0 H0 (G es.length b) (W.dct d kvs Rf es) σ H) R := fun σ H D ⟨F, q⟩ nx rt => by
  have hd : H d = some (.dK kvs) := q.ok.x d _ upd_same
  refine .inl ⟨d, .dK kvs, hd, trivial, fun ob => ?_⟩
  have q1 : TyS N F0 H0 Γ (W.frz d ob kvs Rf es) F σ (upd H d (.frz ob (.dK kvs))) := q.change (.inl rfl) put_put.1 put_put.2 ⟨q.ok.g.1, q.ok.g.2⟩
  obtain ⟨u, h1, rfl⟩ := q1.ok.t.get hs
  have hE : Ents Rf es kvs F := q.ok.g.2
  refine ⟨_, h1, d, ob, rfl, .inl ⟨kvs, upd_same, ?_⟩⟩
  have wk := wk_keys (X := fun a => if a = d then some (.frz ob (.dK kvs)) else none) hE (by rw [if_pos rfl])
  obtain ⟨Gw, Y, wk, wG, wY⟩ := wk
  refine for_it wk (fun i σ H' => ∃ (b : β i) (F' : Hp), TyS (Nl N (W.frz d ob kvs Rf es)) F (upd H d (.frz ob (.dK kvs))) (G i b) (W.frz d ob kvs Rf es) F' σ H') ⟨x0, F, e0 ▸ q1.into⟩ (fun i σ H' _ ⟨b, F', z⟩ => wG F' H' z.n.f z.ok.s fun a o e => ?_) ?_ ?_
  · have e : (if a = d then some (HO.frz ob (.dK kvs)) else none) = some o := e
    split at e
    · rename_i c
      rw [c, ← e]
      exact z.ok.x d _ upd_same
    · cases e
  · rintro i x σ1 H2 H2' hi ⟨b, F', z⟩ y
    obtain ⟨F2, n2, p⟩ := wY i x F' H2 H2' hi z.n.f z.ok.s y
    obtain ⟨e, he⟩ : ∃ e, es[i]? = some e := ⟨es[i], by simp [hi]⟩
    have p' : (IntP (e.1 : Int)) x F2 := by
      have : (es.map fun e => (e.1 : Int)).getD i 0 = (e.1 : Int) := by
        rw [List.getD_eq_getElem?_getD, List.getElem?_map, he]; rfl
      rw [← this]; exact p
    exact hb _ F _ ob i e b he _ _ _ ⟨F2, (z.next n2).set p'⟩ (fun σ'' H'' z' => z') fun v H'' r => r.elim
  · rintro σ1 H2 ⟨b, F', z⟩
    have z2 := q1.back z
    have hl : H2 d = some (.frz ob (.dK kvs)) := z2.ok.x d _ upd_same
    exact ⟨hl, nx σ1 _ ⟨b, F', z2.change (W2 := W.dct d kvs Rf es) (.inl rfl) put_put.1 put_put.2 ⟨z2.ok.g.1, z2.ok.g.2⟩⟩⟩
/-- d[k], d a dict that may change, locked or not -/
theorem ev_dgetM {α : Type} {i n : Nat} {d : Addr} {kvs : List (Key × V)} {Rf : α → VP} {es : List (Nat × α)} {x : α} (hs : Γ[i]? = some (some (IsP (.ref d)))) (hb : EvG tb Γ (W.dct d kvs Rf es) (IntP (n : Int))) (hx : Pl.getA es n = some x) : EvG (tDGet (tVar i) tb) Γ (W.dct d kvs Rf es) (Rf x) := fun σ F H o Q k => by
  obtain ⟨u, h1, rfl⟩ := o.t.get hs
  refine ⟨_, h1, hb σ F H o _ fun y F2 H2 n2 p2 => ?_⟩
  have o2 := o.next n2
  obtain ⟨v, e1, e2⟩ := (show Ents Rf es kvs F2 from o2.g.2).get.1 x hx
  exact ⟨d, v, rfl, .inl ⟨kvs, Sum.inl (n : Int), .inl (o2.x d _ upd_same), p2, e1.symm⟩, k _ _ _ n2 e2⟩
theorem ev_dgetF {α : Type} {i n : Nat} {d : Addr} {ob : Obj} {kvs : List (Key × V)} {Rf : α → VP} {es : List (Nat × α)} {x : α} (hs : Γ[i]? = some (some (IsP (.ref d)))) (hb : EvG tb Γ (W.frz d ob kvs Rf es) (IntP (n : Int))) (hx : Pl.getA es n = some x) : EvG (tDGet (tVar i) tb) Γ (W.frz d ob kvs Rf es) (Rf x) := fun σ F H o Q k => by
  obtain ⟨u, h1, rfl⟩ := o.t.get hs
  refine ⟨_, h1, hb σ F H o _ fun y F2 H2 n2 p2 => ?_⟩
  have o2 := o.next n2
  obtain ⟨v, e1, e2⟩ := (show Ents Rf es kvs F2 from o2.g.2).get.1 x hx
  exact ⟨d, v, rfl, .inl ⟨kvs, Sum.inl (n : Int), .inr ⟨ob, o2.x d _ upd_same⟩, p2, e1.symm⟩, k _ _ _ n2 e2⟩
end
/-! ### the invariants through the changes -/
theorem keys_sub {α : Type} {es : List (Nat × α)} {n k : Nat} {x : α} (h : k ∈ Pl.keysA es) : k ∈ Pl.keysA (Pl.putA es n x) := by
  rw [Pl.keys_put]
  split
  · exact h
  · exact List.mem_append_left _ h
theorem RulOk.mono {ms ms' : List (Nat × Material)} {r : Rule} (h : RulOk ms r) (hk : ∀ k ∈ Pl.keysA ms, k ∈ Pl.keysA ms') : RulOk ms' r := ⟨hk _ h.mat, h.parts, h.some, fun p hp => ⟨hk _ (h.reps p hp).1, (h.reps p hp).2⟩, h.diff⟩
theorem ForOk.mono {ms ms' : List (Nat × Material)} {f : List (Nat × Nat)} (h : ForOk ms f) (hk : ∀ k ∈ Pl.keysA ms, k ∈ Pl.keysA ms') : ForOk ms' f := ⟨h.asc, h.some, fun e he => ⟨hk _ (h.comp e he).1, (h.comp e he).2⟩⟩
theorem StoOk.putM {s : Sto} (h : StoOk s) {n : Nat} {m : Material} (hn : n < 24) (hm : MatOk m) : StoOk {s with ms := Pl.putA s.ms n m} := by
  have hk : ∀ k ∈ Pl.keysA s.ms, k ∈ Pl.keysA (Pl.putA s.ms n m) := fun k q => keys_sub q
  refine ⟨Pl.nodup_put _ _ h.mn, fun e he => ?_, h.rn, fun e he => ⟨(h.ri e he).1, (h.ri e he).2.mono hk⟩, h.fn, fun e he => ⟨(h.fi e he).1, (h.fi e he).2.mono hk⟩⟩
  rcases Pl.mem_put he with q | q
  · exact h.mi e q
  · rw [q]; exact ⟨hn, hm⟩
theorem StoOk.putR {s : Sto} (h : StoOk s) {n : Nat} {r : Rule} (hn : n < 10) (hr : RulOk s.ms r) : StoOk {s with rs := Pl.putA s.rs n r} := by
  refine ⟨h.mn, h.mi, Pl.nodup_put _ _ h.rn, fun e he => ?_, h.fn, h.fi⟩
  rcases Pl.mem_put he with q | q
  · exact h.ri e q
  · rw [q]; exact ⟨hn, hr⟩
theorem StoOk.dropR {s : Sto} (h : StoOk s) (n : Nat) : StoOk {s with rs := Pl.dropA s.rs n} := ⟨h.mn, h.mi, Pl.nodup_drop _ h.rn, fun e he => h.ri e (List.mem_filter.mp he).1, h.fn, h.fi⟩
theorem StoOk.putF {s : Sto} (h : StoOk s) {n : Nat} {f : List (Nat × Nat)} (hn : n < 8) (hf : ForOk s.ms f) : StoOk {s with fs := Pl.putA s.fs n f} := by
  refine ⟨h.mn, h.mi, h.rn, h.ri, Pl.nodup_put _ _ h.fn, fun e he => ?_⟩
  rcases Pl.mem_put he with q | q
  · exact h.fi e q
  · rw [q]; exact ⟨hn, hf⟩
variable {P : Program} {w : World} {K : PySem.W.Frag} {mg : Str → Option Value} {base : Heap}
/-! ### dependents -/
/-- without the material -/
def sans (s : Sto) (n : Nat) : Sto := match Pl.getA s.ms n with
  | some m => {s with ms := Pl.putA s.ms n {m with isAvailable := false}}
  | none => s
def depB (s : Sto) (n k : Nat) : Bool := match Pl.getA s.fs k with
  | some f => !(accP s f).isEmpty && !(!(accP (sans s n) f).isEmpty)
  | none => false
def oDep (s : Sto) (n : Nat) : List Int := 0 :: ((srt (Pl.keysA s.fs)).filter (depB s n)).map fun (k : Nat) => (k : Int)
def sp_dependent (K : PySem.W.Frag) : Sp := spF (ι := Sto × Nat) (fun i => [StoP K i.1, IntP (i.2 : Int)]) (fun i => StoOk i.1 ∧ (Pl.getA i.1.ms i.2).isSome = true) fun i => IntsP (oDep i.1 i.2)
theorem acc_len {s : Sto} {f : List (Nat × Nat)} (hs : StoOk s) : (accP s f).length ≤ 1024 := Nat.le_trans (List.length_filter_le ..) (plans_len s f hs)
theorem ok_dependent (T : Txt K mg) : FnOk P w K mg base CX0 8 (He.fAd K ("dependent", none)) (fdOf K ("dependent", none)) ["store", "number"] (sp_dependent K) := by
  refine T.D_dependent.ok sc_dependent (spF_len fun _ => rfl) (fun cdv A outer s H vs Q E hr h => ⟨_, PSs.nox (pss_cons (ps_par (i := 2) (j := 3) (by rfl) sc_dependent.nd rfl rfl (by decide) rfl rfl (pa_cons (pe_dget (hu_of hr) (pe_fld (pv 0) rfl) (pv 1) (fun _ _ => rfl)) (pa_cons (pe_meth0 (pv 0) T.cl_Store T.mt_Store_twin (ok_Store_twin T) (hr.mono (by decide)) T.b_Store_twin .nil pass0) pa_nil)) (by rfl)) (pss_cons (ps_dput (hu_of hr) (pe_fld (pv 3) rfl) (pv 1) (pe_make T.mk_Material (ok_Material_init T) (hr.mono (by decide)) (by rfl) T.g_Material T.b_Material_init .nil pass0 (pa_cons (pe_fld (pv 2) rfl) (pa_cons (pe_fld (pv 2) rfl) (pa_cons pe_bl (pa_cons (pe_fld (pv 2) rfl) pa_nil))))) rfl) (pss_cons (ps_set (i := 4) sc_dependent.nd rfl (Or.inl rfl) (pe_lst (pa_cons pe_int pa_nil))) (pss_cons (ps_for PassesOwn.never rfl (pi_list (pe_callB (cr_sortedDI rfl) (by rfl) T.f_sorted bb_sorted (pa_cons (pe_fld (pv 0) rfl) pa_nil))) (pg_name (i := 5) sc_dependent.nd rfl (Or.inl rfl)) (pss_one (ps_if (PW.pt (pw_and (pt_tru (pe_meth (pv 0) T.cl_Store T.mt_Store_acceptable (ok_Store_acceptable T) (hr.mono (by decide)) T.b_Store_acceptable .nil pass0 (pa_cons (pv 5) pa_nil))) (pw_and1 (pt_not (pt_tru (pe_meth (pv 3) T.cl_Store T.mt_Store_acceptable (ok_Store_acceptable T) (hr.mono (by decide)) T.b_Store_acceptable .nil pass0 (pa_cons (pv 5) pa_nil))))))) (pss_one (ps_expr (pe_bm PySem.F.plainAttrs_list PySem.F.slot_list_append PySem.F.type_list_append mt_append (pv 4) (pa_cons (pv 5) pa_nil)))) pss_nil))) (pss_one (ps_ret (pv 4))))))), ?_⟩)
  refine body_of h fun ⟨s, n⟩ ⟨hs, hn⟩ F0 H0 => ?_
  obtain ⟨m, hm⟩ := Option.isSome_iff_exists.mp hn
  have hm : Pl.getA s.ms n = some m := hm
  have hmo := hs.mi _ (Pl.getA_mem hm)
  have hsans : sans s n = {s with ms := Pl.putA s.ms n {m with isAvailable := false}} := by unfold sans; rw [hm]
  have hs' : StoOk (sans s n) := by
    rw [hsans]
    exact hs.putM hmo.1 ⟨hmo.2.price, hmo.2.six, hmo.2.att, hmo.2.most⟩
  refine ht_seq (ht_parTw (G := fun x => [some (StoP K s), some (IntP (n : Int)), some (MatP K m), some (IsP (.ref x)), none, none]) (ev_mat (T.mats (ev_var rfl)) (ev_var rfl) hm) (ev_var rfl) fun x => rfl) (ht_ex fun t => ht_and fun ok => ?_)
  refine ht_seq (ht_twput1 T (i := 3) (n := n) (m := {m with isAvailable := false}) rfl ok (ev_var rfl) (ev_make (fs := ["price", "profile", "is_available", "most"]) (Ps := [IntP (m.price : Int), TupP (m.profile.map fun (n : Nat) => IntP (n : Int)), BoolP false, IntP (m.maxShare : Int)]) (ea_cons (T.price (m := m) (ev_var rfl)) (ea_cons (T.prof (m := m) (ev_var rfl)) (ea_cons ev_bl (ea_cons (T.most (m := m) (ev_var rfl)) ea_nil))))) (Nat.lt_of_le_of_lt hs.ml (by decide))) (ht_ex fun t' => ht_and fun ok' => ht_and fun hx => ?_)
  rw [← hx, ← hsans]
  refine ht_pre (fun σ H a => frz_twin (i := 3) rfl ok' rfl σ H a) ?_
  show HT (TyA No F0 H0 [some (StoP K s), some (IntP (n : Int)), some (MatP K m), some (StoP K (sans s n)), none, none] W0) _ _ _
  refine ht_seq (ht_lnewx (Ps := [IntP 0]) (G := fun d => [some (StoP K s), some (IntP (n : Int)), some (MatP K m), some (StoP K (sans s n)), some (IsP (.ref d)), none]) (ea_cons ev_int ea_nil) (fun d => rfl) (show 1 ≤ sizeLine by decide)) (ht_ex fun d => ht_ex fun xs => ht_and fun hd => ?_)
  have hfl : (srt (Pl.keysA s.fs)).length ≤ 8 := by rw [(srt_perm _).length_eq, Pl.keysA, List.length_map]; exact hs.fl
  let L : Nat → List Int := fun i => 0 :: (((srt (Pl.keysA s.fs)).take i).filter (depB s n)).map fun (k : Nat) => (k : Int)
  let G : List (Option VP) := [some (StoP K s), some (IntP (n : Int)), some (MatP K m), some (StoP K (sans s n)), some (IsP (.ref d)), none]
  refine ht_seq (ht_forL (l := srt (Pl.keysA s.fs)) (f := fun (k : Nat) => IntP (k : Int)) (β := fun _ => List V) (ev_sortedN (T.fors (ev_var rfl)) (Nat.lt_of_le_of_lt hs.fl (by decide))) (fun i xs => G) (fun i xs => W0.lst d xs ((L i).map IntP)) R0 xs ?_ hR0) (ht_ex fun xs2 => ?_)
  · intro F1 H1 i k xs hk
    have hkk : k ∈ Pl.keysA s.fs := (srt_perm _).mem_iff.mp (List.mem_of_getElem? hk)
    obtain ⟨f, hf⟩ := key_get hkk
    have ho := (hs.fi _ (Pl.getA_mem hf)).2
    have hf' : Pl.getA (sans s n).fs k = some f := by rw [hsans]; exact hf
    have ho' : ForOk (sans s n).ms f := by rw [hsans]; exact ho.mono fun k q => keys_sub q
    have hdep : depB s n k = (!(accP s f).isEmpty && !(!(accP (sans s n) f).isEmpty)) := by unfold depB; rw [hf]
    have hlen : (L i).length ≤ 10 := by
      show (_ :: _).length ≤ 10
      rw [List.length_cons, List.length_map]
      have h1 := List.length_filter_le (depB s n) ((srt (Pl.keysA s.fs)).take i)
      have h2 := List.length_take_le' i (srt (Pl.keysA s.fs))
      omega
    have e1 : ∀ {Γ : List (Option VP)} {W : Wd}, Γ[0]? = some (some (StoP K s)) → Γ[5]? = some (some (IntP (k : Int))) → EvG (tMeth (He.ga K "Store") "acceptable" (sp_acceptable K) [] E0 (tVar 0) (tCons (tVar 5) tNil)) Γ W (LstP ((accP s f).map PlP)) := fun h0 h5 => ev_meth (ev_var h0) rfl (ea_cons (ev_var h5) ea_nil) (spF_g (s, k, f) ⟨hs, hf, ho⟩)
    have e2 : ∀ {Γ : List (Option VP)} {W : Wd}, Γ[3]? = some (some (StoP K (sans s n))) → Γ[5]? = some (some (IntP (k : Int))) → EvG (tMeth (He.ga K "Store") "acceptable" (sp_acceptable K) [] E0 (tVar 3) (tCons (tVar 5) tNil)) Γ W (LstP ((accP (sans s n) f).map PlP)) := fun h0 h5 => ev_meth (ev_var h0) rfl (ea_cons (ev_var h5) ea_nil) (spF_g (sans s n, k, f) ⟨hs', hf', ho'⟩)
    refine ht_if (b := depB s n k) (et_is (et_and (et_truL (e1 rfl rfl)) fun _ => et_not (et_truL (e2 rfl rfl))) ?_) (fun hb => ?_) fun hb => ?_
    · rw [hdep, List.isEmpty_map, List.isEmpty_map]
    · have hnx : L (i + 1) = L i ++ [(k : Int)] := by
        show 0 :: _ = 0 :: _ ++ _
        rw [take_next hk, List.filter_append, List.map_append, List.filter_cons, if_pos hb]
        rfl
      rw [hnx, List.map_append]
      exact ht_post (fun σ H ⟨ys, a⟩ => ⟨ys, TyA.le (by repeat (first | exact trivial | refine ⟨.inl rfl, ?_⟩ | refine ⟨.inr rfl, ?_⟩)) σ H a⟩) (ht_append (i := 4) (P := IntP (k : Int)) rfl (ev_var rfl) (by rw [List.length_map]; omega))
    · have hnx : L (i + 1) = L i := by
        show 0 :: _ = 0 :: _
        rw [take_next hk, List.filter_append, List.filter_cons, if_neg (by rw [hb]; decide), List.filter_nil, List.append_nil]
      rw [hnx]
      exact ht_post (fun σ H a => ⟨xs, TyA.le (by repeat (first | exact trivial | refine ⟨.inl rfl, ?_⟩ | refine ⟨.inr rfl, ?_⟩)) σ H a⟩) ht_next
  · have hfin : L (srt (Pl.keysA s.fs)).length = oDep s n := by
      show 0 :: _ = 0 :: _
      rw [List.take_length]
    rw [hfin]
    refine ht_pre (fun σ H a => frz_lst (i := 4) rfl hd.1 hd.2.1 hd.2.2 rfl σ H a) (ht_ret (ev_var rfl))
/-! ### undo -/
def oUndo (s : Sto) (bs : List Sto) : ResD := match bs.getLast? with
  | none => .error (-4)
  | some b => .ok (VOk, b, bs.dropLast)
def sp_undo (K : PySem.W.Frag) : Sp := spD (ι := Unit) K (refA K) (fun _ => []) (fun _ _ _ => True) fun _ s bs => oUndo s bs
theorem cut_last {Ps : List VP} (h : Ps ≠ []) : cutP Ps none (some (-1)) = Ps.dropLast := by
  have hl := List.length_pos_iff.mpr h
  unfold cutP
  have e : HT.sIx Ps.length Ps.length (some (-1)) = Ps.length - 1 := by
    show (if (-1 : Int) < 0 then ((-1 : Int) + (Ps.length : Int)).toNat else min (-1 : Int).toNat Ps.length) = _
    rw [if_pos (by decide)]
    omega
  rw [e, HT.sIx_none, List.drop_zero, Nat.sub_zero, List.dropLast_eq_take]
theorem ok_undo (T : Txt K mg) : FnOk P w K mg base (L2.CX P w) 5 (He.fAd K ("undo", none)) (fdOf K ("undo", none)) ["desk"] (sp_undo K) := by
  refine T.D_undo.ok sc_undo (spD_len fun _ => rfl) (fun cdv A outer s H vs Q E hr h => ⟨_, (pss_cons (ps_expr (pe_call (ok_need T) (hr.mono (by decide)) (by rfl) T.g_need T.k_need T.b_need .nil (passes_call (takes_of rfl rfl rfl rfl) fun _ _ _ _ h => h) (pa_cons (pe_cmpR op_gt (pe_callB cr_lenSeq (by rfl) T.f_len bb_len (pa_cons (pe_fld (pv 0) rfl) pa_nil)) pe_int (nomark _)) (pa_cons (pe_un un_neg pe_int) pa_nil)))) (pss_cons (ps_asg (pe_tup (pa_cons (pe_ix ix_list (pe_fld (pv 0) rfl) (pe_un un_neg pe_int) (fun _ _ => rfl)) (pa_cons (pe_slice sl_list (pe_fld (pv 0) rfl) po_none (po_some (pe_un un_neg pe_int))) pa_nil))) (pg_tup (n := 2) rfl (pgs_cons (pg_fld (pv 0)) (pgs_cons (pg_fld (pv 0)) pgs_nil)))) (pss_one (ps_ret (pe_lst (pa_cons pe_int pa_nil)))))), ?_⟩)
  refine body_ofD h fun _ s bs _ d dx sv bv F0 H0 R hR hE => ?_
  refine ht_need (ev_gt (ev_cb (ea_cons (T.dbef rfl) ea_nil) cb_lenL) ev_int) (ev_un ev_int) (fun hb => hE (-4) ?_) fun hb => ?_
  · have := of_decide_eq_false hb
    rw [List.length_map] at this
    have e : bs = [] := List.length_eq_zero_iff.mp (by omega)
    subst e; rfl
  · have := of_decide_eq_true hb
    rw [List.length_map] at this
    have hne : bs ≠ [] := by
      rintro rfl
      simp at this
    obtain ⟨ini, b, rfl⟩ : ∃ ini b, bs = ini ++ [b] := ⟨bs.dropLast, bs.getLast hne, (List.dropLast_concat_getLast hne).symm⟩
    have hout : oUndo s (ini ++ [b]) = .ok (VOk, b, ini) := by
      unfold oUndo
      rw [List.getLast?_concat, List.dropLast_concat]
    have hev : EvG (tTup (tCons (tOp (rIxL K) (tFld K (tVar 0) "before") (tUn (rU fun i => .int (-i)) (tC (.int 1)))) (tCons (tSl (rSlL K) (tFld K (tVar 0) "before") tNoPart (tPart (tUn (rU fun i => .int (-i)) (tC (.int 1))))) tNil))) [some (IsP (.ref d))] (Wdk K d dx sv bv s (ini ++ [b])) (TupP [StoP K b, LstP (ini.map (StoP K))]) := by
      refine ev_tup (ea_cons (ev_ixL (T.dbef rfl) (ev_un ev_int) (by rw [List.map_append]; exact atI_last _ _)) (ea_cons (ev_isL (ev_slice (T.dbef rfl) oe_no (oe_int (ev_un ev_int))) ?_) ea_nil)) (show 2 ≤ sizeLine by decide)
      rw [cut_last (by simp), List.map_append]
      exact List.dropLast_concat
    refine ht_pre TyA.toD ?_
    refine ht_seq (B := fun σ H => ∃ sv2 bv2, TyA (fun a => a = d) F0 H0 [some (IsP (.ref d))] (Wdk K d dx sv2 bv2 b ini) σ H) (fun σ H D ⟨F, q⟩ nx rt => ?_) (ht_ex fun sv2 => ht_ex fun bv2 => ht_retW ev_ok fun v H r => hR VOk _ _ hout v H r)
    refine hev σ F H q.ok _ fun v F2 H2 n p => ?_
    have q2 := q.next n
    obtain ⟨a, xs, rfl, h2, h3⟩ := p
    match xs, h3 with
    | [x, y], h3 =>
      obtain ⟨u, h1, rfl⟩ := q2.ok.t.get (i := 0) (P := IsP (.ref d)) rfl
      refine ⟨a, [x, y], rfl, SqT.of (n.s.tup h2), rfl, x, [y], rfl, _, h1, d, He.ga K "Desk", dx, _, rfl, q2.dk.h, He.cls_ok (T.fact 83 (f := .cls "Desk") rfl), T.na_Desk_store, (show 2 < 1000 by decide), ?_⟩
      have q3 := q2.changeD h3.1 q2.dk.b
      refine ⟨y, [], rfl, _, h1, d, He.ga K "Desk", dx, _, rfl, q3.dk.h, He.cls_ok (T.fact 83 (f := .cls "Desk") rfl), T.na_Desk_before, (show 2 < 1000 by decide), rfl, ?_⟩
      exact nx _ _ ⟨x, y, F2, q3.changeD h3.1 h3.2.1⟩
end Sw
set_option maxRecDepth 100000
set_option maxHeartbeats 2000000
/-! # Plans applied, results saved -/
namespace Sw
open PySem L2
open SubstitutionSpec (Material Rule toFormula isIdentifier inRange isRuleSet mixtureOf)
theorem ps_nox {X : Cx} {st : Stmt} {t : TS} (h : PS X.nox st t) : PS X st t := ⟨fun pins s σ H D I hw =>
  wpAny_mono (h.run pins s σ H D (I.wish _) hw) (fun _ _ q => q.unwish) fun _ _ z => False.elim z⟩
/-! ### what comes out is positive -/
theorem put_ne {α : Type} {es : List (Nat × α)} {k : Nat} {x : α} : Pl.putA es k x ≠ [] := by
  unfold Pl.putA
  split
  · rename_i h
    intro e
    have : es = [] := List.map_eq_nil_iff.mp e
    subst this
    cases h
  · simp
theorem amts_ne : ∀ (l : List Rule) {es : List (Nat × Rat)}, es ≠ [] → (∀ r ∈ l, r.replacements ≠ []) → l.foldl Pl.stepP es ≠ []
  | [], _, h, _ => h
  | r :: l, es, h, hl => by
    refine amts_ne l ?_ fun x hx => hl x (List.mem_cons_of_mem _ hx)
    unfold Pl.stepP
    cases Pl.getA es r.material with
    | none => exact h
    | some x =>
      have hr := hl r List.mem_cons_self
      obtain ⟨ini, p, e⟩ : ∃ ini p, r.replacements = ini ++ [p] := ⟨r.replacements.dropLast, r.replacements.getLast hr, (List.dropLast_concat_getLast hr).symm⟩
      show r.replacements.foldl _ _ ≠ []
      rw [e, List.foldl_append]
      exact put_ne
structure ResOk (ms : List (Nat × Material)) (es : List (Nat × Rat)) : Prop where
  sh : ShOk ms es
  pos : ∀ e ∈ es, 0 < e.2
  ne : es ≠ []
theorem resP_pos {s : Sto} (hs : StoOk s) {f : List (Nat × Nat)} (ho : ForOk s.ms f) {ns : List Nat} {rs : List Rule} (hsel : Sel s ns rs) (hlen : ns.length ≤ 10) {es : List (Nat × Rat)} (h : resP rs f = some es) : ResOk s.ms es := by
  refine ⟨resP_ok hs ho hsel hlen h, ?_, ?_⟩
  all_goals
    unfold resP at h
    cases hord : Pl.orderM rs (mixtureOf f) with
    | none => rw [hord] at h; cases h
    | some ord =>
      rw [hord] at h
      obtain rfl : Pl.shareA (Pl.amtsA ord (mixtureOf f)) = es := Option.some.inj h
      have hperm := order_sub hord
      have hb : AmB s.ms ord.length (Pl.amtsA ord (mixtureOf f)) := by
        have := AmB.fold ord (fun r hr => hsel.ok hs (hperm.mem_iff.mp hr)) (AmB.start ho)
        rwa [Nat.zero_add] at this
      have hne : Pl.amtsA ord (mixtureOf f) ≠ [] := by
        refine amts_ne ord ?_ fun r hr => ?_
        · unfold mixtureOf
          intro e
          exact ho.some.1 (List.map_eq_nil_iff.mp e)
        · have := (hsel.ok hs (hperm.mem_iff.mp hr)).some.1
          intro e
          rw [e] at this
          simp at this
      generalize Pl.amtsA ord (mixtureOf f) = am at hb hne ⊢
      obtain ⟨p1, p2⟩ := Pl.sortT_perm hb.ok.nd
      first
        | (intro e he
           obtain ⟨c, hc, rfl⟩ := List.mem_map.mp he
           have hc' := p1.mem_iff.mp hc
           exact Pl.divpos (hb.ok.pos c hc') (Pl.tot_pos hb.ok hc'))
        | (intro e
           unfold Pl.shareA at e
           have e2 := List.map_eq_nil_iff.mp e
           rw [e2] at p1
           exact hne (List.Perm.eq_nil p1.symm))
theorem oRes_ok {s : Sto} (hs : StoOk s) {num : Int} {row others : List Int} {es : List (Nat × Rat)} (h : oRes num row others s = .ok es) : ResOk s.ms es ∧ isIdentifier 8 num = true ∧ others.all (isIdentifier 8) = true := by
  unfold oRes at h
  split at h
  · cases h
  · rename_i hc
    have hc : (isIdentifier 8 num && (others.all (isIdentifier 8) && isRuleSet row)) = true := by
      cases q : (isIdentifier 8 num && (others.all (isIdentifier 8) && isRuleSet row)) with
      | true => rfl
      | false => exact absurd q hc
    obtain ⟨c1, c2, c3⟩ := (show ∀ A B L : Bool, (A && (B && L)) = true → A = true ∧ B = true ∧ L = true by decide) _ _ _ hc
    split at h
    · cases h
    · rename_i f hf
      split at h
      · cases h
      · rename_i hr
        have hr : (row.all fun r => (Pl.getA s.rs r.toNat).isSome) = true := by
          cases q : (row.all fun r => (Pl.getA s.rs r.toNat).isSome) with
          | true => rfl
          | false => exact absurd q hr
        split at h
        · cases h
        · rename_i es' he
          cases h
          have hmem : ∀ x ∈ srt (row.map Int.toNat), x ∈ Pl.keysA s.rs := fun x hx => by
            obtain ⟨r, hr', rfl⟩ := List.mem_map.mp ((srt_perm _).mem_iff.mp hx)
            obtain ⟨y, hy⟩ := Option.isSome_iff_exists.mp (List.all_eq_true.mp hr r hr')
            exact get_key hy
          have hl : (srt (row.map Int.toNat)).length ≤ 10 := by
            unfold isRuleSet at c3
            have := of_decide_eq_true (Bool.and_eq_true_iff.mp c3).1
            rw [(srt_perm _).length_eq, List.length_map]
            exact this
          exact ⟨resP_pos hs (hs.fi _ (Pl.getA_mem hf)).2 (sel_of hmem) hl he, c1, c2⟩
variable {P : Program} {w : World} {K : PySem.W.Frag} {mg : Str → Option Value} {base : Heap}
/-! ### apply_plan -/
def appL (es : List (Nat × Rat)) : List Int := 0 :: es.flatMap fun e => [(e.1 : Int), e.2.num, (e.2.den : Int)]
def oApply (num : Int) (row : List Int) (s : Sto) : Except Int (List Int) := match oRes num row [] s with
  | .ok es => .ok (appL es)
  | .error c => .error c
theorem app_len (es : List (Nat × Rat)) : (appL es).length = 3 * es.length + 1 := by
  unfold appL
  rw [List.length_cons]
  congr 1
  induction es with
  | nil => rfl
  | cons e es ih =>
    rw [List.flatMap_cons, List.length_append, ih]
    show 3 + 3 * es.length = 3 * (es.length + 1)
    omega
def sp_apply_plan (K : PySem.W.Frag) : Sp := spL (ι := Int × List Int) K (refA K) (fun i => [IntP i.1, IntsP i.2]) (fun i s _ => StoOk s ∧ i.2.length ≤ 22) fun i s _ => mapE IntsP (oApply i.1 i.2 s)
theorem ok_apply_plan (T : Txt K mg) : FnOk P w K mg base (L2.CX P w) 7 (He.fAd K ("apply_plan", none)) (fdOf K ("apply_plan", none)) ["desk", "number", "row"] (sp_apply_plan K) := by
  refine T.D_apply_plan.ok sc_apply_plan (spL_len fun _ => rfl) (fun cdv A outer s H vs Q E hr h => ⟨_, (pss_cons (ps_par (i := 3) (j := 4) (by rfl) sc_apply_plan.nd rfl rfl (by decide) rfl rfl (pa_cons (pe_call (ok_result T) (hr.mono (by decide)) (by rfl) T.g_result T.k_result T.b_result .nil (passes_call (takes_of rfl rfl rfl rfl) fun _ _ _ _ h => h) (pa_cons (pv 0) (pa_cons (pv 1) (pa_cons (pv 2) (pa_cons (pe_lst pa_nil) pa_nil))))) (pa_cons (pe_lst (pa_cons pe_int pa_nil)) pa_nil)) (by rfl)) (pss_cons (ps_nox (ps_lk (ps_for PassesOwn.never rfl (pi_keys (pv 3)) (pg_name (i := 5) sc_apply_plan.nd rfl (Or.inl rfl)) (pss_one (ps_expr (pe_bm PySem.F.plainAttrs_list PySem.F.slot_list_extend PySem.F.type_list_extend mt_extend (pv 4) (pa_cons (pe_op op_cat (pe_lst (pa_cons (pv 5) pa_nil)) (pe_callTy cr_listOf (by rfl) T.f_list bb_list (pa_cons (pe_dget (hu_of hr) (pv 3) (pv 5) (fun _ _ => rfl)) pa_nil))) pa_nil))))))) (pss_one (ps_ret (pv 4))))), ?_⟩)
  refine body_ofL h fun ⟨num, row⟩ s bs ⟨hs, hrow⟩ d dx sv bv F0 H0 R hR hE => ?_
  have hrow : row.length ≤ 22 := hrow
  have hargs : EvA (tCons (tVar 0) (tCons (tVar 1) (tCons (tVar 2) (tCons (tLst tNil) tNil)))) [some (IsP (.ref d)), some (IntP num), some (IntsP row), none, none, none] (Wdk K d dx sv bv s bs) [IsP (.ref d), IntP num, IntsP row, IntsP []] := ea_cons (ev_var rfl) (ea_cons (ev_var rfl) (ea_cons (ev_var rfl) (ea_cons (ev_lst ea_nil (show 0 ≤ sizeLine by decide)) ea_nil)))
  have hpre : StoOk s ∧ (∀ e ∈ s.fs, ForOk s.ms e.2) ∧ row.length ≤ 22 ∧ ([] : List Int).length ≤ 22 := ⟨hs, fun e he => (hs.fi e he).2, hrow, by decide⟩
  cases hq : oRes num row [] s with
  | error c =>
    have hc : RetX (refA K) F0 H0 E c := hE c (by show mapE IntsP (oApply num row s) = _; unfold oApply; rw [hq]; rfl)
    exact ht_seq (B := fun _ _ => False) (ht_parX (ea_consX (ex_call hargs (spL_x (Ps := fun i : Int × List Int × List Int => [IntP i.1, IntsP i.2.1, IntsP i.2.2]) (num, row, []) hpre (by show mapE ShP (oRes num row [] s) = _; rw [hq]; rfl)))) hc) fun _ _ _ z _ _ => z.elim
  | ok es =>
    obtain ⟨hro, _, _⟩ := oRes_ok hs hq
    have hel := hro.sh.len hs
    refine ht_seq (ht_parLx (Ps := [IntP 0]) (G := fun l => [some (IsP (.ref d)), some (IntP num), some (IntsP row), some (ShP es), some (IsP (.ref l)), none]) (ev_callx (P := ShP es) hargs (spL_g (Ps := fun i : Int × List Int × List Int => [IntP i.1, IntsP i.2.1, IntsP i.2.2]) (num, row, []) hpre (by show mapE ShP (oRes num row [] s) = _; rw [hq]; rfl))) (ea_cons ev_int ea_nil) (fun l => rfl) (show 1 ≤ sizeLine by decide)) (ht_ex fun l => ht_ex fun xs => ht_and fun hl => ?_)
    let G : List (Option VP) := [some (IsP (.ref d)), some (IntP num), some (IntsP row), some (ShP es), some (IsP (.ref l)), none]
    refine ht_seq (ht_forKB (Rf := FrP) (es := es) (β := fun _ => List V) (vv_var rfl) (fun i xs => G) (fun i xs => (Wdk K d dx sv bv s bs).lst l xs ((appL (es.take i)).map IntP)) xs ?_) (ht_ex fun xs2 => ?_)
    · intro F1 H1 i e xs he
      have hm := List.mem_of_getElem? he
      have hnx : appL (es.take (i + 1)) = appL (es.take i) ++ [(e.1 : Int), e.2.num, (e.2.den : Int)] := by
        unfold appL
        rw [take_next he, List.flatMap_append]
        rfl
      have h1 := app_len (es.take i)
      have h2 := List.length_take_le' i es
      rw [hnx, List.map_append]
      refine ht_post (fun σ H ⟨ys, a⟩ => ⟨ys, TyA.le (by repeat (first | exact trivial | refine ⟨.inl rfl, ?_⟩ | refine ⟨.inr rfl, ?_⟩)) σ H a⟩) (ht_extend (i := 4) (Qs := [IntP (e.1 : Int), IntP e.2.num, IntP (e.2.den : Int)]) rfl (ev_catI (l := [(e.1 : Int)]) (m := [e.2.num, (e.2.den : Int)]) (ev_lst (ea_cons (ev_var rfl) ea_nil) (show 1 ≤ sizeLine by decide)) (ev_frL (ev_sh (ev_var rfl) (ev_var rfl) (Pl.mem_getA hro.sh.asc.nodup hm))) (show 1 + 2 ≤ 16000000 by decide)) ?_)
      rw [List.length_map, h1]
      show _ + 3 ≤ _
      omega
    · rw [List.take_length]
      refine ht_pre (fun σ H a => frz_lst (i := 4) rfl hl.1 hl.2.1 hl.2.2 rfl σ H a) (ht_rt (fun v H r => hR (IntsP (appL es)) (by show mapE IntsP (oApply num row s) = _; unfold oApply; rw [hq]; rfl) v H r) (ht_ret (ev_var rfl)))
/-! ### save_result -/
def lowS (es : List (Nat × Rat)) : Nat := es.foldl (fun l e => Nat.lcm l e.2.den) 1
def amS (es : List (Nat × Rat)) : List (Nat × Nat) := es.map fun e => (e.1, e.2.num.toNat * (lowS es / e.2.den))
def byS (as : List (Nat × Nat)) : Nat := as.foldl (fun b a => Nat.gcd b a.2) 0
def finS (es : List (Nat × Rat)) : List (Nat × Nat) := (amS es).map fun a => (a.1, a.2 / byS (amS es))
def savB (es : List (Nat × Rat)) : Bool := decide ((finS es).length ≤ 10) && (finS es).all fun a => decide (a.2 ≤ 1000000)
def oSave (num tgt : Int) (row : List Int) (s : Sto) (bs : List Sto) : ResD := match oRes num row [tgt] s with
  | .error c => .error c
  | .ok es => if savB es = false then .error (-4) else .ok (IntsP [0, (((finS es).map fun a => a.2).sum : Int)], {s with fs := Pl.putA s.fs tgt.toNat (finS es)}, bs ++ [s])
theorem low_dvd (es : List (Nat × Rat)) : ∀ e ∈ es, e.2.den ∣ lowS es := by
  have key : ∀ (es : List (Nat × Rat)) (l : Nat), l ∣ es.foldl (fun l e => Nat.lcm l e.2.den) l ∧ ∀ e ∈ es, e.2.den ∣ es.foldl (fun l e => Nat.lcm l e.2.den) l := by
    intro es
    induction es with
    | nil => intro l; exact ⟨Nat.dvd_refl _, fun e he => by cases he⟩
    | cons x es ih =>
      intro l
      obtain ⟨h1, h2⟩ := ih (Nat.lcm l x.2.den)
      refine ⟨Nat.dvd_trans (Nat.dvd_lcm_left _ _) h1, fun e he => ?_⟩
      rcases List.mem_cons.mp he with q | q
      · subst q
        exact Nat.dvd_trans (Nat.dvd_lcm_right _ _) h1
      · exact h2 e q
  exact fun e he => (key es 1).2 e he
theorem low_of {D : Nat} : ∀ (es : List (Nat × Rat)) (l : Nat), l ∣ D → (∀ e ∈ es, e.2.den ∣ D) → es.foldl (fun l e => Nat.lcm l e.2.den) l ∣ D
  | [], _, h, _ => h
  | x :: es, l, h, he => low_of es _ (Nat.lcm_dvd h (he x List.mem_cons_self)) fun e q => he e (List.mem_cons_of_mem _ q)
theorem den_dvd {D M : Nat} {q : Rat} (h : Pl.Bd D M q) : q.den ∣ D ∧ q.num.toNat ≤ M ∧ 0 ≤ q.num := by
  have h0 := h.nonneg
  obtain ⟨hD, n, e, hn⟩ := h
  obtain ⟨e1, e2⟩ := Pl.lowest (n : Int) D hD
  rw [Rat.intCast_natCast, ← e] at e1 e2
  refine ⟨?_, ?_, Rat.num_nonneg.mpr h0⟩
  · rw [← e2]
    exact Nat.div_dvd_of_dvd (Nat.gcd_dvd_left _ _)
  · have : q.num.toNat ≤ n := by
      rw [← e1, Int.natAbs_natCast, ← Int.natCast_ediv, Int.toNat_natCast]
      exact Nat.div_le_self _ _
    omega
structure LowOk (es : List (Nat × Rat)) (D : Nat) : Prop where
  d : D < 2 ^ 600
  dv : ∀ e ∈ es, e.2.den ∣ D
  nm : ∀ e ∈ es, e.2.num.toNat ≤ D ∧ 0 < e.2.num
theorem low_ok {ms : List (Nat × Material)} {es : List (Nat × Rat)} (h : ResOk ms es) : ∃ D, 0 < D ∧ LowOk es D := by
  obtain ⟨D, hD, hb⟩ := h.sh.bd
  obtain ⟨e0, he0⟩ := List.exists_mem_of_ne_nil es h.ne
  refine ⟨D, (hb e0 he0).1, hD, fun e he => (den_dvd (hb e he)).1, fun e he => ⟨(den_dvd (hb e he)).2.1, ?_⟩⟩
  exact num_pos (h.pos e he)
theorem LowOk.low {es : List (Nat × Rat)} {D : Nat} (h : LowOk es D) (h0 : 0 < D) (i : Nat) : 0 < (es.take i).foldl (fun l e => Nat.lcm l e.2.den) 1 ∧ (es.take i).foldl (fun l e => Nat.lcm l e.2.den) 1 ≤ D := by
  have := low_of (D := D) (es.take i) 1 (Nat.one_dvd _) fun e he => h.dv e (List.mem_of_mem_take he)
  exact ⟨Nat.pos_of_dvd_of_pos this h0, Nat.le_of_dvd h0 this⟩
theorem am_keys (es : List (Nat × Rat)) : Pl.keysA (amS es) = Pl.keysA es := by
  unfold amS Pl.keysA
  rw [List.map_map]; rfl
theorem fin_keys (es : List (Nat × Rat)) : Pl.keysA (finS es) = Pl.keysA es := by
  rw [← am_keys]
  unfold finS Pl.keysA
  rw [List.map_map]; rfl
theorem by_dvd : ∀ (as : List (Nat × Nat)) (b : Nat), as.foldl (fun b a => Nat.gcd b a.2) b ∣ b ∧ ∀ a ∈ as, as.foldl (fun b a => Nat.gcd b a.2) b ∣ a.2
  | [], b => ⟨Nat.dvd_refl _, fun a h => by cases h⟩
  | x :: as, b => by
    obtain ⟨h1, h2⟩ := by_dvd as (Nat.gcd b x.2)
    refine ⟨Nat.dvd_trans h1 (Nat.gcd_dvd_left _ _), fun a ha => ?_⟩
    rcases List.mem_cons.mp ha with q | q
    · subst q
      exact Nat.dvd_trans h1 (Nat.gcd_dvd_right _ _)
    · exact h2 a q
theorem am_pos {ms : List (Nat × Material)} {es : List (Nat × Rat)} (h : ResOk ms es) {D : Nat} (h0 : 0 < D) (hD : LowOk es D) {a : Nat × Nat} (ha : a ∈ amS es) : 0 < a.2 ∧ a.2 ≤ D * D := by
  obtain ⟨e, he, rfl⟩ := List.mem_map.mp ha
  obtain ⟨n1, n2⟩ := hD.nm e he
  have hl := hD.low h0 es.length
  rw [List.take_length] at hl
  have hd := low_dvd es e he
  have h1 : 0 < lowS es / e.2.den := Nat.div_pos (Nat.le_of_dvd hl.1 hd) e.2.den_pos
  refine ⟨Nat.mul_pos (by omega) h1, Nat.mul_le_mul n1 (Nat.le_trans (Nat.div_le_self _ _) hl.2)⟩
theorem by_pos {ms : List (Nat × Material)} {es : List (Nat × Rat)} (h : ResOk ms es) {D : Nat} (h0 : 0 < D) (hD : LowOk es D) : 0 < byS (amS es) ∧ byS (amS es) ≤ D * D := by
  obtain ⟨e0, he0⟩ := List.exists_mem_of_ne_nil es h.ne
  have ha : (e0.1, e0.2.num.toNat * (lowS es / e0.2.den)) ∈ amS es := List.mem_map.mpr ⟨e0, he0, rfl⟩
  have hd := (by_dvd (amS es) 0).2 _ ha
  have hp := am_pos h h0 hD ha
  exact ⟨Nat.pos_of_dvd_of_pos hd hp.1, Nat.le_trans (Nat.le_of_dvd hp.1 hd) hp.2⟩
/-- what is saved is a formula -/
theorem fin_ok {ms : List (Nat × Material)} {es : List (Nat × Rat)} (h : ResOk ms es) (hb : savB es = true) : ForOk ms (finS es) := by
  obtain ⟨D, h0, hD⟩ := low_ok h
  unfold savB at hb
  obtain ⟨b1, b2⟩ := Bool.and_eq_true_iff.mp hb
  refine ⟨by unfold Pl.Asc; rw [fin_keys]; exact h.sh.asc, ⟨fun e => ?_, of_decide_eq_true b1⟩, fun a ha => ⟨?_, ?_, of_decide_eq_true (List.all_eq_true.mp b2 a ha)⟩⟩
  · unfold finS amS at e
    rw [List.map_eq_nil_iff, List.map_eq_nil_iff] at e
    exact h.ne e
  · have : a.1 ∈ Pl.keysA (finS es) := mem_key ha
    rw [fin_keys] at this
    obtain ⟨e, he, q⟩ := List.mem_map.mp this
    rw [← q]
    exact h.sh.mat e he
  · obtain ⟨x, hx, rfl⟩ := List.mem_map.mp ha
    have hd := (by_dvd (amS es) 0).2 x hx
    have hp := am_pos h h0 hD hx
    exact Nat.div_pos (Nat.le_of_dvd hp.1 hd) (by_pos h h0 hD).1
end Sw
set_option maxRecDepth 100000
set_option maxHeartbeats 2000000
/-! # Results saved -/
namespace Sw
open PySem L2
open SubstitutionSpec (Material Rule toFormula isIdentifier inRange isRuleSet mixtureOf)
variable {P : Program} {w : World} {K : PySem.W.Frag} {mg : Str → Option Value} {base : Heap}
theorem put_at {α : Type} {as bs : List (Nat × α)} (hk : Pl.keysA as = Pl.keysA bs) (hn : (Pl.keysA as).Nodup) {i : Nat} {b : Nat × α} (hb : bs[i]? = some b) : Pl.putA (bs.take i ++ as.drop i) b.1 b.2 = bs.take (i + 1) ++ as.drop (i + 1) := by
  have hlen : as.length = bs.length := by
    have := congrArg List.length hk
    rwa [Pl.keysA, Pl.keysA, List.length_map, List.length_map] at this
  obtain ⟨hi, hbe⟩ := List.getElem?_eq_some_iff.mp hb
  have ha : as[i]? = some as[i] := by simp [hlen ▸ hi]
  have hkey : as[i].1 = b.1 := by
    have e1 : (Pl.keysA as)[i]? = some as[i].1 := by unfold Pl.keysA; rw [List.getElem?_map, ha]; rfl
    rw [hk] at e1
    unfold Pl.keysA at e1
    rw [List.getElem?_map, hb] at e1
    exact (Option.some.inj e1).symm
  have hd : as.drop i = as[i] :: as.drop (i + 1) := List.drop_eq_getElem_cons (by omega)
  have hnb : (Pl.keysA bs).Nodup := hk ▸ hn
  rw [hd, take_next hb]
  unfold Pl.putA
  rw [if_pos (List.any_eq_true.mpr ⟨as[i], List.mem_append_right _ List.mem_cons_self, decide_eq_true hkey⟩), List.map_append, List.map_cons, if_pos hkey, List.append_assoc]
  have h1 : ∀ (l : List (Nat × α)), (∀ x ∈ l, x.1 ≠ b.1) → l.map (fun e => if e.1 = b.1 then (e.1, b.2) else e) = l := fun l hl => by
    conv => rhs; rw [← List.map_id l]
    exact List.map_congr_left fun x hx => by rw [if_neg (hl x hx)]; rfl
  have q1 := h1 (bs.take i) fun x hx e => by
    obtain ⟨j, hj, e2⟩ := List.mem_iff_getElem.mp hx
    rw [List.length_take] at hj
    rw [List.getElem_take] at e2
    have := List.pairwise_iff_getElem.mp hnb j i (by rw [Pl.keysA, List.length_map]; omega) (by rw [Pl.keysA, List.length_map]; omega) (by omega)
    apply this
    unfold Pl.keysA
    rw [List.getElem_map, List.getElem_map, e2, hbe]
    exact e
  have q2 := h1 (as.drop (i + 1)) fun x hx e => by
    obtain ⟨j, hj, e2⟩ := List.mem_iff_getElem.mp hx
    rw [List.length_drop] at hj
    rw [List.getElem_drop] at e2
    have := List.pairwise_iff_getElem.mp hn i (i + 1 + j) (by rw [Pl.keysA, List.length_map]; omega) (by rw [Pl.keysA, List.length_map]; omega) (by omega)
    apply this
    unfold Pl.keysA
    rw [List.getElem_map, List.getElem_map, e2, e, hkey]
  rw [q1, q2, hkey]
  rfl
theorem get_at {α : Type} {as bs : List (Nat × α)} (hk : Pl.keysA as = Pl.keysA bs) (hn : (Pl.keysA as).Nodup) {i : Nat} {a : Nat × α} (ha : as[i]? = some a) : Pl.getA (bs.take i ++ as.drop i) a.1 = some a.2 := by
  obtain ⟨hi, hae⟩ := List.getElem?_eq_some_iff.mp ha
  have hd : as.drop i = as[i] :: as.drop (i + 1) := List.drop_eq_getElem_cons hi
  have hkn : (Pl.keysA (bs.take i ++ as.drop i)).Nodup := by
    have : Pl.keysA (bs.take i ++ as.drop i) = Pl.keysA as := by
      unfold Pl.keysA at hk ⊢
      rw [List.map_append, List.map_take, List.map_drop, ← hk, List.take_append_drop]
    rw [this]; exact hn
  refine Pl.mem_getA hkn ?_
  rw [hd, hae]
  simp
def sp_save_result (K : PySem.W.Frag) : Sp := spD (ι := (Int × Int) × List Int) K (refA K) (fun i => [IntsP [i.1.1, i.1.2], IntsP i.2]) (fun i s bs => StoOk s ∧ BsOk bs ∧ i.2.length ≤ 22) fun i s bs => oSave i.1.1 i.1.2 i.2 s bs
theorem p600 {D a : Nat} (hD : D < 2 ^ 600) (h : a ≤ D) : ((a : Nat) : Int).natAbs < 2 ^ 600 := by rw [Int.natAbs_natCast]; omega
theorem ok_save_result (T : Txt K mg) : FnOk P w K mg base (L2.CX P w) 7 (He.fAd K ("save_result", none)) (fdOf K ("save_result", none)) ["desk", "numbers", "row"] (sp_save_result K) := by
  refine T.D_save_result.ok sc_save_result (spD_len fun _ => rfl) (fun cdv A outer s H vs Q E hr h => ⟨_, (pss_cons (ps_set (i := 3) sc_save_result.nd rfl (Or.inl rfl) (pe_call (ok_result T) (hr.mono (by decide)) (by rfl) T.g_result T.k_result T.b_result .nil (passes_call (takes_of rfl rfl rfl rfl) fun _ _ _ _ h => h) (pa_cons (pv 0) (pa_cons (pe_ix ix_list (pv 1) pe_int (fun _ _ => rfl)) (pa_cons (pv 2) (pa_cons (pe_lst (pa_cons (pe_ix ix_list (pv 1) pe_int (fun _ _ => rfl)) pa_nil)) pa_nil)))))) (pss_cons (ps_set (i := 4) sc_save_result.nd rfl (Or.inl rfl) pe_int) (pss_cons (ps_nox (ps_lk (ps_for PassesOwn.never rfl (pi_keys (pv 3)) (pg_name (i := 5) sc_save_result.nd rfl (Or.inl rfl)) (pss_one (ps_set (i := 4) sc_save_result.nd rfl (Or.inl rfl) (pe_op op_fdivW (pe_op op_mulW (pv 4) (pe_ix ix_tup (pe_dget (hu_of hr) (pv 3) (pv 5) (fun _ _ => rfl)) pe_int (fun _ _ => rfl))) (pe_call (ok_common T) (hr.mono (by decide)) (by rfl) T.g_common T.k_common T.b_common .nil pass0 (pa_cons (pv 4) (pa_cons (pe_ix ix_tup (pe_dget (hu_of hr) (pv 3) (pv 5) (fun _ _ => rfl)) pe_int (fun _ _ => rfl)) pa_nil))))))))) (pss_cons (ps_set (i := 6) sc_save_result.nd rfl (Or.inr rfl) pe_dnewK) (pss_cons (ps_nox (ps_lk (ps_for PassesOwn.never rfl (pi_keys (pv 3)) (pg_name (i := 5) sc_save_result.nd rfl (Or.inl rfl)) (pss_one (ps_dput (hu_of hr) (pv 6) (pv 5) (pe_op op_mulW (pe_ix ix_tup (pe_dget (hu_of hr) (pv 3) (pv 5) (fun _ _ => rfl)) pe_int (fun _ _ => rfl)) (pe_op op_fdivW (pv 4) (pe_ix ix_tup (pe_dget (hu_of hr) (pv 3) (pv 5) (fun _ _ => rfl)) pe_int (fun _ _ => rfl)))) rfl))))) (pss_cons (ps_set (i := 7) sc_save_result.nd rfl (Or.inl rfl) pe_int) (pss_cons (ps_nox (ps_lk (ps_for PassesOwn.never rfl (pi_keys (pv 6)) (pg_name (i := 5) sc_save_result.nd rfl (Or.inl rfl)) (pss_one (ps_set (i := 7) sc_save_result.nd rfl (Or.inl rfl) (pe_call (ok_common T) (hr.mono (by decide)) (by rfl) T.g_common T.k_common T.b_common .nil pass0 (pa_cons (pe_dget (hu_of hr) (pv 6) (pv 5) (fun _ _ => rfl)) (pa_cons (pv 7) pa_nil)))))))) (pss_cons (ps_nox (ps_lk (ps_for PassesOwn.never rfl (pi_keys (pv 3)) (pg_name (i := 5) sc_save_result.nd rfl (Or.inl rfl)) (pss_one (ps_dput (hu_of hr) (pv 6) (pv 5) (pe_op op_fdivW (pe_dget (hu_of hr) (pv 6) (pv 5) (fun _ _ => rfl)) (pv 7)) rfl))))) (pss_cons (ps_expr (pe_call (ok_need T) (hr.mono (by decide)) (by rfl) T.g_need T.k_need T.b_need .nil (passes_call (takes_of rfl rfl rfl rfl) fun _ _ _ _ h => h) (pa_cons (pe_and (pe_cmpR op_le (pe_callB cr_lenD (by rfl) T.f_len bb_len (pa_cons (pv 6) pa_nil)) pe_int (nomark _)) (pe_one (pe_callB (cr_all rfl) (by rfl) T.f_all bb_all (pa_cons (pe_lk (pe_lc (own := [("one", 5)]) rfl sc_save_result.nd (pi_keys (pv 6)) (blkOk_by (N := ["desk", "numbers", "row", "shares", "lower", "one", "amounts", "by"]) (sc := defScope s_save_result) (by decide +kernel)) (fun _ _ _ _ _ => (pg_name (i := 5) sc_save_result.nd rfl (Or.inl rfl) (Or.inr rfl))) (fun _ _ _ _ _ => pts_nil) (fun _ _ _ _ _ => (pe_cmpR op_le (pe_dget (hu_of hr) (pv 6) (pv 5) (fun _ _ => rfl)) (pe_globI T.i_MOST (by rfl)) (nomark _))))) pa_nil)))) (pa_cons (pe_un un_neg pe_int) pa_nil)))) (pss_cons (ps_expr (pe_meth (pv 0) T.cl_Desk T.mt_Desk_put_formula (ok_Desk_put_formula T) (hr.mono (by decide)) T.b_Desk_put_formula .nil pass0 (pa_cons (pe_ix ix_list (pv 1) pe_int (fun _ _ => rfl)) (pa_cons (pv 6) pa_nil)))) (pss_one (ps_ret (pe_lst (pa_cons pe_int (pa_cons (pe_callB (cr_sum rfl) (by rfl) T.f_sum bb_sum (pa_cons (pe_lk (pe_lc (own := [("one", 5)]) rfl sc_save_result.nd (pi_keys (pv 6)) (blkOk_by (N := ["desk", "numbers", "row", "shares", "lower", "one", "amounts", "by"]) (sc := defScope s_save_result) (by decide +kernel)) (fun _ _ _ _ _ => (pg_name (i := 5) sc_save_result.nd rfl (Or.inl rfl) (Or.inr rfl))) (fun _ _ _ _ _ => pts_nil) (fun _ _ _ _ _ => (pe_dget (hu_of hr) (pv 6) (pv 5) (fun _ _ => rfl))))) pa_nil)) pa_nil))))))))))))))), ?_⟩)
  refine body_ofD h fun ⟨⟨num, tgt⟩, row⟩ s bs ⟨hs, hl, hrow⟩ d dx sv bv F0 H0 R hR hE => ?_
  have hrow : row.length ≤ 22 := hrow
  let Γ0 : List (Option VP) := [some (IsP (.ref d)), some (IntsP [num, tgt]), some (IntsP row), none, none, none, none, none]
  have hargs : EvA (tCons (tVar 0) (tCons (tOp (rIxL K) (tVar 1) (tC (.int 0))) (tCons (tVar 2) (tCons (tLst (tCons (tOp (rIxL K) (tVar 1) (tC (.int 1))) tNil)) tNil)))) Γ0 (Wdk K d dx sv bv s bs) [IsP (.ref d), IntP num, IntsP row, IntsP [tgt]] :=
    ea_cons (ev_var rfl) (ea_cons (ev_ixL (P := IntP num) (ev_var (P := IntsP [num, tgt]) rfl) ev_int rfl) (ea_cons (ev_var rfl) (ea_cons (ev_lst (ea_cons (ev_ixL (P := IntP tgt) (ev_var (P := IntsP [num, tgt]) rfl) ev_int rfl) ea_nil) (show 1 ≤ sizeLine by decide)) ea_nil)))
  have hpre : StoOk s ∧ (∀ e ∈ s.fs, ForOk s.ms e.2) ∧ row.length ≤ 22 ∧ ([tgt] : List Int).length ≤ 22 := ⟨hs, fun e he => (hs.fi e he).2, hrow, (show 1 ≤ 22 by decide)⟩
  cases hq : oRes num row [tgt] s with
  | error c =>
    have hc : RetX (refA K) F0 H0 E c := hE c (by show oSave num tgt row s bs = _; unfold oSave; rw [hq])
    exact ht_seq (B := fun _ _ => False) (ht_asgX (ex_call hargs (spL_x (Ps := fun i : Int × List Int × List Int => [IntP i.1, IntsP i.2.1, IntsP i.2.2]) (num, row, [tgt]) hpre (by show mapE ShP (oRes num row [tgt] s) = _; rw [hq]; rfl))) hc) fun _ _ _ z _ _ => z.elim
  | ok es =>
    obtain ⟨hro, hid, hoth⟩ := oRes_ok hs hq
    have hel := hro.sh.len hs
    have hel16 : es.length < 16000000 := by omega
    obtain ⟨D, hD0, hlow⟩ := low_ok hro
    have hnd := hro.sh.asc.nodup
    have htg : isIdentifier 8 tgt = true := by simpa using hoth
    obtain ⟨tn, rfl, htn⟩ := ident_nat htg
    have hout : oSave num tn row s bs = if savB es = false then .error (-4) else .ok (IntsP [0, (((finS es).map fun a => a.2).sum : Int)], {s with fs := Pl.putA s.fs tn (finS es)}, bs ++ [s]) := by
      unfold oSave
      rw [hq, Int.toNat_natCast]
    refine ht_seq (ht_set (P := ShP es) (ev_callx hargs (spL_g (Ps := fun i : Int × List Int × List Int => [IntP i.1, IntsP i.2.1, IntsP i.2.2]) (num, row, [(tn : Int)]) hpre (by show mapE ShP (oRes num row [(tn : Int)] s) = _; rw [hq]; rfl)))) ?_
    refine ht_seq (ht_set (P := IntP ((1 : Nat) : Int)) ev_int) ?_
    -- the common denominator
    let G : Nat → List (Option VP) := fun l => [some (IsP (.ref d)), some (IntsP [num, (tn : Int)]), some (IntsP row), some (ShP es), some (IntP (l : Int)), none, none, none]
    refine ht_seq (ht_forKB (Rf := FrP) (es := es) (β := fun _ => Unit) (vv_var rfl) (fun i _ => G ((es.take i).foldl (fun l e => Nat.lcm l e.2.den) 1)) (fun i _ => Wdk K d dx sv bv s bs) () ?_) (ht_ex fun _ => ?_)
    · intro F1 H1 i e _ he
      have hm := List.mem_of_getElem? he
      obtain ⟨hl1, hl2⟩ := hlow.low hD0 i
      have hdD : e.2.den ≤ D := Nat.le_of_dvd hD0 (hlow.dv e hm)
      refine ht_post (B := TyA _ F1 H1 ((G ((es.take (i + 1)).foldl (fun l e => Nat.lcm l e.2.den) 1)).set 5 (some (IntP (e.1 : Int)))) _) (fun σ H a => ⟨(), TyA.le (by repeat (first | exact trivial | refine ⟨.inl rfl, ?_⟩ | refine ⟨.inr rfl, ?_⟩)) σ H a⟩) ?_
      rw [take_fold he]
      generalize (es.take i).foldl (fun l e => Nat.lcm l e.2.den) 1 = l at hl1 hl2 ⊢
      have hden : ∀ {Γ : List (Option VP)}, Γ[3]? = some (some (ShP es)) → Γ[5]? = some (some (IntP (e.1 : Int))) → EvG (tOp (rIxT K) (tDGet (tVar 3) (tVar 5)) (tC (.int 1))) Γ (Wdk K d dx sv bv s bs) (IntP (e.2.den : Int)) := fun h3 h5 => ev_den (ev_sh (ev_var h3) (ev_var h5) (Pl.mem_getA hnd hm))
      have hgp : 0 < Nat.gcd e.2.den l := Nat.gcd_pos_of_pos_left _ e.2.den_pos
      have hgl : Nat.gcd e.2.den l ≤ D := Nat.le_trans (Nat.gcd_le_left _ e.2.den_pos) hdD
      refine ht_set (P := IntP ((Nat.lcm l e.2.den : Nat) : Int)) (ev_is (ev_divW (ev_mulW (ev_var (P := IntP (l : Int)) rfl) (hden rfl rfl) (wide_mul (p600 hlow.d hl2) (p600 hlow.d hdD) (by decide) (by decide) (by decide))) (ev_call (ea_cons (ev_var (P := IntP (l : Int)) rfl) (ea_cons (hden rfl rfl) ea_nil)) (spF_g (l, e.2.den) trivial)) (wide_div (b := 600) (by show (0 : Int) < ((Nat.gcd e.2.den l : Nat) : Int); omega) (p600 hlow.d hgl) (by decide) (by decide))) ?_)
      rw [Nat.lcm, Int.natCast_ediv, Int.natCast_mul, Nat.gcd_comm]
    rw [List.take_length]
    show HT (TyA No F0 H0 (G (lowS es)) _) _ _ _
    have hlw := hlow.low hD0 es.length
    rw [List.take_length] at hlw
    have hlw : 0 < lowS es ∧ lowS es ≤ D := hlw
    -- the amounts
    refine ht_seq (ht_dnewx (Rf := fun n : Nat => IntP (n : Int)) (G := fun a => [some (IsP (.ref d)), some (IntsP [num, (tn : Int)]), some (IntsP row), some (ShP es), some (IntP (lowS es : Int)), none, some (IsP (.ref a)), none]) fun a => rfl) (ht_ex fun am => ht_and fun hfr => ?_)
    let G2 : Option VP → List (Option VP) := fun b => [some (IsP (.ref d)), some (IntsP [num, (tn : Int)]), some (IntsP row), some (ShP es), some (IntP (lowS es : Int)), none, some (IsP (.ref am)), b]
    have hak : (Pl.keysA (amS es)).Nodup := by rw [am_keys]; exact hnd
    have hal : (amS es).length = es.length := by unfold amS; rw [List.length_map]
    refine ht_seq (ht_forKB (Rf := FrP) (es := es) (β := fun _ => List (Key × V)) (vv_var rfl) (fun i kvs => G2 none) (fun i kvs => (Wdk K d dx sv bv s bs).dct am kvs (fun n : Nat => IntP (n : Int)) ((amS es).take i)) [] ?_) (ht_ex fun kvs => ?_)
    · intro F1 H1 i e kvs he
      have hm := List.mem_of_getElem? he
      have hdD : e.2.den ≤ D := Nat.le_of_dvd hD0 (hlow.dv e hm)
      obtain ⟨n1, n2⟩ := hlow.nm e hm
      have hn0 : ((e.2.num.toNat : Nat) : Int) = e.2.num := Int.toNat_of_nonneg (Int.le_of_lt n2)
      have ham : (amS es)[i]? = some (e.1, e.2.num.toNat * (lowS es / e.2.den)) := by
        unfold amS
        rw [List.getElem?_map, he]; rfl
      refine ht_post ?_ (ht_dput (i := 6) (n := e.1) (x := e.2.num.toNat * (lowS es / e.2.den)) rfl (ev_var rfl) (ev_is (ev_mulW (ev_num (ev_sh (ev_var rfl) (ev_var rfl) (Pl.mem_getA hnd hm))) (ev_divW (ev_var (P := IntP (lowS es : Int)) rfl) (ev_den (ev_sh (ev_var rfl) (ev_var rfl) (Pl.mem_getA hnd hm))) (wide_div (b := 600) (by have := e.2.den_pos; omega) (p600 hlow.d hdD) (by decide) (by decide))) (wide_mul (a := 600) (b := 600) (hn0 ▸ p600 hlow.d n1) ?_ (by decide) (by decide) (by decide))) ?_) ?_)
      · rintro σ H ⟨lvs, a⟩
        rw [take_put hak ham] at a
        exact ⟨lvs, TyA.le (by repeat (first | exact trivial | refine ⟨.inl rfl, ?_⟩ | refine ⟨.inr rfl, ?_⟩)) σ H a⟩
      · rw [← Int.natCast_ediv]
        exact p600 hlow.d (Nat.le_trans (Nat.div_le_self _ _) hlw.2)
      · rw [Int.natCast_mul, hn0, Int.natCast_ediv]
      · rw [List.length_take]
        omega
    have hamt : (amS es).take es.length = amS es := List.take_of_length_le (by omega)
    rw [hamt]
    -- their greatest divisor
    refine ht_seq (ht_set (P := IntP ((0 : Nat) : Int)) ev_int) ?_
    refine ht_seq (ht_forKM (Rf := fun n : Nat => IntP (n : Int)) (es := amS es) (i := 6) (β := fun _ => Unit) rfl hfr (fun i _ => G2 (some (IntP ((((amS es).take i).foldl (fun b a => Nat.gcd b a.2) 0 : Nat) : Int)))) () ?_) (ht_ex fun _ => ?_)
    · intro N1 F1 H1 ob i a _ ha
      have hm := List.mem_of_getElem? ha
      refine ht_post (B := TyA N1 F1 H1 ((G2 (some (IntP ((((amS es).take (i + 1)).foldl (fun b a => Nat.gcd b a.2) 0 : Nat) : Int)))).set 5 (some (IntP (a.1 : Int)))) _) (fun σ H q => ⟨(), TyA.le (by repeat (first | exact trivial | refine ⟨.inl rfl, ?_⟩ | refine ⟨.inr rfl, ?_⟩)) σ H q⟩) ?_
      rw [take_fold ha]
      exact ht_set (ev_call (ea_cons (ev_dgetF (Rf := fun n : Nat => IntP (n : Int)) (i := 6) (n := a.1) (x := a.2) rfl (ev_var rfl) (Pl.mem_getA hak hm)) (ea_cons (ev_var rfl) ea_nil)) (spF_g (a.2, ((amS es).take i).foldl (fun (b : Nat) (a : Nat × Nat) => Nat.gcd b a.2) 0) trivial))
    rw [List.take_length]
    show HT (TyA No F0 H0 (G2 (some (IntP ((byS (amS es) : Nat) : Int)))) _) _ _ _
    obtain ⟨hby, hbyD⟩ := by_pos hro hD0 hlow
    have hDD : D * D < 2 ^ 1200 := by
      refine Nat.lt_of_lt_of_le (Nat.mul_lt_mul'' hlow.d hlow.d) ?_
      rw [← Nat.pow_add]
      exact Nat.pow_le_pow_right (by decide) (by decide)
    -- divided
    have hfk : Pl.keysA (amS es) = Pl.keysA (finS es) := by rw [am_keys, fin_keys]
    have hfl : (finS es).length = es.length := by unfold finS; rw [List.length_map, hal]
    refine ht_seq (ht_forKB (Rf := FrP) (es := es) (β := fun _ => List (Key × V)) (vv_var rfl) (fun i kvs => G2 (some (IntP ((byS (amS es) : Nat) : Int)))) (fun i kvs => (Wdk K d dx sv bv s bs).dct am kvs (fun n : Nat => IntP (n : Int)) ((finS es).take i ++ (amS es).drop i)) kvs ?_) (ht_ex fun kvs2 => ?_)
    · intro F1 H1 i e kvs he
      have ham : (amS es)[i]? = some (e.1, e.2.num.toNat * (lowS es / e.2.den)) := by
        unfold amS
        rw [List.getElem?_map, he]; rfl
      have hap := am_pos hro hD0 hlow (List.mem_of_getElem? ham)
      generalize hav : e.2.num.toNat * (lowS es / e.2.den) = av at ham hap
      have hfm : (finS es)[i]? = some (e.1, av / byS (amS es)) := by
        unfold finS
        rw [List.getElem?_map, ham]; rfl
      refine ht_post ?_ (ht_dput (i := 6) (n := e.1) (x := av / byS (amS es)) rfl (ev_var rfl) (ev_is (ev_divW (ev_dgetM (Rf := fun n : Nat => IntP (n : Int)) (i := 6) (n := e.1) (x := av) rfl (ev_var rfl) (get_at hfk hak ham)) (ev_var rfl) (wide_div (b := 1200) (by omega) (by rw [Int.natAbs_natCast]; omega) (by decide) (by decide))) (Int.natCast_ediv _ _).symm) ?_)
      · rintro σ H ⟨lvs, a⟩
        rw [put_at hfk hak hfm] at a
        exact ⟨lvs, TyA.le (by repeat (first | exact trivial | refine ⟨.inl rfl, ?_⟩ | refine ⟨.inr rfl, ?_⟩)) σ H a⟩
      · rw [List.length_append, List.length_take, List.length_drop]
        omega
    have hfin : (finS es).take es.length ++ (amS es).drop es.length = finS es := by
      rw [List.take_of_length_le (by omega), List.drop_eq_nil_of_le (by omega), List.append_nil]
    rw [hfin]
    refine ht_pre (fun σ H a => frz_dct (i := 6) rfl hfr.1 hfr.2.1 hfr.2.2 rfl σ H a) ?_
    let G3 : List (Option VP) := [some (IsP (.ref d)), some (IntsP [num, (tn : Int)]), some (IntsP row), some (ShP es), some (IntP (lowS es : Int)), none, some (FormP (finS es)), some (IntP ((byS (amS es) : Nat) : Int))]
    have hfn : (Pl.keysA (finS es)).Nodup := hfk ▸ hak
    have hlc : EvG (tLkE (tLc (iKeys (tVar 6)) (gName 5) tYes (tOp (rI0 fun i j => .bl (decide (i ≤ j))) (tDGet (tVar 6) (tVar 5)) (tC (.int 1000000))) [5])) G3 (Wdk K d dx sv bv s bs) (LstP ((finS es).map fun a => BoolP (decide ((a.2 : Int) ≤ 1000000)))) :=
      ev_isL (ev_lcKL (es := finS es) (vv_var (P := FormP (finS es)) rfl) (fun _ => true) (fun a => BoolP (decide ((a.2 : Int) ≤ 1000000))) (fun _ _ => et_yes) (fun a ha _ => ev_le (ev_form (f := finS es) (ev_var rfl) (ev_var rfl) (Pl.mem_getA hfn ha)) ev_int) (by omega)) (by rw [filter_yes])
    refine ht_need (b := savB es) (ev_isB (ev_andV (ev_le (ev_cb (ea_cons (ev_var (P := FormP (finS es)) rfl) ea_nil) cb_lenD) ev_int) fun _ => ev_cb (ea_cons (ev_isL hlc (Qs := ((finS es).map fun a => decide ((a.2 : Int) ≤ 1000000)).map BoolP) (by rw [List.map_map]; rfl)) ea_nil) cb_all) ?_) (ev_un ev_int) (fun hb => hE (-4) (by show oSave num tn row s bs = _; rw [hout, if_pos hb])) fun hb => ?_
    · unfold savB
      rw [List.all_map]
      congr 1
      · rw [Bool.eq_iff_iff, decide_eq_true_eq, decide_eq_true_eq]; omega
      · congr 1
        funext a
        simp only [Function.comp, id]
        rw [Bool.eq_iff_iff, decide_eq_true_eq, decide_eq_true_eq]; omega
    rw [if_neg (by rw [hb]; decide)] at hout
    refine ht_seq (ht_dropM (i := 0) rfl rfl (ea_cons (ev_ixL (P := IntP (tn : Int)) (ev_var (P := IntsP [num, (tn : Int)]) rfl) ev_int rfl) (ea_cons (ev_var rfl) ea_nil)) (spD_g (Ps := fun i : Nat × List (Nat × Nat) => [IntP (i.1 : Int), FormP i.2]) (tn, finS es) ⟨hs, hl⟩)) (ht_ex fun sv2 => ht_ex fun bv2 => ?_)
    have hsl : EvG (tLkE (tLc (iKeys (tVar 6)) (gName 5) tYes (tDGet (tVar 6) (tVar 5)) [5])) G3 (Wdk K d dx sv2 bv2 {s with fs := Pl.putA s.fs tn (finS es)} (bs ++ [s])) (LstP (((finS es).map fun a => (a.2 : Int)).map IntP)) :=
      ev_isL (ev_lcKL (es := finS es) (vv_var (P := FormP (finS es)) rfl) (fun _ => true) (fun a => IntP (a.2 : Int)) (fun _ _ => et_yes) (fun a ha _ => ev_form (f := finS es) (ev_var rfl) (ev_var rfl) (Pl.mem_getA hfn ha)) (by omega)) (by rw [filter_yes, List.map_map]; rfl)
    refine ht_retW (ev_lst (ea_cons ev_int (ea_cons (ev_is (ev_cb (ea_cons hsl ea_nil) cb_sum) ?_) ea_nil)) (show 2 ≤ sizeLine by decide)) fun v H r => hR _ _ _ hout v H r
    rfl
end Sw
set_option maxRecDepth 100000
set_option maxHeartbeats 4000000
/-! # Questions of one formula -/
namespace Sw
open PySem L2
open SubstitutionSpec (Material Rule toFormula isIdentifier inRange isRuleSet mixtureOf)
section
variable {F0 H0 : Hp} {Γ Δ : List (Option VP)} {W : Wd} {B : As} {R : VK} {te ta tb : TE} {t : TA} {N : Addr → Prop} {CR : Addr} {E : XK} {c : Int}
theorem ex_tup (h : EvAX CR t Γ W E c) : EvX CR (tTup t) Γ W E c := fun σ F H o Q k => h σ F H o _ k
theorem ev_neI' {i j : Int} (ha : EvG ta Γ W (IntP i)) (hb : EvG tb Γ W (IntP j)) : EvG (tOp rNe ta tb) Γ W (BoolP (!decide (i = j))) := ev_neI ha hb
end
def fr2 (q : Rat) : List Int := [q.num, (q.den : Int)]
def fI (f : List (Nat × Nat)) : List (Int × Int) := f.map fun p => ((p.1 : Int), (p.2 : Int))
def qI (qs : List Rat) : List (Int × Int) := qs.map fun q => (q.num, (q.den : Int))
def flatF (f : List (Nat × Nat)) : List Int := flatI (fI f)
def flatR (qs : List Rat) : List Int := flatI (qI qs)
theorem sp_flat_g {W : Wd} (ps : List (Int × Int)) (h : ps.length ≤ 1000) : SpG sp_flat W [LstP (ps.map IPairP)] (IntsP (flatI ps)) := spF_g ps h
def oFq (w : Int) (ns : List Int) (s : Sto) : Except Int (List Int) :=
  if ((ns.take (if w = 12 then 2 else 1)).all (isIdentifier 8)) = false then .error (-1) else if (!decide (w = 17) || inRange 0 1000000 (ns.getD 1 0)) = false then .error (-1) else match Pl.getA s.fs (ns.getD 0 0).toNat with
  | none => .error (-3)
  | some f => if w = 9 then .ok (0 :: flatF f) else if w = 10 then .ok (0 :: fr2 (costP s (mixP f))) else if w = 11 then .ok (0 :: flatR ((List.range 6).map (colP s (mixP f))))
    else if w = 12 then (match Pl.getA s.fs (ns.getD 1 0).toNat with | none => .error (-3) | some g => .ok (0 :: fr2 (distP s (mixP f) (mixP g))))
    else if w = 13 then .ok (oCheck s f) else if w = 15 then .ok (oCount s f) else if w = 17 then oBest s f "nearest" (ns.getD 1 0) else oBest s f (if w = 16 then "cheapest" else "smallest") (-1)
variable {P : Program} {w : World} {K : PySem.W.Frag} {mg : Str → Option Value} {base : Heap}
def sp_of_formula (K : PySem.W.Frag) : Sp := spL (ι := Int × List Int) K (refA K) (fun i => [IntP i.1, IntsP i.2]) (fun i s _ => StoOk s ∧ i.2.length = many i.1 ∧ 9 ≤ i.1 ∧ i.1 ≤ 18 ∧ i.1 ≠ 14) fun i s _ => mapE IntsP (oFq i.1 i.2 s)
theorem form_flat {f : List (Nat × Nat)} {ms : List (Nat × Material)} (ho : ForOk ms f) : toFormula f = f := asc_one (fOf_perm ho.asc.nodup).1 (fOf_perm ho.asc.nodup).2 ho.asc
theorem ok_of_formula (T : Txt K mg) : FnOk P w K mg base (L2.CX P w) 10 (He.fAd K ("of_formula", none)) (fdOf K ("of_formula", none)) ["desk", "word", "numbers"] (sp_of_formula K) := by
  refine T.D_of_formula.ok sc_of_formula (spL_len fun _ => rfl) (fun cdv A outer s H vs Q E hr h => ⟨_, (pss_cons (ps_expr (pe_call (ok_need T) (hr.mono (by decide)) (by rfl) T.g_need T.k_need T.b_need .nil (passes_call (takes_of rfl rfl rfl rfl) fun _ _ _ _ h => h) (pa_cons (pe_call (ok_are_within T) (hr.mono (by decide)) (by rfl) T.g_are_within T.k_are_within T.b_are_within .nil pass0 (pa_cons (pe_slice sl_list (pv 2) po_none (po_some (pe_ifExp (pt_cmpR op_eq (pv 1) pe_int (nomark _)) pe_int pe_int))) (pa_cons pe_int (pa_cons (pe_globI T.i_FORMULAS (by rfl)) pa_nil)))) (pa_cons (pe_un un_neg pe_int) pa_nil)))) (pss_cons (ps_expr (pe_call (ok_need T) (hr.mono (by decide)) (by rfl) T.g_need T.k_need T.b_need .nil (passes_call (takes_of rfl rfl rfl rfl) fun _ _ _ _ h => h) (pa_cons (pe_or (pe_cmpR op_ne (pv 1) pe_int (nomark _)) (pe_one (pe_chain op_le op_le pe_int (pe_ix ix_list (pv 2) pe_int (fun _ _ => rfl)) (pe_globI T.i_MOST (by rfl))))) (pa_cons (pe_un un_neg pe_int) pa_nil)))) (pss_cons (ps_asg (pe_tup (pa_cons (pe_call (ok_formula T) (hr.mono (by decide)) (by rfl) T.g_formula T.k_formula T.b_formula .nil (passes_call (takes_of rfl rfl rfl rfl) fun _ _ _ _ h => h) (pa_cons (pv 0) (pa_cons (pe_ix ix_list (pv 2) pe_int (fun _ _ => rfl)) pa_nil))) (pa_cons (pe_fld (pv 0) rfl) pa_nil))) (pg_tup (n := 2) rfl (pgs_cons (pg_name (i := 3) sc_of_formula.nd rfl (Or.inr rfl)) (pgs_cons (pg_name (i := 4) sc_of_formula.nd rfl (Or.inr rfl)) pgs_nil)))) (pss_cons (ps_if (pt_cmpR op_eq (pv 1) pe_int (nomark _)) (pss_one (ps_ret (pe_op op_cat (pe_lst (pa_cons pe_int pa_nil)) (pe_call (ok_flat T) (hr.mono (by decide)) (by rfl) T.g_flat T.k_flat T.b_flat .nil pass0 (pa_cons (pe_callB cr_sortedPO (by rfl) T.f_sorted bb_sorted (pa_cons (pe_lk (pe_lc (own := [("one", 6)]) rfl sc_of_formula.nd (pi_keys (pe_dget (hu_of hr) (pe_fld (pv 4) rfl) (pv 3) (fun _ _ => rfl))) (blkOk_by (N := ["desk", "word", "numbers", "number", "store", "other", "one"]) (sc := defScope s_of_formula) (by decide +kernel)) (fun _ _ _ _ _ => (pg_name (i := 6) sc_of_formula.nd rfl (Or.inl rfl) (Or.inr rfl))) (fun _ _ _ _ _ => pts_nil) (fun _ _ _ _ _ => (pe_tup (pa_cons (pv 6) (pa_cons (pe_dget (hu_of hr) (pe_dget (hu_of hr) (pe_fldK (K := K) (pv 4) rfl) (pv 3) (fun _ _ => rfl)) (pv 6) (fun _ _ => rfl)) pa_nil)))))) pa_nil)) pa_nil))))) pss_nil) (pss_cons (ps_if (pt_cmpR op_eq (pv 1) pe_int (nomark _)) (pss_one (ps_ret (pe_op op_cat (pe_lst (pa_cons pe_int pa_nil)) (pe_callTy cr_listOf (by rfl) T.f_list bb_list (pa_cons (pe_meth (pv 4) T.cl_Store T.mt_Store_cost_told (ok_Store_cost_told T) (hr.mono (by decide)) T.b_Store_cost_told .nil pass0 (pa_cons (pe_meth (pv 4) T.cl_Store T.mt_Store_mixture (ok_Store_mixture T) (hr.mono (by decide)) T.b_Store_mixture .nil pass0 (pa_cons (pv 3) pa_nil)) pa_nil)) pa_nil))))) pss_nil) (pss_cons (ps_if (pt_cmpR op_eq (pv 1) pe_int (nomark _)) (pss_one (ps_ret (pe_op op_cat (pe_lst (pa_cons pe_int pa_nil)) (pe_call (ok_flat T) (hr.mono (by decide)) (by rfl) T.g_flat T.k_flat T.b_flat .nil pass0 (pa_cons (pe_meth (pv 4) T.cl_Store T.mt_Store_profile_told (ok_Store_profile_told T) (hr.mono (by decide)) T.b_Store_profile_told .nil pass0 (pa_cons (pe_meth (pv 4) T.cl_Store T.mt_Store_mixture (ok_Store_mixture T) (hr.mono (by decide)) T.b_Store_mixture .nil pass0 (pa_cons (pv 3) pa_nil)) pa_nil)) pa_nil))))) pss_nil) (pss_cons (ps_if (pt_cmpR op_eq (pv 1) pe_int (nomark _)) (pss_cons (ps_set (i := 5) sc_of_formula.nd rfl (Or.inl rfl) (pe_call (ok_formula T) (hr.mono (by decide)) (by rfl) T.g_formula T.k_formula T.b_formula .nil (passes_call (takes_of rfl rfl rfl rfl) fun _ _ _ _ h => h) (pa_cons (pv 0) (pa_cons (pe_ix ix_list (pv 2) pe_int (fun _ _ => rfl)) pa_nil)))) (pss_one (ps_ret (pe_op op_cat (pe_lst (pa_cons pe_int pa_nil)) (pe_callTy cr_listOf (by rfl) T.f_list bb_list (pa_cons (pe_meth (pv 4) T.cl_Store T.mt_Store_distance_told (ok_Store_distance_told T) (hr.mono (by decide)) T.b_Store_distance_told .nil pass0 (pa_cons (pe_meth (pv 4) T.cl_Store T.mt_Store_mixture (ok_Store_mixture T) (hr.mono (by decide)) T.b_Store_mixture .nil pass0 (pa_cons (pv 3) pa_nil)) (pa_cons (pe_meth (pv 4) T.cl_Store T.mt_Store_mixture (ok_Store_mixture T) (hr.mono (by decide)) T.b_Store_mixture .nil pass0 (pa_cons (pv 5) pa_nil)) pa_nil))) pa_nil)))))) pss_nil) (pss_cons (ps_if (pt_cmpR op_eq (pv 1) pe_int (nomark _)) (pss_one (ps_ret (pe_call (ok_check T) (hr.mono (by decide)) (by rfl) T.g_check T.k_check T.b_check .nil pass0 (pa_cons (pv 4) (pa_cons (pv 3) pa_nil))))) pss_nil) (pss_cons (ps_if (pt_cmpR op_eq (pv 1) pe_int (nomark _)) (pss_one (ps_ret (pe_call (ok_count_plans T) (hr.mono (by decide)) (by rfl) T.g_count_plans T.k_count_plans T.b_count_plans .nil pass0 (pa_cons (pv 4) (pa_cons (pv 3) pa_nil))))) pss_nil) (pss_cons (ps_if (pt_cmpR op_eq (pv 1) pe_int (nomark _)) (pss_one (ps_ret (pe_call (ok_best T) (hr.mono (by decide)) (by rfl) T.g_best T.k_best T.b_best .nil (passes_call (takes_of rfl rfl rfl rfl) fun _ _ _ _ h => h) (pa_cons (pv 4) (pa_cons (pv 3) (pa_cons pe_str (pa_cons (pe_ix ix_list (pv 2) pe_int (fun _ _ => rfl)) pa_nil))))))) pss_nil) (pss_one (ps_ret (pe_call (ok_best T) (hr.mono (by decide)) (by rfl) T.g_best T.k_best T.b_best .nil (passes_call (takes_of rfl rfl rfl rfl) fun _ _ _ _ h => h) (pa_cons (pv 4) (pa_cons (pv 3) (pa_cons (pe_ifExp (pt_cmpR op_eq (pv 1) pe_int (nomark _)) pe_str pe_str) (pa_cons (pe_un un_neg pe_int) pa_nil))))))))))))))))), ?_⟩)
  refine body_ofL h fun ⟨wd, ns⟩ s bs ⟨hs, hlen, hw1, hw2, hw3⟩ d dx sv bv F0 H0 R hR hE => ?_
  have hlen : ns.length = many wd := hlen
  have hw1 : 9 ≤ wd := hw1
  have hw2 : wd ≤ 18 := hw2
  have hw3 : wd ≠ 14 := hw3
  have hcs : wd = 9 ∨ wd = 10 ∨ wd = 11 ∨ wd = 12 ∨ wd = 13 ∨ wd = 15 ∨ wd = 16 ∨ wd = 17 ∨ wd = 18 := by omega
  have hl1 : 1 ≤ ns.length := by rw [hlen]; rcases hcs with e | e | e | e | e | e | e | e | e <;> subst e <;> decide
  have hl2 : (wd = 12 ∨ wd = 17) → ns.length = 2 := fun q => by rw [hlen]; rcases q with e | e <;> subst e <;> decide
  have hl3 : ns.length ≤ 2 := by rw [hlen]; rcases hcs with e | e | e | e | e | e | e | e | e <;> subst e <;> decide
  obtain ⟨a, rest, rfl⟩ : ∃ a rest, ns = a :: rest := by
    match ns, hl1 with
    | a :: r, _ => exact ⟨a, r, rfl⟩
  have hrl : rest.length ≤ 1 := by simp only [List.length_cons] at hl3; omega
  have hsl : ∀ k : Nat, k ≤ (a :: rest).length → cutP ((a :: rest).map IntP) none (some (k : Int)) = ((a :: rest).take k).map IntP := fun k hk => by
    unfold cutP
    rw [HT.sIx_none, HT.sIx_nat, List.drop_zero, Nat.sub_zero, List.length_map, Nat.min_eq_left hk, List.map_take]
  have hk : (if wd = 12 then 2 else 1) ≤ (a :: rest).length := by
    by_cases q : wd = 12
    · rw [if_pos q, hl2 (.inl q)]; decide
    · rw [if_neg q]; exact hl1
  refine ht_need (b := (((a :: rest).take (if wd = 12 then 2 else 1)).all (isIdentifier 8))) (ev_isB (ev_call (ea_cons (ev_isL (ev_slice (lo := none) (hi := some (((if wd = 12 then 2 else 1 : Nat) : Nat) : Int)) (ev_var (P := IntsP (a :: rest)) rfl) oe_no (oe_int (ev_if (c := decide (wd = 12)) (et_test (ev_eqI (ev_var rfl) ev_int)) (fun q => ?_) fun q => ?_))) (hsl _ hk)) (ea_cons ev_int (ea_cons ev_int ea_nil))) (spF_g ((a :: rest).take (if wd = 12 then 2 else 1), (0 : Int), (7 : Int)) (by show ((a :: rest).take _).length < 16000000; have := List.length_take_le' (if wd = 12 then 2 else 1) (a :: rest); simp only [List.length_cons] at *; omega))) (allIn_ident (c := 8) rfl _)) (ev_un ev_int) (fun hb => hE (-1) (by show mapE IntsP (oFq wd (a :: rest) s) = _; unfold oFq; rw [if_pos hb]; rfl)) fun hb => ?_
  · rw [if_pos (of_decide_eq_true q)]; exact ev_int
  · rw [if_neg (of_decide_eq_false q)]; exact ev_int
  refine ht_need (b := !decide (wd = 17) || inRange 0 1000000 ((a :: rest).getD 1 0)) (ev_orV (ev_neI (ev_var rfl) ev_int) fun q => ?_) (ev_un ev_int) (fun hc => hE (-1) (by show mapE IntsP (oFq wd (a :: rest) s) = _; unfold oFq; rw [if_neg (by rw [hb]; decide), if_pos hc]; rfl)) fun hc => ?_
  · have q : wd = 17 := by simpa using q
    obtain ⟨a', b, e⟩ := len2 (hl2 (.inr q))
    rw [e]
    exact ev_chainI ev_int (ev_ixL (P := IntP b) (ev_var (P := IntsP [a', b]) (by rw [← e]; rfl)) ev_int rfl) ev_int
  have ha : isIdentifier 8 a = true := by
    by_cases q : wd = 12
    · rw [if_pos q] at hb
      exact List.all_eq_true.mp hb a (by simp)
    · rw [if_neg q] at hb
      exact List.all_eq_true.mp hb a (by simp)
  obtain ⟨n, rfl, hn⟩ := ident_nat ha
  have hout : oFq wd ((n : Int) :: rest) s = match Pl.getA s.fs n with
    | none => .error (-3)
    | some f => if wd = 9 then .ok (0 :: flatF f) else if wd = 10 then .ok (0 :: fr2 (costP s (mixP f))) else if wd = 11 then .ok (0 :: flatR ((List.range 6).map (colP s (mixP f))))
      else if wd = 12 then (match Pl.getA s.fs (rest.getD 0 0).toNat with | none => .error (-3) | some g => .ok (0 :: fr2 (distP s (mixP f) (mixP g))))
      else if wd = 13 then .ok (oCheck s f) else if wd = 15 then .ok (oCount s f) else if wd = 17 then oBest s f "nearest" (rest.getD 0 0) else oBest s f (if wd = 16 then "cheapest" else "smallest") (-1) := by
    unfold oFq
    rw [if_neg (by rw [hb]; decide), if_neg (by rw [hc]; decide)]
    rfl
  have hin : ∀ {Γ : List (Option VP)}, Γ[0]? = some (some (IsP (.ref d))) → Γ[2]? = some (some (IntsP ((n : Int) :: rest))) → EvA (tCons (tVar 0) (tCons (tOp (rIxL K) (tVar 2) (tC (.int 0))) tNil)) Γ (Wdk K d dx sv bv s bs) [IsP (.ref d), IntP (n : Int)] := fun h0 h2 =>
    ea_cons (ev_var h0) (ea_cons (ev_ixL (P := IntP (n : Int)) (ev_var (P := IntsP ((n : Int) :: rest)) h2) ev_int (atI_nat (j := 0) rfl)) ea_nil)
  have hoF : ∀ k : Nat, isIdentifier 8 k = true → oForm k s = if (Pl.getA s.fs k).isSome = false then .error (-3) else .ok (k : Int) := fun k hk => by unfold oForm; rw [if_neg (by rw [hk]; decide), Int.toNat_natCast]
  cases hf : Pl.getA s.fs n with
  | none =>
    rw [hf] at hout
    exact ht_seq (B := fun _ _ => False) (ht_asgX (ex_tup (ea_consX (ex_call (hin rfl rfl) (spL_x (Ps := fun i : Int => [IntP i]) (n : Int) trivial (c := -3) (by show mapE IntP (oForm n s) = _; rw [hoF n ha, hf]; rfl))))) (hE (-3) (by show mapE IntsP (oFq wd _ s) = _; rw [hout]; rfl))) fun _ _ _ z _ _ => z.elim
  | some f =>
    rw [hf] at hout
    dsimp only at hout
    have ho := (hs.fi _ (Pl.getA_mem hf)).2
    have hpf : preF (s, n, f) := ⟨hs, hf, ho⟩
    have hret : ∀ l, oFq wd ((n : Int) :: rest) s = .ok l → ∀ v H, RetP No F0 H0 (IntsP l) v H → R v H := fun l e v H r => hR (IntsP l) (by show mapE IntsP (oFq wd ((n : Int) :: rest) s) = _; rw [e]; rfl) v H r
    refine ht_seq (ht_asg (hg := tg_tup2 (P1 := IntP (n : Int)) (P2 := StoP K s)) (ev_tup (ea_cons (ev_callx (hin rfl rfl) (spL_g (Ps := fun i : Int => [IntP i]) (n : Int) trivial (by show mapE IntP (oForm n s) = _; rw [hoF n ha, hf]; rfl))) (ea_cons (T.dsto rfl) ea_nil)) (show 2 ≤ sizeLine by decide))) ?_
    let G : List (Option VP) := [some (IsP (.ref d)), some (IntP wd), some (IntsP ((n : Int) :: rest)), some (IntP (n : Int)), some (StoP K s), none, none]
    have hmix : ∀ {Γ : List (Option VP)}, Γ[4]? = some (some (StoP K s)) → Γ[3]? = some (some (IntP (n : Int))) → EvG (tMeth (He.ga K "Store") "mixture" (sp_mixture K) [] E0 (tVar 4) (tCons (tVar 3) tNil)) Γ (Wdk K d dx sv bv s bs) (ShP (mixP f)) := fun h4 h3 => ev_meth (ev_var h4) rfl (ea_cons (ev_var h3) ea_nil) (spF_g (s, n, f) ⟨hf, ho⟩)
    have hz : ∀ {Γ : List (Option VP)} {W : Wd}, EvG (tLst (tCons (tC (.int 0)) tNil)) Γ W (IntsP [0]) := fun {Γ W} => ev_ok
    have hwI : ∀ k : Int, EvG (tOp rEq (tVar 1) (tC (.int k))) G (Wdk K d dx sv bv s bs) (BoolP (decide (wd = k))) := fun k => ev_eqI (ev_var rfl) ev_int
    refine ht_guard (et_test (hwI 9)) (fun q => ?_) fun q => ?_
    · rw [if_pos (of_decide_eq_true q)] at hout
      refine ht_rt (hret _ hout) (ht_ret (ev_catI (l := [0]) hz (ev_call (Ps := [LstP ((fI f).map IPairP)]) (ea_cons (ev_isL (ev_sortedPO (ps := f) (ev_isL (ev_lcKL (es := f) (vv_dget (Rf := FormP) (vv_fld (vv_var (P := StoP K s) rfl) T.cl_Store T.na_Store_formulas rfl) (vv_var (P := IntP (n : Int)) rfl) hf) (fun _ => true) PairP (fun _ _ => et_yes) (fun e he _ => ev_tup (ea_cons (ev_var rfl) (ea_cons (ev_form (ev_for (T.fors (s := s) (ev_var rfl)) (ev_var rfl) hf) (ev_var rfl) (Pl.mem_getA ho.asc.nodup he)) ea_nil)) (show 2 ≤ sizeLine by decide)) (Nat.lt_of_le_of_lt ho.some.2 (by decide))) (by rw [filter_yes])) ho.asc.nodup) (by rw [form_flat ho, fI, List.map_map]; rfl)) ea_nil) (sp_flat_g (fI f) ?_)) ?_))
      · rw [fI, List.length_map]; exact Nat.le_trans ho.some.2 (by decide)
      · have := flat_len (fI f)
        have h2 : f.length ≤ 10 := ho.some.2
        have h3 : (fI f).length = f.length := by rw [fI, List.length_map]
        show 1 + (flatI _).length ≤ 16000000
        omega
    rw [if_neg (of_decide_eq_false q)] at hout
    refine ht_guard (et_test (hwI 10)) (fun q => ?_) fun q => ?_
    · rw [if_pos (of_decide_eq_true q)] at hout
      exact ht_rt (hret _ hout) (ht_ret (ev_catI (l := [0]) hz (ev_frL (ev_meth (ev_var rfl) rfl (ea_cons (hmix rfl rfl) ea_nil) (spF_g (s, mixP f) ⟨hs, ho.mix⟩))) (show 1 + 2 ≤ 16000000 by decide)))
    rw [if_neg (of_decide_eq_false q)] at hout
    refine ht_guard (et_test (hwI 11)) (fun q => ?_) fun q => ?_
    · rw [if_pos (of_decide_eq_true q)] at hout
      refine ht_rt (hret _ hout) (ht_ret (ev_catI (l := [0]) hz (ev_call (Ps := [LstP ((qI ((List.range 6).map (colP s (mixP f)))).map IPairP)]) (ea_cons (ev_isL (ev_meth (ev_var rfl) rfl (ea_cons (hmix rfl rfl) ea_nil) (spF_g (s, mixP f) ⟨hs, ho.mix⟩)) (by rw [qI, List.map_map, List.map_map]; rfl)) ea_nil) (sp_flat_g (qI ((List.range 6).map (colP s (mixP f)))) ?_)) ?_))
      · rw [qI, List.length_map, List.length_map, List.length_range]; decide
      · have := flat_len (qI ((List.range 6).map (colP s (mixP f))))
        have h3 : (qI ((List.range 6).map (colP s (mixP f)))).length = 6 := by rw [qI, List.length_map, List.length_map, List.length_range]
        show 1 + (flatI _).length ≤ 16000000
        omega
    rw [if_neg (of_decide_eq_false q)] at hout
    refine ht_guard (et_test (hwI 12)) (fun q => ?_) fun q => ?_
    · have q := of_decide_eq_true q
      rw [if_pos q] at hout
      rw [if_pos q] at hb
      obtain ⟨a', b, e⟩ := len2 (hl2 (.inl q))
      obtain ⟨_, rfl⟩ : (n : Int) = a' ∧ rest = [b] := by injection e with e1 e2; exact ⟨e1, e2⟩
      have hbI : isIdentifier 8 b = true := List.all_eq_true.mp hb b (by simp)
      obtain ⟨n2, rfl, hn2⟩ := ident_nat hbI
      have hout : oFq wd [(n : Int), (n2 : Int)] s = match Pl.getA s.fs n2 with | none => .error (-3) | some g => .ok (0 :: fr2 (distP s (mixP f) (mixP g))) := hout
      have hin2 : EvA (tCons (tVar 0) (tCons (tOp (rIxL K) (tVar 2) (tC (.int 1))) tNil)) G (Wdk K d dx sv bv s bs) [IsP (.ref d), IntP (n2 : Int)] := ea_cons (ev_var rfl) (ea_cons (ev_ixL (P := IntP (n2 : Int)) (ev_var (P := IntsP [(n : Int), (n2 : Int)]) rfl) ev_int rfl) ea_nil)
      cases hg : Pl.getA s.fs n2 with
      | none =>
        rw [hg] at hout
        exact ht_seq (B := fun _ _ => False) (ht_asgX (ex_call hin2 (spL_x (Ps := fun i : Int => [IntP i]) (n2 : Int) trivial (c := -3) (by show mapE IntP (oForm n2 s) = _; rw [hoF n2 hbI, hg]; rfl))) (hE (-3) (by show mapE IntsP (oFq wd _ s) = _; rw [hout]; rfl))) fun _ _ _ z _ _ => z.elim
      | some g =>
        rw [hg] at hout
        have hog := (hs.fi _ (Pl.getA_mem hg)).2
        refine ht_seq (ht_set (P := IntP (n2 : Int)) (ev_callx hin2 (spL_g (Ps := fun i : Int => [IntP i]) (n2 : Int) trivial (by show mapE IntP (oForm n2 s) = _; rw [hoF n2 hbI, hg]; rfl)))) ?_
        exact ht_rt (hret _ hout) (ht_ret (ev_catI (l := [0]) hz (ev_frL (ev_meth (ev_var rfl) rfl (ea_cons (hmix rfl rfl) (ea_cons (ev_meth (ev_var rfl) rfl (ea_cons (ev_var rfl) ea_nil) (spF_g (s, n2, g) ⟨hg, hog⟩)) ea_nil)) (spF_g (s, mixP f, mixP g) ⟨hs, ho.mix, hog.mix⟩))) (show 1 + 2 ≤ 16000000 by decide)))
    rw [if_neg (of_decide_eq_false q)] at hout
    refine ht_guard (et_test (hwI 13)) (fun q => ?_) fun q => ?_
    · rw [if_pos (of_decide_eq_true q)] at hout
      exact ht_rt (hret _ hout) (ht_ret (ev_call (ea_cons (ev_var rfl) (ea_cons (ev_var rfl) ea_nil)) (spF_g (s, n, f) hpf)))
    rw [if_neg (of_decide_eq_false q)] at hout
    refine ht_guard (et_test (hwI 15)) (fun q => ?_) fun q => ?_
    · rw [if_pos (of_decide_eq_true q)] at hout
      exact ht_rt (hret _ hout) (ht_ret (ev_call (ea_cons (ev_var rfl) (ea_cons (ev_var rfl) ea_nil)) (spF_g (s, n, f) hpf)))
    rw [if_neg (of_decide_eq_false q)] at hout
    have hbest : ∀ (wd' : Str) (most : Int) (t3 t4 : TE), EvG t3 G (Wdk K d dx sv bv s bs) (StrP wd') → EvG t4 G (Wdk K d dx sv bv s bs) (IntP most) → most ≤ 1000000 → -1 ≤ most → oFq wd ((n : Int) :: rest) s = oBest s f wd' most → ∀ B, HT (TyA No F0 H0 G (Wdk K d dx sv bv s bs)) (tRet (tCall (sp_best K) [] E (tCons (tVar 4) (tCons (tVar 3) (tCons t3 (tCons t4 tNil)))))) B R := fun wd' most t3 t4 h3 h4 hm1 hm2 hout B => by
      have hargs : EvA (tCons (tVar 4) (tCons (tVar 3) (tCons t3 (tCons t4 tNil)))) G (Wdk K d dx sv bv s bs) [StoP K s, IntP (n : Int), StrP wd', IntP most] := ea_cons (ev_var rfl) (ea_cons (ev_var rfl) (ea_cons h3 (ea_cons h4 ea_nil)))
      cases hb : oBest s f wd' most with
      | error c => exact ht_retX (ex_call hargs (spX_x (Ps := fun i : (Sto × Nat × List (Nat × Nat)) × Str × Int => [StoP K i.1.1, IntP (i.1.2.1 : Int), StrP i.2.1, IntP i.2.2]) ((s, n, f), wd', most) ⟨hpf, hm1, hm2⟩ (by show mapE IntsP (oBest s f wd' most) = _; rw [hb]; rfl))) (hE c (by show mapE IntsP (oFq wd _ s) = _; rw [hout, hb]; rfl))
      | ok l => exact ht_rt (hret l (hout.trans hb)) (ht_ret (ev_call hargs (spX_g (Ps := fun i : (Sto × Nat × List (Nat × Nat)) × Str × Int => [StoP K i.1.1, IntP (i.1.2.1 : Int), StrP i.2.1, IntP i.2.2]) ((s, n, f), wd', most) ⟨hpf, hm1, hm2⟩ (by show mapE IntsP (oBest s f wd' most) = _; rw [hb]; rfl))))
    refine ht_guard (et_test (hwI 17)) (fun q => ?_) fun q => ?_
    · have q := of_decide_eq_true q
      rw [if_pos q] at hout
      obtain ⟨a', b, e⟩ := len2 (hl2 (.inr q))
      obtain ⟨_, rfl⟩ : (n : Int) = a' ∧ rest = [b] := by injection e with e1 e2; exact ⟨e1, e2⟩
      rw [show decide (wd = 17) = true from decide_eq_true q, Bool.not_true, Bool.false_or] at hc
      obtain ⟨z, hz1, _, hz2⟩ := range_nat hc
      have hz1 : b = (z : Int) := hz1
      subst hz1
      exact hbest "nearest" (z : Int) _ _ ev_str (ev_ixL (P := IntP (z : Int)) (ev_var (P := IntsP [(n : Int), (z : Int)]) rfl) ev_int rfl) (by omega) (by omega) hout _
    rw [if_neg (of_decide_eq_false q)] at hout
    refine hbest (if wd = 16 then "cheapest" else "smallest") (-1) _ _ (ev_if (c := decide (wd = 16)) (et_test (hwI 16)) (fun q => ?_) fun q => ?_) (ev_un ev_int) (by decide) (by decide) hout _
    · rw [if_pos (of_decide_eq_true q)]; exact ev_str
    · rw [if_neg (of_decide_eq_false q)]; exact ev_str
end Sw
set_option maxRecDepth 100000
set_option maxHeartbeats 2000000
/-! # Each operation -/
namespace Sw
open PySem L2
open SubstitutionSpec (Material Rule toFormula isIdentifier inRange isRuleSet mixtureOf)
/-- nothing was changed -/
def keep (s : Sto) (bs : List Sto) : Except Int (List Int) → ResD
  | .ok l => .ok (IntsP l, s, bs)
  | .error c => .error c
def oReach (num : Int) (s : Sto) : Except Int (List Int) := match oMat num s with
  | .error c => .error c
  | .ok m => .ok (0 :: (Pl.reachL s.rs m.toNat 24).map fun (n : Nat) => (n : Int))
def oDepN (num : Int) (s : Sto) : Except Int (List Int) := match oMat num s with
  | .error c => .error c
  | .ok m => .ok (oDep s m.toNat)
def oDone (w : Int) (ns row : List Int) (s : Sto) (bs : List Sto) : ResD :=
  if w ≤ 8 then oChanges w ns row s bs else if w = 14 then keep s bs (oApply (ns.getD 0 0) row s) else if w ≤ 18 then keep s bs (oFq w ns s)
  else if w = 19 then oSave (ns.getD 0 0) (ns.getD 1 0) row s bs else if w = 20 then keep s bs (oReach (ns.getD 0 0) s) else if w = 21 then keep s bs (.ok (oCycle s))
  else if w = 22 then keep s bs (oDepN (ns.getD 0 0) s) else if w = 23 then oUndo s bs else keep s bs (.ok (oSum s))
section
variable {F0 H0 F H : Hp} {Γ Δ : List (Option VP)} {W : Wd} {A B : As} {R : VK} {P P' : VP} {t u : TS} {te tb : TE} {ta : TA} {K : PySem.W.Frag} {mg : Str → Option Value} {CR d dx : Addr} {sv bv : V} {s : Sto} {bs : List Sto} {E : XK} {σ : L2.St} {sp : Sp} {res : ResD} {N : Addr → Prop}
theorem ht_retK {ι : Type} {Ps : ι → List VP} {pre : ι → Sto → List Sto → Prop} {out : ι → Sto → List Sto → Except Int VP} (i : ι) (h : EvA ta Γ (Wdk K d dx sv bv s bs) (IsP (.ref d) :: Ps i)) (hp : pre i s bs) {r : Except Int (List Int)} (e : out i s bs = mapE IntsP r) (hR : ∀ Rr s' bs', keep s bs r = .ok (Rr, s', bs') → ∀ v H, RetD K F0 H0 d dx s' bs' Rr v H → R v H) (hE : ∀ c, keep s bs r = .error c → RetX CR F0 H0 E c) :
    HT (TyA No F0 H0 Γ (Wdk K d dx sv bv s bs)) (tRet (tCall (spL K CR Ps pre out) [] E ta)) B R := by
  cases r with
  | ok l => exact ht_retN (ev_callx h (spL_g i hp e)) fun v H r => hR (IntsP l) s bs rfl v H r
  | error c => exact ht_retX (ex_call h (spL_x i hp e)) (hE c rfl)
end
theorem ex_callA2 {Γ : List (Option VP)} {W : Wd} {CR : Addr} {E : XK} {c : Int} {sp : Sp} {t : TA} (h : EvAX CR t Γ W E c) {E' : XK} : EvX CR (tCall sp [] E' t) Γ W E c := fun σ F H o Q k => h σ F H o _ k
theorem iIxL {l : List Int} {i : Nat} {x : Int} (h : l[i]? = some x) : (l.map IntP)[i]? = some (IntP x) := by rw [List.getElem?_map, h]; rfl
variable {P : Program} {w : World} {K : PySem.W.Frag} {mg : Str → Option Value} {base : Heap}
def sp_done (K : PySem.W.Frag) : Sp := spD (ι := Int × List Int × List Int) K (refA K) (fun i => [IntP i.1, IntsP i.2.1, IntsP i.2.2]) (fun i s bs => StoOk s ∧ BsOk bs ∧ InpOk i.1 i.2.1 i.2.2) fun i s bs => oDone i.1 i.2.1 i.2.2 s bs
theorem ok_done (T : Txt K mg) : FnOk P w K mg base (L2.CX P w) 15 (He.fAd K ("done", none)) (fdOf K ("done", none)) ["desk", "word", "numbers", "row"] (sp_done K) := by
  refine T.D_done.ok sc_done (spD_len fun _ => rfl) (fun cdv A outer s H vs Q E hr h => ⟨_, (pss_cons (ps_if (pt_cmpR op_le (pv 1) pe_int (nomark _)) (pss_one (ps_ret (pe_call (ok_of_changes T) (hr.mono (by decide)) (by rfl) T.g_of_changes T.k_of_changes T.b_of_changes .nil (passes_call (takes_of rfl rfl rfl rfl) fun _ _ _ _ h => h) (pa_cons (pv 0) (pa_cons (pv 1) (pa_cons (pv 2) (pa_cons (pv 3) pa_nil))))))) pss_nil) (pss_cons (ps_if (pt_cmpR op_eq (pv 1) pe_int (nomark _)) (pss_one (ps_ret (pe_call (ok_apply_plan T) (hr.mono (by decide)) (by rfl) T.g_apply_plan T.k_apply_plan T.b_apply_plan .nil (passes_call (takes_of rfl rfl rfl rfl) fun _ _ _ _ h => h) (pa_cons (pv 0) (pa_cons (pe_ix ix_list (pv 2) pe_int (fun _ _ => rfl)) (pa_cons (pv 3) pa_nil)))))) pss_nil) (pss_cons (ps_if (pt_cmpR op_le (pv 1) pe_int (nomark _)) (pss_one (ps_ret (pe_call (ok_of_formula T) (hr.mono (by decide)) (by rfl) T.g_of_formula T.k_of_formula T.b_of_formula .nil (passes_call (takes_of rfl rfl rfl rfl) fun _ _ _ _ h => h) (pa_cons (pv 0) (pa_cons (pv 1) (pa_cons (pv 2) pa_nil)))))) pss_nil) (pss_cons (ps_if (pt_cmpR op_eq (pv 1) pe_int (nomark _)) (pss_one (ps_ret (pe_call (ok_save_result T) (hr.mono (by decide)) (by rfl) T.g_save_result T.k_save_result T.b_save_result .nil (passes_call (takes_of rfl rfl rfl rfl) fun _ _ _ _ h => h) (pa_cons (pv 0) (pa_cons (pv 2) (pa_cons (pv 3) pa_nil)))))) pss_nil) (pss_cons (ps_if (pt_cmpR op_eq (pv 1) pe_int (nomark _)) (pss_one (ps_ret (pe_op op_cat (pe_lst (pa_cons pe_int pa_nil)) (pe_meth (pe_fld (pv 0) rfl) T.cl_Store T.mt_Store_reached (ok_Store_reached T) (hr.mono (by decide)) T.b_Store_reached .nil pass0 (pa_cons (pe_call (ok_material_told T) (hr.mono (by decide)) (by rfl) T.g_material_told T.k_material_told T.b_material_told .nil (passes_call (takes_of rfl rfl rfl rfl) fun _ _ _ _ h => h) (pa_cons (pv 0) (pa_cons (pe_ix ix_list (pv 2) pe_int (fun _ _ => rfl)) pa_nil))) pa_nil))))) pss_nil) (pss_cons (ps_if (pt_cmpR op_eq (pv 1) pe_int (nomark _)) (pss_one (ps_ret (pe_call (ok_cycle T) (hr.mono (by decide)) (by rfl) T.g_cycle T.k_cycle T.b_cycle .nil pass0 (pa_cons (pe_fld (pv 0) rfl) pa_nil)))) pss_nil) (pss_cons (ps_if (pt_cmpR op_eq (pv 1) pe_int (nomark _)) (pss_one (ps_ret (pe_call (ok_dependent T) (hr.mono (by decide)) (by rfl) T.g_dependent T.k_dependent T.b_dependent .nil pass0 (pa_cons (pe_fld (pv 0) rfl) (pa_cons (pe_call (ok_material_told T) (hr.mono (by decide)) (by rfl) T.g_material_told T.k_material_told T.b_material_told .nil (passes_call (takes_of rfl rfl rfl rfl) fun _ _ _ _ h => h) (pa_cons (pv 0) (pa_cons (pe_ix ix_list (pv 2) pe_int (fun _ _ => rfl)) pa_nil))) pa_nil))))) pss_nil) (pss_one (ps_ret (pe_ifExp (pt_cmpR op_eq (pv 1) pe_int (nomark _)) (pe_call (ok_undo T) (hr.mono (by decide)) (by rfl) T.g_undo T.k_undo T.b_undo .nil (passes_call (takes_of rfl rfl rfl rfl) fun _ _ _ _ h => h) (pa_cons (pv 0) pa_nil)) (pe_call (ok_summary T) (hr.mono (by decide)) (by rfl) T.g_summary T.k_summary T.b_summary .nil pass0 (pa_cons (pe_fld (pv 0) rfl) pa_nil)))))))))))), ?_⟩)
  refine body_ofD h fun ⟨w, ns, row⟩ s bs ⟨hs, hl, hi⟩ d dx sv bv F0 H0 R hR hE => ?_
  obtain ⟨⟨hw1, hw2⟩, hn, hrow⟩ := hi
  have hw1 : 1 ≤ w := hw1
  have hw2 : w ≤ 24 := hw2
  have hn : ns.length = many w := hn
  have hR : ∀ Rr s' bs', oDone w ns row s bs = .ok (Rr, s', bs') → ∀ v H, RetD K F0 H0 d dx s' bs' Rr v H → R v H := hR
  have hE : ∀ c, oDone w ns row s bs = .error c → RetX (refA K) F0 H0 E c := hE
  have hI : ∀ k : Int, EvG (tOp rEq (tVar 1) (tC (.int k))) [some (IsP (.ref d)), some (IntP w), some (IntsP ns), some (IntsP row)] (Wdk K d dx sv bv s bs) (BoolP (decide (w = k))) := fun k => ev_eqI (ev_var rfl) ev_int
  have h0 : ∀ a, ns = [a] → EvG (tOp (rIxL K) (tVar 2) (tC (.int 0))) [some (IsP (.ref d)), some (IntP w), some (IntsP ns), some (IntsP row)] (Wdk K d dx sv bv s bs) (IntP a) := fun a e => ev_ixL (P := IntP a) (ev_var (P := IntsP ns) rfl) ev_int (by rw [e]; rfl)
  unfold oDone at hR hE
  refine ht_guard (et_test (ev_le (ev_var rfl) ev_int)) (fun q => ?_) fun q => ?_
  · have q : w ≤ 8 := of_decide_eq_true q
    rw [if_pos q] at hR hE
    exact ht_retC (ea_cons (ev_var rfl) (ea_cons (ev_var rfl) (ea_cons (ev_var rfl) (ea_cons (ev_var rfl) ea_nil)))) (spD_g (Ps := fun i : Int × List Int × List Int => [IntP i.1, IntsP i.2.1, IntsP i.2.2]) (w, ns, row) ⟨hs, hl, ⟨⟨hw1, hw2⟩, hn, hrow⟩, q⟩) hR hE
  have q : ¬ w ≤ 8 := of_decide_eq_false q
  rw [if_neg q] at hR hE
  refine ht_guard (et_test (hI 14)) (fun q2 => ?_) fun q2 => ?_
  · have q2 : w = 14 := of_decide_eq_true q2
    rw [if_pos q2] at hR hE
    obtain ⟨a, e⟩ := len1 (hn.trans (by rw [q2]; rfl))
    rw [e] at hR hE
    exact ht_retK (Ps := fun i : Int × List Int => [IntP i.1, IntsP i.2]) (a, row) (ea_cons (ev_var rfl) (ea_cons (h0 a e) (ea_cons (ev_var rfl) ea_nil))) ⟨hs, hrow⟩ rfl hR hE
  have q2 : ¬ w = 14 := of_decide_eq_false q2
  rw [if_neg q2] at hR hE
  refine ht_guard (et_test (ev_le (ev_var rfl) ev_int)) (fun q3 => ?_) fun q3 => ?_
  · have q3 : w ≤ 18 := of_decide_eq_true q3
    rw [if_pos q3] at hR hE
    exact ht_retK (Ps := fun i : Int × List Int => [IntP i.1, IntsP i.2]) (w, ns) (ea_cons (ev_var rfl) (ea_cons (ev_var rfl) (ea_cons (ev_var rfl) ea_nil))) ⟨hs, hn, (by show 9 ≤ w; omega), q3, q2⟩ rfl hR hE
  have q3 : ¬ w ≤ 18 := of_decide_eq_false q3
  rw [if_neg q3] at hR hE
  refine ht_guard (et_test (hI 19)) (fun q4 => ?_) fun q4 => ?_
  · have q4 : w = 19 := of_decide_eq_true q4
    rw [if_pos q4] at hR hE
    obtain ⟨a, b, e⟩ := len2 (hn.trans (by rw [q4]; rfl))
    rw [e] at hR hE ⊢
    exact ht_retC (ea_cons (ev_var rfl) (ea_cons (ev_var rfl) (ea_cons (ev_var rfl) ea_nil))) (spD_g (Ps := fun i : (Int × Int) × List Int => [IntsP [i.1.1, i.1.2], IntsP i.2]) ((a, b), row) ⟨hs, hl, hrow⟩) hR hE
  have q4 : ¬ w = 19 := of_decide_eq_false q4
  rw [if_neg q4] at hR hE
  have hmt : ∀ a, ns = [a] → EvA (tCons (tVar 0) (tCons (tOp (rIxL K) (tVar 2) (tC (.int 0))) tNil)) [some (IsP (.ref d)), some (IntP w), some (IntsP ns), some (IntsP row)] (Wdk K d dx sv bv s bs) [IsP (.ref d), IntP a] := fun a e => ea_cons (ev_var rfl) (ea_cons (h0 a e) ea_nil)
  refine ht_guard (et_test (hI 20)) (fun q5 => ?_) fun q5 => ?_
  · have q5 : w = 20 := of_decide_eq_true q5
    rw [if_pos q5] at hR hE
    obtain ⟨a, e⟩ := len1 (hn.trans (by rw [q5]; rfl))
    rw [e] at hR hE
    have hR2 : ∀ Rr s' bs', keep s bs (oReach a s) = .ok (Rr, s', bs') → ∀ v H, RetD K F0 H0 d dx s' bs' Rr v H → R v H := hR
    have hE2 : ∀ c, keep s bs (oReach a s) = .error c → RetX (refA K) F0 H0 E c := hE
    clear hR hE
    unfold oReach at hR2 hE2
    cases hm : oMat a s with
    | error c =>
      rw [hm] at hE2
      exact ht_retX (ex_op ev_ok (ex_meth (T.dsto rfl) rfl (ea_consX (ex_call (hmt a e) (spL_x (Ps := fun i : Int => [IntP i]) a trivial (c := c) (by show mapE IntP (oMat a s) = _; rw [hm]; rfl)))))) (hE2 c rfl)
    | ok m =>
      rw [hm] at hR2
      obtain ⟨rfl, n, hn⟩ : m = a ∧ ∃ n : Nat, a = n := by
        unfold oMat at hm
        split at hm
        · cases hm
        · rename_i h1
          split at hm
          · cases hm
          · cases hm
            obtain ⟨n, hn, _⟩ := ident_nat (by simpa using h1)
            exact ⟨rfl, n, hn⟩
      subst hn
      exact ht_retN (P := IntsP (0 :: (Pl.reachL s.rs n 24).map fun (n : Nat) => (n : Int))) (ev_catI (l := [0]) ev_ok (ev_isL (ev_meth (T.dsto rfl) rfl (ea_cons (ev_callx (P := IntP (n : Int)) (hmt _ e) (spL_g (Ps := fun i : Int => [IntP i]) (n : Int) trivial (by show mapE IntP (oMat n s) = _; rw [hm]; rfl))) ea_nil) (spF_g (s, n) hs)) (by rw [List.map_map]; rfl)) (by have := Pl.reach_len (rs := s.rs) (m := n) 24; rw [List.length_map]; show 1 + _ ≤ 16000000; omega)) fun v H r => hR2 _ s bs rfl v H r
  have q5 : ¬ w = 20 := of_decide_eq_false q5
  rw [if_neg q5] at hR hE
  refine ht_guard (et_test (hI 21)) (fun q6 => ?_) fun q6 => ?_
  · have q6 : w = 21 := of_decide_eq_true q6
    rw [if_pos q6] at hR hE
    exact ht_retN (ev_call (ea_cons (T.dsto rfl) ea_nil) (spF_g s hs)) fun v H r => hR _ s bs rfl v H r
  have q6 : ¬ w = 21 := of_decide_eq_false q6
  rw [if_neg q6] at hR hE
  refine ht_guard (et_test (hI 22)) (fun q7 => ?_) fun q7 => ?_
  · have q7 : w = 22 := of_decide_eq_true q7
    rw [if_pos q7] at hR hE
    obtain ⟨a, e⟩ := len1 (hn.trans (by rw [q7]; rfl))
    rw [e] at hR hE
    have hR2 : ∀ Rr s' bs', keep s bs (oDepN a s) = .ok (Rr, s', bs') → ∀ v H, RetD K F0 H0 d dx s' bs' Rr v H → R v H := hR
    have hE2 : ∀ c, keep s bs (oDepN a s) = .error c → RetX (refA K) F0 H0 E c := hE
    clear hR hE
    unfold oDepN at hR2 hE2
    cases hm : oMat a s with
    | error c =>
      rw [hm] at hE2
      exact ht_retX (ex_callA2 (ea_consX2 (T.dsto rfl) (ea_consX (ex_call (hmt a e) (spL_x (Ps := fun i : Int => [IntP i]) a trivial (c := c) (by show mapE IntP (oMat a s) = _; rw [hm]; rfl)))))) (hE2 c rfl)
    | ok m =>
      rw [hm] at hR2
      obtain ⟨rfl, n, hn, hin⟩ : m = a ∧ ∃ n : Nat, a = n ∧ (Pl.getA s.ms n).isSome = true := by
        unfold oMat at hm
        split at hm
        · cases hm
        · rename_i h1
          split at hm
          · cases hm
          · rename_i h2
            cases hm
            obtain ⟨n, hn, _⟩ := ident_nat (by simpa using h1)
            refine ⟨rfl, n, hn, ?_⟩
            subst hn
            exact Option.isSome_iff_ne_none.mpr (by simpa using h2)
      subst hn
      exact ht_retN (ev_call (ea_cons (T.dsto rfl) (ea_cons (ev_callx (P := IntP (n : Int)) (hmt _ e) (spL_g (Ps := fun i : Int => [IntP i]) (n : Int) trivial (by show mapE IntP (oMat n s) = _; rw [hm]; rfl))) ea_nil)) (spF_g (s, n) ⟨hs, hin⟩)) fun v H r => hR2 _ s bs rfl v H r
  have q7 : ¬ w = 22 := of_decide_eq_false q7
  rw [if_neg q7] at hR hE
  refine ht_retIf (et_test (hI 23)) (fun q8 => ?_) fun q8 => ?_
  · have q8 : w = 23 := of_decide_eq_true q8
    rw [if_pos q8] at hR hE
    exact ht_retC (ea_cons (ev_var rfl) ea_nil) (spD_g (Ps := fun _ : Unit => []) () trivial) hR hE
  · have q8 : ¬ w = 23 := of_decide_eq_false q8
    rw [if_neg q8] at hR hE
    exact ht_retN (ev_call (ea_cons (T.dsto rfl) ea_nil) (spF_g s hs)) fun v H r => hR _ s bs rfl v H r
end Sw
set_option maxRecDepth 100000
set_option maxHeartbeats 2000000
/-! # The answer of one operation -/
namespace Sw
open PySem L2
def oAns (w : Int) (ns row : List Int) (s : Sto) (bs : List Sto) : VP × Sto × List Sto := match oDone w ns row s bs with
  | .ok r => r
  | .error c => (IntsP [c], s, bs)
variable {P : Program} {w : World} {K : PySem.W.Frag} {mg : Str → Option Value} {base : Heap}
def sp_answer_of (K : PySem.W.Frag) : Sp := spD (ι := Int × List Int × List Int) K (refA K) (fun i => [IntP i.1, IntsP i.2.1, IntsP i.2.2]) (fun i s bs => StoOk s ∧ BsOk bs ∧ InpOk i.1 i.2.1 i.2.2) fun i s bs => .ok (oAns i.1 i.2.1 i.2.2 s bs)
def tryB (K : PySem.W.Frag) : WX → TS := fun W => tRet (tCallS (sp_done K) (WE W) (tCons (tVar 0) (tCons (tVar 1) (tCons (tVar 2) (tCons (tVar 3) tNil)))))
def trySu (K : PySem.W.Frag) : Addr → Value → Option Addr → TS := fun a cls d => tRet (tLst (tCons (tXf a cls d (refA K) "code" (tVar 4)) tNil))
theorem ok_answer_of (T : Txt K mg) : FnOk P w K mg base CX0 16 (He.fAd K ("answer_of", none)) (fdOf K ("answer_of", none)) ["desk", "word", "numbers", "row"] (sp_answer_of K) := by
  refine T.D_answer_of.ok sc_answer_of (spD_len fun _ => rfl) (fun cdv A outer s H vs Q E hr h => ⟨_, PSs.nox (pss_one (ps_try_as (i := 4) (tb := tryB K) (ts := trySu K) (Wout := fun _ _ _ _ => False) rfl rfl sc_answer_of.nd rfl rfl ⟨rfl, by decide, Or.inl T.g_Refused⟩ takes0 (fun W pn xe tk _ => by exact (pss_one (ps_ret (pe_callS (ok_done T) (hr.mono (by decide)) (by rfl) T.g_done T.k_done T.b_done (fun σ => passAt tk σ) (pa_cons (pv 0) (pa_cons (pv 1) (pa_cons (pv 2) (pa_cons (pv 3) pa_nil)))))))) (fun a oe cls d pn hz hf => by exact (pss_one (ps_ret (pe_lst (pa_cons (pe_xf T.xf T.na_Refused_code hz hf (pv 4)) pa_nil))))))), ?_⟩)
  refine body_ofD (t := fun D σ H => tryB K (wAs K (.ref (refA K)) 4 (trySu K) (fun _ _ _ _ => False) D) D σ H) h fun ⟨w, ns, row⟩ s bs hp d dx sv bv F0 H0 R hR _ => ?_
  have hR : ∀ v H, RetD K F0 H0 d dx (oAns w ns row s bs).2.1 (oAns w ns row s bs).2.2 (oAns w ns row s bs).1 v H → R v H := fun v H r => hR _ _ _ rfl v H r
  intro σ H1 D ⟨F1, q⟩ nx rt
  have ha : EvA (tCons (tVar 0) (tCons (tVar 1) (tCons (tVar 2) (tCons (tVar 3) tNil)))) [some (IsP (.ref d)), some (IntP w), some (IntsP ns), some (IntsP row), none] (Wdk K d dx sv bv s bs) [IsP (.ref d), IntP w, IntsP ns, IntsP row] := ea_cons (ev_var rfl) (ea_cons (ev_var rfl) (ea_cons (ev_var rfl) (ea_cons (ev_var rfl) ea_nil)))
  refine (ha σ F1 H1 q.ok (fun vs H1 => sp_done K vs H1 D.rt (WE (wAs K (.ref (refA K)) 4 (trySu K) (fun _ _ _ _ => False) D) σ)) fun xs F2 H2 n2 p2 => ?_ : tryB K (wAs K (.ref (refA K)) 4 (trySu K) (fun _ _ _ _ => False) D) D σ H1)
  have q2 := q.next n2
  show sp_done K xs H2 _ _
  match xs, p2 with
  | v :: vs, p2 =>
    obtain rfl : v = V.ref d := p2.1
    refine spD_g (CR := refA K) (Ps := fun i : Int × List Int × List Int => [IntP i.1, IntsP i.2.1, IntsP i.2.2]) (out := fun i s bs => oDone i.1 i.2.1 i.2.2 s bs) (w, ns, row) hp vs F2 H2 p2.2 q2.ok.s q2.dk _ _ (fun Rr s' bs' e v H3 r => ?_) fun c e => ?_
    · refine rt _ _ (hR _ _ ?_)
      have e : oDone w ns row s bs = .ok (Rr, s', bs') := e
      unfold oAns
      rw [e]
      exact r.from q2
    · have e : oDone w ns row s bs = .error c := e
      intro F3 H3 dd n3 hdd
      refine ⟨true, T.exmR, fun _ a ha => ?_, fun h => by cases h⟩
      have q3 := q2.next n3
      obtain ⟨va, h4, hva⟩ := (q3.ok.t.set (i := 4) (v := .ref a) (P := IsP (.ref a)) rfl).get (i := 4) (P := IsP (.ref a)) rfl
      obtain rfl : va = V.ref a := hva
      refine ⟨.ref a, h4, rfl, rfl, dd, _, .int c, rfl, hdd, rfl, ?_⟩
      refine ev_lst (t := tCons (tC (.int c)) tNil) (ea_cons ev_int ea_nil) (show 1 ≤ sizeLine by decide) σ F3 H3 q3.ok _ fun v F4 H4 n4 p4 => ?_
      have q4 := q3.next n4
      refine rt _ _ (hR _ _ ?_)
      unfold oAns
      rw [e]
      exact ⟨F4, sv, bv, q4.n.weak, q4.dk, p4⟩
end Sw
set_option maxRecDepth 100000
set_option maxHeartbeats 2000000
/-! # A new desk -/
namespace Sw
open PySem L2
variable {P : Program} {w : World} {K : PySem.W.Frag} {mg : Str → Option Value} {base : Heap}
abbrev sto0 : Sto := ⟨[], [], []⟩
theorem ev_dnewK {α : Type} {Rf : α → VP} {Γ : List (Option VP)} {W : Wd} : EvG tDNewK Γ W (DctP Rf []) := fun σ F H o Q k d hd => k _ _ _ (New.upd o.s hd) ⟨d, [], rfl, upd_same, trivial⟩
/-- __init__ of the desk -/
def spDI (K : PySem.W.Frag) : Sp := fun vs H Q _ => ∃ (x dx : Addr) (F : Hp), vs = [.ref x] ∧ H x = some (.ins (He.ga K "Desk") dx []) ∧ F x = none ∧ Sub F H ∧ ∀ F' H' sv bv, NewX (fun a => a = x) F H F' H' → DkAt K H' F' x dx sv bv sto0 [] → Q .non H'
theorem spDI_len (vs : List V) (H : Hp) (Q : VK) (E : XK) : spDI K vs H Q E → vs.length = 1 := fun ⟨x, dx, F, e, _⟩ => by rw [e]; rfl
theorem ok_Desk_init (T : Txt K mg) : FnOk P w K mg base CX0 4 (He.fAd K ("Desk", some "__init__")) (fdOf K ("Desk", some "__init__")) ["self"] (spDI K) := by
  refine T.D_Desk_init.ok sc_Desk_init (spDI_len) (fun cdv A outer s H vs Q E hr h => ⟨_, PSs.nox (pss_cons (ps_fld (pv 0) (pe_make T.mk_Store (ok_Store_init T) (hr.mono (by decide)) (by rfl) T.g_Store T.b_Store_init .nil pass0 (pa_cons pe_dnewK (pa_cons pe_dnewK (pa_cons pe_dnewK pa_nil)))) rfl) (pss_one (ps_fld (pv 0) (pe_lst pa_nil) rfl))), ?_⟩)
  obtain ⟨x, dx, F, rfl, hx, hF, hs, k⟩ := h
  have hS : EvG (tMake (He.ga K "Store") (spI (He.ga K "Store") ["materials", "rules", "formulas"]) [] E0 (tCons tDNewK (tCons tDNewK (tCons tDNewK tNil)))) [some (IsP (.ref x))] W0 (StoP K sto0) := ev_make (Ps := [DctP (MatP K) [], DctP (RulP K) [], DctP FormP []]) (ea_cons ev_dnewK (ea_cons ev_dnewK (ea_cons ev_dnewK ea_nil)))
  unfold tSeq sFld
  refine hS (start ["self"] [.ref x]) F H ⟨Typed.start (N := ["self"]) (Ps := [IsP (.ref x)]) ⟨rfl, trivial⟩, hs, (fun _ _ e => nomatch e), trivial, fun _ e => absurd rfl e⟩ _ fun sv F1 H1 n1 p1 => ?_
  have hx1 := n1.ex _ _ hx
  have hF1 : F1 x = none := new_none n1 hF (by rw [hx]; simp)
  refine ⟨.ref x, rfl, x, He.ga K "Desk", dx, [], rfl, hx1, He.cls_ok (T.fact 83 (f := .cls "Desk") rfl), T.na_Desk_store, by decide, ?_⟩
  dsimp only [tLst, tNil, putF]
  have n2 : NewX (fun a => a = x) F H F1 (upd H1 x (.ins (He.ga K "Desk") dx [("store", sv)])) := ⟨n1.f, fun a o c e => by rw [upd_ne c]; exact n1.h a o id e, n1.s.upd hF1, n1.n⟩
  refine ⟨by decide, fun p hp => ?_⟩
  have hpx : x ≠ p := fun e => by rw [← e, upd_same] at hp; cases hp
  have n3 := New.upd (o := .lst []) n2.s hp
  refine ⟨.ref x, rfl, x, He.ga K "Desk", dx, [("store", sv)], rfl, by rw [upd_ne hpx, upd_same], He.cls_ok (T.fact 83 (f := .cls "Desk") rfl), T.na_Desk_before, by show 1 < 1000; decide, ?_⟩
  have hF3 : upd F1 p (.lst []) x = none := by rw [upd_ne hpx]; exact hF1
  refine k (upd F1 p (.lst [])) _ sv (.ref p) ⟨?_, ?_, ?_, ?_⟩ ⟨upd_same, hF3, (StoP K sto0).mono p1 n3.f, ⟨p, [], rfl, upd_same, trivial⟩⟩
  · exact n1.f.trans n3.f
  · intro a o c e
    rw [upd_ne c]
    exact n3.ex a o (n2.h a o c e)
  · exact n3.s.upd hF3
  · intro a h1 h2
    by_cases c : F1 a = none
    · have := n3.n a c h2
      by_cases q : a = x
      · subst q
        rw [hF3] at h2
        exact absurd rfl h2
      · rw [upd_ne q] at this
        cases e : H a with
        | none => rfl
        | some o => rw [n1.ex a o e] at this; cases this
    · exact n1.n a h1 c
end Sw
set_option maxRecDepth 100000
set_option maxHeartbeats 2000000
/-! # Rules for the calls -/
namespace Sw
open PySem L2
/-- what is handed in, the desk -/
def Wz (K : PySem.W.Frag) (a : Addr) (oa : Option HO) (d dx : Addr) (sv bv : V) (s : Sto) (bs : List Sto) : Wd := ⟨fun b => if b = d then some (dkO K dx sv bv) else if b = a then oa else none, fun b => b = d, fun F => StoP K s sv F ∧ LstP (bs.map (StoP K)) bv F, fun h e => ⟨(StoP K s).mono h.1 e, (LstP _).mono h.2 e⟩⟩
/-- and the answers -/
abbrev Wn (K : PySem.W.Frag) (a : Addr) (oa : Option HO) (d dx : Addr) (sv bv : V) (s : Sto) (bs : List Sto) (f : Addr) (xs : List V) (Ps : List VP) : Wd := (Wz K a oa d dx sv bv s bs).lst f xs Ps
section
variable {F0 H0 F H F2 H2 : Hp} {Γ Δ : List (Option VP)} {W W2 : Wd} {A B : As} {R : VK} {P P' : VP} {t u : TS} {te tb : TE} {ta : TA} {K : PySem.W.Frag} {mg : Str → Option Value} {a d dx f : Addr} {sv bv : V} {s : Sto} {bs : List Sto} {E : XK} {σ : L2.St} {sp : Sp} {Ps : List VP} {oa : Option HO} {l : List Int} {xs : List V} {CR : Addr} {i : Nat}
/-- the list that was handed in: in the heap, or one of the file's -/
def AtA (K : PySem.W.Frag) (a : Addr) (oa : Option HO) (d f : Addr) (l : List Int) : Prop := (Rd (fun b => if b = a then oa else none) a (.lst (l.map V.int)) ∧ d ≠ a ∧ f ≠ a) ∨ (oa = none ∧ ∀ H, SqL K H a (l.map V.int))
theorem wn_a (h : AtA K a oa d f l) : SqL K (Wn K a oa d dx sv bv s bs f xs Ps).X a (l.map V.int) := by
  rcases h with ⟨h, h1, h2⟩ | ⟨_, h⟩
  · have e : (Wn K a oa d dx sv bv s bs f xs Ps).X a = oa := by
      show upd _ f _ a = _
      rw [upd_ne (Ne.symm h2)]
      show (if a = d then _ else if a = a then oa else none) = _
      rw [if_neg (Ne.symm h1), if_pos rfl]
    have e2 : (fun b => if b = a then oa else none) a = oa := if_pos rfl
    refine .inl (h.elim (fun h => .inl ?_) fun ⟨o, h⟩ => .inr ⟨o, ?_⟩)
    · rw [e]; rw [← e2]; exact h
    · rw [e]; rw [← e2]; exact h
  · exact h _
theorem wn_d (h : f ≠ d) : (Wn K a oa d dx sv bv s bs f xs Ps).X d = some (dkO K dx sv bv) := by
  show upd _ f _ d = _
  rw [upd_ne (Ne.symm h)]
  exact if_pos rfl
theorem sql_ex {H H' : Hp} {vs : List V} (h : SqL K H a vs) (e : Ex H H') : SqL K H' a vs := h.elim (fun h => .inl (h.elim (fun h => .inl (e _ _ h)) fun ⟨o, h⟩ => .inr ⟨o, e _ _ h⟩)) fun h => .inr h
/-! ### a list that was handed in -/
theorem ev_ixZ {j : Nat} {z : Int} (hs : Γ[i]? = some (some (IsP (.ref a)))) (hX : SqL K W.X a (l.map V.int)) (hb : EvG tb Γ W (IntP (j : Int))) (hz : l[j]? = some z) : EvG (tOp (rIxL K) (tVar i) tb) Γ W (IntP z) := fun σ F H o Q k => by
  obtain ⟨v, h1, rfl⟩ := o.t.get hs
  refine ⟨_, h1, hb σ F H o _ fun y F2 H2 n p => ?_⟩
  refine ⟨a, l.map V.int, (j : Int), V.int z, rfl, p, sql_ex (sql_ex hX o.x) n.ex, ?_, k _ _ _ n rfl⟩
  exact atI_nat (by rw [List.getElem?_map, hz]; rfl)
theorem ev_slZ {j e : Nat} {tl th : TO} (hs : Γ[i]? = some (some (IsP (.ref a)))) (hX : SqL K W.X a (l.map V.int)) (hl : OpE tl Γ W (some (j : Int))) (hh : OpE th Γ W (some (e : Int))) (he : e ≤ l.length) (hj : j ≤ e) : EvG (tSl (rSlL K) (tVar i) tl th) Γ W (IntsP ((l.drop j).take (e - j))) := fun σ F H o Q k => by
  obtain ⟨v, h1, rfl⟩ := o.t.get hs
  refine ⟨_, h1, hl σ F H o _ fun F1 H1 n1 => ?_⟩
  refine hh σ F1 H1 (o.next n1) _ fun F2 H2 n2 => ?_
  have n := New.trans n1 n2
  refine ⟨a, l.map V.int, rfl, sql_ex (sql_ex hX o.x) n.ex, fun p hp => k _ _ _ (New.trans n (New.upd n.s hp)) ⟨p, _, rfl, upd_same, ?_⟩⟩
  have e1 : cutV (l.map V.int) (some (j : Int)) (some (e : Int)) = ((l.drop j).take (e - j)).map V.int := by
    unfold cutV
    rw [HT.sIx_nat, HT.sIx_nat, List.length_map, Nat.min_eq_left he, Nat.min_eq_left (Nat.le_trans hj he), List.map_take, List.map_drop]
  rw [e1]
  exact AllP.of_ints _ _
theorem ev_lenZ (hs : Γ[i]? = some (some (IsP (.ref a)))) (hX : SqL K W.X a (l.map V.int)) : EvG (tCB (rLenSeq K) (tCons (tVar i) tNil)) Γ W (IntP (l.length : Int)) := fun σ F H o Q k => by
  obtain ⟨v, h1, rfl⟩ := o.t.get hs
  refine ⟨_, h1, a, l.map V.int, rfl, .inl (sql_ex hX o.x), ?_⟩
  rw [List.length_map]
  exact k.here o.s rfl
/-! ### the tables of the file -/
theorem ev_numG (T : Txt K mg) {j : Nat} {z : Int} (hb : EvG tb Γ W (IntP (j : Int))) (hz : numbersL[j]? = some z) : EvG (tOp (rIxL K) (tC (.ref (He.ga K "NUMBERS"))) tb) Γ W (IntP z) := fun σ F H o Q k => by
  refine hb σ F H o _ fun y F2 H2 n p => ?_
  refine ⟨He.ga K "NUMBERS", _, (j : Int), V.int z, rfl, p, He.lstB_ok T.parts.1 H2, ?_, k _ _ _ n rfl⟩
  exact atI_nat (by rw [List.getElem?_map, List.getElem?_map, hz]; rfl)
theorem ev_listed (T : Txt K mg) {j : Int} (ha : EvG te Γ W (IntP j)) : EvG (tOp (rIn K false) te (tC (.ref (He.ga K "LISTED")))) Γ W (BoolP (decide (j ∈ listedL))) := fun σ F H o Q k => by
  refine ha σ F H o _ fun y F2 H2 n p => ?_
  obtain rfl : y = V.int j := p
  have h := He.tupB_ok T.parts.2.1 H2
  have e : (listedL.map He.Dv.int).map (He.Dv.v K) = listedL.map V.int := by rw [List.map_map]; rfl
  rw [e] at h
  refine ⟨He.ga K "LISTED", listedL.map V.int, rfl, .inr h, rfl, flat_ints _, ?_⟩
  refine k _ _ _ n ?_
  show V.bl _ = V.bl _
  rw [inV_ints]; rfl
/-! ### at += e -/
theorem ht_aug {x y : Int} (hs : Γ[i]? = some (some (IntP x))) (h : EvG te Γ W (IntP y)) (e : Γ.set i (some (IntP (x + y))) = Δ := by rfl) : HT (TyA No F0 H0 Γ W) (tAug i te (ipI fun i j => i + j)) (TyA No F0 H0 Δ W) R := fun σ H D ⟨F, q⟩ nx rt => by
  obtain ⟨v, h1, h2⟩ := q.ok.t.get hs
  obtain rfl : v = V.int x := h2
  refine ⟨_, h1, h σ F H q.ok _ fun v F2 H2 n p => ?_⟩
  obtain rfl : v = V.int y := p
  refine ⟨x, y, rfl, rfl, nx _ _ ⟨F2, ?_⟩⟩
  rw [← e]
  exact (q.next n).set rfl
/-! ### the desk changes -/
theorem TyS.nextD (q : TyS No F0 H0 Γ W F σ H) (hd : W.loc d) (n : NewX (fun a => a = d) F H F2 H2) (hf : F2 d = none) (h2 : H2 d ≠ none) (hX : ∀ b, b ≠ d → W2.X b = W.X b) (hXd : ∀ o, W2.X d = some o → H2 d = some o) (hl : W2.loc = W.loc) (hg : W2.g F2) : TyS No F0 H0 Γ W2 F2 σ H2 := by
  have h0 : H0 d = none := ((q.l d hd).2.1).resolve_right id
  have back : ∀ b, F b = none → H b ≠ none → F2 b = none := fun b hb hh => by
    cases e : F2 b with
    | none => rfl
    | some o => exact absurd (n.n b hb (by rw [e]; simp)) hh
  have up : ∀ b, H b ≠ none → H2 b ≠ none := fun b hb => by
    by_cases c : b = d
    · rw [c]; exact h2
    · cases e : H b with
      | none => exact absurd e hb
      | some o => rw [n.h b o c e]; simp
  refine ⟨⟨q.n.f.trans n.f, fun b o _ e => ?_, n.s, fun b hb hh => ?_⟩, ⟨q.ok.t.mono n.f, n.s, fun b o e => ?_, hg, fun b hb => ?_⟩, fun b hb => ?_, fun _ h => h.elim⟩
  · have c : b ≠ d := fun c => by rw [c, h0] at e; cases e
    exact n.h b o c (q.n.h b o id e)
  · by_cases c : F b = none
    · have := n.n b c hh
      exact q.none0 this
    · exact q.n.n b hb c
  · by_cases c : b = d
    · rw [c] at e ⊢; exact hXd o e
    · rw [hX b c] at e
      exact n.h b o c (q.ok.x b o e)
  · by_cases c : b = d
    · rw [c]; exact hf
    · rw [hX b c] at hb
      exact back b (q.ok.xf b hb) (ex_some q.ok.x hb)
  · rw [hl] at hb
    obtain ⟨l1, l2, l3⟩ := q.l b hb
    exact ⟨back b l1 l3, l2, up b l3⟩
/-- x = f(desk, ..) -/
theorem ht_setC {j : Nat} {s' : Sto} {bs' : List Sto} (hfd : f ≠ d) (h : EvA ta Γ (Wn K a oa d dx sv bv s bs f xs Ps) (IsP (.ref d) :: Qs)) (hm : MutG K CR sp d dx sv bv s bs Qs (.ok (P, s', bs'))) (e : Γ.set j (some P) = Δ := by rfl) :
    HT (TyA No F0 H0 Γ (Wn K a oa d dx sv bv s bs f xs Ps)) (tAsg (tCall sp [] E ta) (gName j)) (fun σ H => ∃ sv2 bv2, TyA No F0 H0 Δ (Wn K a oa d dx sv2 bv2 s' bs' f xs Ps) σ H) R := fun σ H D ⟨F, q⟩ nx rt => by
  refine h σ F H q.ok _ fun ws F1 H1 n1 p1 => ?_
  have q1 := q.next n1
  match ws, p1 with
  | v :: ws, p1 =>
    obtain rfl : v = V.ref d := p1.1
    show sp (V.ref d :: (ws ++ [])) H1 _ E
    rw [List.append_nil]
    refine hm ws F1 H1 p1.2 q1.ok.s ⟨q1.ok.x d _ (wn_d hfd), q1.ok.xf d (by rw [wn_d hfd]; simp), q1.ok.g.1.1, q1.ok.g.1.2⟩ _ E (fun Rr s2 bs2 e2 v H2 r => ?_) fun c e2 => (by cases e2)
    cases e2
    obtain ⟨F2, sv2, bv2, n, dk, p⟩ := r
    refine nx _ _ ⟨sv2, bv2, F2, ?_⟩
    rw [← e]
    refine TyS.set (q1.nextD (d := d) (.inr rfl) n dk.f (by rw [dk.h]; simp) (fun b hb => ?_) (fun o ho => ?_) rfl ⟨⟨dk.s, dk.b⟩, ?_⟩) p
    · show upd _ f _ b = upd _ f _ b
      by_cases c : b = f
      · rw [c, upd_same, upd_same]
      · rw [upd_ne c, upd_ne c]
        show (if b = d then _ else if b = a then _ else none) = (if b = d then _ else if b = a then _ else none)
        rw [if_neg hb, if_neg hb]
    · rw [wn_d hfd] at ho
      rw [← ho]; exact dk.h
    · exact q1.ok.g.2.mono n.f
end
end Sw
set_option maxRecDepth 100000
set_option maxHeartbeats 2000000
/-! # The answers to a row of calls -/
namespace Sw
open PySem L2
/-- a call: its word, its numbers, its row -/
abbrev Cl3 := Int × List Int × List Int
def enc3 (c : Cl3) : List Int := c.1 :: (c.2.1 ++ if c.1 ∈ listedL then (c.2.2.length : Int) :: c.2.2 else [])
def toldL (ls : List (List Int)) : List Int := ls.flatMap fun a => (a.length : Int) :: a
structure ClOk (c : Cl3) : Prop where
  i : InpOk c.1 c.2.1 c.2.2
  r : c.1 ∉ listedL → c.2.2 = []
inductive Runs : Sto → List Sto → List Cl3 → List (List Int) → Prop
  | nil (s : Sto) (bs : List Sto) : Runs s bs [] []
  | cons {s : Sto} {bs : List Sto} {c : Cl3} {l : List Int} {s' : Sto} {bs' : List Sto} {cs : List Cl3} {ls : List (List Int)} : StoOk s → BsOk bs → ClOk c → oAns c.1 c.2.1 c.2.2 s bs = (IntsP l, s', bs') → Runs s' bs' cs ls → Runs s bs (c :: cs) (l :: ls)
/-- between two calls -/
structure Tn (l tot : List Int) where
  pre : List Int
  cs : List Cl3
  ls : List (List Int)
  s : Sto
  bs : List Sto
  out : List Int
  sv : V
  bv : V
  xs : List V
  hl : l = pre ++ cs.flatMap enc3
  hr : Runs s bs cs ls
  ht : tot = out ++ toldL ls
variable {P : Program} {w : World} {K : PySem.W.Frag} {mg : Str → Option Value} {base : Heap}
def Hn : Hp := fun _ => none
def sp_answers (K : PySem.W.Frag) : Sp := fun vs H Q E => ∃ (a : Addr) (l : List Int) (cs : List Cl3) (ls : List (List Int)), vs = [.ref a] ∧ SqL K H a (l.map V.int) ∧ l = cs.flatMap enc3 ∧ Runs sto0 [] cs ls ∧ (toldL ls).length ≤ 10000000 ∧ ∀ v F H', New Hn H F H' → IntsP (toldL ls) v F → Q v H'
theorem sp_answers_len (vs : List V) (H : Hp) (Q : VK) (E : XK) : sp_answers K vs H Q E → vs.length = 1 := fun ⟨a, l, cs, ls, e, _⟩ => by rw [e]; rfl
def Gn (a d f : Addr) (at_ : Nat) : List (Option VP) := [some (IsP (.ref a)), some (IsP (.ref d)), some (IsP (.ref f)), some (IntP (at_ : Int)), none, none, none, none]
theorem ht_begin {a : Addr} {l : List Int} {H0 : Hp} (ha : SqL K H0 a (l.map V.int)) {R : VK} :
    HT (fun σ H => H = H0 ∧ σ = start ["calls", "desk", "found", "at", "word", "numbers", "row", "answer"] [.ref a]) (tPar3 1 2 3 (tCons (tMake (He.ga K "Desk") (spDI K) [] E0 tNil) (tCons (tLst tNil) (tCons (tC (.int 0)) tNil))))
      (fun σ H => ∃ d dx sv bv f oa, f ≠ d ∧ AtA K a oa d f l ∧ TyA No Hn H0 (Gn a d f 0) (Wn K a oa d dx sv bv sto0 [] f [] []) σ H) R := by
  rintro σ H D ⟨rfl, rfl⟩ nx rt
  intro x dx hx hdx hne
  refine ⟨x, dx, Hn, rfl, upd_same, rfl, Sub.nil _, fun F' H' sv bv n dk => ⟨rfl, ?_⟩⟩
  have hup : ∀ b o, b ≠ x → b ≠ dx → H b = some o → H' b = some o := fun b o h1 h2 e => n.h b o h1 (by rw [upd_ne h1, upd_ne h2]; exact e)
  have hold : ∀ b o, H b = some o → b ≠ x ∧ b ≠ dx := fun b o e => ⟨fun c => (by rw [c, hx] at e; cases e), fun c => (by rw [c, hdx] at e; cases e)⟩
  have hback : ∀ b, F' b ≠ none → H b = none := fun b hb => by
    have := n.n b rfl hb
    cases e : H b with
    | none => rfl
    | some o =>
      obtain ⟨h1, h2⟩ := hold b o e
      rw [upd_ne h1, upd_ne h2, e] at this
      cases this
  have hoa : ∃ oa : Option HO, (∀ o, oa = some o → H a = some o) ∧ ((Rd (fun b => if b = a then oa else none) a (.lst (l.map V.int)) ∧ oa ≠ none) ∨ (oa = none ∧ ∀ H, SqL K H a (l.map V.int))) := by
    rcases ha with ha | ha
    · refine ⟨H a, fun o e => e, .inl ⟨?_, ?_⟩⟩
      · have e : (fun b => if b = a then H a else none) a = H a := if_pos rfl
        exact ha.elim (fun h => .inl (e.trans h)) fun ⟨o, h⟩ => .inr ⟨o, e.trans h⟩
      · rcases ha with h | ⟨o, h⟩ <;> rw [h] <;> simp
    · exact ⟨none, (fun o e => by cases e), .inr ⟨rfl, fun H => .inr ha⟩⟩
  obtain ⟨oa, hoa1, hoa2⟩ := hoa
  have q : TyS No Hn H [some (IsP (.ref a)), none, none, none, none, none, none, none] (Wz K a oa x dx sv bv sto0 []) F' (start ["calls", "desk", "found", "at", "word", "numbers", "row", "answer"] [.ref a]) H' := by
    refine ⟨⟨(fun _ _ e => nomatch e), fun b o _ e => hup b o (hold b o e).1 (hold b o e).2 e, n.s, fun b _ hb => hback b hb⟩, ⟨Typed.start (N := ["calls", "desk", "found", "at", "word", "numbers", "row", "answer"]) (Ps := [IsP (.ref a)]) (F := F') ⟨rfl, trivial⟩, n.s, fun b o e => ?_, ⟨dk.s, dk.b⟩, fun b hb => ?_⟩, fun b hb => ?_, fun _ h => h.elim⟩
    · have e : (if b = x then some (dkO K dx sv bv) else if b = a then oa else none) = some o := e
      split at e
      · rename_i c
        rw [c, ← e]; exact dk.h
      · split at e
        · rename_i c
          rw [c]
          have h1 := hoa1 o e
          exact hup a o (hold a o h1).1 (hold a o h1).2 h1
        · cases e
    · have hb : (if b = x then some (dkO K dx sv bv) else if b = a then oa else none) ≠ none := hb
      split at hb
      · rename_i c
        rw [c]; exact dk.f
      · split at hb
        · rename_i c
          rw [c]
          cases e : F' a with
          | none => rfl
          | some o =>
            have h0 := hback a (by rw [e]; simp)
            cases e2 : oa with
            | none => exact absurd e2 hb
            | some o2 =>
              rw [hoa1 o2 e2] at h0
              cases h0
        · exact absurd rfl hb
    · have hb : b = x := hb
      rw [hb]
      exact ⟨dk.f, .inl hx, by rw [dk.h]; simp⟩
  refine ⟨by decide, fun p hp => ⟨_, _, _, rfl, nx _ _ ⟨x, dx, sv, bv, p, oa, ?_, ?_, F', ?_⟩⟩⟩
  · intro e
    rw [e, dk.h] at hp
    cases hp
  · refine hoa2.imp (fun ⟨h1, h2⟩ => ?_) id
    cases e2 : oa with
    | none => exact absurd e2 h2
    | some o2 =>
      have h3 := hoa1 o2 e2
      refine ⟨e2 ▸ h1, Ne.symm (hold a o2 h3).1, fun e => ?_⟩
      rw [e, hup a o2 (hold a o2 h3).1 (hold a o2 h3).2 h3] at hp
      cases hp
  · exact ((q.set (i := 1) (v := .ref x) (P := IsP (.ref x)) rfl).fresh (i := 2) hp (g := fun F => AllP [] [] F) (mono := AllP.mono) trivial).set (i := 3) (v := .int 0) (P := IntP 0) rfl
end Sw
set_option maxRecDepth 100000
set_option maxHeartbeats 4000000
/-! # The answers to a row of calls: the loop -/
namespace Sw
open PySem L2
theorem nums_of : ∀ n : Nat, n < 25 → numbersL[n]? = some ((many (n : Int) : Nat) : Int) := by decide
theorem enc3_len (c : Cl3) : (enc3 c).length = 1 + c.2.1.length + (if c.1 ∈ listedL then 1 + c.2.2.length else 0) := by
  unfold enc3
  rw [List.length_cons, List.length_append]
  by_cases h : c.1 ∈ listedL
  · rw [if_pos h, if_pos h, List.length_cons]; omega
  · rw [if_neg h, if_neg h, List.length_nil]; omega
variable {P : Program} {w : World} {K : PySem.W.Frag} {mg : Str → Option Value} {base : Heap}
theorem ok_answers (T : Txt K mg) : FnOk P w K mg base CX0 17 (He.fAd K ("answers", none)) (fdOf K ("answers", none)) ["calls"] (sp_answers K) := by
  refine T.D_answers.ok sc_answers (sp_answers_len) (fun cdv A outer s H vs Q E hr h => ⟨_, PSs.nox (pss_cons (ps_par3 (i := 1) (j := 2) (l := 3) (by rfl) sc_answers.nd rfl rfl rfl (by decide) (by decide) (by decide) rfl rfl rfl (pa_cons (pe_make0 T.mk_Desk (ok_Desk_init T) (hr.mono (by decide)) (by rfl) T.g_Desk T.b_Desk_init .nil pass0) (pa_cons (pe_lst pa_nil) (pa_cons pe_int pa_nil))) (by rfl)) (pss_cons (ps_while PassesOwn.never (pt_cmpR op_lt (pv 3) (pe_callB cr_lenSeq (by rfl) T.f_len bb_len (pa_cons (pv 0) pa_nil)) (nomark _)) (pss_cons (ps_set (i := 4) sc_answers.nd rfl (Or.inl rfl) (pe_ix ix_list (pv 0) (pv 3) (fun _ _ => rfl))) (pss_cons (ps_set (i := 5) sc_answers.nd rfl (Or.inl rfl) (pe_slice sl_list (pv 0) (po_some (pe_op op_add (pv 3) pe_int)) (po_some (pe_op op_add (pe_op op_add (pv 3) pe_int) (pe_ix ix_list (pe_glob (v := .ref (He.ga K "NUMBERS")) (by rfl) T.g_NUMBERS rfl) (pv 4) (fun _ _ => rfl)))))) (pss_cons (ps_aug (i := 3) sc_answers.nd rfl (Or.inl rfl) (pe_op op_add pe_int (pe_ix ix_list (pe_glob (v := .ref (He.ga K "NUMBERS")) (by rfl) T.g_NUMBERS rfl) (pv 4) (fun _ _ => rfl))) ip_add) (pss_cons (ps_set (i := 6) sc_answers.nd rfl (Or.inl rfl) (pe_lst pa_nil)) (pss_cons (ps_if (pt_cmpR op_in_seq (pv 4) (pe_glob (v := .ref (He.ga K "LISTED")) (by rfl) T.g_LISTED rfl) (by rfl)) (pss_cons (ps_set (i := 6) sc_answers.nd rfl (Or.inl rfl) (pe_slice sl_list (pv 0) (po_some (pe_op op_add (pv 3) pe_int)) (po_some (pe_op op_add (pe_op op_add (pv 3) pe_int) (pe_ix ix_list (pv 0) (pv 3) (fun _ _ => rfl)))))) (pss_one (ps_aug (i := 3) sc_answers.nd rfl (Or.inl rfl) (pe_op op_add pe_int (pe_ix ix_list (pv 0) (pv 3) (fun _ _ => rfl))) ip_add))) pss_nil) (pss_cons (ps_set (i := 7) sc_answers.nd rfl (Or.inl rfl) (pe_call (ok_answer_of T) (hr.mono (by decide)) (by rfl) T.g_answer_of T.k_answer_of T.b_answer_of .nil pass0 (pa_cons (pv 1) (pa_cons (pv 4) (pa_cons (pv 5) (pa_cons (pv 6) pa_nil)))))) (pss_cons (ps_expr (pe_bm PySem.F.plainAttrs_list PySem.F.slot_list_append PySem.F.type_list_append mt_append (pv 2) (pa_cons (pe_callB cr_lenSeq (by rfl) T.f_len bb_len (pa_cons (pv 7) pa_nil)) pa_nil))) (pss_one (ps_expr (pe_bm PySem.F.plainAttrs_list PySem.F.slot_list_extend PySem.F.type_list_extend mt_extend (pv 2) (pa_cons (pv 7) pa_nil)))))))))))) (pss_one (ps_ret (pv 2))))), ?_⟩)
  obtain ⟨a, l, cs, ls, rfl, ha, hl, hr, htl, k⟩ := h
  have tot : ∃ tot, tot = toldL ls := ⟨_, rfl⟩
  obtain ⟨tot, htot⟩ := tot
  rw [← htot] at htl k
  refine ht_seq (C := fun _ _ => False) (R := fun v H' => ∃ F, New Hn H F H' ∧ IntsP tot v F) (ht_begin ha) (ht_ex fun d => ht_ex fun dx => ht_ex fun sv => ht_ex fun bv => ht_ex fun f => ht_ex fun oa => ht_and fun hfd => ht_and fun hA => ?_) _ _ _ ⟨rfl, rfl⟩ (fun _ _ z => z.elim) fun v H' ⟨F, n, p⟩ => k v F H' n p
  let Ws : Tn l tot → Wd := fun b => Wn K a oa d dx b.sv b.bv b.s b.bs f b.xs (b.out.map IntP)
  refine ht_seq (ht_whileT (fun b : Tn l tot => Gn a d f b.pre.length) Ws (fun b => b.cs.length) ⟨[], cs, ls, sto0, [], [], sv, bv, [], hl, hr, htot⟩ (fun σ H q => q) (fun b => decide ((b.pre.length : Int) < (l.length : Int))) (fun b => et_test (ev_lt (ev_var rfl) (ev_lenZ rfl (wn_a hA)))) (B := fun σ H' => ∃ xs s bs sv bv, TyA No Hn H (Gn a d f l.length) (Wn K a oa d dx sv bv s bs f xs (tot.map IntP)) σ H') ?_ ?_) ?_
  · rintro ⟨pre, cs, ls, s, bs, out, sv, bv, xs, hl, hr, ht⟩ hgo
    replace hgo : (pre.length : Int) < (l.length : Int) := of_decide_eq_true hgo
    cases hr with
    | nil => rw [hl] at hgo; simp at hgo
    | @cons _ _ c lans s' bs' cs ls hs hb hc hans hr =>
      obtain ⟨wd, ns, row⟩ := c
      obtain ⟨⟨⟨hw1, hw2⟩, hn, hrow⟩, hrw⟩ := hc
      have hw1 : 1 ≤ wd := hw1
      have hw2 : wd ≤ 24 := hw2
      have hn : ns.length = many wd := hn
      have hrow : row.length ≤ 22 := hrow
      obtain ⟨wn, rfl⟩ : ∃ wn : Nat, wd = wn := ⟨wd.toNat, by omega⟩
      have hrw : (wn : Int) ∉ listedL → row = [] := hrw
      have hans : oAns wn ns row s bs = (IntsP lans, s', bs') := hans
      have hnum : numbersL[wn]? = some ((ns.length : Nat) : Int) := by rw [hn]; exact nums_of wn (by omega)
      have he : enc3 ((wn : Int), ns, row) = (wn : Int) :: (ns ++ if (wn : Int) ∈ listedL then (row.length : Int) :: row else []) := rfl
      have hel := enc3_len ((wn : Int), ns, row)
      have hl : l = pre ++ ((wn : Int) :: (ns ++ if (wn : Int) ∈ listedL then (row.length : Int) :: row else [])) ++ cs.flatMap enc3 := by rw [hl, List.flatMap_cons, he, List.append_assoc]
      have hll : pre.length + 1 + ns.length ≤ l.length := by rw [hl, List.length_append, List.length_append, List.length_cons, List.length_append]; omega
      have h0 : l[pre.length]? = some (wn : Int) := by rw [hl, List.append_assoc, List.getElem?_append_right (Nat.le_refl _), Nat.sub_self]; rfl
      have h1 : (l.drop (pre.length + 1)).take (pre.length + 1 + ns.length - (pre.length + 1)) = ns := by
        rw [hl, List.append_assoc, ← List.drop_drop, List.drop_left, Nat.add_sub_cancel_left]
        show (ns ++ _ ++ _).take ns.length = ns
        rw [List.append_assoc, List.take_left]
      have hX : ∀ {xs : List V} {Ps : List VP}, SqL K (Wn K a oa d dx sv bv s bs f xs Ps).X a (l.map V.int) := wn_a hA
      have hnG : ∀ {Γ : List (Option VP)} {W : Wd}, Γ[4]? = some (some (IntP (wn : Int))) → EvG (tOp (rIxL K) (tC (.ref (He.ga K "NUMBERS"))) (tVar 4)) Γ W (IntP ((ns.length : Nat) : Int)) := fun h4 => ev_numG T (ev_var h4) hnum
      show HT (TyA No Hn H (Gn a d f pre.length) (Wn K a oa d dx sv bv s bs f xs (out.map IntP))) _ _ _
      refine ht_seq (ht_set (P := IntP (wn : Int)) (ev_ixZ rfl hX (ev_var (P := IntP (pre.length : Int)) rfl) h0)) ?_
      have ha1 : EvG (tOp (rI0 fun i j => .int (i + j)) (tVar 3) (tC (.int 1))) ((Gn a d f pre.length).set 4 (some (IntP (wn : Int)))) (Wn K a oa d dx sv bv s bs f xs (out.map IntP)) (IntP ((pre.length + 1 : Nat) : Int)) := ev_is (ev_add (ev_var (P := IntP (pre.length : Int)) rfl) ev_int) (by omega)
      have ha2 : EvG (tOp (rI0 fun i j => .int (i + j)) (tOp (rI0 fun i j => .int (i + j)) (tVar 3) (tC (.int 1))) (tOp (rIxL K) (tC (.ref (He.ga K "NUMBERS"))) (tVar 4))) ((Gn a d f pre.length).set 4 (some (IntP (wn : Int)))) (Wn K a oa d dx sv bv s bs f xs (out.map IntP)) (IntP ((pre.length + 1 + ns.length : Nat) : Int)) := ev_is (ev_add ha1 (hnG rfl)) (by omega)
      have hs1 : EvG (tSl (rSlL K) (tVar 0) (tPart (tOp (rI0 fun i j => .int (i + j)) (tVar 3) (tC (.int 1)))) (tPart (tOp (rI0 fun i j => .int (i + j)) (tOp (rI0 fun i j => .int (i + j)) (tVar 3) (tC (.int 1))) (tOp (rIxL K) (tC (.ref (He.ga K "NUMBERS"))) (tVar 4))))) ((Gn a d f pre.length).set 4 (some (IntP (wn : Int)))) (Wn K a oa d dx sv bv s bs f xs (out.map IntP)) (IntsP ns) := by
        have := ev_slZ (K := K) (Γ := (Gn a d f pre.length).set 4 (some (IntP (wn : Int)))) (W := Wn K a oa d dx sv bv s bs f xs (out.map IntP)) (l := l) (i := 0) (j := pre.length + 1) (e := pre.length + 1 + ns.length) rfl hX (oe_int ha1) (oe_int ha2) hll (by omega)
        rw [h1] at this
        exact this
      refine ht_seq (ht_set hs1) ?_
      refine ht_seq (ht_aug (x := (pre.length : Int)) (y := 1 + (ns.length : Int)) rfl (ev_add ev_int (hnG rfl))) ?_
      refine ht_seq (ht_set (P := IntsP []) (ev_lst ea_nil (show 0 ≤ sizeLine by decide))) ?_
      let G : List (Option VP) := [some (IsP (.ref a)), some (IsP (.ref d)), some (IsP (.ref f)), some (IntP ((pre ++ enc3 ((wn : Int), ns, row)).length : Int)), some (IntP (wn : Int)), some (IntsP ns), some (IntsP row), none]
      refine ht_seq (B := TyA No Hn H G (Wn K a oa d dx sv bv s bs f xs (out.map IntP))) (ht_if (et_test (ev_listed T (ev_var rfl))) (fun hq => ?_) fun hq => ?_) ?_
      · have hq : (wn : Int) ∈ listedL := of_decide_eq_true hq
        rw [if_pos hq] at hl
        have hel : (enc3 ((wn : Int), ns, row)).length = 1 + ns.length + (1 + row.length) := by rw [hel, if_pos hq]
        have e2 : l = (pre ++ (wn : Int) :: ns) ++ (((row.length : Int) :: row) ++ cs.flatMap enc3) := by rw [hl]; simp [List.append_assoc]
        have el2 : (pre ++ (wn : Int) :: ns).length = pre.length + (1 + ns.length) := by rw [List.length_append, List.length_cons]; omega
        have h2 : l[pre.length + (1 + ns.length)]? = some (row.length : Int) := by rw [← el2, e2, List.getElem?_append_right (Nat.le_refl _), Nat.sub_self]; rfl
        have hll2 : pre.length + (1 + ns.length) + 1 + row.length ≤ l.length := by
          have := congrArg List.length e2
          simp only [List.length_append, List.length_cons] at this
          omega
        have h3 : (l.drop (pre.length + (1 + ns.length) + 1)).take (pre.length + (1 + ns.length) + 1 + row.length - (pre.length + (1 + ns.length) + 1)) = row := by
          rw [Nat.add_sub_cancel_left, ← List.drop_drop, ← el2, e2, List.drop_left]
          show (row ++ _).take row.length = row
          rw [List.take_left]
        let G3 : List (Option VP) := [some (IsP (.ref a)), some (IsP (.ref d)), some (IsP (.ref f)), some (IntP ((pre.length : Int) + (1 + (ns.length : Int)))), some (IntP (wn : Int)), some (IntsP ns), some (IntsP []), none]
        have hr1 : ∀ {Γ : List (Option VP)} {W : Wd}, Γ[0]? = some (some (IsP (.ref a))) → Γ[3]? = some (some (IntP ((pre.length : Int) + (1 + (ns.length : Int))))) → SqL K W.X a (l.map V.int) → EvG (tOp (rIxL K) (tVar 0) (tVar 3)) Γ W (IntP (row.length : Int)) := fun g0 g3 gX => ev_ixZ (j := pre.length + (1 + ns.length)) g0 gX (ev_is (ev_var g3) (by omega)) h2
        have ha3 : EvG (tOp (rI0 fun i j => .int (i + j)) (tVar 3) (tC (.int 1))) G3 (Wn K a oa d dx sv bv s bs f xs (out.map IntP)) (IntP ((pre.length + (1 + ns.length) + 1 : Nat) : Int)) := ev_is (ev_add (ev_var (P := IntP ((pre.length : Int) + (1 + (ns.length : Int)))) rfl) ev_int) (by omega)
        have ha4 : EvG (tOp (rI0 fun i j => .int (i + j)) (tOp (rI0 fun i j => .int (i + j)) (tVar 3) (tC (.int 1))) (tOp (rIxL K) (tVar 0) (tVar 3))) G3 (Wn K a oa d dx sv bv s bs f xs (out.map IntP)) (IntP ((pre.length + (1 + ns.length) + 1 + row.length : Nat) : Int)) := ev_is (ev_add ha3 (hr1 rfl rfl hX)) (by omega)
        have hs2 : EvG (tSl (rSlL K) (tVar 0) (tPart (tOp (rI0 fun i j => .int (i + j)) (tVar 3) (tC (.int 1)))) (tPart (tOp (rI0 fun i j => .int (i + j)) (tOp (rI0 fun i j => .int (i + j)) (tVar 3) (tC (.int 1))) (tOp (rIxL K) (tVar 0) (tVar 3))))) G3 (Wn K a oa d dx sv bv s bs f xs (out.map IntP)) (IntsP row) := by
          have := ev_slZ (K := K) (Γ := G3) (W := Wn K a oa d dx sv bv s bs f xs (out.map IntP)) (l := l) (i := 0) (j := pre.length + (1 + ns.length) + 1) (e := pre.length + (1 + ns.length) + 1 + row.length) rfl hX (oe_int ha3) (oe_int ha4) hll2 (by omega)
          rw [h3] at this
          exact this
        refine ht_seq (ht_set hs2) (ht_aug (x := (pre.length : Int) + (1 + (ns.length : Int))) (y := 1 + (row.length : Int)) rfl (ev_add ev_int (hr1 rfl rfl hX)) ?_)
        show [_, _, _, some (IntP ((pre.length : Int) + (1 + (ns.length : Int)) + (1 + (row.length : Int)))), _, _, _, _] = G
        rw [show (pre.length : Int) + (1 + (ns.length : Int)) + (1 + (row.length : Int)) = ((pre ++ enc3 ((wn : Int), ns, row)).length : Int) by rw [List.length_append, hel]; omega]
      · have hq : (wn : Int) ∉ listedL := of_decide_eq_false hq
        have hr0 : row = [] := hrw hq
        subst hr0
        have hel : (enc3 ((wn : Int), ns, [])).length = 1 + ns.length := by rw [hel, if_neg hq]; rfl
        refine ht_post (fun σ H' q => ?_) ht_next
        have e3 : (pre.length : Int) + (1 + (ns.length : Int)) = ((pre ++ enc3 ((wn : Int), ns, [])).length : Int) := by rw [List.length_append, hel]; omega
        have q : TyA No Hn H [some (IsP (.ref a)), some (IsP (.ref d)), some (IsP (.ref f)), some (IntP ((pre.length : Int) + (1 + (ns.length : Int)))), some (IntP (wn : Int)), some (IntsP ns), some (IntsP []), none] (Wn K a oa d dx sv bv s bs f xs (out.map IntP)) σ H' := q
        rw [e3] at q
        exact q
      have hm : MutG K (refA K) (sp_answer_of K) d dx sv bv s bs [IntP (wn : Int), IntsP ns, IntsP row] (.ok (IntsP lans, s', bs')) := by
        have := spD_g (K := K) (CR := refA K) (d := d) (dx := dx) (sv := sv) (bv := bv) (s := s) (bs := bs) (Ps := fun i : Int × List Int × List Int => [IntP i.1, IntsP i.2.1, IntsP i.2.2]) (pre := fun i s bs => StoOk s ∧ BsOk bs ∧ InpOk i.1 i.2.1 i.2.2) (out := fun i s bs => .ok (oAns i.1 i.2.1 i.2.2 s bs)) ((wn : Int), ns, row) ⟨hs, hb, ⟨⟨hw1, hw2⟩, hn, hrow⟩⟩
        rw [← hans]
        exact this
      refine ht_seq (ht_setC (j := 7) hfd (ea_cons (ev_var rfl) (ea_cons (ev_var rfl) (ea_cons (ev_var rfl) (ea_cons (ev_var rfl) ea_nil)))) hm) (ht_ex fun sv2 => ht_ex fun bv2 => ?_)
      have htl2 : out.length + (1 + lans.length) ≤ 10000000 := by
        have e : (toldL (lans :: ls)).length = 1 + lans.length + (toldL ls).length := by
          unfold toldL
          rw [List.flatMap_cons, List.length_append, List.length_cons]; omega
        rw [ht, List.length_append, e] at htl
        omega
      refine ht_seq (ht_append (i := 2) (P := IntP (((lans.map IntP).length : Nat) : Int)) rfl (ev_cb (ea_cons (ev_var (P := IntsP lans) rfl) ea_nil) cb_lenL) (by rw [List.length_map]; omega)) (ht_ex fun ys => ?_)
      refine ht_post ?_ (ht_extend (i := 2) (Qs := lans.map IntP) rfl (ev_var (P := IntsP lans) rfl) (by rw [List.length_append, List.length_map, List.length_map]; show out.length + 1 + lans.length ≤ _; omega))
      rintro σ H' ⟨zs, q⟩
      have ep : out.map IntP ++ [IntP (((lans.map IntP).length : Nat) : Int)] ++ lans.map IntP = (out ++ ((lans.length : Int) :: lans)).map IntP := by
        rw [List.map_append, List.map_cons, List.append_assoc, List.length_map]; rfl
      rw [ep] at q
      refine ⟨⟨pre ++ enc3 ((wn : Int), ns, row), cs, ls, s', bs', out ++ ((lans.length : Int) :: lans), sv2, bv2, zs, ?_, hr, ?_⟩, Nat.lt_succ_self _, TyA.le (by repeat (first | exact trivial | refine ⟨.inl rfl, ?_⟩ | refine ⟨.inr rfl, ?_⟩)) σ H' q⟩
      · rw [hl, ← he]
      · rw [ht]
        unfold toldL
        rw [List.flatMap_cons, List.append_assoc]
  · rintro ⟨pre, cs, ls, s, bs, out, sv, bv, xs, hl, hr, ht⟩ hgo σ H' q
    replace hgo : ¬ (pre.length : Int) < (l.length : Int) := of_decide_eq_false hgo
    cases hr with
    | nil =>
      have e1 : l = pre := by rw [hl]; simp
      have e2 : tot = out := by rw [ht]; simp [toldL]
      subst e1
      subst e2
      exact ⟨xs, s, bs, sv, bv, q⟩
    | @cons _ _ c lans s' bs' cs ls hs hb hc hans hr =>
      exfalso
      apply hgo
      have := enc3_len c
      rw [hl, List.length_append, List.flatMap_cons, List.length_append]
      omega
  · refine ht_ex fun xs => ht_ex fun s => ht_ex fun bs => ht_ex fun sv => ht_ex fun bv => ?_
    refine ht_pre (fun σ H' q => frz_lst (i := 2) rfl ?_ ?_ id rfl σ H' q) (ht_rt (fun v H' ⟨F, n, p⟩ => ⟨F, n, p⟩) (ht_ret (P := IntsP tot) (ev_var rfl)))
    · show (if f = d then _ else if f = a then _ else none) = none
      rw [if_neg hfd]
      rcases hA with ⟨_, _, h⟩ | ⟨h, _⟩
      · rw [if_neg h]
      · rw [h]; split <;> rfl
    · exact hfd
end Sw
set_option maxRecDepth 100000
set_option maxHeartbeats 4000000
/-! # The program's part, joined -/
namespace Sw
open PySem L2 PySem.W PyProof.Rows
/-- what is left to plain Lean -/
def PureLaw : Prop := ∀ l : List Int, PyWrscts.answers_asked l = true → ∃ cs ls, l = cs.flatMap enc3 ∧ Runs sto0 [] cs ls ∧ toldL ls = PyWrscts.answers l ∧ (toldL ls).length ≤ 10000000
theorem callOf (L : PureLaw) : WalkOS Sw.qv Sw.nms (XL Sw.qv []) Sw.hk.says Sw.R (HandSHeadRun.topDef Sw.R.prog 50) [] fun f vs => PySem.call f vs := by
  intro w s₀ s₁ mg mb G Y fa o pm cd doc dV kV ho hd hcd hD hmg hg args vals as hpre hlay hrd hwl hlo
  obtain ⟨a, e1, e2⟩ := PySem.W.os_pre_some hpre
  obtain ⟨e3, hwi⟩ := Codec.encAll_of_decAll R.args args a e1
  subst e3
  obtain ⟨K, KX, Y⟩ := Y
  have T : Txt K mg := ⟨⟨_, KX, G.T.g⟩, Y.t.d, Y.more⟩
  have hfa : fa = He.fAd K ("answers", none) := by
    have h1 : mg "answers" = some (.ref fa) := hmg
    have h2 := T.g_answers
    rw [h1] at h2
    injection h2 with h3
    injection h3
  subst hfa
  have hr : Room 17 callerA := ⟨rfl, by decide, by decide⟩
  have hbind : ∀ (s : Shared) (us : List Value), us.length = ["calls"].length → BindsTo s (fdOf K ("answers", none)) ⟨us, []⟩ ((["calls"] : List Str).zip us) := FunD.bindsA (ps := ["calls"]) T.D_answers fun _ _ _ _ _ _ us hl => match us, hl with | [_], _ => rfl
  refine PySem.W.enter_call (codeAny_mono (spec_call (R := []) (cl := classAt s₀.heap) (d0 := R.ret.enc (Codec.app R.args R.f a)) (P := R.prog) (w := w) (CX := CX0) (k := 17) (ps := ["calls"]) (sp := sp_answers K) KX G.T.g G.T.b G.T.builtins G.T.nolimit hg hwl (pl_encAll _ _) (layable_weight hlay) hr (fun base _ _ => ok_answers T) hbind (by rw [encAll_len]; rfl)
    (fun H xs hO hS => ?_) fun H e s' z => z) fun r' s' hq => ?_)
  · obtain ⟨l, u⟩ := a
    cases hS with
    | cons h1 h2 =>
      cases h2
      cases h1 with
      | @lst p ys ds hs ha =>
        have e := ints_dw l _ ha
        subst e
        have e2 : PyWrscts.answers_asked l = true := e2
        obtain ⟨cs, ls, hl, hrun, htl, hlen⟩ := L l e2
        refine ⟨p, l, cs, ls, rfl, hs, hl, hrun, hlen, fun v F H' n q => ?_⟩
        obtain ⟨b, zs, rfl, h3, h4⟩ := q
        have e4 := h4.ints
        subst e4
        rw [htl] at h3
        exact .lst (SqL.of (n.s.lst h3)) (dw_ints _)
  · obtain ⟨u, as', rfl, h1, h2, h3, h4⟩ := hq
    exact ⟨.inl ⟨u, _, as', rfl, fun _ => rfl, h1, (OpenSpec.post_iff (by decide +kernel) hwi _ _).mpr rfl, fun z => Bool.noConfusion (show false = true from z)⟩, h2, h3, h4⟩
theorem joined (L : PureLaw) : PySem.Challenge.rw_swapplanner_s01_answers.Holds := Sw.head (callOf L)
end Sw
set_option maxRecDepth 100000
set_option maxHeartbeats 4000000
/-! # The store and the specification's catalogue; shares and mixtures -/
namespace Sw
open SubstitutionSpec
/-- the store holds what the catalogue holds -/
structure Rl (s : Sto) (c : Catalogue) : Prop where
  ma : Pl.Asc c.materials
  ra : Pl.Asc c.rules
  fa : Pl.Asc c.formulas
  m : ∀ k, Pl.getA s.ms k = Pl.getA c.materials k
  r : ∀ k, Pl.getA s.rs k = Pl.getA c.rules k
  f : ∀ k, Pl.getA s.fs k = Pl.getA c.formulas k
theorem nodup_of_keys {α : Type} {l : List (Nat × α)} (h : (Pl.keysA l).Nodup) : l.Nodup := by
  unfold Pl.keysA at h
  exact (List.pairwise_map.mp h).imp fun hab e => hab (by rw [e])
theorem perm_get {α : Type} {l t : List (Nat × α)} (hl : (Pl.keysA l).Nodup) (ht : (Pl.keysA t).Nodup) (h : ∀ k, Pl.getA l k = Pl.getA t k) : l.Perm t := by
  rw [List.perm_ext_iff_of_nodup (nodup_of_keys hl) (nodup_of_keys ht)]
  rintro ⟨k, x⟩
  constructor
  · intro q
    exact Pl.getA_mem ((h k).symm.trans (Pl.mem_getA hl q))
  · intro q
    exact Pl.getA_mem ((h k).trans (Pl.mem_getA ht q))
section
variable {s : Sto} {c : Catalogue}
theorem Rl.mp (h : Rl s c) (hs : StoOk s) : s.ms.Perm c.materials := perm_get hs.mn h.ma.nodup h.m
theorem Rl.rp (h : Rl s c) (hs : StoOk s) : s.rs.Perm c.rules := perm_get hs.rn h.ra.nodup h.r
theorem Rl.fp (h : Rl s c) (hs : StoOk s) : s.fs.Perm c.formulas := perm_get hs.fn h.fa.nodup h.f
theorem srt_keys {α : Type} {l t : List (Nat × α)} (h : l.Perm t) (ht : Pl.Asc t) : srt (Pl.keysA l) = Pl.keysA t :=
  (srt_one (Pl.keys_perm h).symm (ht.imp fun h => Nat.le_of_lt h)).symm
theorem Rl.nums (h : Rl s c) (hs : StoOk s) : numsOf s = Pl.keysA c.rules := srt_keys (h.rp hs) h.ra
theorem Rl.fkeys (h : Rl s c) (hs : StoOk s) : srt (Pl.keysA s.fs) = Pl.keysA c.formulas := srt_keys (h.fp hs) h.fa
theorem Rl.price (h : Rl s c) : prc s = c.priceOf := by
  funext k
  unfold prc Catalogue.priceOf
  rw [h.m, Pl.lookup_getA]
theorem Rl.attr (h : Rl s c) : att s = c.attributeOf := by
  funext i k
  unfold att Catalogue.attributeOf
  rw [h.m, Pl.lookup_getA]
theorem Rl.una (h : Rl s c) : una s = c.isUnavailable := by
  funext k
  unfold Sw.una Catalogue.isUnavailable
  rw [h.m, Pl.lookup_getA]
theorem Rl.mst (h : Rl s c) : mst s = c.maxShareOf := by
  funext k
  unfold Sw.mst Catalogue.maxShareOf
  rw [h.m, Pl.lookup_getA]
  rfl
/-! ### shares of a mixture -/
def nrm (t : Mixture) : List (Nat × Rat) := (t.filter fun e => decide (e.2 ≠ 0)).map fun e => (e.1, e.2 / totalAmount t)
theorem foldl_sumRat {α : Type} (g : α → Rat) (l : List α) (a : Rat) : l.foldl (fun acc e => acc + g e) a = a + sumRat (l.map g) := by
  induction l generalizing a with
  | nil => show a = a + 0; grind
  | cons e l ih =>
    rw [List.foldl_cons, ih, List.map_cons]
    show a + g e + _ = a + (g e + sumRat _)
    grind
theorem rdiv (a b : Rat) : a / b = a * b⁻¹ := Rat.div_def a b
theorem sum_nrm (p : Nat → Nat) (k : Rat) : ∀ l : List (Nat × Rat), sumRat (((l.filter fun e => decide (e.2 ≠ 0)).map fun e => (e.1, e.2 / k)).map fun e => e.2 * (p e.1 : Rat)) = sumRat (l.map fun e => e.2 * (p e.1 : Rat)) / k
  | [] => by show (0 : Rat) = 0 / k; rw [rdiv]; grind
  | e :: l => by
    have ih := sum_nrm p k l
    by_cases h : e.2 = 0
    · rw [List.filter_cons_of_neg (by simp [h]), ih, List.map_cons]
      show _ = (e.2 * _ + sumRat _) / k
      rw [h]
      congr 1
      grind
    · rw [List.filter_cons_of_pos (by simp [h]), List.map_cons, List.map_cons, List.map_cons]
      show e.2 / k * _ + sumRat _ = (e.2 * _ + sumRat _) / k
      rw [ih, rdiv, rdiv, rdiv]
      grind
theorem wsum_nrm (p : Nat → Nat) (t : Mixture) : wsum p (nrm t) = weightedMean t p := by
  unfold wsum
  rw [foldl_sumRat]
  unfold nrm
  rw [sum_nrm]
  unfold weightedMean
  grind
theorem cost_nrm (h : Rl s c) (t : Mixture) : costP s (nrm t) = c.cost t := by
  unfold costP Catalogue.cost
  rw [wsum_nrm, h.price]
theorem col_nrm (h : Rl s c) (t : Mixture) (i : Nat) : colP s (nrm t) i = weightedMean t (c.attributeOf i) := by
  unfold colP
  rw [wsum_nrm, h.attr]
theorem profile_nrm (h : Rl s c) (t : Mixture) : (List.range 6).map (colP s (nrm t)) = c.profile t := by
  unfold Catalogue.profile
  exact List.map_congr_left fun i _ => col_nrm h t i
theorem absD_comm (a b : Rat) : absDifference a b = absDifference b a := by
  unfold absDifference
  split <;> split <;> grind
theorem dist_nrm (h : Rl s c) (t u : Mixture) : distP s (nrm t) (nrm u) = c.distance u t := by
  unfold distP Catalogue.distance
  rw [foldl_sumRat, ← profile_nrm h, ← profile_nrm h, List.zipWith_map]
  have : (List.range 6).map (fun i => absDifference (colP s (nrm t) i) (colP s (nrm u) i)) = List.zipWith (fun a b => absDifference (colP s (nrm u) a) (colP s (nrm t) b)) (List.range 6) (List.range 6) := by
    rw [List.zipWith_self]
    exact List.map_congr_left fun i _ => absD_comm _ _
  rw [this]
  grind
theorem dist_nrm2 (h : Rl s c) (t u : Mixture) : distP s (nrm t) (nrm u) = c.distance t u := by
  rw [dist_nrm h]
  unfold Catalogue.distance
  congr 1
  exact List.zipWith_comm_of_comm fun a b => absD_comm a b
theorem present_nrm (t : Mixture) : presentMaterials t = Pl.keysA (nrm t) := by
  unfold presentMaterials nrm Pl.keysA
  rw [List.map_map]
  rfl
theorem find_keys {α : Type} (p : Nat → Bool) : ∀ l : List (Nat × α), (Pl.keysA l).find? p = (l.find? fun e => p e.1).map fun e => e.1
  | [] => rfl
  | e :: l => by
    show (e.1 :: Pl.keysA l).find? p = _
    rw [List.find?_cons, List.find?_cons, find_keys p l]
    cases p e.1 <;> rfl
theorem find_congr {α : Type} {p q : α → Bool} : ∀ {l : List α}, (∀ e ∈ l, p e = q e) → l.find? p = l.find? q
  | [], _ => rfl
  | e :: l, h => by
    rw [List.find?_cons, List.find?_cons, h e List.mem_cons_self, find_congr fun x hx => h x (List.mem_cons_of_mem _ hx)]
theorem amount_get (t : Mixture) (k : Nat) : amountOf t k = (Pl.getA t k).getD 0 := by
  unfold amountOf
  rw [Pl.lookup_getA]
theorem share_nrm {t : Mixture} (ha : Pl.Asc t) {e : Nat × Rat} (he : e ∈ nrm t) : shareOf t e.1 = e.2 := by
  obtain ⟨x, hx, rfl⟩ := List.mem_map.mp he
  unfold shareOf
  rw [amount_get, Pl.mem_getA ha.nodup (show (x.1, x.2) ∈ t from (List.mem_filter.mp hx).1)]
  rfl
theorem fault_nrm (h : Rl s c) {t : Mixture} (ha : Pl.Asc t) : faultP s (nrm t) = (c.violation t).getD (0, 0) := by
  unfold faultP Catalogue.violation
  rw [present_nrm, find_keys, find_keys, h.una]
  have hov : (nrm t).find? (over s) = (nrm t).find? fun e => decide ((c.maxShareOf e.1 : Rat) < shareOf t e.1 * (million : Rat)) := by
    refine find_congr fun e he => ?_
    unfold over
    rw [share_nrm ha he, h.mst]
    rfl
  rw [hov]
  cases (nrm t).find? fun e => c.isUnavailable e.1 with
  | some e => rfl
  | none =>
    simp only [Option.map_none]
    cases (nrm t).find? _ with
    | some e => rfl
    | none => rfl
theorem viol_two {t : Mixture} {v : Nat × Nat} (h : c.violation t = some v) : v.1 = 1 ∨ v.1 = 2 := by
  unfold Catalogue.violation at h
  split at h
  · cases h; exact Or.inl rfl
  · cases e : (presentMaterials t).find? fun (material : Nat) => decide ((c.maxShareOf material : Rat) < shareOf t material * (million : Rat)) with
    | none => rw [e] at h; cases h
    | some m => rw [e] at h; cases h; exact Or.inr rfl
theorem fault_ok (h : Rl s c) {t : Mixture} (ha : Pl.Asc t) : decide ((faultP s (nrm t)).1 = 0) = (c.violation t).isNone := by
  rw [fault_nrm h ha]
  cases e : c.violation t with
  | none => rfl
  | some v =>
    have := viol_two e
    show decide (v.1 = 0) = false
    exact decide_eq_false (by omega)
end
/-! ### a formula -/
theorem total_mix : ∀ f : List (Nat × Nat), totalAmount (mixtureOf f) = (totF f : Rat)
  | [] => rfl
  | e :: f => by
    have ih := total_mix f
    show (e.2 : Rat) + totalAmount (mixtureOf f) = _
    rw [ih]
    unfold totF
    rw [List.map_cons, List.sum_cons, Rat.natCast_add]
theorem mix_asc {f : List (Nat × Nat)} (h : Pl.Asc f) : Pl.Asc (mixtureOf f) := by
  unfold Pl.Asc at h ⊢
  have : Pl.keysA (mixtureOf f) = Pl.keysA f := by
    unfold mixtureOf Pl.keysA
    rw [List.map_map]
    rfl
  rwa [this]
theorem mix_pos {ms : List (Nat × Material)} {f : List (Nat × Nat)} (h : ForOk ms f) : ∀ e ∈ mixtureOf f, 0 < e.2 := by
  intro e he
  obtain ⟨x, hx, rfl⟩ := List.mem_map.mp he
  exact Pl.natpos (h.comp x hx).2.1
theorem mix_nrm {ms : List (Nat × Material)} {f : List (Nat × Nat)} (h : ForOk ms f) : mixP f = nrm (mixtureOf f) := by
  unfold nrm
  have hf : ((mixtureOf f).filter fun e => decide (e.2 ≠ 0)) = mixtureOf f := by
    refine List.filter_eq_self.mpr fun e he => ?_
    have := mix_pos h e he
    exact decide_eq_true (by grind)
  rw [hf, total_mix]
  unfold mixP mixtureOf
  rw [List.map_map]
  rfl
end Sw
set_option maxRecDepth 100000
set_option maxHeartbeats 4000000
/-! # Results, plans, the best plan: the walk's and the specification's -/
namespace Sw
open SubstitutionSpec
theorem asc_filter {α : Type} {t : List (Nat × α)} (p : Nat × α → Bool) (h : Pl.Asc t) : Pl.Asc (t.filter p) := by
  unfold Pl.Asc Pl.keysA at h ⊢
  exact List.pairwise_map.mpr ((List.pairwise_map.mp h).filter p)
theorem sum_nz : ∀ t : List (Nat × Rat), sumRat ((t.filter fun e => decide (e.2 ≠ 0)).map fun e => e.2) = sumRat (t.map fun e => e.2)
  | [] => rfl
  | e :: t => by
    have ih := sum_nz t
    by_cases h : e.2 = 0
    · rw [List.filter_cons_of_neg (by simp [h]), ih, List.map_cons]
      show _ = e.2 + sumRat _
      rw [h]
      grind
    · rw [List.filter_cons_of_pos (by simp [h]), List.map_cons, List.map_cons]
      show e.2 + sumRat _ = e.2 + sumRat _
      rw [ih]
theorem share_two {es : List (Nat × Rat)} {t : Mixture} (ok : Pl.AmtsOk es) (ha : Pl.Asc t) (h : ∀ k, (Pl.getA es k).getD 0 = amountOf t k) : Pl.shareA es = nrm t ∧ Pl.totA es = totalAmount t := by
  have ha' := asc_filter (fun e : Nat × Rat => decide (e.2 ≠ 0)) ha
  have hp : es.Perm (t.filter fun e => decide (e.2 ≠ 0)) := by
    refine perm_get ok.nd ha'.nodup fun k => ?_
    have hk := h k
    rw [amount_get] at hk
    cases e : Pl.getA es k with
    | none =>
      rw [e] at hk
      cases e2 : Pl.getA (t.filter fun e => decide (e.2 ≠ 0)) k with
      | none => rfl
      | some x =>
        have hm := List.mem_filter.mp (Pl.getA_mem e2)
        rw [Pl.mem_getA ha.nodup hm.1] at hk
        have := of_decide_eq_true hm.2
        exact absurd hk.symm this
    | some x =>
      rw [e] at hk
      have hx := ok.pos _ (Pl.getA_mem e)
      cases e2 : Pl.getA t k with
      | none => rw [e2] at hk; have hk : x = 0 := hk; exact absurd hx (by rw [hk]; grind)
      | some y =>
        rw [e2] at hk
        have hk : x = y := hk
        subst hk
        refine (Pl.mem_getA ha'.nodup (List.mem_filter.mpr ⟨Pl.getA_mem e2, decide_eq_true ?_⟩)).symm
        have hx : 0 < x := hx
        show x ≠ 0
        grind
  obtain ⟨p1, p2⟩ := Pl.sortT_perm ok.nd
  have e1 : Pl.sortT es = t.filter fun e => decide (e.2 ≠ 0) := asc_one (p1.trans hp) p2 ha'
  have e2 : Pl.totA es = totalAmount t := by
    rw [Pl.totA_sum, Pl.sumRat_perm (hp.map _), sum_nz]
    rfl
  refine ⟨?_, e2⟩
  unfold Pl.shareA nrm
  rw [e1, e2]
theorem sum_zero (d : Nat) : ∀ l : List (Nat × Nat), sumRat (l.map fun p => (0 : Rat) * (p.2 : Rat) / (d : Rat)) = 0
  | [] => rfl
  | p :: l => by
    show (0 : Rat) * (p.2 : Rat) / (d : Rat) + sumRat _ = 0
    rw [sum_zero d l, rdiv]
    grind
theorem wrule0 (r : Rule) : Pl.Wrule (fun _ => 0) r := by
  unfold Pl.Wrule
  exact (sum_zero r.parts _).symm
theorem asc_apply (rs : List Rule) {t : Mixture} (n : Nat) (h : Pl.Asc t) : Pl.Asc (applyRules rs t n) := (Pl.passes_tot (W := fun _ => 0) (fun r _ => wrule0 r) n t h).1
theorem RulOk.rok {ms : List (Nat × Material)} {r : Rule} (h : RulOk ms r) : Pl.RuleOk r := ⟨h.parts.1, fun p hp => (h.reps p hp).2.1⟩
theorem res_plan {ms : List (Nat × Material)} {rs : List Rule} {f : List (Nat × Nat)} (hr : ∀ r ∈ rs, RulOk ms r) (ho : ForOk ms f) : resP rs f = if isPlan rs (mixtureOf f) = true then some (nrm (applyRules rs (mixtureOf f) rs.length)) else none := by
  unfold resP
  cases e : isPlan rs (mixtureOf f) with
  | false => rw [Pl.orderM_none e]; rfl
  | true =>
    obtain ⟨ord, h1, h2⟩ := Pl.orderM_some e
    rw [h1, if_pos rfl]
    obtain ⟨a1, a2⟩ := Pl.amts_ok h2 (Pl.isPlan_nodup e) (fun r h => (hr r h).rok) (mix_asc ho.asc) (mix_pos ho)
    exact congrArg some (share_two a1 (asc_apply _ _ (mix_asc ho.asc)) a2).1
theorem res_tot {ms : List (Nat × Material)} {rs : List Rule} {f : List (Nat × Nat)} (hr : ∀ r ∈ rs, RulOk ms r) (ho : ForOk ms f) (e : isPlan rs (mixtureOf f) = true) (hne : nrm (applyRules rs (mixtureOf f) rs.length) ≠ []) : 0 < totalAmount (applyRules rs (mixtureOf f) rs.length) := by
  obtain ⟨ord, h1, h2⟩ := Pl.orderM_some e
  obtain ⟨a1, a2⟩ := Pl.amts_ok h2 (Pl.isPlan_nodup e) (fun r h => (hr r h).rok) (mix_asc ho.asc) (mix_pos ho)
  obtain ⟨b1, b2⟩ := share_two a1 (asc_apply _ _ (mix_asc ho.asc)) a2
  rw [← b2]
  rw [← b1] at hne
  cases q : Pl.amtsA ord (mixtureOf f) with
  | nil => exact absurd (by rw [q]; rfl) hne
  | cons x l =>
    rw [q] at a1
    exact Pl.tot_pos a1 List.mem_cons_self
/-! ### rules by their numbers -/
theorem sel_sub {α : Type} {t : List (Nat × α)} (hn : (Pl.keysA t).Nodup) : ∀ u : List (Nat × α), (∀ e ∈ u, e ∈ t) → u.map (fun e => e.2) = (Pl.keysA u).filterMap (Pl.getA t)
  | [], _ => rfl
  | e :: u, h => by
    show e.2 :: u.map _ = List.filterMap _ (e.1 :: Pl.keysA u)
    rw [List.filterMap_cons, Pl.mem_getA hn (show (e.1, e.2) ∈ t from h e List.mem_cons_self)]
    show _ = e.2 :: _
    rw [sel_sub hn u fun x hx => h x (List.mem_cons_of_mem _ hx)]
section
variable {s : Sto} {c : Catalogue}
theorem sel_eq (h : Rl s c) {ns ids : List Nat} (hn : ns.Pairwise (· < ·)) (hk : ∀ n ∈ ns, n ∈ Pl.keysA c.rules) (hi : ∀ x, x ∈ ids ↔ x ∈ ns) : c.selectRules ids = selR s ns := by
  unfold Catalogue.selectRules selR
  have hf : (c.rules.filter fun (e : Nat × Rule) => ids.contains e.1) = c.rules.filter fun e => decide (e.1 ∈ ns) := by
    refine List.filter_congr fun e _ => ?_
    rw [Bool.eq_iff_iff]
    simp [hi]
  rw [hf, sel_sub h.ra.nodup _ fun e he => (List.mem_filter.mp he).1]
  have hkeys : Pl.keysA (c.rules.filter fun e => decide (e.1 ∈ ns)) = ns := by
    refine Pl.asc_ext (asc_filter _ h.ra) hn fun x => ?_
    constructor
    · intro hx
      obtain ⟨e, he, rfl⟩ := List.mem_map.mp hx
      exact of_decide_eq_true (List.mem_filter.mp he).2
    · intro hx
      obtain ⟨e, he, rfl⟩ := List.mem_map.mp (hk x hx)
      exact List.mem_map.mpr ⟨e, List.mem_filter.mpr ⟨he, decide_eq_true hx⟩, rfl⟩
  rw [hkeys, show Pl.getA s.rs = Pl.getA c.rules from funext h.r]
theorem sel_ok (hs : StoOk s) (ns : List Nat) : ∀ r ∈ selR s ns, RulOk s.ms r := fun r hr => by
  obtain ⟨n, _, hn⟩ := List.mem_filterMap.mp hr
  exact (hs.ri _ (Pl.getA_mem hn)).2
end
/-! ### all sets of rules -/
theorem range_two : ∀ n, List.range (2 * n) = (List.range n).flatMap fun i => [2 * i, 2 * i + 1]
  | 0 => rfl
  | n + 1 => by
    rw [show 2 * (n + 1) = 2 * n + 1 + 1 from by omega, List.range_succ, List.range_succ, range_two n, List.range_succ, List.flatMap_append, List.append_assoc]
    rfl
theorem mask_cons (a : Nat) (ns : List Nat) (code : Nat) : maskN (a :: ns) code = (if code % 2 = 1 then [a] else []) ++ maskN ns (code / 2) := by
  unfold maskN
  rw [List.length_cons, List.range_succ_eq_map, List.filter_cons, List.filter_map]
  have hf : ((fun i => decide (code / 2 ^ i % 2 = 1)) ∘ Nat.succ) = fun i => decide (code / 2 / 2 ^ i % 2 = 1) := by
    funext i
    show decide (code / 2 ^ (i + 1) % 2 = 1) = _
    rw [Nat.pow_succ, Nat.mul_comm, Nat.div_div_eq_div_mul]
  rw [hf]
  have hm : ∀ l : List Nat, (l.map Nat.succ).map (fun i => (a :: ns).getD i 0) = l.map fun i => ns.getD i 0 := fun l => by
    rw [List.map_map]
    rfl
  have h0 : code / 2 ^ 0 % 2 = code % 2 := by rw [Nat.pow_zero, Nat.div_one]
  by_cases q : code % 2 = 1
  · rw [if_pos q, if_pos (decide_eq_true (h0.trans q)), List.map_cons, hm]
    rfl
  · rw [if_neg q, if_neg (by rw [h0]; simpa using q), hm]
    rfl
theorem mask_all : ∀ ns : List Nat, (List.range (2 ^ ns.length)).map (maskN ns) = subsets ns
  | [] => rfl
  | a :: ns => by
    have ih := mask_all ns
    rw [List.length_cons, Nat.pow_succ, Nat.mul_comm, range_two, List.map_flatMap]
    unfold subsets
    rw [← ih, List.flatMap_map]
    congr 1
    funext i
    rw [List.map_cons, List.map_cons, List.map_nil, mask_cons, mask_cons, if_neg (by omega), if_pos (by omega), show 2 * i / 2 = i from by omega, show (2 * i + 1) / 2 = i from by omega]
    rfl
theorem subs_sub : ∀ {ns ids : List Nat}, ids ∈ subsets ns → ids.Sublist ns
  | [], ids, h => by
    rw [List.mem_singleton.mp h]
    exact List.Sublist.refl _
  | a :: ns, ids, h => by
    obtain ⟨u, hu, hi⟩ := List.mem_flatMap.mp h
    have := subs_sub hu
    rcases List.mem_cons.mp hi with rfl | hi
    · exact this.cons a
    · rw [List.mem_singleton.mp hi]
      exact this.cons_cons a
theorem fm_filter {α β : Type} {g : α → Option β} {p : α → Bool} {k : α → β} : ∀ {l : List α}, (∀ x ∈ l, g x = if p x = true then some (k x) else none) → l.filterMap g = (l.filter p).map k
  | [], _ => rfl
  | x :: l, h => by
    have ih := fm_filter fun y hy => h y (List.mem_cons_of_mem _ hy)
    rw [List.filterMap_cons, h x List.mem_cons_self, List.filter_cons]
    cases p x with
    | true => rw [if_pos rfl, if_pos rfl, List.map_cons, ← ih]
    | false => exact ih
section
variable {s : Sto} {c : Catalogue} {f : List (Nat × Nat)}
theorem plans_eq (h : Rl s c) (hs : StoOk s) (ho : ForOk s.ms f) : plansP s f = (c.plans (mixtureOf f)).map fun ids => (ids, nrm (c.planResult (mixtureOf f) ids)) := by
  unfold plansP Catalogue.plans
  have : (List.range (2 ^ (numsOf s).length)).filterMap (planAt s f) = (subsets (numsOf s)).filterMap fun ids => (resP (selR s ids) f).map fun es => (ids, es) := by
    rw [← mask_all, List.filterMap_map]
    rfl
  rw [this, show (c.rules.map fun (e : Nat × Rule) => e.1) = numsOf s from (h.nums hs).symm]
  refine fm_filter fun ids hi => ?_
  have hsub := subs_sub hi
  have hk : ∀ n ∈ ids, n ∈ Pl.keysA c.rules := fun n hn => h.nums hs ▸ hsub.subset hn
  have ha : ids.Pairwise (· < ·) := (srt_lt hs.rn).sublist hsub
  rw [res_plan (sel_ok hs ids) ho, ← sel_eq h ha hk fun _ => Iff.rfl]
  unfold Catalogue.planResult
  cases isPlan (c.selectRules ids) (mixtureOf f) <;> rfl
theorem acc_eq (h : Rl s c) (hs : StoOk s) (ho : ForOk s.ms f) : (accP s f).map (outc s f) = c.acceptablePlans (mixtureOf f) := by
  unfold accP Catalogue.acceptablePlans
  rw [plans_eq h hs ho, List.filter_map, List.map_map]
  symm
  have hp : ((fun p : List Nat × List (Nat × Rat) => decide ((faultP s p.2).1 = 0)) ∘ fun ids => (ids, nrm (c.planResult (mixtureOf f) ids))) = fun ids => (c.violation (c.planResult (mixtureOf f) ids)).isNone := by
    funext ids
    exact fault_ok h (asc_apply _ _ (mix_asc ho.asc))
  rw [hp]
  refine fm_filter fun ids _ => ?_
  show (if _ then some _ else none) = if _ then some (Outcome.mk ids (costP s (nrm _)) (distP s (nrm _) (mixP f))) else none
  rw [mix_nrm ho, cost_nrm h, dist_nrm h]
theorem acc_len2 (h : Rl s c) (hs : StoOk s) (ho : ForOk s.ms f) : (accP s f).length = (c.acceptablePlans (mixtureOf f)).length := by
  rw [← acc_eq h hs ho, List.length_map]
theorem acc_emp (h : Rl s c) (hs : StoOk s) (ho : ForOk s.ms f) : (accP s f).isEmpty = (c.acceptablePlans (mixtureOf f)).isEmpty := by
  rw [← acc_eq h hs ho, List.isEmpty_map]
theorem best_fold (w : PySem.Str) (most : Int) : ∀ (l : List (List Nat × List (Nat × Rat))) (b : Option Outcome), l.foldl (bestF s f w most) b = ((l.map (outc s f)).filter fun o => decide (most < 0) || decide (o.cost ≤ (most : Rat))).foldl (betterF w) b
  | [], _ => rfl
  | p :: l, b => by
    rw [List.foldl_cons, best_fold w most l, List.map_cons, List.filter_cons]
    unfold bestF
    have hc : (decide (most < 0) || !decide ((most : Rat) < costP s p.2)) = (decide (most < 0) || decide ((outc s f p).cost ≤ (most : Rat))) := by
      congr 1
      show _ = decide (costP s p.2 ≤ (most : Rat))
      rw [Bool.eq_iff_iff, Bool.not_eq_true', decide_eq_false_iff_not, decide_eq_true_iff]
      exact Rat.not_lt
    rw [hc]
    split
    · rw [List.foldl_cons]
    · rfl
theorem chosen_eq (h : Rl s c) (hs : StoOk s) (ho : ForOk s.ms f) (w : PySem.Str) (most : Int) : chosenP s f w most = bestOutcome (isB w) ((c.acceptablePlans (mixtureOf f)).filter fun o => decide (most < 0) || decide (o.cost ≤ (most : Rat))) := by
  unfold chosenP
  rw [best_fold, acc_eq h hs ho]
  rfl
end
end Sw
set_option maxRecDepth 100000
set_option maxHeartbeats 4000000
/-! # Reachable materials, cycles -/
namespace Sw
open SubstitutionSpec
theorem reach_perm {l t : List (Nat × Rule)} (h : l.Perm t) (m : Nat) : ∀ k, Pl.reachL l m k = Pl.reachL t m k
  | 0 => rfl
  | k + 1 => by
    unfold Pl.reachL
    rw [reach_perm h m k]
    exact List.filter_congr fun x _ => h.any_eq
theorem reach_eq {s : Sto} {c : Catalogue} (h : Rl s c) (hs : StoOk s) (m : Nat) : Pl.reachL s.rs m 24 = c.reachable m materialCount := by
  rw [reach_perm (h.rp hs), ← Pl.reach_spec]
  rfl
/-! ### cycles -/
theorem flat_congr {α β : Type} {f g : α → List β} : ∀ {l : List α}, (∀ x ∈ l, f x = g x) → l.flatMap f = l.flatMap g
  | [], _ => rfl
  | x :: l, h => by
    rw [List.flatMap_cons, List.flatMap_cons, h x List.mem_cons_self, flat_congr fun y hy => h y (List.mem_cons_of_mem _ hy)]
/-- the paths that go on from p with d rules more -/
def ch (s : Sto) : Nat → List Nat → List (List Nat)
  | 0, p => [p]
  | d + 1, p => ((numsOf s).filter (cand s p)).flatMap fun n => ch s d (p ++ [n])
def ext (s : Sto) (p : List Nat) : List (List Nat) := ((numsOf s).filter (cand s p)).map fun n => p ++ [n]
theorem ch_snoc (s : Sto) : ∀ (d : Nat) (p : List Nat), ch s (d + 1) p = (ch s d p).flatMap (ext s)
  | 0, p => by
    show ((numsOf s).filter (cand s p)).flatMap (fun n => [p ++ [n]]) = ext s p ++ []
    rw [List.append_nil, ← List.map_eq_flatMap]
    rfl
  | d + 1, p => by
    show ((numsOf s).filter (cand s p)).flatMap (fun n => ch s (d + 1) (p ++ [n])) = (((numsOf s).filter (cand s p)).flatMap fun n => ch s d (p ++ [n])).flatMap (ext s)
    rw [List.flatMap_assoc]
    exact flat_congr fun n _ => ch_snoc s d _
structure ChOk (s : Sto) (p q : List Nat) (d : Nat) : Prop where
  pre : ∃ t, q = p ++ t ∧ t.length = d
  nd : q.Nodup
  sub : ∀ n ∈ q, n ∈ Pl.keysA s.rs
theorem ch_ok {s : Sto} : ∀ (d : Nat) {p q : List Nat}, p.Nodup → (∀ n ∈ p, n ∈ Pl.keysA s.rs) → q ∈ ch s d p → ChOk s p q d
  | 0, p, q, h1, h2, h => by
    obtain rfl := List.mem_singleton.mp h
    exact ⟨⟨[], by simp, rfl⟩, h1, h2⟩
  | d + 1, p, q, h1, h2, h => by
    obtain ⟨n, hn, hq⟩ := List.mem_flatMap.mp h
    obtain ⟨hn1, hn2⟩ := List.mem_filter.mp hn
    unfold cand at hn2
    obtain ⟨-, hn2, -⟩ := (show ∀ a b c : Bool, (a && (!b && c)) = true → a = true ∧ b = false ∧ c = true by decide) _ _ _ hn2
    have hp : (p ++ [n]).Nodup := by
      rw [List.nodup_append]
      refine ⟨h1, by simp, fun a ha b hb e => ?_⟩
      rw [List.mem_singleton] at hb
      subst e hb
      exact of_decide_eq_false hn2 ha
    obtain ⟨⟨t, e1, e2⟩, a, b⟩ := ch_ok d hp (fun x hx => by
      rcases List.mem_append.mp hx with hx | hx
      · exact h2 x hx
      · rw [List.mem_singleton.mp hx]
        exact nums_mem hn1) hq
    exact ⟨⟨n :: t, by rw [e1, List.append_assoc]; rfl, by rw [List.length_cons, e2]⟩, a, b⟩
def cl (s : Sto) (q : List Nat) : Bool := feedsN s (q.getLastD 0) (q.headD 0)
theorem find_some {α β : Type} (q : α → Bool) (g : α → Option β) : ∀ l : List α, (l.filter q).findSome? g = match l.find? (fun n => q n && (g n).isSome) with | some n => g n | none => none
  | [] => rfl
  | a :: l => by
    rw [List.filter_cons, List.find?_cons, ]
    cases hq : q a with
    | false => exact find_some q g l
    | true =>
      rw [if_pos rfl, List.findSome?_cons, Bool.true_and]
      cases hg : g a with
      | none => exact find_some q g l
      | some b => exact hg.symm
theorem emp_get {o : Option (List Nat)} (h : ∀ x, o = some x → x ≠ []) : (!(o.getD []).isEmpty) = o.isSome := by
  cases o with
  | none => rfl
  | some x =>
    have := h x rfl
    cases x with
    | nil => exact absurd rfl this
    | cons a l => rfl
theorem ch_ne {s : Sto} : ∀ (d : Nat) {p q : List Nat}, p ≠ [] → q ∈ ch s d p → q ≠ []
  | 0, p, q, h1, h => by rw [List.mem_singleton.mp h]; exact h1
  | d + 1, p, q, h1, h => by
    obtain ⟨n, hn, hq⟩ := List.mem_flatMap.mp h
    exact ch_ne d (by simp) hq
theorem head_ne {s : Sto} {d : Nat} {p : List Nat} (hp : p ≠ []) : ∀ x, ((ch s d p).filter (cl s)).head? = some x → x ≠ [] := fun x h =>
  ch_ne d hp (List.mem_filter.mp (List.mem_of_mem_head? h)).1
theorem cyF_head (s : Sto) : ∀ (d : Nat) (p : List Nat), p ≠ [] → cyF s d p = ((ch s d p).filter (cl s)).head?.getD []
  | 0, p, _ => by
    show (if feedsN s (p.getLastD 0) (p.headD 0) = true then p else []) = (([p].filter (cl s)).head?).getD []
    rw [List.filter_cons]
    unfold cl
    split <;> rfl
  | d + 1, p, _ => by
    show (match (numsOf s).find? (fun n => cand s p n && !(cyF s d (p ++ [n])).isEmpty) with | some n => cyF s d (p ++ [n]) | none => []) = _
    have h1 : (fun n => cand s p n && !(cyF s d (p ++ [n])).isEmpty) = fun n => cand s p n && (((ch s d (p ++ [n])).filter (cl s)).head?).isSome := by
      funext n
      rw [cyF_head s d (p ++ [n]) (by simp), emp_get (head_ne (by simp))]
    rw [h1]
    show _ = ((((numsOf s).filter (cand s p)).flatMap fun n => ch s d (p ++ [n])).filter (cl s)).head?.getD []
    rw [List.filter_flatMap, List.head?_flatMap, find_some]
    split
    · rename_i n q
      rw [q]
      exact cyF_head s d (p ++ [n]) (by simp)
    · rename_i q
      rw [q]
      rfl
/-- all cycles of a length -/
def cyc (s : Sto) (len : Nat) : List (List Nat) := (numsOf s).flatMap fun n => (ch s (len - 1) [n]).filter (cl s)
theorem filter_all {α : Type} (l : List α) : l.filter (fun _ => true) = l := List.filter_eq_self.mpr fun _ _ => rfl
theorem cyLen_eq (s : Sto) (len : Nat) : cyLen s len = (cyc s len).head?.getD [] := by
  unfold cyLen cyc
  have h1 : (fun n => !(cyF s (len - 1) [n]).isEmpty) = fun n => true && (((ch s (len - 1) [n]).filter (cl s)).head?).isSome := by
    funext n
    rw [cyF_head s _ [n] (by simp), emp_get (head_ne (by simp)), Bool.true_and]
  rw [h1, List.head?_flatMap]
  have := find_some (fun _ => true) (fun n => ((ch s (len - 1) [n]).filter (cl s)).head?) (numsOf s)
  rw [filter_all] at this
  rw [this]
  split
  · rename_i n q
    rw [q]
    exact cyF_head s _ [n] (by simp)
  · rename_i q
    rw [q]
    rfl
theorem cyc_ne {s : Sto} {len : Nat} : ∀ x, (cyc s len).head? = some x → x ≠ [] := fun x h => by
  obtain ⟨n, _, hx⟩ := List.mem_flatMap.mp (List.mem_of_mem_head? h)
  exact ch_ne _ (by simp) (List.mem_filter.mp hx).1
theorem cycP_eq (s : Sto) : cycP s = (((List.range (s.rs.length - 1)).map fun i => i + 2).findSome? fun m => (cyc s m).head?).getD [] := by
  unfold cycP
  have h1 : (fun m => !(cyLen s m).isEmpty) = fun m => true && ((cyc s m).head?).isSome := by
    funext m
    rw [cyLen_eq, emp_get cyc_ne, Bool.true_and]
  have := find_some (fun _ => true) (fun m => (cyc s m).head?) ((List.range (s.rs.length - 1)).map fun i => i + 2)
  rw [filter_all] at this
  rw [h1, this]
  split
  · rename_i n q
    rw [q]
    exact cyLen_eq s _
  · rename_i q
    rw [q]
    rfl
/-! ### the specification's -/
theorem seq_no (p : List Nat) {n m : Nat} (h : n < m) (x y : List Nat) : sequenceLess (p ++ m :: y) (p ++ n :: x) = false := by
  induction p with
  | nil =>
    show (decide (m < n) || (m == n && sequenceLess y x)) = false
    rw [decide_eq_false (by omega), beq_false_of_ne (by omega)]
    rfl
  | cons a p ih =>
    show (decide (a < a) || (a == a && sequenceLess (p ++ m :: y) (p ++ n :: x))) = false
    rw [ih, decide_eq_false (by omega)]
    simp
theorem ch_pre {s : Sto} : ∀ (d : Nat) {p q : List Nat}, q ∈ ch s d p → ∃ t, q = p ++ t
  | 0, p, q, h => ⟨[], by rw [List.mem_singleton.mp h]; simp⟩
  | d + 1, p, q, h => by
    obtain ⟨n, _, hq⟩ := List.mem_flatMap.mp h
    obtain ⟨t, e⟩ := ch_pre d hq
    exact ⟨n :: t, by rw [e, List.append_assoc]; rfl⟩
theorem ch_sorted {s : Sto} (hs : StoOk s) : ∀ (d : Nat) (p : List Nat), (ch s d p).Pairwise fun b x => sequenceLess x b = false
  | 0, p => List.pairwise_singleton _ _
  | d + 1, p => by
    refine List.pairwise_flatMap.mpr ⟨fun n _ => ch_sorted hs d _, ?_⟩
    refine List.Pairwise.imp ?_ ((srt_lt hs.rn).filter _)
    intro n m hnm x hx y hy
    obtain ⟨t, rfl⟩ := ch_pre d hx
    obtain ⟨u, rfl⟩ := ch_pre d hy
    rw [List.append_assoc, List.append_assoc]
    exact seq_no p hnm _ _
theorem cyc_sorted {s : Sto} (hs : StoOk s) (len : Nat) : (cyc s len).Pairwise fun b x => sequenceLess x b = false := by
  refine List.pairwise_flatMap.mpr ⟨fun n _ => (ch_sorted hs _ _).filter _, ?_⟩
  refine List.Pairwise.imp ?_ (srt_lt hs.rn)
  intro n m hnm x hx y hy
  obtain ⟨t, rfl⟩ := ch_pre _ (List.mem_filter.mp hx).1
  obtain ⟨u, rfl⟩ := ch_pre _ (List.mem_filter.mp hy).1
  exact seq_no [] hnm _ _
def minF (best : Option (List Nat)) (chain : List Nat) : Option (List Nat) := match best with
  | none => some chain
  | some b => if sequenceLess chain b = true then some chain else some b
theorem min_head : ∀ {l : List (List Nat)}, l.Pairwise (fun b x => sequenceLess x b = false) → l.foldl minF none = l.head?
  | [], _ => rfl
  | b :: l, h => by
    rw [List.pairwise_cons] at h
    have key : ∀ l : List (List Nat), (∀ x ∈ l, sequenceLess x b = false) → l.foldl minF (some b) = some b := by
      intro l
      induction l with
      | nil => intro _; rfl
      | cons x l ih =>
        intro h
        rw [List.foldl_cons]
        show l.foldl minF (if sequenceLess x b = true then some x else some b) = _
        rw [h x List.mem_cons_self, if_neg (by decide)]
        exact ih fun y hy => h y (List.mem_cons_of_mem _ hy)
    exact key l h.1
section
variable {s : Sto} {c : Catalogue}
theorem last_feeds (h : Rl s c) {q : List Nat} (hq : q ≠ []) {e : Nat × Rule} (he : e ∈ c.rules) : c.lastFeeds q e.2 = feedsN s (q.getLastD 0) e.1 := by
  unfold Catalogue.lastFeeds feedsN
  rw [List.getLast?_eq_some_getLast hq, List.getLastD_eq_getLast?, List.getLast?_eq_some_getLast hq]
  show ((Table.lookup c.rules (q.getLast hq)).any fun last => last.feeds e.2) = _
  rw [Pl.lookup_getA, h.r, h.r, Pl.mem_getA h.ra.nodup (show (e.1, e.2) ∈ c.rules from he)]
  show _ = (match Pl.getA c.rules (q.getLast hq), some e.2 with | some r, some r' => r.feeds r' | _, _ => false)
  cases Pl.getA c.rules (q.getLast hq) <;> rfl
theorem ext_eq (h : Rl s c) (hs : StoOk s) {first : Nat} {q : List Nat} (hq : q.headD 0 = first) (hne : q ≠ []) :
    ((c.rules.filter fun (e : Nat × Rule) => decide (first < e.1) && (!q.contains e.1 && c.lastFeeds q e.2)).map fun (e : Nat × Rule) => q ++ [e.1]) = ext s q := by
  unfold ext
  rw [h.nums hs]
  unfold Pl.keysA
  rw [List.filter_map, List.map_map]
  congr 1
  refine List.filter_congr fun e he => ?_
  rw [last_feeds h hne he]
  show _ = cand s q e.1
  unfold cand
  rw [hq, List.contains_eq_mem]
theorem chains_eq (h : Rl s c) (hs : StoOk s) (first : Nat) : ∀ k, c.chainsFrom first k = ch s k [first]
  | 0 => rfl
  | k + 1 => by
    rw [ch_snoc, ← chains_eq h hs first k]
    show (c.chainsFrom first k).flatMap _ = _
    refine flat_congr fun q hq => ?_
    rw [chains_eq h hs first k] at hq
    obtain ⟨t, rfl⟩ := ch_pre k hq
    exact ext_eq h hs rfl (by simp)
theorem cycle_len (h : Rl s c) (hs : StoOk s) (len : Nat) : c.cycleOfLength len = (cyc s len).head? := by
  have hl : (c.rules.flatMap fun (e : Nat × Rule) => (c.chainsFrom e.1 (len - 1)).filter fun (chain : List Nat) => c.lastFeeds chain e.2) = cyc s len := by
    unfold cyc
    rw [h.nums hs]
    unfold Pl.keysA
    rw [List.flatMap_map]
    refine flat_congr fun e he => ?_
    rw [chains_eq h hs]
    refine List.filter_congr fun q hq => ?_
    obtain ⟨t, rfl⟩ := ch_pre _ hq
    rw [last_feeds h (by simp) he]
    rfl
  unfold Catalogue.cycleOfLength
  rw [hl]
  exact min_head (cyc_sorted hs len)
theorem cyc_long (hs : StoOk s) {len : Nat} (h2 : 1 ≤ len) (hl : s.rs.length < len) : (cyc s len).head? = none := by
  rw [List.head?_eq_none_iff]
  refine List.eq_nil_iff_forall_not_mem.mpr fun q hq => ?_
  obtain ⟨n, hn, hx⟩ := List.mem_flatMap.mp hq
  obtain ⟨⟨t, e1, e2⟩, a, b⟩ := ch_ok _ (p := [n]) (by simp) (fun x hx => by rw [List.mem_singleton.mp hx]; exact nums_mem hn) (List.mem_filter.mp hx).1
  have hle := List.Nodup.length_le_of_subset a fun x hx => b x hx
  have h3 : (Pl.keysA s.rs).length = s.rs.length := List.length_map ..
  rw [e1, List.length_append, e2, h3] at hle
  simp only [List.length_cons, List.length_nil] at hle
  omega
theorem cycle_eq (h : Rl s c) (hs : StoOk s) : cycP s = c.shortestCycle.getD [] ∧ ∀ x, c.shortestCycle = some x → x ≠ [] := by
  have e : c.shortestCycle = ((List.range (s.rs.length - 1)).map fun i => i + 2).findSome? fun m => (cyc s m).head? := by
    unfold Catalogue.shortestCycle
    rw [show c.cycleOfLength = fun m => (cyc s m).head? from funext fun m => cycle_len h hs m]
    have hr : List.range ruleCount = List.range (s.rs.length - 1) ++ (List.range (ruleCount - (s.rs.length - 1))).map fun i => (s.rs.length - 1) + i := by
      rw [← List.range_add]
      congr 1
      have := hs.rl
      unfold ruleCount
      omega
    rw [hr, List.map_append, List.findSome?_append]
    have hn : (((List.range (ruleCount - (s.rs.length - 1))).map fun i => (s.rs.length - 1) + i).map fun i => i + 2).findSome? (fun m => (cyc s m).head?) = none := by
      rw [List.findSome?_eq_none_iff]
      intro m hm
      obtain ⟨j, hj, rfl⟩ := List.mem_map.mp hm
      obtain ⟨i, hi, rfl⟩ := List.mem_map.mp hj
      exact cyc_long hs (by omega) (by omega)
    rw [hn, Option.or_none]
  refine ⟨by rw [cycP_eq, e], fun x hx => ?_⟩
  rw [e] at hx
  obtain ⟨m, _, hm⟩ := List.exists_of_findSome?_eq_some hx
  exact cyc_ne x hm
theorem oCycle_eq (h : Rl s c) (hs : StoOk s) : oCycle s = (c.query .shortestCycle).code :: (c.query .shortestCycle).values := by
  obtain ⟨h1, h2⟩ := cycle_eq h hs
  unfold oCycle Catalogue.query
  rw [h1]
  cases e : c.shortestCycle with
  | none => rfl
  | some x =>
    have := h2 x e
    cases x with
    | nil => exact absurd rfl this
    | cons a l => rfl
end
end Sw
set_option maxRecDepth 100000
set_option maxHeartbeats 4000000
/-! # Dependent formulas; the smallest whole amounts -/
namespace Sw
open SubstitutionSpec
theorem getA_if {α : Type} (n k : Nat) (g : α → α) : ∀ t : List (Nat × α), Pl.getA (t.map fun e => if e.1 = n then (e.1, g e.2) else e) k = (Pl.getA t k).map fun x => if k = n then g x else x
  | [] => rfl
  | e :: t => by
    rw [List.map_cons]
    by_cases q : e.1 = k
    · by_cases w : e.1 = n
      · rw [if_pos w, Pl.getA_pos (e := (e.1, g e.2)) q, Pl.getA_pos q, Option.map_some, if_pos (q.symm.trans w)]
      · rw [if_neg w, Pl.getA_pos q, Pl.getA_pos q, Option.map_some, if_neg fun z => w (q.trans z)]
    · by_cases w : e.1 = n
      · rw [if_pos w, Pl.getA_neg (e := (e.1, g e.2)) q, Pl.getA_neg q, getA_if n k g t]
      · rw [if_neg w, Pl.getA_neg q, Pl.getA_neg q, getA_if n k g t]
theorem keys_if {α : Type} (n : Nat) (g : α → α) (t : List (Nat × α)) : Pl.keysA (t.map fun e => if e.1 = n then (e.1, g e.2) else e) = Pl.keysA t := by
  unfold Pl.keysA
  rw [List.map_map]
  refine List.map_congr_left fun e _ => ?_
  show (if e.1 = n then (e.1, g e.2) else e).1 = e.1
  split <;> rfl
section
variable {s : Sto} {c : Catalogue}
theorem sans_rl (h : Rl s c) (hs : StoOk s) {n : Nat} (hn : (Pl.getA s.ms n).isSome = true) : Rl (sans s n) (c.withoutMaterial n) ∧ StoOk (sans s n) ∧ (sans s n).fs = s.fs ∧ ∀ f, ForOk s.ms f → ForOk (sans s n).ms f := by
  obtain ⟨m, hm⟩ := Option.isSome_iff_exists.mp hn
  have e : sans s n = {s with ms := Pl.putA s.ms n {m with isAvailable := false}} := by
    unfold sans
    rw [hm]
  rw [e]
  have hi := hs.mi _ (Pl.getA_mem hm)
  refine ⟨⟨?_, h.ra, h.fa, fun k => ?_, h.r, h.f⟩, hs.putM hi.1 ⟨hi.2.price, hi.2.six, hi.2.att, hi.2.most⟩, rfl, fun f hf => hf.mono fun k hk => keys_sub hk⟩
  · unfold Pl.Asc Catalogue.withoutMaterial
    rw [keys_if n fun x : Material => { x with isAvailable := false }]
    exact h.ma
  · show Pl.getA (Pl.putA s.ms n _) k = Pl.getA (c.materials.map _) k
    rw [Pl.getA_put, getA_if n k fun x : Material => { x with isAvailable := false }]
    by_cases q : k = n
    · subst q
      rw [if_pos rfl, ← h.m, hm]
      show _ = some (if k = k then _ else _)
      rw [if_pos rfl]
    · rw [if_neg q, ← h.m]
      cases Pl.getA s.ms k with
      | none => rfl
      | some x => show _ = some (if k = n then _ else _); rw [if_neg q]
theorem oDep_eq (h : Rl s c) (hs : StoOk s) {n : Nat} (hn : (Pl.getA s.ms n).isSome = true) :
    oDep s n = 0 :: ((c.formulas.filter fun (e : Nat × Formula) => c.hasAcceptablePlan (mixtureOf e.2) && !(c.withoutMaterial n).hasAcceptablePlan (mixtureOf e.2)).map fun (e : Nat × Formula) => natValue e.1) := by
  unfold oDep
  rw [h.fkeys hs]
  unfold Pl.keysA
  rw [List.filter_map, List.map_map]
  congr 1
  have : ∀ e ∈ c.formulas, (depB s n ∘ fun e => e.1) e = (c.hasAcceptablePlan (mixtureOf e.2) && !(c.withoutMaterial n).hasAcceptablePlan (mixtureOf e.2)) := by
    intro e he
    show depB s n e.1 = _
    unfold depB
    have hg : Pl.getA s.fs e.1 = some e.2 := (h.f e.1).trans (Pl.mem_getA h.fa.nodup he)
    obtain ⟨r1, r2, r3, r4⟩ := sans_rl h hs hn
    have ho := (hs.fi _ (Pl.getA_mem hg)).2
    rw [hg]
    show (!(accP s e.2).isEmpty && !(!(accP (sans s n) e.2).isEmpty)) = _
    rw [acc_emp h hs ho, acc_emp r1 r2 (r4 _ ho)]
    rfl
  rw [List.filter_congr this]
  rfl
end
/-! ### the smallest whole amounts -/
def Gc (l : List Nat) : Nat := l.foldl (fun a b => a.gcd b) 0
theorem gc_mul (b : Nat) : ∀ (l : List Nat) (x : Nat), (l.map (b * ·)).foldl (fun a b => a.gcd b) (b * x) = b * l.foldl (fun a b => a.gcd b) x
  | [], _ => rfl
  | a :: l, x => by
    rw [List.map_cons, List.foldl_cons, List.foldl_cons, Nat.gcd_mul_left, gc_mul b l]
theorem Gc_mul (b : Nat) (l : List Nat) : Gc (l.map (b * ·)) = b * Gc l := by
  unfold Gc
  rw [← gc_mul b l 0, Nat.mul_zero]
theorem gc_dvd : ∀ (l : List Nat) (b : Nat), l.foldl (fun a b => a.gcd b) b ∣ b ∧ ∀ a ∈ l, l.foldl (fun a b => a.gcd b) b ∣ a
  | [], b => ⟨Nat.dvd_refl _, fun _ h => by cases h⟩
  | x :: l, b => by
    obtain ⟨h1, h2⟩ := gc_dvd l (b.gcd x)
    refine ⟨Nat.dvd_trans h1 (Nat.gcd_dvd_left ..), fun a ha => ?_⟩
    rcases List.mem_cons.mp ha with rfl | ha
    · exact Nat.dvd_trans h1 (Nat.gcd_dvd_right ..)
    · exact h2 a ha
theorem Gc_dvd {l : List Nat} {a : Nat} (h : a ∈ l) : Gc l ∣ a := (gc_dvd l 0).2 a h
theorem Gc_pos {l : List Nat} {a : Nat} (h : a ∈ l) (h0 : 0 < a) : 0 < Gc l := Nat.pos_of_dvd_of_pos (Gc_dvd h) h0
theorem Gc_div {l : List Nat} (h : 0 < Gc l) : Gc (l.map (· / Gc l)) = 1 := by
  have h1 : (l.map (· / Gc l)).map (Gc l * ·) = l := by
    rw [List.map_map]
    refine (List.map_congr_left fun a ha => ?_).trans (List.map_id l)
    exact Nat.mul_div_cancel' (Gc_dvd ha)
  have h2 := Gc_mul (Gc l) (l.map (· / Gc l))
  rw [h1] at h2
  exact Nat.eq_of_mul_eq_mul_left h (by omega)
/-- whole numbers in the same ratios, with no common divisor -/
def Prop1 (qs : List Rat) (ns : List Nat) : Prop := ∃ k : Rat, 0 < k ∧ (ns.map fun (n : Nat) => (n : Rat)) = qs.map (fun q => q * k) ∧ Gc ns = 1
theorem pos_num {k : Rat} (h : 0 < k) : ∃ a b : Nat, 0 < a ∧ 0 < b ∧ k = (a : Rat) / (b : Rat) := by
  refine ⟨k.num.toNat, k.den, ?_, k.den_pos, ?_⟩
  · have := num_pos h; omega
  · have h1 : ((k.num.toNat : Nat) : Int) = k.num := Int.toNat_of_nonneg (by have := num_pos h; omega)
    have h2 : ((k.num.toNat : Nat) : Rat) = ((k.num : Int) : Rat) := by
      rw [← h1]
      rfl
    rw [h2]
    exact ((Rat.mkRat_eq_div _ _).symm.trans (Rat.mkRat_self k)).symm
theorem nat_inj {a b : Nat} (h : (a : Rat) = (b : Rat)) : a = b := Rat.natCast_inj.mp h
theorem map_cast {l m : List Nat} (h : (l.map fun (n : Nat) => (n : Rat)) = m.map fun (n : Nat) => (n : Rat)) : l = m :=
  (List.map_inj_right fun a b => nat_inj).mp h
theorem prop1_one {qs : List Rat} {ns ms : List Nat} (h1 : Prop1 qs ns) (h2 : Prop1 qs ms) : ns = ms := by
  obtain ⟨k, hk, e1, g1⟩ := h1
  obtain ⟨l, hl, e2, g2⟩ := h2
  obtain ⟨a, b, ha, hb, rfl⟩ := pos_num hk
  obtain ⟨c, d, hc, hd, rfl⟩ := pos_num hl
  have hb' : (b : Rat) ≠ 0 := by have := Pl.natpos hb; grind
  have hd' : (d : Rat) ≠ 0 := by have := Pl.natpos hd; grind
  have hm : ns.map ((c * b) * ·) = ms.map ((a * d) * ·) := by
    apply map_cast
    rw [List.map_map, List.map_map]
    have q1 : ns.map ((fun n : Nat => (n : Rat)) ∘ ((c * b) * ·)) = (ns.map fun (n : Nat) => (n : Rat)).map fun x => ((c * b : Nat) : Rat) * x := by
      rw [List.map_map]
      exact List.map_congr_left fun n _ => Rat.natCast_mul _ _
    have q2 : ms.map ((fun n : Nat => (n : Rat)) ∘ ((a * d) * ·)) = (ms.map fun (n : Nat) => (n : Rat)).map fun x => ((a * d : Nat) : Rat) * x := by
      rw [List.map_map]
      exact List.map_congr_left fun n _ => Rat.natCast_mul _ _
    rw [q1, q2, e1, e2, List.map_map, List.map_map]
    refine List.map_congr_left fun q _ => ?_
    show ((c * b : Nat) : Rat) * (q * ((a : Rat) / (b : Rat))) = ((a * d : Nat) : Rat) * (q * ((c : Rat) / (d : Rat)))
    rw [Rat.natCast_mul, Rat.natCast_mul]
    grind
  have hg : Gc (ns.map ((c * b) * ·)) = Gc (ms.map ((a * d) * ·)) := by rw [hm]
  rw [Gc_mul, Gc_mul, g1, g2, Nat.mul_one, Nat.mul_one] at hg
  rw [hg] at hm
  refine (List.map_inj_right fun x y hxy => ?_).mp hm
  exact Nat.eq_of_mul_eq_mul_left (Nat.mul_pos ha hd) hxy
def lowQ (qs : List Rat) : Nat := qs.foldl (fun d q => d.lcm q.den) 1
def upQ (qs : List Rat) : List Nat := qs.map fun q => q.num.toNat * (lowQ qs / q.den)
theorem lowQ_dvd (qs : List Rat) : 0 < lowQ qs ∧ ∀ q ∈ qs, q.den ∣ lowQ qs := by
  have key : ∀ (qs : List Rat) (l : Nat), 0 < l → 0 < qs.foldl (fun d q => d.lcm q.den) l ∧ l ∣ qs.foldl (fun d q => d.lcm q.den) l ∧ ∀ q ∈ qs, q.den ∣ qs.foldl (fun d q => d.lcm q.den) l := by
    intro qs
    induction qs with
    | nil => intro l h; exact ⟨h, Nat.dvd_refl _, fun _ h => by cases h⟩
    | cons x qs ih =>
      intro l h
      obtain ⟨h0, h1, h2⟩ := ih (l.lcm x.den) (Nat.lcm_pos h x.den_pos)
      refine ⟨h0, Nat.dvd_trans (Nat.dvd_lcm_left ..) h1, fun q hq => ?_⟩
      rcases List.mem_cons.mp hq with rfl | hq
      · exact Nat.dvd_trans (Nat.dvd_lcm_right ..) h1
      · exact h2 q hq
  exact ⟨(key qs 1 Nat.one_pos).1, (key qs 1 Nat.one_pos).2.2⟩
theorem up_cast {q : Rat} (h : 0 < q) {L : Nat} (hL : q.den ∣ L) : ((q.num.toNat * (L / q.den) : Nat) : Rat) = q * (L : Rat) := by
  obtain ⟨m, rfl⟩ := hL
  rw [Nat.mul_div_cancel_left _ q.den_pos, Rat.natCast_mul, Rat.natCast_mul]
  have h1 : ((q.num.toNat : Nat) : Int) = q.num := Int.toNat_of_nonneg (by have := num_pos h; omega)
  have h2 : ((q.num.toNat : Nat) : Rat) = ((q.num : Int) : Rat) := by
    rw [← h1]
    rfl
  have h3 : q = (q.num : Rat) / (q.den : Rat) := ((Rat.mkRat_eq_div _ _).symm.trans (Rat.mkRat_self q)).symm
  have h4 : (q.den : Rat) ≠ 0 := by have := Pl.natpos q.den_pos; grind
  rw [h2]
  have h5 : q * (q.den : Rat) = (q.num : Rat) := by
    have : (q.num : Rat) / (q.den : Rat) * (q.den : Rat) = (q.num : Rat) := by grind
    rw [← h3] at this
    exact this
  rw [← h5]
  grind
theorem up_pos {q : Rat} (h : 0 < q) {L : Nat} (h0 : 0 < L) (hL : q.den ∣ L) : 0 < q.num.toNat * (L / q.den) := by
  refine Nat.mul_pos (by have := num_pos h; omega) ?_
  exact Nat.div_pos (Nat.le_of_dvd h0 hL) q.den_pos
theorem up_prop {qs : List Rat} (hp : ∀ q ∈ qs, 0 < q) (hne : qs ≠ []) : 0 < Gc (upQ qs) ∧ Prop1 qs ((upQ qs).map (· / Gc (upQ qs))) := by
  obtain ⟨h0, hd⟩ := lowQ_dvd qs
  have hg : 0 < Gc (upQ qs) := by
    cases qs with
    | nil => exact absurd rfl hne
    | cons q qs => exact Gc_pos (a := q.num.toNat * (lowQ (q :: qs) / q.den)) List.mem_cons_self (up_pos (hp q List.mem_cons_self) h0 (hd q List.mem_cons_self))
  refine ⟨hg, (lowQ qs : Rat) / (Gc (upQ qs) : Rat), ?_, ?_, Gc_div hg⟩
  · exact Pl.divpos (Pl.natpos h0) (Pl.natpos hg)
  · have hg' : (Gc (upQ qs) : Rat) ≠ 0 := by have := Pl.natpos hg; grind
    have e1 : ((upQ qs).map (· / Gc (upQ qs))).map (fun (n : Nat) => (n : Rat)) = (upQ qs).map fun (n : Nat) => (n : Rat) / (Gc (upQ qs) : Rat) := by
      rw [List.map_map]
      refine List.map_congr_left fun n hn => ?_
      obtain ⟨m, hm⟩ := Gc_dvd hn
      show ((n / Gc (upQ qs) : Nat) : Rat) = (n : Rat) / (Gc (upQ qs) : Rat)
      have q1 : n / Gc (upQ qs) = m := by rw [hm]; exact Nat.mul_div_cancel_left _ hg
      have q2 : (n : Rat) = (Gc (upQ qs) : Rat) * (m : Rat) := by rw [← Rat.natCast_mul, ← hm]
      rw [q1, q2]
      grind
    rw [e1]
    show (qs.map fun q => q.num.toNat * (lowQ qs / q.den)).map (fun (n : Nat) => (n : Rat) / (Gc (upQ qs) : Rat)) = _
    rw [List.map_map]
    refine List.map_congr_left fun q hq => ?_
    show ((q.num.toNat * (lowQ qs / q.den) : Nat) : Rat) / (Gc (upQ qs) : Rat) = q * ((lowQ qs : Rat) / (Gc (upQ qs) : Rat))
    rw [up_cast (hp q hq) (hd q hq), rdiv, rdiv]
    grind
theorem int_ratio {qs : List Rat} (hp : ∀ q ∈ qs, 0 < q) (hne : qs ≠ []) : integerRatio qs = (upQ qs).map (· / Gc (upQ qs)) := by
  obtain ⟨h0, hd⟩ := lowQ_dvd qs
  have hn : (qs.map fun (q : Rat) => (q * (lowQ qs : Rat)).num.toNat) = upQ qs := by
    unfold upQ
    refine List.map_congr_left fun q hq => ?_
    rw [← up_cast (hp q hq) (hd q hq)]
    rw [Rat.num_natCast]
    exact Int.toNat_natCast _
  have e : integerRatio qs = if Gc (qs.map fun (q : Rat) => (q * (lowQ qs : Rat)).num.toNat) = 0 then (qs.map fun (q : Rat) => (q * (lowQ qs : Rat)).num.toNat) else (qs.map fun (q : Rat) => (q * (lowQ qs : Rat)).num.toNat).map fun n => n / Gc (qs.map fun (q : Rat) => (q * (lowQ qs : Rat)).num.toNat) := rfl
  rw [e, hn, if_neg]
  have := (up_prop hp hne).1
  omega
theorem ratio_scale {qs : List Rat} (hp : ∀ q ∈ qs, 0 < q) (hne : qs ≠ []) {T : Rat} (hT : 0 < T) : (upQ (qs.map fun q => q / T)).map (· / Gc (upQ (qs.map fun q => q / T))) = integerRatio qs := by
  rw [int_ratio hp hne]
  have h1 := (up_prop (qs := qs.map fun q => q / T) (fun q hq => by
    obtain ⟨x, hx, rfl⟩ := List.mem_map.mp hq
    exact Pl.divpos (hp x hx) hT) (by simpa using hne)).2
  refine prop1_one (qs := qs) ?_ (up_prop hp hne).2
  obtain ⟨k, hk, e, g⟩ := h1
  refine ⟨k / T, Pl.divpos hk hT, ?_, g⟩
  rw [e, List.map_map]
  refine List.map_congr_left fun q _ => ?_
  show q / T * k = q * (k / T)
  rw [rdiv, rdiv]
  grind
/-- what is saved -/
theorem fin_eq {t : Mixture} (hpos : ∀ e ∈ nrm t, 0 < e.2) (hT : 0 < totalAmount t) (hne : nrm t ≠ []) :
    finS (nrm t) = ((t.filter fun e => decide (e.2 ≠ 0)).map fun e => e.1).zip (integerRatio ((t.filter fun e => decide (e.2 ≠ 0)).map fun e => e.2)) := by
  have hq : (nrm t).map (fun e => e.2) = ((t.filter fun e => decide (e.2 ≠ 0)).map fun e => e.2).map fun q => q / totalAmount t := by
    unfold nrm
    rw [List.map_map, List.map_map]
    rfl
  have hp : ∀ q ∈ (t.filter fun e => decide (e.2 ≠ 0)).map fun e => e.2, 0 < q := by
    intro q hq
    obtain ⟨e, he, rfl⟩ := List.mem_map.mp hq
    have h1 := hpos (e.1, e.2 / totalAmount t) (List.mem_map.mpr ⟨e, he, rfl⟩)
    have h1 : 0 < e.2 / totalAmount t := h1
    have h2 : e.2 = e.2 / totalAmount t * totalAmount t := by rw [rdiv]; grind
    rw [h2]
    exact Rat.mul_pos h1 hT
  have hn : ((t.filter fun e => decide (e.2 ≠ 0)).map fun e => e.2) ≠ [] := by
    intro e
    apply hne
    unfold nrm
    rw [List.map_eq_nil_iff.mp e]
    rfl
  rw [← ratio_scale hp hn hT, ← hq]
  have hk : ((t.filter fun e => decide (e.2 ≠ 0)).map fun e => e.1) = (nrm t).map fun e => e.1 := by
    unfold nrm
    rw [List.map_map]
    rfl
  rw [hk]
  generalize nrm t = es
  have hl : lowS es = lowQ (es.map fun e => e.2) := by
    unfold lowS lowQ
    rw [List.foldl_map]
  have ha : (amS es).map (fun a => a.2) = upQ (es.map fun e => e.2) := by
    unfold amS upQ
    rw [List.map_map, List.map_map, hl]
    rfl
  have hb : byS (amS es) = Gc (upQ (es.map fun e => e.2)) := by
    rw [← ha]
    unfold byS Gc
    rw [List.foldl_map]
  unfold finS
  rw [hb, ← ha, List.map_map]
  have hz : ∀ (as : List (Nat × Nat)) (g : Nat), (as.map fun a => (a.1, a.2 / g)) = (as.map fun a => a.1).zip (as.map ((· / g) ∘ fun a => a.2)) := by
    intro as g
    induction as with
    | nil => rfl
    | cons a as ih => rw [List.map_cons, ih]; rfl
  rw [hz]
  congr 1
  unfold amS
  rw [List.map_map]
  rfl
end Sw
set_option maxRecDepth 100000
set_option maxHeartbeats 4000000
/-! # Each operation: the walk's answer is the specification's -/
namespace Sw
open SubstitutionSpec
inductive Hst : List Sto → List Catalogue → Prop
  | nil : Hst [] []
  | snoc {bs : List Sto} {cs : List Catalogue} {b : Sto} {c : Catalogue} : Hst bs cs → StoOk b → Rl b c → Hst (bs ++ [b]) (c :: cs)
structure StR (s : Sto) (bs : List Sto) (st : State) : Prop where
  ok : StoOk s
  rl : Rl s st.current
  h : Hst bs st.history
def Gd (st : State) (res : ResD) (out : State × Response) : Prop := match res with
  | .error c => out = (st, ⟨c, []⟩)
  | .ok r => r.1 = IntsP (out.2.code :: out.2.values) ∧ StR r.2.1 r.2.2 out.1 ∧ out.1.history.length ≤ st.history.length + 1
def Qd (r : Except Int (List Int)) (p : Response) : Prop := match r with
  | .error c => p = ⟨c, []⟩
  | .ok l => l = p.code :: p.values
section
variable {s : Sto} {bs : List Sto} {st : State}
theorem Gd.keep (h : StR s bs st) {r : Except Int (List Int)} {p : Response} (hq : Qd r p) : Gd st (keep s bs r) (st, p) := by
  cases r with
  | error c => exact congrArg (Prod.mk st) hq
  | ok l =>
    refine ⟨?_, h, Nat.le_succ _⟩
    show IntsP l = _
    rw [show l = p.code :: p.values from hq]
theorem oAns_ok (h : StR s bs st) {w : Int} {ns row : List Int} {out : State × Response} (hg : Gd st (oDone w ns row s bs) out) :
    ∃ s' bs', oAns w ns row s bs = (IntsP (out.2.code :: out.2.values), s', bs') ∧ StR s' bs' out.1 ∧ out.1.history.length ≤ st.history.length + 1 := by
  unfold oAns
  cases e : oDone w ns row s bs with
  | error c =>
    rw [e] at hg
    have hg : out = (st, ⟨c, []⟩) := hg
    rw [hg]
    exact ⟨s, bs, rfl, h, Nat.le_succ _⟩
  | ok r =>
    rw [e] at hg
    obtain ⟨R, s', bs'⟩ := r
    obtain ⟨h1, h2⟩ := hg
    have h1 : R = _ := h1
    rw [h1]
    exact ⟨s', bs', rfl, h2⟩
/-! ### changes of the store -/
theorem Rl.putM {c : Catalogue} (h : Rl s c) (n : Nat) (m : Material) : Rl {s with ms := Pl.putA s.ms n m} {c with materials := c.materials.insert n m} :=
  ⟨Pl.asc_insert h.ma, h.ra, h.fa, fun k => by rw [Pl.getA_put, Pl.getA_insert, h.m], h.r, h.f⟩
theorem Rl.putR {c : Catalogue} (h : Rl s c) (n : Nat) (r : Rule) : Rl {s with rs := Pl.putA s.rs n r} {c with rules := c.rules.insert n r} :=
  ⟨h.ma, Pl.asc_insert h.ra, h.fa, h.m, fun k => by rw [Pl.getA_put, Pl.getA_insert, h.r], h.f⟩
theorem Rl.putF {c : Catalogue} (h : Rl s c) (n : Nat) (f : List (Nat × Nat)) : Rl {s with fs := Pl.putA s.fs n f} {c with formulas := c.formulas.insert n f} :=
  ⟨h.ma, h.ra, Pl.asc_insert h.fa, h.m, h.r, fun k => by rw [Pl.getA_put, Pl.getA_insert, h.f]⟩
theorem remove_drop {α : Type} (t : List (Nat × α)) (k : Nat) : Table.remove t k = Pl.dropA t k := by
  unfold Table.remove Pl.dropA
  refine List.filter_congr fun e _ => ?_
  rw [Bool.eq_iff_iff]
  simp
theorem Rl.dropR {c : Catalogue} (h : Rl s c) (n : Nat) : Rl {s with rs := Pl.dropA s.rs n} {c with rules := c.rules.remove n} := by
  refine ⟨h.ma, asc_filter _ h.ra, h.fa, h.m, fun k => ?_, h.f⟩
  show Pl.getA (Pl.dropA s.rs n) k = Pl.getA (Table.remove c.rules n) k
  rw [remove_drop, Pl.getA_drop, Pl.getA_drop, h.r]
theorem Gd.put (h : StR s bs st) {s' : Sto} {c' : Catalogue} (h1 : StoOk s') (h2 : Rl s' c') {l : List Int} : Gd st (.ok (IntsP (0 :: l), s', bs ++ [s])) (st.change c' (success l)) :=
  ⟨rfl, ⟨h1, h2, Hst.snoc h.h h.ok h.rl⟩, Nat.le_refl _⟩
theorem Gd.ite {p : Prop} [Decidable p] {a b : ResD} {x y : State × Response} (h1 : p → Gd st a x) (h2 : ¬ p → Gd st b y) : Gd st (if p then a else b) (if p then x else y) := by
  by_cases c : p
  · rw [if_pos c, if_pos c]; exact h1 c
  · rw [if_neg c, if_neg c]; exact h2 c
theorem has_m {c : Catalogue} (h : Rl s c) : c.hasMaterial = hasM s := by
  funext k
  unfold Catalogue.hasMaterial hasM
  rw [Pl.lookup_getA, h.m]
theorem not_false {b : Bool} (h : ¬ b = false) : b = true := by cases b with | true => rfl | false => exact absurd rfl h
theorem and3 : ∀ {a b c : Bool}, ¬ (a && (b && c)) = false → a = true ∧ b = true ∧ c = true := by decide
theorem and2 : ∀ {a b : Bool}, ¬ (a && b) = false → a = true ∧ b = true := by decide
theorem prof_ok {row : List Int} (h : isProfile row = true) : (row.map Int.toNat).length = 6 ∧ ∀ a ∈ row.map Int.toNat, a ≤ 1000 := by
  unfold isProfile at h
  obtain ⟨h1, h2⟩ := Bool.and_eq_true_iff.mp h
  refine ⟨by rw [List.length_map]; exact beq_iff_eq.mp h1, fun a ha => ?_⟩
  obtain ⟨x, hx, rfl⟩ := List.mem_map.mp ha
  obtain ⟨m, rfl, _, h3⟩ := range_nat (List.all_eq_true.mp h2 x hx)
  exact h3
theorem g1 (h : StR s bs st) (mat price : Int) (row : List Int) : Gd st (oAddMat mat price row s bs) (step st (.addMaterial mat price row)) := by
  unfold oAddMat
  show Gd st _ (if (isIdentifier materialCount mat && (inRange 0 million price && isProfile row)) = false then (st, invalidArgument) else if st.current.hasMaterial mat.toNat = true then (st, alreadyExists) else st.change { st.current with materials := st.current.materials.insert mat.toNat ⟨price.toNat, row.map Int.toNat, true, million⟩ } (success []))
  refine Gd.ite (fun _ => rfl) fun c1 => ?_
  rw [has_m h.rl]
  obtain ⟨a1, a2, a3⟩ := and3 c1
  refine Gd.ite (fun _ => rfl) fun c2 => ?_
  obtain ⟨m, rfl, hm⟩ := ident_nat a1
  obtain ⟨p, rfl, _, hp⟩ := range_nat a2
  obtain ⟨b1, b2⟩ := prof_ok a3
  exact Gd.put h (h.ok.putM hm ⟨hp, b1, b2, Nat.le_refl _⟩) (h.rl.putM _ _)
theorem upd_eq (h : StR s bs st) (m : Int) (u : Material → Option Material) : st.updateMaterial m u = match Pl.getA s.ms m.toNat with
    | none => (st, notFound)
    | some old => match u old with
      | none => (st, alreadyExists)
      | some new => st.change { st.current with materials := st.current.materials.insert m.toNat new } (success []) := by
  unfold State.updateMaterial
  rw [Pl.lookup_getA, h.rl.m]
  rfl
theorem mat_in (h : StR s bs st) {k : Nat} {m : Material} (e : Pl.getA s.ms k = some m) : k < 24 ∧ MatOk m := h.ok.mi _ (Pl.getA_mem e)
theorem g2 (h : StR s bs st) (m : Int) : Gd st (oChange 2 m none s bs) (step st (.markUnavailable m)) := by
  unfold oChange
  show Gd st _ (if isIdentifier materialCount m = false then (st, invalidArgument) else st.updateMaterial m fun (m : Material) => if m.isAvailable = true then some { m with isAvailable := false } else none)
  rw [show (decide ((2 : Int) ≤ 3) || inRange 0 1000000 ((none : Option Int).getD 0)) = true from rfl, Bool.and_true]
  refine Gd.ite (fun _ => rfl) fun c1 => ?_
  rw [upd_eq h]
  cases e : Pl.getA s.ms m.toNat with
  | none => rfl
  | some old =>
    obtain ⟨i1, i2⟩ := mat_in h e
    dsimp only
    rw [if_pos (by decide)]
    cases q : old.isAvailable with
    | true => exact Gd.put h (h.ok.putM (m := {old with isAvailable := false}) i1 ⟨i2.price, i2.six, i2.att, i2.most⟩) (h.rl.putM _ _)
    | false => rfl
theorem g3 (h : StR s bs st) (m : Int) : Gd st (oChange 3 m none s bs) (step st (.markAvailable m)) := by
  unfold oChange
  show Gd st _ (if isIdentifier materialCount m = false then (st, invalidArgument) else st.updateMaterial m fun (m : Material) => if m.isAvailable = true then none else some { m with isAvailable := true })
  rw [show (decide ((3 : Int) ≤ 3) || inRange 0 1000000 ((none : Option Int).getD 0)) = true from rfl, Bool.and_true]
  refine Gd.ite (fun _ => rfl) fun c1 => ?_
  rw [upd_eq h]
  cases e : Pl.getA s.ms m.toNat with
  | none => rfl
  | some old =>
    obtain ⟨i1, i2⟩ := mat_in h e
    dsimp only
    rw [if_pos (by decide)]
    cases q : old.isAvailable with
    | false => exact Gd.put h (h.ok.putM (m := {old with isAvailable := true}) i1 ⟨i2.price, i2.six, i2.att, i2.most⟩) (h.rl.putM _ _)
    | true => rfl
theorem g4 (h : StR s bs st) (m x : Int) : Gd st (oChange 4 m (some x) s bs) (step st (.setPrice m x)) := by
  unfold oChange
  show Gd st _ (if (isIdentifier materialCount m && inRange 0 million x) = false then (st, invalidArgument) else st.updateMaterial m fun (m : Material) => some { m with price := x.toNat })
  rw [show (decide ((4 : Int) ≤ 3) || inRange 0 1000000 ((some x : Option Int).getD 0)) = inRange 0 1000000 x from rfl]
  refine Gd.ite (fun _ => rfl) fun c1 => ?_
  rw [upd_eq h]
  cases e : Pl.getA s.ms m.toNat with
  | none => rfl
  | some old =>
    obtain ⟨i1, i2⟩ := mat_in h e
    obtain ⟨p, rfl, _, hp⟩ := range_nat (and2 c1).2
    exact Gd.put h (h.ok.putM (m := {old with price := p}) i1 ⟨hp, i2.six, i2.att, i2.most⟩) (h.rl.putM _ _)
theorem g5 (h : StR s bs st) (m x : Int) : Gd st (oChange 5 m (some x) s bs) (step st (.setMaxShare m x)) := by
  unfold oChange
  show Gd st _ (if (isIdentifier materialCount m && inRange 0 million x) = false then (st, invalidArgument) else st.updateMaterial m fun (m : Material) => some { m with maxShare := x.toNat })
  rw [show (decide ((5 : Int) ≤ 3) || inRange 0 1000000 ((some x : Option Int).getD 0)) = inRange 0 1000000 x from rfl]
  refine Gd.ite (fun _ => rfl) fun c1 => ?_
  rw [upd_eq h]
  cases e : Pl.getA s.ms m.toNat with
  | none => rfl
  | some old =>
    obtain ⟨i1, i2⟩ := mat_in h e
    obtain ⟨p, rfl, _, hp⟩ := range_nat (and2 c1).2
    exact Gd.put h (h.ok.putM (m := {old with maxShare := p}) i1 ⟨i2.price, i2.six, i2.att, hp⟩) (h.rl.putM _ _)
theorem has_key {k : Nat} (h : hasM s k = true) : k ∈ Pl.keysA s.ms := by
  obtain ⟨x, hx⟩ := Option.isSome_iff_exists.mp h
  exact get_key hx
theorem g6 (h : StR s bs st) (num mat parts : Int) (row : List Int) : Gd st (oAddRule num mat parts row s bs) (step st (.addRule num mat parts row)) := by
  unfold oAddRule
  show Gd st _ (if (isIdentifier ruleCount num && (isIdentifier materialCount mat && inRange 1 maxRuleParts parts)) = false then (st, invalidArgument) else match parseParts row maxReplacements maxRuleParts with
    | none => (st, invalidArgument)
    | some pairs => if (st.current.hasMaterial mat.toNat && pairs.all fun (p : Nat × Nat) => st.current.hasMaterial p.1) = false then (st, notFound) else if (st.current.rules.lookup num.toNat).isSome = true then (st, alreadyExists) else if pairs.any (fun (p : Nat × Nat) => p.1 == mat.toNat) = true then (st, notPossible) else st.change { st.current with rules := st.current.rules.insert num.toNat ⟨mat.toNat, parts.toNat, pairs⟩ } (success []))
  refine Gd.ite (fun _ => rfl) fun c1 => ?_
  rw [has_m h.rl, Pl.lookup_getA, ← h.rl.r]
  obtain ⟨a1, a2, a3⟩ := and3 c1
  obtain ⟨n, rfl, hn⟩ := ident_nat a1
  obtain ⟨p, rfl, hp⟩ := range_nat a3
  show Gd st (match parseParts row 3 1000 with | none => _ | some ps => _) (match parseParts row 3 1000 with | none => _ | some ps => _)
  cases e : parseParts row 3 1000 with
  | none => rfl
  | some ps =>
    have ok := parse_ok e
    dsimp only
    refine Gd.ite (fun _ => rfl) fun c2 => ?_
    obtain ⟨b1, b2⟩ := and2 c2
    refine Gd.ite (fun _ => rfl) fun c3 => ?_
    refine Gd.ite (fun _ => rfl) fun c4 => ?_
    refine Gd.put h (h.ok.putR (r := ⟨mat.toNat, p, ps⟩) hn ⟨has_key b1, hp, ok.len, fun x hx => ⟨has_key (List.all_eq_true.mp b2 x hx), (ok.amt x hx).1, (ok.amt x hx).2, fun q => c4 ?_⟩, ok.diff⟩) (h.rl.putR _ _)
    exact List.any_eq_true.mpr ⟨x, hx, beq_iff_eq.mpr q⟩
theorem g7 (h : StR s bs st) (num : Int) : Gd st (oDelRule num s bs) (step st (.removeRule num)) := by
  unfold oDelRule
  show Gd st _ (if isIdentifier ruleCount num = false then (st, invalidArgument) else if (st.current.rules.lookup num.toNat).isNone = true then (st, notFound) else st.change { st.current with rules := st.current.rules.remove num.toNat } (success []))
  refine Gd.ite (fun _ => rfl) fun c1 => ?_
  rw [Pl.lookup_getA, ← h.rl.r]
  refine Gd.ite (fun _ => rfl) fun c2 => ?_
  exact Gd.put h (h.ok.dropR _) (h.rl.dropR _)
theorem g8 (h : StR s bs st) (num : Int) (row : List Int) : Gd st (oSetForm num row s bs) (step st (.setFormula num row)) := by
  unfold oSetForm
  show Gd st _ (if isIdentifier formulaCount num = false then (st, invalidArgument) else match parseParts row maxComponents million with
    | none => (st, invalidArgument)
    | some pairs => if pairs.all (fun (p : Nat × Nat) => st.current.hasMaterial p.1) = false then (st, notFound) else st.change { st.current with formulas := st.current.formulas.insert num.toNat (toFormula pairs) } (success []))
  refine Gd.ite (fun _ => rfl) fun c1 => ?_
  rw [has_m h.rl]
  obtain ⟨n, rfl, hn⟩ := ident_nat (not_false c1)
  show Gd st (match parseParts row 10 1000000 with | none => _ | some ps => _) (match parseParts row 10 1000000 with | none => _ | some ps => _)
  cases e : parseParts row 10 1000000 with
  | none => rfl
  | some ps =>
    have ok := parse_ok e
    dsimp only
    refine Gd.ite (fun _ => rfl) fun c2 => ?_
    obtain ⟨p1, p2⟩ := fOf_perm ok.diff
    refine Gd.put h (h.ok.putF hn ⟨p2, ⟨fun q => ?_, by rw [p1.length_eq]; exact ok.len.2⟩, fun x hx => ?_⟩) (h.rl.putF _ _)
    · have := p1.length_eq
      rw [q] at this
      have := ok.len.1
      simp at *
      omega
    · have hx := p1.mem_iff.mp hx
      exact ⟨has_key (List.all_eq_true.mp (not_false c2) x hx), ok.amt x hx⟩
theorem g23 (h : StR s bs st) : Gd st (oUndo s bs) (step st .undo) := by
  obtain ⟨c, hist⟩ := st
  obtain ⟨h1, h2, h3⟩ := h
  have h3 : Hst bs hist := h3
  cases h3 with
  | nil => rfl
  | @snoc bs cs b c' a1 a2 a3 =>
    unfold oUndo
    rw [List.getLast?_concat]
    dsimp only
    rw [List.dropLast_concat]
    exact ⟨rfl, ⟨a2, a3, a1⟩, by show cs.length ≤ (c' :: cs).length + 1; rw [List.length_cons]; omega⟩
end
end Sw
set_option maxRecDepth 100000
set_option maxHeartbeats 4000000
/-! # Each question: the walk's answer is the specification's -/
namespace Sw
open SubstitutionSpec
section
variable {s : Sto} {bs : List Sto} {st : State} {c : Catalogue}
theorem Qd.ite {p : Prop} [Decidable p] {a b : Except Int (List Int)} {x y : Response} (h1 : p → Qd a x) (h2 : ¬ p → Qd b y) : Qd (if p then a else b) (if p then x else y) := by
  by_cases c : p
  · rw [if_pos c, if_pos c]; exact h1 c
  · rw [if_neg c, if_neg c]; exact h2 c
theorem with_form (h : Rl s c) (a : Int) (q : Mixture → Response) : c.withFormula a q = if isIdentifier 8 a = false then invalidArgument else match Pl.getA s.fs a.toNat with
    | none => notFound
    | some f => q (mixtureOf f) := by
  unfold Catalogue.withFormula
  rw [Pl.lookup_getA, h.f]
  rfl
/-- one formula -/
def one (s : Sto) (a : Int) (q : List (Nat × Nat) → Except Int (List Int)) : Except Int (List Int) := if isIdentifier 8 a = false then .error (-1) else match Pl.getA s.fs a.toNat with
  | none => .error (-3)
  | some f => q f
theorem one_ok (h : Rl s c) (hs : StoOk s) (a : Int) {q : List (Nat × Nat) → Except Int (List Int)} {p : Mixture → Response} (hq : ∀ f, ForOk s.ms f → Qd (q f) (p (mixtureOf f))) : Qd (one s a q) (c.withFormula a p) := by
  rw [with_form h]
  unfold one
  refine Qd.ite (fun _ => rfl) fun _ => ?_
  cases e : Pl.getA s.fs a.toNat with
  | none => rfl
  | some f => exact hq f (hs.fi _ (Pl.getA_mem e)).2
theorem fq_one {w a : Int} (hw : w ≠ 12) (hw2 : w ≠ 17) : oFq w [a] s = one s a fun f => if w = 9 then .ok (0 :: flatF f) else if w = 10 then .ok (0 :: fr2 (costP s (mixP f))) else if w = 11 then .ok (0 :: flatR ((List.range 6).map (colP s (mixP f))))
    else if w = 13 then .ok (oCheck s f) else if w = 15 then .ok (oCount s f) else oBest s f (if w = 16 then "cheapest" else "smallest") (-1) := by
  unfold oFq one
  rw [if_neg hw, decide_eq_false hw2]
  show (if (isIdentifier 8 a && true) = false then _ else if true = false then _ else _) = _
  rw [Bool.and_true]
  congr 1
  rw [if_neg (by decide)]
  show (match Pl.getA s.fs a.toNat with | none => _ | some f => _) = _
  cases Pl.getA s.fs a.toNat with
  | none => rfl
  | some f =>
    show (if w = 9 then _ else if w = 10 then _ else if w = 11 then _ else if w = 12 then _ else if w = 13 then _ else if w = 15 then _ else if w = 17 then _ else _) = _
    rw [if_neg hw, if_neg hw2]
theorem flatF_eq (f : List (Nat × Nat)) : flatF f = (mixtureOf f).flatMap fun (e : Nat × Rat) => [natValue e.1, e.2.num] := by
  unfold flatF flatI fI mixtureOf
  rw [List.flatMap_map, List.flatMap_map]
  rfl
theorem flatR_eq (qs : List Rat) : flatR qs = qs.flatMap fractionValues := by
  unfold flatR flatI qI
  rw [List.flatMap_map]
  rfl
theorem q9 (h : Rl s c) (hs : StoOk s) (a : Int) : Qd (oFq 9 [a] s) (c.query (.getFormula a)) := by
  rw [fq_one (by decide) (by decide)]
  refine one_ok (p := fun (mixture : Mixture) => success (mixture.flatMap fun (entry : Nat × Rat) => [natValue entry.1, entry.2.num])) h hs a fun f ho => ?_
  rw [if_pos rfl]
  exact congrArg (List.cons 0) (flatF_eq f)
theorem q10 (h : Rl s c) (hs : StoOk s) (a : Int) : Qd (oFq 10 [a] s) (c.query (.cost a)) := by
  rw [fq_one (by decide) (by decide)]
  refine one_ok (p := fun (mixture : Mixture) => success (fractionValues (c.cost mixture))) h hs a fun f ho => ?_
  rw [if_neg (by decide), if_pos rfl, mix_nrm ho, cost_nrm h]
  rfl
theorem q11 (h : Rl s c) (hs : StoOk s) (a : Int) : Qd (oFq 11 [a] s) (c.query (.profile a)) := by
  rw [fq_one (by decide) (by decide)]
  refine one_ok (p := fun (mixture : Mixture) => success ((c.profile mixture).flatMap fractionValues)) h hs a fun f ho => ?_
  rw [if_neg (by decide), if_neg (by decide), if_pos rfl, mix_nrm ho, profile_nrm h, flatR_eq]
  rfl
theorem q13 (h : Rl s c) (hs : StoOk s) (a : Int) : Qd (oFq 13 [a] s) (c.query (.check a)) := by
  rw [fq_one (by decide) (by decide)]
  refine one_ok (p := fun (mixture : Mixture) => match c.violation mixture with | none => ⟨1, []⟩ | some v => success [natValue v.1, natValue v.2]) h hs a fun f ho => ?_
  rw [if_neg (by decide), if_neg (by decide), if_neg (by decide), if_pos rfl]
  unfold oCheck
  rw [mix_nrm ho, fault_nrm h (mix_asc ho.asc)]
  cases e : c.violation (mixtureOf f) with
  | none => rfl
  | some v =>
    have := viol_two e
    show (if v.1 = 0 then _ else _) = _
    rw [if_neg (by omega)]
    rfl
theorem q15 (h : Rl s c) (hs : StoOk s) (a : Int) : Qd (oFq 15 [a] s) (c.query (.countPlans a)) := by
  rw [fq_one (by decide) (by decide)]
  refine one_ok (p := fun (mixture : Mixture) => success [natValue (c.plans mixture).length, natValue (c.acceptablePlans mixture).length]) h hs a fun f ho => ?_
  rw [if_neg (by decide), if_neg (by decide), if_neg (by decide), if_neg (by decide), if_pos rfl]
  unfold oCount
  rw [acc_len2 h hs ho, plans_eq h hs ho, List.length_map]
  rfl
theorem best_ok (h : Rl s c) (hs : StoOk s) {f : List (Nat × Nat)} (ho : ForOk s.ms f) {w : PySem.Str} {most : Int} {b : Outcome → Outcome → Bool} {l : List Outcome}
    (hb : isB w = b) (hl : ((c.acceptablePlans (mixtureOf f)).filter fun o => decide (most < 0) || decide (o.cost ≤ (most : Rat))) = l) : Qd (oBest s f w most) (outcomeResponse (bestOutcome b l)) := by
  unfold oBest
  rw [chosen_eq h hs ho, hb, hl]
  cases bestOutcome b l with
  | none => rfl
  | some o =>
    show outL o = 0 :: natValue o.ruleIds.length :: (o.ruleIds.map natValue ++ (fractionValues o.cost ++ fractionValues o.distance))
    unfold outL
    rw [List.append_assoc, List.append_assoc]
    rfl
theorem all_out (l : List Outcome) : (l.filter fun o => decide ((-1 : Int) < 0) || decide (o.cost ≤ ((-1 : Int) : Rat))) = l := List.filter_eq_self.mpr fun _ _ => rfl
theorem q16 (h : Rl s c) (hs : StoOk s) (a : Int) : Qd (oFq 16 [a] s) (c.query (.cheapestPlan a)) := by
  rw [fq_one (by decide) (by decide)]
  refine one_ok (p := fun (mixture : Mixture) => outcomeResponse (bestOutcome Outcome.isCheaper (c.acceptablePlans mixture))) h hs a fun f ho => ?_
  rw [if_neg (by decide), if_neg (by decide), if_neg (by decide), if_neg (by decide), if_neg (by decide), if_pos rfl]
  refine best_ok h hs ho ?_ (all_out _)
  funext x y
  unfold isB
  rw [if_neg (by decide), if_neg (by decide)]
theorem q18 (h : Rl s c) (hs : StoOk s) (a : Int) : Qd (oFq 18 [a] s) (c.query (.smallestPlan a)) := by
  rw [fq_one (by decide) (by decide)]
  refine one_ok (p := fun (mixture : Mixture) => outcomeResponse (bestOutcome Outcome.isSmaller (c.acceptablePlans mixture))) h hs a fun f ho => ?_
  rw [if_neg (by decide), if_neg (by decide), if_neg (by decide), if_neg (by decide), if_neg (by decide), if_neg (by decide)]
  refine best_ok h hs ho ?_ (all_out _)
  funext x y
  unfold isB
  rw [if_pos rfl]
theorem q17 (h : Rl s c) (hs : StoOk s) (a b : Int) : Qd (oFq 17 [a, b] s) (c.query (.nearestPlan a b)) := by
  unfold oFq
  show Qd (if (isIdentifier 8 a && true) = false then _ else if inRange 0 1000000 b = false then _ else match Pl.getA s.fs a.toNat with | none => _ | some f => oBest s f "nearest" b) (if inRange 0 million b = false then invalidArgument else c.withFormula a fun (mixture : Mixture) => outcomeResponse (bestOutcome Outcome.isNearer ((c.acceptablePlans mixture).filter fun (outcome : Outcome) => decide (outcome.cost ≤ (b : Rat)))))
  rw [Bool.and_true, with_form h]
  show Qd _ (if inRange 0 1000000 b = false then _ else _)
  by_cases c2 : inRange 0 1000000 b = false
  · rw [if_pos c2, if_pos c2]
    split <;> rfl
  · rw [if_neg c2, if_neg c2]
    refine Qd.ite (fun _ => rfl) fun _ => ?_
    cases e : Pl.getA s.fs a.toNat with
    | none => rfl
    | some f =>
      refine best_ok h hs (hs.fi _ (Pl.getA_mem e)).2 ?_ ?_
      · funext x y
        unfold isB
        rw [if_neg (by decide), if_pos rfl]
      · obtain ⟨m, rfl, _, _⟩ := range_nat (not_false c2)
        refine List.filter_congr fun o _ => ?_
        rw [decide_eq_false (by omega), Bool.false_or]
theorem q12 (h : Rl s c) (hs : StoOk s) (a b : Int) : Qd (oFq 12 [a, b] s) (c.query (.distance a b)) := by
  unfold oFq
  show Qd (if (isIdentifier 8 a && (isIdentifier 8 b && true)) = false then _ else match Pl.getA s.fs a.toNat with | none => .error (-3) | some f => (match Pl.getA s.fs b.toNat with | none => .error (-3) | some g => .ok (0 :: fr2 (distP s (mixP f) (mixP g))))) (if isIdentifier formulaCount b = false then invalidArgument else c.withFormula a fun (x : Mixture) => c.withFormula b fun (y : Mixture) => success (fractionValues (c.distance x y)))
  rw [Bool.and_true, with_form h]
  show Qd _ (if isIdentifier 8 b = false then _ else _)
  cases ha : isIdentifier 8 a with
  | false =>
    rw [if_pos (show (false && isIdentifier 8 b) = false from rfl), if_pos (rfl : false = false)]
    split <;> rfl
  | true =>
    rw [Bool.true_and]
    refine Qd.ite (fun _ => rfl) fun hb => ?_
    rw [if_neg (by decide)]
    cases e : Pl.getA s.fs a.toNat with
    | none => rfl
    | some f =>
      dsimp only
      rw [with_form h, if_neg hb]
      cases e2 : Pl.getA s.fs b.toNat with
      | none => rfl
      | some g =>
        show _ = _
        rw [mix_nrm (hs.fi _ (Pl.getA_mem e)).2, mix_nrm (hs.fi _ (Pl.getA_mem e2)).2, dist_nrm2 h]
        rfl
theorem q20 (h : Rl s c) (hs : StoOk s) (m : Int) : Qd (oReach m s) (c.query (.reachableMaterials m)) := by
  unfold oReach oMat
  show Qd _ (if isIdentifier materialCount m = false then invalidArgument else if c.hasMaterial m.toNat = false then notFound else success ((c.reachable m.toNat materialCount).map natValue))
  rw [has_m h]
  by_cases c1 : isIdentifier mC m = false
  · rw [if_pos c1, if_pos c1]; rfl
  · rw [if_neg c1, if_neg c1]
    by_cases c2 : hasM s m.toNat = false
    · rw [if_pos c2, if_pos (show (Pl.getA s.ms m.toNat).isSome = false from c2)]; rfl
    · rw [if_neg c2, if_neg (show ¬ (Pl.getA s.ms m.toNat).isSome = false from c2)]
      show _ = _
      rw [reach_eq h hs]
      rfl
theorem q22 (h : Rl s c) (hs : StoOk s) (m : Int) : Qd (oDepN m s) (c.query (.dependentFormulas m)) := by
  unfold oDepN oMat
  show Qd _ (if isIdentifier materialCount m = false then invalidArgument else if c.hasMaterial m.toNat = false then notFound else success ((c.formulas.filter fun (entry : Nat × Formula) => c.hasAcceptablePlan (mixtureOf entry.2) && !(c.withoutMaterial m.toNat).hasAcceptablePlan (mixtureOf entry.2)).map fun (entry : Nat × Formula) => natValue entry.1))
  rw [has_m h]
  by_cases c1 : isIdentifier mC m = false
  · rw [if_pos c1, if_pos c1]; rfl
  · rw [if_neg c1, if_neg c1]
    by_cases c2 : hasM s m.toNat = false
    · rw [if_pos c2, if_pos (show (Pl.getA s.ms m.toNat).isSome = false from c2)]; rfl
    · rw [if_neg c2, if_neg (show ¬ (Pl.getA s.ms m.toNat).isSome = false from c2)]
      exact oDep_eq h hs (not_false c2)
theorem q21 (h : Rl s c) (hs : StoOk s) : Qd (Except.ok (oCycle s)) (c.query .shortestCycle) := oCycle_eq h hs
theorem q24 (h : Rl s c) (hs : StoOk s) : Qd (Except.ok (oSum s)) (c.query .summary) := by
  show oSum s = 0 :: _
  unfold oSum
  rw [(h.mp hs).length_eq, ((h.mp hs).filter _).length_eq, (h.rp hs).length_eq, (h.fp hs).length_eq]
  rfl
/-! ### results of chosen rules -/
theorem all_map {α β : Type} (f : α → β) (p : β → Bool) (l : List α) : (l.map f).all p = l.all fun x => p (f x) := by
  rw [List.all_map]; rfl
theorem rules_has (h : Rl s c) (row : List Int) : c.hasRules (row.map Int.toNat) = row.all fun r => (Pl.getA s.rs r.toNat).isSome := by
  unfold Catalogue.hasRules
  rw [List.all_map]
  congr 1
  funext r
  show (Table.lookup c.rules r.toNat).isSome = _
  rw [Pl.lookup_getA, h.r]
theorem set_nodup {row : List Int} (h : isRuleSet row = true) : (row.map Int.toNat).Nodup := by
  unfold isRuleSet at h
  obtain ⟨_, h2⟩ := Bool.and_eq_true_iff.mp h
  obtain ⟨h3, h4⟩ := Bool.and_eq_true_iff.mp h2
  have h4 := of_decide_eq_true h4
  have e := toNat_ints h3
  rw [← e] at h4
  exact (List.pairwise_map.mp h4).imp fun hab q => hab (by rw [q])
theorem row_sel (h : Rl s c) (hs : StoOk s) {row : List Int} (h1 : isRuleSet row = true) (h2 : (row.all fun r => (Pl.getA s.rs r.toNat).isSome) = true) : c.selectRules (row.map Int.toNat) = selR s (srt (row.map Int.toNat)) := by
  refine sel_eq h (srt_lt (set_nodup h1)) (fun n hn => ?_) fun x => (srt_perm _).mem_iff.symm
  obtain ⟨r, hr', rfl⟩ := List.mem_map.mp ((srt_perm _).mem_iff.mp hn)
  obtain ⟨y, hy⟩ := Option.isSome_iff_exists.mp (List.all_eq_true.mp h2 r hr')
  rw [h.r] at hy
  exact get_key hy
/-- the refusals, then the result -/
theorem oRes_eq (h : Rl s c) (hs : StoOk s) (num : Int) (row others : List Int) : oRes num row others s =
    if (isIdentifier 8 num && (others.all (isIdentifier 8) && isRuleSet row)) = false then .error (-1) else match Pl.getA s.fs num.toNat with
      | none => .error (-3)
      | some f => if c.hasRules (row.map Int.toNat) = false then .error (-3) else if isPlan (c.selectRules (row.map Int.toNat)) (mixtureOf f) = true then .ok (nrm (c.planResult (mixtureOf f) (row.map Int.toNat))) else .error (-4) := by
  unfold oRes
  by_cases c1 : (isIdentifier 8 num && (others.all (isIdentifier 8) && isRuleSet row)) = false
  · rw [if_pos c1, if_pos c1]
  · rw [if_neg c1, if_neg c1]
    cases e : Pl.getA s.fs num.toNat with
    | none => rfl
    | some f =>
      dsimp only
      rw [rules_has h]
      by_cases c2 : (row.all fun r => (Pl.getA s.rs r.toNat).isSome) = false
      · rw [if_pos c2, if_pos c2]
      · rw [if_neg c2, if_neg c2, ← row_sel h hs (and3 c1).2.2 (not_false c2), res_plan (fun r hr => ?_) (hs.fi _ (Pl.getA_mem e)).2]
        · unfold Catalogue.planResult
          cases isPlan (c.selectRules (row.map Int.toNat)) (mixtureOf f) <;> rfl
        · rw [row_sel h hs (and3 c1).2.2 (not_false c2)] at hr
          exact sel_ok hs _ r hr
theorem app_eq {t : Mixture} (ha : Pl.Asc t) : appL (nrm t) = 0 :: t.flatMap fun (e : Nat × Rat) => if e.2 = 0 then [] else natValue e.1 :: fractionValues (shareOf t e.1) := by
  unfold appL
  congr 1
  have : ∀ l : List (Nat × Rat), (∀ e ∈ l, e ∈ t) → ((l.filter fun e => decide (e.2 ≠ 0)).map fun e => (e.1, e.2 / totalAmount t)).flatMap (fun e => [(e.1 : Int), e.2.num, (e.2.den : Int)]) = l.flatMap fun (e : Nat × Rat) => if e.2 = 0 then [] else natValue e.1 :: fractionValues (shareOf t e.1) := by
    intro l
    induction l with
    | nil => intro _; rfl
    | cons e l ih =>
      intro hl
      have ih := ih fun x hx => hl x (List.mem_cons_of_mem _ hx)
      rw [List.flatMap_cons, ← ih]
      by_cases q : e.2 = 0
      · rw [List.filter_cons_of_neg (by simp [q]), if_pos q]
        rfl
      · rw [List.filter_cons_of_pos (by simp [q]), if_neg q, List.map_cons, List.flatMap_cons]
        congr 1
        have := share_nrm ha (e := (e.1, e.2 / totalAmount t)) (List.mem_map.mpr ⟨e, List.mem_filter.mpr ⟨hl e List.mem_cons_self, decide_eq_true q⟩, rfl⟩)
        rw [this]
        rfl
  exact this t fun e he => he
theorem q14 (h : Rl s c) (hs : StoOk s) (a : Int) (row : List Int) : Qd (oApply a row s) (c.query (.applyPlan a row)) := by
  unfold oApply
  rw [oRes_eq h hs]
  show Qd _ (if isRuleSet row = false then invalidArgument else c.withFormula a fun (mixture : Mixture) => if c.hasRules (row.map Int.toNat) = false then notFound else if isPlan (c.selectRules (row.map Int.toNat)) mixture = true then success ((c.planResult mixture (row.map Int.toNat)).flatMap fun (entry : Nat × Rat) => if entry.2 = 0 then [] else natValue entry.1 :: fractionValues (shareOf (c.planResult mixture (row.map Int.toNat)) entry.1)) else notPossible)
  rw [with_form h]
  rw [show ([] : List Int).all (isIdentifier 8) = true from rfl, Bool.true_and]
  cases c1 : isRuleSet row with
  | false =>
    rw [Bool.and_false, if_pos rfl, if_pos rfl]
    rfl
  | true =>
    rw [Bool.and_true, if_neg (show ¬ true = false by decide)]
    by_cases c2 : isIdentifier 8 a = false
    · rw [if_pos c2, if_pos c2]; rfl
    · rw [if_neg c2, if_neg c2]
      cases e : Pl.getA s.fs a.toNat with
      | none => rfl
      | some f =>
        dsimp only
        by_cases c3 : c.hasRules (row.map Int.toNat) = false
        · rw [if_pos c3, if_pos c3]; rfl
        · rw [if_neg c3, if_neg c3]
          by_cases c4 : isPlan (c.selectRules (row.map Int.toNat)) (mixtureOf f) = true
          · rw [if_pos c4, if_pos c4]
            exact app_eq (asc_apply _ _ (mix_asc (hs.fi _ (Pl.getA_mem e)).2.asc))
          · rw [if_neg c4, if_neg c4]; rfl
end
end Sw
set_option maxRecDepth 100000
set_option maxHeartbeats 4000000
/-! # A result saved; each call -/
namespace Sw
open SubstitutionSpec
section
variable {s : Sto} {bs : List Sto} {st : State} {c : Catalogue}
theorem zip_snd {α β : Type} : ∀ {l : List α} {m : List β}, l.length = m.length → (l.zip m).map (fun p => p.2) = m
  | [], [], _ => rfl
  | [], _ :: _, h => by cases h
  | _ :: _, [], h => by cases h
  | a :: l, b :: m, h => by
    rw [List.zip_cons_cons, List.map_cons, zip_snd (Nat.succ.inj h)]
theorem ratio_len (qs : List Rat) : (integerRatio qs).length = qs.length := by
  have e : integerRatio qs = if Gc (qs.map fun (q : Rat) => (q * (lowQ qs : Rat)).num.toNat) = 0 then (qs.map fun (q : Rat) => (q * (lowQ qs : Rat)).num.toNat) else (qs.map fun (q : Rat) => (q * (lowQ qs : Rat)).num.toNat).map fun n => n / Gc (qs.map fun (q : Rat) => (q * (lowQ qs : Rat)).num.toNat) := rfl
  rw [e]
  split
  · exact List.length_map ..
  · rw [List.length_map, List.length_map]
theorem sav_eq {es : List (Nat × Rat)} {ns : List Nat} (h : (finS es).map (fun a => a.2) = ns) : (savB es = false) ↔ (maxComponents < ns.length ∨ ns.any (fun (n : Nat) => decide (million < n)) = true) := by
  unfold savB
  have h1 : (finS es).length = ns.length := by rw [← h, List.length_map]
  have h2 : (finS es).all (fun a => decide (a.2 ≤ 1000000)) = ns.all fun n => decide (n ≤ 1000000) := by rw [← h, List.all_map]; rfl
  rw [h1, h2, Bool.and_eq_false_iff, decide_eq_false_iff_not]
  constructor
  · rintro (q | q)
    · exact Or.inl (by unfold maxComponents; omega)
    · rw [List.all_eq_false] at q
      obtain ⟨n, hn, hq⟩ := q
      refine Or.inr (List.any_eq_true.mpr ⟨n, hn, decide_eq_true ?_⟩)
      have : ¬ n ≤ 1000000 := fun z => hq (decide_eq_true z)
      unfold million
      omega
  · rintro (q | q)
    · exact Or.inl (by unfold maxComponents at q; omega)
    · obtain ⟨n, hn, hq⟩ := List.any_eq_true.mp q
      refine Or.inr (List.all_eq_false.mpr ⟨n, hn, fun z => ?_⟩)
      have := of_decide_eq_true z
      have := of_decide_eq_true hq
      unfold million at this
      omega
theorem sum_ints : ∀ l : List (Nat × Nat), (l.map fun a => (a.2 : Int)).sum = natValue (sumNat (l.map fun a => a.2))
  | [] => rfl
  | a :: l => by
    rw [List.map_cons, List.sum_cons, sum_ints l]
    exact (Int.natCast_add _ _).symm
theorem g19 (h : StR s bs st) (num tgt : Int) (row : List Int) : Gd st (oSave num tgt row s bs) (step st (.saveResult num tgt row)) := by
  have hok := fun es => oRes_ok (es := es) h.ok (num := num) (row := row) (others := [tgt])
  unfold oSave
  rw [oRes_eq h.rl h.ok] at hok ⊢
  rw [show ([tgt] : List Int).all (isIdentifier 8) = (isIdentifier 8 tgt && true) from rfl, Bool.and_true] at hok ⊢
  show Gd st _ (if (isIdentifier formulaCount num && (isIdentifier formulaCount tgt && isRuleSet row)) = false then (st, invalidArgument) else match st.current.formulas.lookup num.toNat with
    | none => (st, notFound)
    | some components => if st.current.hasRules (row.map Int.toNat) = false then (st, notFound) else if isPlan (st.current.selectRules (row.map Int.toNat)) (mixtureOf components) = false then (st, notPossible) else
        if maxComponents < (integerRatio (((st.current.planResult (mixtureOf components) (row.map Int.toNat)).filter fun (entry : Nat × Rat) => decide (entry.2 ≠ 0)).map fun (entry : Nat × Rat) => entry.2)).length ∨ (integerRatio (((st.current.planResult (mixtureOf components) (row.map Int.toNat)).filter fun (entry : Nat × Rat) => decide (entry.2 ≠ 0)).map fun (entry : Nat × Rat) => entry.2)).any (fun (n : Nat) => decide (million < n)) = true then (st, notPossible) else st.change { st.current with formulas := st.current.formulas.insert tgt.toNat ((((st.current.planResult (mixtureOf components) (row.map Int.toNat)).filter fun (entry : Nat × Rat) => decide (entry.2 ≠ 0)).map fun (entry : Nat × Rat) => entry.1).zip (integerRatio (((st.current.planResult (mixtureOf components) (row.map Int.toNat)).filter fun (entry : Nat × Rat) => decide (entry.2 ≠ 0)).map fun (entry : Nat × Rat) => entry.2))) } (success [natValue (sumNat (integerRatio (((st.current.planResult (mixtureOf components) (row.map Int.toNat)).filter fun (entry : Nat × Rat) => decide (entry.2 ≠ 0)).map fun (entry : Nat × Rat) => entry.2)))]))
  by_cases c1 : (isIdentifier 8 num && (isIdentifier 8 tgt && isRuleSet row)) = false
  · rw [if_pos c1, if_pos (show (isIdentifier formulaCount num && (isIdentifier formulaCount tgt && isRuleSet row)) = false from c1)]
    rfl
  · rw [if_neg c1] at hok ⊢
    rw [if_neg (show ¬ (isIdentifier formulaCount num && (isIdentifier formulaCount tgt && isRuleSet row)) = false from c1), Pl.lookup_getA, ← h.rl.f]
    cases e : Pl.getA s.fs num.toNat with
    | none => rfl
    | some f =>
      rw [e] at hok
      dsimp only at hok ⊢
      by_cases c2 : st.current.hasRules (row.map Int.toNat) = false
      · rw [if_pos c2, if_pos c2]; rfl
      · rw [if_neg c2] at hok ⊢
        rw [if_neg c2]
        cases c3 : isPlan (st.current.selectRules (row.map Int.toNat)) (mixtureOf f) with
        | false => rfl
        | true =>
          rw [c3, if_pos rfl] at hok
          obtain ⟨k1, k2, k3⟩ := hok _ rfl
          rw [if_pos rfl, if_neg (by decide)]
          dsimp only
          have ho := (h.ok.fi _ (Pl.getA_mem e)).2
          have hrs : ∀ r ∈ st.current.selectRules (row.map Int.toNat), RulOk s.ms r := fun r hr => by
            rw [row_sel h.rl h.ok (and3 c1).2.2 (by rw [← rules_has h.rl]; exact not_false c2)] at hr
            exact sel_ok h.ok _ r hr
          have hT : 0 < totalAmount (st.current.planResult (mixtureOf f) (row.map Int.toNat)) := res_tot hrs ho c3 k1.ne
          have hfin := fin_eq k1.pos hT k1.ne
          have hfok : savB (nrm (st.current.planResult (mixtureOf f) (row.map Int.toNat))) = true → _ := fin_ok k1
          generalize st.current.planResult (mixtureOf f) (row.map Int.toNat) = t at *
          have hsnd : (finS (nrm t)).map (fun a => a.2) = integerRatio ((t.filter fun e => decide (e.2 ≠ 0)).map fun e => e.2) := by
            rw [hfin]
            exact zip_snd (by rw [ratio_len, List.length_map, List.length_map])
          have hsav := sav_eq hsnd
          by_cases c4 : savB (nrm t) = false
          · rw [if_pos c4, if_pos (hsav.mp c4)]; rfl
          · rw [if_neg c4, if_neg fun z => c4 (hsav.mpr z)]
            obtain ⟨m, rfl, hm⟩ := ident_nat (and3 c1).2.1
            have hput := Gd.put h (l := [natValue (sumNat (integerRatio ((t.filter fun e => decide (e.2 ≠ 0)).map fun e => e.2)))]) (h.ok.putF hm (hfok (not_false c4))) (h.rl.putF m (finS (nrm t)))
            rw [sum_ints, hsnd]
            rw [hfin] at hput ⊢
            exact hput
end
/-! ### one call -/
abbrev Step1 := SubstitutionNeutral.step
def raw (c : Cl3) : List (List Int) := (c.1 :: c.2.1) :: (if c.1 ∈ listedL then [c.2.2] else [])
theorem cases24 {w : Int} (h : 1 ≤ w ∧ w ≤ 24) : w = 1 ∨ w = 2 ∨ w = 3 ∨ w = 4 ∨ w = 5 ∨ w = 6 ∨ w = 7 ∨ w = 8 ∨ w = 9 ∨ w = 10 ∨ w = 11 ∨ w = 12 ∨ w = 13 ∨ w = 14 ∨ w = 15 ∨ w = 16 ∨ w = 17 ∨ w = 18 ∨ w = 19 ∨ w = 20 ∨ w = 21 ∨ w = 22 ∨ w = 23 ∨ w = 24 := by omega
theorem len0 {ns : List Int} (h : ns.length = 0) : ns = [] := List.length_eq_zero_iff.mp h
section
variable {s : Sto} {bs : List Sto} {st : State}
theorem one_call (h : StR s bs st) (c : Cl3) (hc : ClOk c) : PyWrscts.whole (raw c) = raw c ∧ ∃ call, SubstitutionNeutral.toCall (raw c) = some call ∧ Gd st (oDone c.1 c.2.1 c.2.2 s bs) (step st call) := by
  obtain ⟨w, ns, row⟩ := c
  obtain ⟨⟨hw, hn, hr⟩, hl⟩ := hc
  have hn : ns.length = many w := hn
  dsimp only at hl
  rcases cases24 hw with rfl | rfl | rfl | rfl | rfl | rfl | rfl | rfl | rfl | rfl | rfl | rfl | rfl | rfl | rfl | rfl | rfl | rfl | rfl | rfl | rfl | rfl | rfl | rfl
  · obtain ⟨a, b, rfl⟩ := len2 hn
    exact ⟨rfl, _, rfl, g1 h a b row⟩
  · obtain ⟨a, rfl⟩ := len1 hn
    exact ⟨rfl, _, rfl, g2 h a⟩
  · obtain ⟨a, rfl⟩ := len1 hn
    exact ⟨rfl, _, rfl, g3 h a⟩
  · obtain ⟨a, b, rfl⟩ := len2 hn
    exact ⟨rfl, _, rfl, g4 h a b⟩
  · obtain ⟨a, b, rfl⟩ := len2 hn
    exact ⟨rfl, _, rfl, g5 h a b⟩
  · obtain ⟨a, b, c, rfl⟩ := len3 hn
    exact ⟨rfl, _, rfl, g6 h a b c row⟩
  · obtain ⟨a, rfl⟩ := len1 hn
    exact ⟨rfl, _, rfl, g7 h a⟩
  · obtain ⟨a, rfl⟩ := len1 hn
    exact ⟨rfl, _, rfl, g8 h a row⟩
  · obtain ⟨a, rfl⟩ := len1 hn
    exact ⟨rfl, _, rfl, Gd.keep h (q9 h.rl h.ok a)⟩
  · obtain ⟨a, rfl⟩ := len1 hn
    exact ⟨rfl, _, rfl, Gd.keep h (q10 h.rl h.ok a)⟩
  · obtain ⟨a, rfl⟩ := len1 hn
    exact ⟨rfl, _, rfl, Gd.keep h (q11 h.rl h.ok a)⟩
  · obtain ⟨a, b, rfl⟩ := len2 hn
    exact ⟨rfl, _, rfl, Gd.keep h (q12 h.rl h.ok a b)⟩
  · obtain ⟨a, rfl⟩ := len1 hn
    exact ⟨rfl, _, rfl, Gd.keep h (q13 h.rl h.ok a)⟩
  · obtain ⟨a, rfl⟩ := len1 hn
    exact ⟨rfl, _, rfl, Gd.keep h (q14 h.rl h.ok a row)⟩
  · obtain ⟨a, rfl⟩ := len1 hn
    exact ⟨rfl, _, rfl, Gd.keep h (q15 h.rl h.ok a)⟩
  · obtain ⟨a, rfl⟩ := len1 hn
    exact ⟨rfl, _, rfl, Gd.keep h (q16 h.rl h.ok a)⟩
  · obtain ⟨a, b, rfl⟩ := len2 hn
    exact ⟨rfl, _, rfl, Gd.keep h (q17 h.rl h.ok a b)⟩
  · obtain ⟨a, rfl⟩ := len1 hn
    exact ⟨rfl, _, rfl, Gd.keep h (q18 h.rl h.ok a)⟩
  · obtain ⟨a, b, rfl⟩ := len2 hn
    exact ⟨rfl, _, rfl, g19 h a b row⟩
  · obtain ⟨a, rfl⟩ := len1 hn
    exact ⟨rfl, _, rfl, Gd.keep h (q20 h.rl h.ok a)⟩
  · obtain rfl := len0 hn
    exact ⟨rfl, _, rfl, Gd.keep h (q21 h.rl h.ok)⟩
  · obtain ⟨a, rfl⟩ := len1 hn
    exact ⟨rfl, _, rfl, Gd.keep h (q22 h.rl h.ok a)⟩
  · obtain rfl := len0 hn
    exact ⟨rfl, _, rfl, g23 h⟩
  · obtain rfl := len0 hn
    exact ⟨rfl, _, rfl, Gd.keep h (q24 h.rl h.ok)⟩
theorem Hst.len {bs : List Sto} {cs : List Catalogue} (h : Hst bs cs) : bs.length = cs.length := by
  induction h with
  | nil => rfl
  | snoc _ _ _ ih => rw [List.length_append, ih]; rfl
theorem runs : ∀ (cs : List Cl3), (∀ c ∈ cs, ClOk c) → ∀ (s : Sto) (bs : List Sto) (st : State), StR s bs st → st.history.length + cs.length ≤ 100 →
    Runs s bs cs (PyFlat.played SubstitutionNeutral.step st (cs.map raw))
  | [], _, s, bs, st, _, _ => Runs.nil s bs
  | c :: cs, hc, s, bs, st, h, hl => by
    obtain ⟨hw, call, hcall, hg⟩ := one_call h c (hc c List.mem_cons_self)
    obtain ⟨s', bs', e, h', hh⟩ := oAns_ok h hg
    rw [List.length_cons] at hl
    have ih := runs cs (fun x hx => hc x (List.mem_cons_of_mem _ hx)) s' bs' (step st call).1 h' (by omega)
    have hs : SubstitutionNeutral.step st (raw c) = ((step st call).1, (step st call).2.code :: (step st call).2.values) := by
      unfold SubstitutionNeutral.step
      rw [hcall]
    show Runs s bs (c :: cs) ((SubstitutionNeutral.step st (raw c)).2 :: PyFlat.played SubstitutionNeutral.step (SubstitutionNeutral.step st (raw c)).1 (cs.map raw))
    rw [hs]
    refine Runs.cons h.ok ?_ (hc c List.mem_cons_self) e ih
    show bs.length ≤ 100
    rw [h.h.len]
    omega
end
theorem st0 : StR sto0 [] SubstitutionNeutral.start :=
  ⟨⟨List.Pairwise.nil, (fun _ h => nomatch h), List.Pairwise.nil, (fun _ h => nomatch h), List.Pairwise.nil, (fun _ h => nomatch h)⟩,
   ⟨List.Pairwise.nil, List.Pairwise.nil, List.Pairwise.nil, fun _ => rfl, fun _ => rfl, fun _ => rfl⟩, Hst.nil⟩
/-! ### the calls, read from the list -/
theorem shape_ok {p : Int} {n k : Nat} (h : PyWrscts.shape p = some (n, k)) : (1 ≤ p ∧ p ≤ 24) ∧ n = many p ∧ k = if p ∈ listedL then 1 else 0 := by
  by_cases hp : 1 ≤ p ∧ p ≤ 24
  · refine ⟨hp, ?_⟩
    rcases cases24 hp with rfl | rfl | rfl | rfl | rfl | rfl | rfl | rfl | rfl | rfl | rfl | rfl | rfl | rfl | rfl | rfl | rfl | rfl | rfl | rfl | rfl | rfl | rfl | rfl
    all_goals
      cases h
      exact ⟨rfl, rfl⟩
  · exfalso
    unfold PyWrscts.shape at h
    rw [if_neg (by omega), if_neg (by omega), if_neg (by omega), if_neg (by omega), if_neg (by omega), if_neg (by omega), if_neg (by omega), if_neg (by omega), if_neg (by omega), if_neg (by omega), if_neg (by omega), if_neg (by omega), if_neg (by omega), if_neg (by omega), if_neg (by omega), if_neg (by omega), if_neg (by omega), if_neg (by omega), if_neg (by omega), if_neg (by omega), if_neg (by omega), if_neg (by omega), if_neg (by omega), if_neg (by omega)] at h
    cases h
theorem row_ok {l x t : List Int} (h : PyFlat.row l = some (x, t)) : l = (x.length : Int) :: (x ++ t) := by
  match l, h with
  | n :: r, h =>
    dsimp only [PyFlat.row] at h
    split at h
    · rename_i hn
      cases h
      rw [List.length_take, Nat.min_eq_left hn.2, List.take_append_drop, Int.toNat_of_nonneg hn.1]
    · cases h
theorem call_ok {l : List Int} {c : List (List Int)} {t : List Int} (h : PyFlat.call PyWrscts.shape l = some (c, t)) : ∃ c3 : Cl3, c = raw c3 ∧ l = enc3 c3 ++ t ∧ (1 ≤ c3.1 ∧ c3.1 ≤ 24) ∧ c3.2.1.length = many c3.1 ∧ (c3.1 ∉ listedL → c3.2.2 = []) := by
  match l, h with
  | p :: r, h =>
    dsimp only [PyFlat.call] at h
    cases e : PyWrscts.shape p with
    | none => rw [e] at h; cases h
    | some nk =>
      obtain ⟨n, k⟩ := nk
      rw [e] at h
      obtain ⟨h1, h2, h3⟩ := shape_ok e
      dsimp only at h
      split at h
      · cases h
      · rename_i hlen
        have hlen : n ≤ r.length := Nat.le_of_not_lt hlen
        have htk : (r.take n).length = n := by rw [List.length_take]; omega
        by_cases hp : p ∈ listedL
        · rw [if_pos hp] at h3
          subst h3
          dsimp only [PyFlat.rows] at h
          cases e2 : PyFlat.row (r.drop n) with
          | none => rw [e2] at h; cases h
          | some xt =>
            obtain ⟨x, t'⟩ := xt
            rw [e2] at h
            cases h
            refine ⟨(p, r.take n, x), ?_, ?_, h1, htk.trans h2, fun z => absurd hp z⟩
            · unfold raw
              rw [if_pos hp]
            · unfold enc3
              dsimp only
              rw [if_pos hp, List.cons_append, List.append_assoc, List.cons_append, ← row_ok e2, List.take_append_drop]
        · rw [if_neg hp] at h3
          subst h3
          dsimp only [PyFlat.rows] at h
          cases h
          refine ⟨(p, r.take n, []), ?_, ?_, h1, htk.trans h2, fun _ => rfl⟩
          · unfold raw
            rw [if_neg hp]
          · unfold enc3
            dsimp only
            rw [if_neg hp, List.append_nil, List.cons_append, List.take_append_drop]
theorem calls_ok : ∀ (f : Nat) {l : List Int} {rs : List (List (List Int))}, PyFlat.calls PyWrscts.shape f l = some rs → ∃ cs : List Cl3, rs = cs.map raw ∧ l = cs.flatMap enc3 ∧ ∀ c ∈ cs, (1 ≤ c.1 ∧ c.1 ≤ 24) ∧ c.2.1.length = many c.1 ∧ (c.1 ∉ listedL → c.2.2 = [])
  | f, [], rs, h => by
    have h : some [] = some rs := by
      cases f <;> exact h
    cases h
    exact ⟨[], rfl, rfl, fun _ h => by cases h⟩
  | 0, p :: r, rs, h => by cases h
  | f + 1, p :: r, rs, h => by
    unfold PyFlat.calls at h
    cases e : PyFlat.call PyWrscts.shape (p :: r) with
    | none => rw [e] at h; cases h
    | some ct =>
      obtain ⟨c, t⟩ := ct
      rw [e] at h
      dsimp only at h
      cases e2 : PyFlat.calls PyWrscts.shape f t with
      | none => rw [e2] at h; cases h
      | some cs =>
        rw [e2] at h
        cases h
        obtain ⟨c3, rfl, h2, h3, h4, h5⟩ := call_ok e
        obtain ⟨cs3, rfl, k2, k3⟩ := calls_ok f e2
        refine ⟨c3 :: cs3, rfl, by rw [List.flatMap_cons, h2, ← k2], fun x hx => ?_⟩
        rcases List.mem_cons.mp hx with rfl | hx
        · exact ⟨h3, h4, h5⟩
        · exact k3 x hx
theorem bound_row {p : Int} (h : p ∈ listedL) : ∃ a b : Int, (PyWrscts.bound p).2 = [(a, b, 0, 22)] := by
  have : p = 1 ∨ p = 6 ∨ p = 8 ∨ p = 14 ∨ p = 19 := by simpa [listedL] using h
  rcases this with rfl | rfl | rfl | rfl | rfl <;> exact ⟨_, _, rfl⟩
theorem row_len {c : Cl3} (hb : PyInside.call PyWrscts.bound (raw c) = true) (h : c.1 ∉ listedL → c.2.2 = []) : c.2.2.length ≤ 22 := by
  by_cases hp : c.1 ∈ listedL
  · obtain ⟨a, b, e⟩ := bound_row hp
    unfold raw at hb
    rw [if_pos hp] at hb
    have hb : (PyInside.each (PyWrscts.bound c.1).1 c.2.1 && PyInside.lists (PyWrscts.bound c.1).2 [c.2.2]) = true := hb
    rw [e] at hb
    have h2 := (Bool.and_eq_true_iff.mp hb).2
    have h2 : (decide (0 ≤ c.2.2.length) && decide (c.2.2.length ≤ 22) && c.2.2.all (PyInside.within a b) && PyInside.lists [] []) = true := h2
    exact of_decide_eq_true ((show ∀ p q r u : Bool, (p && q && r && u) = true → q = true by decide) _ _ _ _ h2)
  · rw [h hp]
    exact Nat.zero_le _
theorem pureLaw : PureLaw := by
  intro l h
  unfold PyWrscts.answers_asked at h
  cases e : PyFlat.calls PyWrscts.shape l.length l with
  | none => rw [e] at h; cases h
  | some rs =>
    rw [e] at h
    dsimp only at h
    obtain ⟨-, h2, h3, -, h5⟩ := (show ∀ a b c d e : Bool, (!a && b && c && d && e) = true → True ∧ b = true ∧ c = true ∧ d = true ∧ e = true by decide) _ _ _ _ _ h
    obtain ⟨cs, rfl, k2, k3⟩ := calls_ok _ e
    have hcl : ∀ c ∈ cs, ClOk c := fun c hc => ⟨⟨(k3 c hc).1, (k3 c hc).2.1, row_len (List.all_eq_true.mp h3 _ (List.mem_map_of_mem hc)) (k3 c hc).2.2⟩, (k3 c hc).2.2⟩
    have hlen : cs.length ≤ 60 := by
      have := of_decide_eq_true h2
      rwa [List.length_map] at this
    have hr := runs cs hcl sto0 [] SubstitutionNeutral.start st0 (by show 0 + cs.length ≤ 100; omega)
    have hwh : (cs.map raw).map PyWrscts.whole = cs.map raw := by
      rw [List.map_map]
      exact List.map_congr_left fun c hc => (one_call st0 c (hcl c hc)).1
    have ha : toldL (PyFlat.played SubstitutionNeutral.step SubstitutionNeutral.start (cs.map raw)) = PyWrscts.answers l := by
      unfold PyWrscts.answers PyWrscts.calls
      rw [e]
      dsimp only
      rw [hwh]
      rfl
    exact ⟨cs, _, k2, hr, ha, by rw [ha]; exact of_decide_eq_true h5⟩
end Sw
theorem PySem.Challenge.cw_swapplanner_s01_answers_holds : PySem.Challenge.rw_swapplanner_s01_answers.Holds :=
  Sw.joined Sw.pureLaw
