import PyProof.Rows.All
import PyVbndam
import Wide.All
import OpenK.AllK
import Wide.FinOn
import PyProof.EqAt
import PyProof.EqKinds
import PyProof.TupleCall
import Lean
import KE.KStateDown
import Open.SpecLaws
import KE.OsGo
import HandS.ForSpec
import HandS.Comp
import HandS.Iter
import HandS.Deep
import HandS.Small
import HandS.Text
import HandS.Wide
import HandS.TryOnly
import HandS.TryMany
import HandS.ExcCtx
import HandS.Hot
import HandS.HotCalls
import HandS.SuiteRaise
import HandS.RaiseFrom
import HandS.ExcInit
import HandS.ExcInitHot
import HandS.ExcField
import HandS.Defaults
import HandS.HeadHook1
import HandS.HeadHook2
import HandS.HeadHook3
import HandS.HeadHook4
import HandS.Head0
import HandS.Head1
import HandS.Head2
import KE.DataMinMax
import PySem.Challenge.RW_standins_s01_answers
import HandS.Evl
import HandS.Walk
import HandS.Conv
import KE.KIntText
import PyProof.Rows.StrIntSpec
import HandS.Spec
import HandS.Head4
set_option linter.all false
/-! Coalitions: what the program's defs compute, in plain Lean, and that the specification says the same. -/
namespace Gs
open Vbndam

def addM (c p : Nat) : Nat := if isMember c p = true then c else c + 2 ^ p
def addAll (c : Nat) (l : List (Nat × Nat)) : Nat := l.foldl (fun c x => addM c x.1) c
def okFor (p c : Nat) (u : Rule) : Bool := u.absent == p && isRuleEnabled c u
def firstRule (rs : List Rule) (p c : Nat) : Nat := match rs.findIdx? (okFor p c) with
  | some i => i + 1
  | none => 0
def joins (z : Room) (c p : Nat) : Bool := decide (0 < firstRule z.rules p c) && !isMember c p
def roundSteps (z : Room) (c : Nat) : List (Nat × Nat) := ((List.range z.players.length).filter (joins z c)).map fun p => (p, firstRule z.rules p c)
def up (x : Nat × Nat) : Nat × Nat := (x.1, x.2 + 1)
def nonmem (n c : Nat) : Nat := ((List.range n).filter fun p => !isMember c p).length

theorem mem_bit (c p : Nat) : isMember c p = c.testBit p := by
  unfold isMember
  rw [Nat.testBit_eq_decide_div_mod_eq]
  by_cases h : c / 2 ^ p % 2 = 1
  · simp [h]
  · simp [h]
theorem add_pow_or {c p : Nat} (h : c.testBit p = false) : c + 2 ^ p = c ||| 2 ^ p := by
  have h1 : c / 2 ^ p % 2 = 0 := by
    rw [Nat.testBit_eq_decide_div_mod_eq] at h
    have := of_decide_eq_false h
    omega
  have e0 : 2 ^ p * (c / 2 ^ p) + c % 2 ^ p = c := Nat.div_add_mod c (2 ^ p)
  have lt : c % 2 ^ p < 2 ^ p := Nat.mod_lt _ (Nat.two_pow_pos p)
  have e1 : c / 2 ^ p = 2 * (c / 2 ^ p / 2) := by omega
  have hb : ∀ k, (c + 2 ^ p).testBit k = (c ||| 2 ^ p).testBit k := by
    intro k
    have f1 : 2 ^ p * (c / 2 ^ p) + c % 2 ^ p = 2 ^ p * (c / 2 ^ p) ||| c % 2 ^ p := Nat.two_pow_add_eq_or_of_lt lt _
    have f2 : 2 ^ p * (c / 2 ^ p + 1) + c % 2 ^ p = 2 ^ p * (c / 2 ^ p + 1) ||| c % 2 ^ p := Nat.two_pow_add_eq_or_of_lt lt _
    have g1 : c = 2 ^ p * (c / 2 ^ p) ||| c % 2 ^ p := e0.symm.trans f1
    have g2 : c + 2 ^ p = 2 ^ p * (c / 2 ^ p + 1) ||| c % 2 ^ p := by
      rw [← f2, Nat.mul_add, Nat.mul_one]
      omega
    have g3 : (c + 2 ^ p).testBit k = (2 ^ p * (c / 2 ^ p + 1) ||| c % 2 ^ p).testBit k := congrArg (fun x => x.testBit k) g2
    have g4 : c.testBit k = (2 ^ p * (c / 2 ^ p) ||| c % 2 ^ p).testBit k := congrArg (fun x => x.testBit k) g1
    rw [g3, Nat.testBit_or, Nat.testBit_or, g4, Nat.testBit_or, Nat.testBit_two_pow, Nat.testBit_two_pow_mul, Nat.testBit_two_pow_mul]
    by_cases hk : p ≤ k
    · have hm : (c / 2 ^ p + 1).testBit (k - p) = ((c / 2 ^ p).testBit (k - p) || decide (p = k)) := by
        generalize c / 2 ^ p = m at *
        by_cases e : p = k
        · subst e
          rw [Nat.sub_self, Nat.testBit_eq_decide_div_mod_eq, Nat.testBit_eq_decide_div_mod_eq]
          have : (m + 1) / 2 ^ 0 % 2 = 1 := by simp; omega
          rw [decide_eq_true this]
          simp
        · have : k - p = (k - p - 1) + 1 := by omega
          rw [this, Nat.testBit_succ, Nat.testBit_succ, decide_eq_false e, Bool.or_false]
          have : (m + 1) / 2 = m / 2 := by omega
          rw [this]
      rw [hm]
      cases (c / 2 ^ p).testBit (k - p) <;> cases (c % 2 ^ p).testBit k <;> simp [hk]
    · have : ¬ p = k := by omega
      simp [hk, this]
  exact Nat.eq_of_testBit_eq hb
theorem bit_add {c p : Nat} (h : c.testBit p = false) (q : Nat) : (c + 2 ^ p).testBit q = (c.testBit q || decide (p = q)) := by
  rw [add_pow_or h, Nat.testBit_or, Nat.testBit_two_pow]
theorem bit_addM (c p q : Nat) : (addM c p).testBit q = (c.testBit q || decide (p = q)) := by
  unfold addM
  rw [mem_bit]
  by_cases h : c.testBit p = true
  · rw [if_pos h]
    by_cases e : p = q
    · subst e
      rw [h]
      rfl
    · rw [decide_eq_false e, Bool.or_false]
  · rw [if_neg h]
    exact bit_add (by simpa using h) q
theorem bit_addAll : ∀ (l : List (Nat × Nat)) (c q : Nat), (addAll c l).testBit q = (c.testBit q || l.any fun x => decide (x.1 = q))
  | [], c, q => by simp [addAll]
  | x :: l, c, q => by
    show (addAll (addM c x.1) l).testBit q = _
    rw [bit_addAll l, bit_addM, List.any_cons, Bool.or_assoc]
theorem addAll_append (c : Nat) (l m : List (Nat × Nat)) : addAll c (l ++ m) = addAll (addAll c l) m := by
  unfold addAll
  rw [List.foldl_append]
theorem addAll_congr (c : Nat) (l m : List (Nat × Nat)) (h : l.map (·.1) = m.map (·.1)) : addAll c l = addAll c m := by
  have e : ∀ (l : List (Nat × Nat)) c, addAll c l = (l.map (·.1)).foldl addM c := by
    intro l
    induction l with
    | nil => intro c; rfl
    | cons x l ih => intro c; exact ih _
  rw [e, e, h]
/-- coalitionOf over a list without doubles -/
theorem foldl_bits : ∀ (l : List Nat) (s : Nat), l.Nodup → (∀ p ∈ l, s.testBit p = false) → ∀ q, (l.foldl (fun s p => s + 2 ^ p) s).testBit q = (s.testBit q || l.contains q)
  | [], s, _, _, q => by simp
  | p :: l, s, hn, hs, q => by
    rw [List.foldl_cons]
    have hp : s.testBit p = false := hs p List.mem_cons_self
    rw [List.nodup_cons] at hn
    rw [foldl_bits l (s + 2 ^ p) hn.2 (fun r hr => by
      rw [bit_add hp, hs r (List.mem_cons_of_mem _ hr)]
      have : ¬ p = r := fun e => hn.1 (e ▸ hr)
      simp [this]) q, bit_add hp, List.contains_cons, Bool.or_assoc]
    congr 2
    by_cases e : p = q
    · subst e; simp
    · have e' : ¬ q = p := fun z => e z.symm
      simp [e, e']
theorem eraseDups_nodup : ∀ l : List Nat, l.Nodup → l.eraseDups = l
  | [], _ => rfl
  | a :: l, h => by
    rw [List.nodup_cons] at h
    rw [List.eraseDups_cons]
    have : l.filter (fun b => !b == a) = l := by
      rw [List.filter_eq_self]
      intro b hb
      have : ¬ b = a := fun e => h.1 (e ▸ hb)
      simp [this]
    rw [this, eraseDups_nodup l h.2]
theorem nodup_filter {l : List Nat} (f : Nat → Bool) (h : l.Nodup) : (l.filter f).Nodup := List.Pairwise.sublist List.filter_sublist h
theorem bit_coalitionOf {l : List Nat} (h : l.Nodup) (q : Nat) : (coalitionOf l).testBit q = l.contains q := by
  unfold coalitionOf
  rw [eraseDups_nodup l h, foldl_bits l 0 h (fun p _ => Nat.zero_testBit p), Nat.zero_testBit, Bool.false_or]
theorem firstRule_pos (rs : List Rule) (p c : Nat) : decide (0 < firstRule rs p c) = rs.any (okFor p c) := by
  unfold firstRule
  cases h : rs.findIdx? (okFor p c) with
  | none =>
    rw [List.findIdx?_eq_none_iff] at h
    symm
    simpa using h
  | some i =>
    rw [List.findIdx?_eq_some_iff_getElem] at h
    obtain ⟨hi, h1, _⟩ := h
    have : rs.any (okFor p c) = true := List.any_eq_true.mpr ⟨_, List.getElem_mem hi, h1⟩
    rw [this]
    simp
theorem bit_next (z : Room) (c q : Nat) : (nextRound z c).testBit q = (decide (q < z.players.length) && (c.testBit q || decide (0 < firstRule z.rules q c))) := by
  unfold nextRound playerCount
  rw [bit_coalitionOf (nodup_filter _ List.nodup_range)]
  have e : (fun p => isMember c p || z.rules.any fun u => u.absent == p && isRuleEnabled c u) = fun p => c.testBit p || decide (0 < firstRule z.rules p c) := by
    funext p
    rw [mem_bit, firstRule_pos]
    rfl
  rw [e]
  by_cases h : q < z.players.length
  · cases hc : (c.testBit q || decide (0 < firstRule z.rules q c)) with
    | true =>
      rw [decide_eq_true h, Bool.true_and, List.contains_iff_mem, List.mem_filter]
      exact ⟨List.mem_range.mpr h, hc⟩
    | false =>
      rw [Bool.and_false]
      cases hm : ((List.range z.players.length).filter fun p => c.testBit p || decide (0 < firstRule z.rules p c)).contains q with
      | false => rfl
      | true =>
        rw [List.contains_iff_mem, List.mem_filter, hc] at hm
        cases hm.2
  · rw [decide_eq_false h, Bool.false_and]
    cases hm : ((List.range z.players.length).filter fun p => c.testBit p || decide (0 < firstRule z.rules p c)).contains q with
    | false => rfl
    | true =>
      rw [List.contains_iff_mem, List.mem_filter, List.mem_range] at hm
      exact absurd hm.1 h
theorem bit_high {n c : Nat} (h : c < 2 ^ n) {q : Nat} (hq : n ≤ q) : c.testBit q = false := Nat.testBit_lt_two_pow (Nat.lt_of_lt_of_le h (Nat.pow_le_pow_right (by decide) hq))
theorem any_round (z : Room) (c q : Nat) : ((roundSteps z c).any fun x => decide (x.1 = q)) = (decide (q < z.players.length) && joins z c q) := by
  unfold roundSteps
  rw [List.any_map]
  show (((List.range z.players.length).filter (joins z c)).any fun p => decide (p = q)) = _
  cases h : (decide (q < z.players.length) && joins z c q) with
  | true =>
    rw [Bool.and_eq_true] at h
    refine List.any_eq_true.mpr ⟨q, List.mem_filter.mpr ⟨List.mem_range.mpr (of_decide_eq_true h.1), h.2⟩, by simp⟩
  | false =>
    cases hm : (((List.range z.players.length).filter (joins z c)).any fun p => decide (p = q)) with
    | false => rfl
    | true =>
      obtain ⟨p, hp, e⟩ := List.any_eq_true.mp hm
      have e := of_decide_eq_true e
      subst e
      rw [List.mem_filter, List.mem_range] at hp
      rw [decide_eq_true hp.1, hp.2] at h
      cases h
theorem next_is {z : Room} {c : Nat} (h : c < 2 ^ z.players.length) : nextRound z c = addAll c (roundSteps z c) := by
  refine Nat.eq_of_testBit_eq fun q => ?_
  rw [bit_next, bit_addAll, any_round]
  unfold joins
  rw [mem_bit]
  by_cases hq : q < z.players.length
  · rw [decide_eq_true hq]
    cases c.testBit q <;> cases decide (0 < firstRule z.rules q c) <;> rfl
  · rw [decide_eq_false hq, bit_high h (Nat.le_of_not_lt hq)]
    rfl
theorem addAll_lt {n c : Nat} (h : c < 2 ^ n) {l : List (Nat × Nat)} (hl : ∀ x ∈ l, x.1 < n) : addAll c l < 2 ^ n := by
  refine Nat.lt_pow_two_of_testBit _ fun i hi => ?_
  rw [bit_addAll, bit_high h hi, Bool.false_or]
  cases hm : (l.any fun x => decide (x.1 = i)) with
  | false => rfl
  | true =>
    obtain ⟨x, hx, e⟩ := List.any_eq_true.mp hm
    have := hl x hx
    have := of_decide_eq_true e
    omega
theorem round_lt (z : Room) (c : Nat) : ∀ x ∈ roundSteps z c, x.1 < z.players.length := by
  intro x hx
  unfold roundSteps at hx
  obtain ⟨p, hp, rfl⟩ := List.mem_map.mp hx
  exact List.mem_range.mp (List.mem_filter.mp hp).1
theorem next_lt {z : Room} {c : Nat} (h : c < 2 ^ z.players.length) : nextRound z c < 2 ^ z.players.length := by
  rw [next_is h]
  exact addAll_lt h (round_lt z c)
theorem find_zip (f : Rule → Bool) : ∀ (rs : List Rule) (k : Nat), ((rs.zipIdx k).find? fun u => f u.1).map (fun u => u.2) = (rs.findIdx? f).map (· + k)
  | [], k => rfl
  | r :: rs, k => by
    rw [List.zipIdx_cons, List.find?_cons, List.findIdx?_cons]
    cases h : f r with
    | true => simp [h]
    | false =>
      simp only [h, Bool.false_eq_true, if_false]
      rw [find_zip f rs (k + 1), Option.map_map]
      congr 1
      funext x
      simp only [Function.comp_apply]
      omega
/-- one round of the specification's steps -/
def specRound (z : Room) (s : Nat) : List (Nat × Nat) := ((List.range (playerCount z)).filter fun p => !isMember s p && isMember (nextRound z s) p).map fun p => (p, ((z.rules.zipIdx.find? fun u => u.1.absent == p && isRuleEnabled s u.1).map fun u => u.2).getD 0)
theorem steps_succ (z : Room) (f s : Nat) : stepsFrom z (f + 1) s = specRound z s ++ stepsFrom z f (nextRound z s) := rfl
theorem specRound_is (z : Room) (c : Nat) : (specRound z c).map up = roundSteps z c := by
  unfold specRound roundSteps
  rw [List.map_map]
  have e1 : (List.range (playerCount z)).filter (fun p => !isMember c p && isMember (nextRound z c) p) = (List.range z.players.length).filter (joins z c) := by
    refine List.filter_congr fun p hp => ?_
    have hp := List.mem_range.mp hp
    unfold playerCount at hp
    rw [mem_bit (nextRound z c), bit_next, decide_eq_true hp]
    unfold joins
    rw [mem_bit]
    cases c.testBit p <;> cases decide (0 < firstRule z.rules p c) <;> rfl
  rw [e1]
  refine List.map_congr_left fun p hp => ?_
  have hj := (List.mem_filter.mp hp).2
  unfold joins at hj
  rw [Bool.and_eq_true] at hj
  have h0 := of_decide_eq_true hj.1
  show up (p, _) = _
  unfold up
  refine Prod.ext rfl ?_
  show ((z.rules.zipIdx.find? fun u => okFor p c u.1).map fun u => u.2).getD 0 + 1 = firstRule z.rules p c
  rw [find_zip (okFor p c) z.rules 0]
  unfold firstRule at h0 ⊢
  cases h : z.rules.findIdx? (okFor p c) with
  | none => rw [h] at h0; exact absurd h0 (by decide)
  | some i => simp
theorem specRound_first (z : Room) (c : Nat) : (specRound z c).map (·.1) = (roundSteps z c).map (·.1) := by
  rw [← specRound_is, List.map_map]
  rfl
theorem closure_steps {z : Room} : ∀ (f c : Nat), c < 2 ^ z.players.length → closureFrom z f c = addAll c (stepsFrom z f c)
  | 0, c, _ => rfl
  | f + 1, c, h => by
    show closureFrom z f (nextRound z c) = _
    rw [closure_steps f _ (next_lt h), steps_succ, addAll_append]
    congr 1
    rw [next_is h]
    exact addAll_congr _ _ _ (specRound_first z c).symm
/-- all steps as the program tells them -/
def steps (z : Room) (c : Nat) : List (Nat × Nat) := (substitutionSteps z c).map up
theorem acting_is {z : Room} {c : Nat} (h : c < 2 ^ z.players.length) : addAll c (steps z c) = actingCoalition z c := by
  unfold actingCoalition steps substitutionSteps
  rw [closure_steps _ _ h]
  refine addAll_congr _ _ _ ?_
  rw [List.map_map]
  rfl
theorem nil_next {z : Room} {c : Nat} (h : c < 2 ^ z.players.length) (e : roundSteps z c = []) : nextRound z c = c := by
  rw [next_is h, e]
  rfl
theorem nil_steps {z : Room} {c : Nat} (h : c < 2 ^ z.players.length) (e : roundSteps z c = []) : ∀ f, stepsFrom z f c = []
  | 0 => rfl
  | f + 1 => by
    rw [steps_succ, nil_next h e, nil_steps h e f]
    have : (specRound z c).map up = [] := (specRound_is z c).trans e
    rw [List.map_eq_nil_iff] at this
    rw [this]
    rfl
theorem filter_len_lt {f g : Nat → Bool} : ∀ (l : List Nat), (∀ p ∈ l, g p = true → f p = true) → (∃ p ∈ l, f p = true ∧ g p = false) → (l.filter g).length < (l.filter f).length
  | [], _, h => by
    obtain ⟨p, hp, _⟩ := h
    cases hp
  | a :: l, hs, h => by
    have le : ∀ (m : List Nat), (∀ p ∈ m, g p = true → f p = true) → (m.filter g).length ≤ (m.filter f).length := by
      intro m
      induction m with
      | nil => intro _; exact Nat.le_refl _
      | cons b m ih =>
        intro hm
        have i1 := ih fun p hp => hm p (List.mem_cons_of_mem _ hp)
        have hb := hm b List.mem_cons_self
        rw [List.filter_cons, List.filter_cons]
        cases hg : g b with
        | true =>
          rw [hb hg, if_pos rfl, if_pos rfl, List.length_cons, List.length_cons]
          omega
        | false =>
          rw [if_neg Bool.false_ne_true]
          by_cases hf : f b = true
          · rw [if_pos hf, List.length_cons]
            omega
          · rw [if_neg hf]
            exact i1
    have tl : ∀ p ∈ l, g p = true → f p = true := fun p hp => hs p (List.mem_cons_of_mem _ hp)
    obtain ⟨p, hp, h1, h2⟩ := h
    rw [List.filter_cons, List.filter_cons]
    rcases List.mem_cons.mp hp with e | hp
    · subst e
      rw [h1, h2, if_neg Bool.false_ne_true, if_pos rfl, List.length_cons]
      have := le l tl
      omega
    · have ih := filter_len_lt l tl ⟨p, hp, h1, h2⟩
      have ha := hs a List.mem_cons_self
      cases hg : g a with
      | true =>
        rw [ha hg, if_pos rfl, if_pos rfl, List.length_cons, List.length_cons]
        omega
      | false =>
        rw [if_neg Bool.false_ne_true]
        by_cases hf : f a = true
        · rw [if_pos hf, List.length_cons]
          omega
        · rw [if_neg hf]
          exact ih
theorem nonmem_lt {z : Room} {c : Nat} (h : c < 2 ^ z.players.length) (e : roundSteps z c ≠ []) : nonmem z.players.length (nextRound z c) < nonmem z.players.length c := by
  unfold nonmem
  refine filter_len_lt _ (fun p hp hg => ?_) ?_
  · rw [mem_bit] at hg ⊢
    rw [bit_next, decide_eq_true (List.mem_range.mp hp)] at hg
    cases hc : c.testBit p with
    | false => rfl
    | true =>
      rw [hc] at hg
      cases hg
  · obtain ⟨x, hx⟩ := List.exists_mem_of_ne_nil _ e
    unfold roundSteps at hx
    obtain ⟨p, hp, _⟩ := List.mem_map.mp hx
    obtain ⟨h1, h2⟩ := List.mem_filter.mp hp
    refine ⟨p, h1, ?_, ?_⟩
    · unfold joins at h2
      rw [Bool.and_eq_true] at h2
      exact h2.2
    · rw [mem_bit, bit_next, decide_eq_true (List.mem_range.mp h1)]
      unfold joins at h2
      rw [Bool.and_eq_true] at h2
      rw [h2.1, Bool.or_true]
      rfl
theorem nonmem_le (n c : Nat) : nonmem n c ≤ n := by
  unfold nonmem
  have := List.length_filter_le (fun p => !isMember c p) (List.range n)
  rw [List.length_range] at this
  exact this
theorem steps_more {z : Room} {c f : Nat} (h : c < 2 ^ z.players.length) (e : roundSteps z c ≠ []) (hf : nonmem z.players.length c ≤ f) : ∃ f', f = f' + 1 ∧ (stepsFrom z f c).map up = roundSteps z c ++ (stepsFrom z f' (addAll c (roundSteps z c))).map up ∧ nonmem z.players.length (addAll c (roundSteps z c)) ≤ f' := by
  have lt := nonmem_lt h e
  cases f with
  | zero => omega
  | succ f' =>
    refine ⟨f', rfl, ?_, ?_⟩
    · rw [steps_succ, List.map_append, specRound_is, next_is h]
    · rw [← next_is h]
      omega
end Gs

set_option linter.all false
/-! Tables, minimal ones, counts, weights, swings. -/
namespace Gs
open Vbndam

def members8 (c : Nat) : List Nat := (List.range 8).filter (isMember c)
def tb (t : List Bool) (i : Nat) : Bool := t.getD i false
def suffTable (z : Room) : List Bool := (List.range (2 ^ z.players.length)).map (isSufficient z)
def minimalOnes (t : List Bool) : List Nat := (List.range t.length).filter fun c => tb t c && !((members8 c).any fun p => tb t (c - 2 ^ p))
def blockTable (t : List Bool) : List Bool := t.reverse.map fun b => !b
def apart (c o : Nat) : Bool := !((members8 c).any (isMember o))
def returnsTable (t : List Bool) (c : Nat) : List Bool := (List.range t.length).map fun o => apart c o && tb t (o + c)
def swingsOf (t : List Bool) (p : Nat) : List Nat := (List.range t.length).filter fun c => !isMember c p && (!tb t c && tb t (c + 2 ^ p))
def countOf (t : List Bool) (k : Nat) : Nat := ((List.range t.length).filter fun c => (members8 c).length == k && tb t c).length
def countsBy (t : List Bool) (n : Nat) : List Nat := (List.range (n + 1)).map (countOf t)

theorem suff_len (z : Room) : (suffTable z).length = 2 ^ z.players.length := by simp [suffTable]
theorem tb_map {n : Nat} {f : Nat → Bool} {i : Nat} (h : i < n) : tb ((List.range n).map f) i = f i := by
  unfold tb
  rw [List.getD_eq_getElem?_getD, List.getElem?_map, List.getElem?_range h]
  rfl
theorem tb_suff {z : Room} {i : Nat} (h : i < 2 ^ z.players.length) : tb (suffTable z) i = isSufficient z i := tb_map h
theorem range_split {n m : Nat} (h : n ≤ m) : List.range m = List.range n ++ (List.range (m - n)).map (· + n) := by
  rw [show m = n + (m - n) by omega, List.range_add]
  rw [show n + (m - n) - n = m - n by omega]
  congr 1
  refine List.map_congr_left fun x _ => ?_
  omega
theorem members_is {n c : Nat} (hn : n ≤ 8) (h : c < 2 ^ n) : members8 c = membersOf n c := by
  unfold members8 membersOf
  rw [range_split hn, List.filter_append]
  have : ((List.range (8 - n)).map (· + n)).filter (isMember c) = [] := by
    rw [List.filter_eq_nil_iff]
    intro x hx
    obtain ⟨y, _, rfl⟩ := List.mem_map.mp hx
    rw [mem_bit, bit_high h (by omega)]
    decide
  rw [this, List.append_nil]
theorem mem_members8 {c p : Nat} (h : p ∈ members8 c) : p < 8 ∧ c.testBit p = true := by
  unfold members8 at h
  rw [List.mem_filter, List.mem_range, mem_bit] at h
  exact h
theorem mem_members8' {c p : Nat} (h : p < 8) (hb : c.testBit p = true) : p ∈ members8 c := by
  unfold members8
  rw [List.mem_filter, List.mem_range, mem_bit]
  exact ⟨h, hb⟩
theorem all_not_any {l : List Nat} {f : Nat → Bool} : (l.all fun p => !f p) = !(l.any f) := by
  induction l with
  | nil => rfl
  | cons a l ih => rw [List.all_cons, List.any_cons, ih, Bool.not_or]
theorem pow_le_bit {c p : Nat} (h : c.testBit p = true) : 2 ^ p ≤ c := Nat.ge_two_pow_of_testBit h
theorem minimal_is {z : Room} (hn : z.players.length ≤ 8) {f : Nat → Bool} {t : List Bool} (ht : t.length = 2 ^ z.players.length) (hf : ∀ i, i < 2 ^ z.players.length → tb t i = f i) : minimalOnes t = minimalCoalitions z f := by
  unfold minimalOnes minimalCoalitions allCoalitions playerCount
  rw [ht]
  refine List.filter_congr fun (c : Nat) hc => ?_
  have hc : @LT.lt Nat _ c (2 ^ z.players.length) := List.mem_range.mp hc
  rw [hf c hc, ← members_is hn hc, all_not_any]
  congr 2
  have : ∀ l : List Nat, (l.any fun p => tb t (c - 2 ^ p)) = l.any fun p => f (c - 2 ^ p) := by
    intro l
    congr 1
    funext p
    exact hf _ (Nat.lt_of_le_of_lt (Nat.sub_le c (2 ^ p)) hc)
  exact this _
theorem minSuff_is {z : Room} (hn : z.players.length ≤ 8) : minimalOnes (suffTable z) = minimalSufficient z := minimal_is hn (suff_len z) fun _ h => tb_suff h
theorem block_len (t : List Bool) : (blockTable t).length = t.length := by simp [blockTable]
theorem tb_block {t : List Bool} {i : Nat} (h : i < t.length) : tb (blockTable t) i = !tb t (t.length - 1 - i) := by
  unfold tb blockTable
  rw [List.getD_eq_getElem?_getD, List.getElem?_map, List.getElem?_reverse h, List.getD_eq_getElem?_getD]
  have : t.length - 1 - i < t.length := by omega
  rw [List.getElem?_eq_getElem this]
  rfl
theorem minBlock_is {z : Room} (hn : z.players.length ≤ 8) : minimalOnes (blockTable (suffTable z)) = minimalBlocking z := by
  refine minimal_is hn (by rw [block_len, suff_len]) fun i h => ?_
  rw [tb_block (by rw [suff_len]; exact h), suff_len, tb_suff (by omega)]
  rfl
theorem apart_iff {c o : Nat} (hc : c < 256) (ho : o < 256) : apart c o = (c &&& o == 0) := by
  cases h : (c &&& o == 0) with
  | true =>
    have e : c &&& o = 0 := by simpa using h
    unfold apart
    cases ha : (members8 c).any (isMember o) with
    | false => rfl
    | true =>
      obtain ⟨p, hp, h1⟩ := List.any_eq_true.mp ha
      have h2 := (mem_members8 hp).2
      rw [mem_bit] at h1
      have : (c &&& o).testBit p = true := by rw [Nat.testBit_and, h2, h1]; rfl
      rw [e, Nat.zero_testBit] at this
      cases this
  | false =>
    unfold apart
    cases ha : (members8 c).any (isMember o) with
    | true => rfl
    | false =>
      exfalso
      have e : c &&& o = 0 := by
        refine Nat.eq_of_testBit_eq fun i => ?_
        rw [Nat.testBit_and, Nat.zero_testBit]
        by_cases hi : i < 8
        · cases h1 : c.testBit i with
          | false => rfl
          | true =>
            cases h2 : o.testBit i with
            | false => rfl
            | true =>
              have : (members8 c).any (isMember o) = true := List.any_eq_true.mpr ⟨i, mem_members8' hi h1, by rw [mem_bit, h2]⟩
              rw [ha] at this
              cases this
        · rw [bit_high (show c < 2 ^ 8 from hc) (by omega)]
          rfl
      rw [e] at h
      exact absurd h (by decide)
theorem add_or_of_apart : ∀ (n a b : Nat), a < 2 ^ n → a &&& b = 0 → a + b = a ||| b := by
  intro n a b _ h
  -- by the bits: no carry
  have key : ∀ (m : Nat) (a b : Nat), a ≤ m → a &&& b = 0 → a + b = a ||| b := by
    intro m
    induction m with
    | zero =>
      intro a b ha _
      have : a = 0 := by omega
      subst this
      simp
    | succ m ih =>
      intro a b ha h
      by_cases h0 : a = 0
      · subst h0; simp
      · have h2 : a / 2 &&& b / 2 = 0 := by
          rw [← Nat.and_div_two, h]
        have e := ih (a / 2) (b / 2) (by omega) h2
        have hm : ¬ (a % 2 = 1 ∧ b % 2 = 1) := by
          intro ⟨x, y⟩
          have : (a &&& b) % 2 = 1 := by
            rw [Nat.and_mod_two_eq_one]
            exact ⟨x, y⟩
          rw [h] at this
          cases this
        have e2 : (a ||| b) / 2 = a / 2 ||| b / 2 := Nat.or_div_two ..
        have e3 : (a ||| b) % 2 = 1 ↔ a % 2 = 1 ∨ b % 2 = 1 := Nat.or_mod_two_eq_one
        have : (a ||| b) = 2 * ((a ||| b) / 2) + (a ||| b) % 2 := by omega
        rw [this, e2, ← e]
        rcases Nat.mod_two_eq_zero_or_one a with x | x <;> rcases Nat.mod_two_eq_zero_or_one b with y | y
        · have : ¬ (a ||| b) % 2 = 1 := fun q => by rcases e3.mp q with q | q <;> omega
          omega
        · have : (a ||| b) % 2 = 1 := e3.mpr (.inr y)
          omega
        · have : (a ||| b) % 2 = 1 := e3.mpr (.inl x)
          omega
        · exact absurd ⟨x, y⟩ hm
  exact key a a b (Nat.le_refl _) h
theorem pow_le_256 {n : Nat} (hn : n ≤ 8) : 2 ^ n ≤ 256 := Nat.pow_le_pow_right (n := 2) (by decide) hn
theorem apart_or {n c o : Nat} (hn : n ≤ 8) (hc : c < 2 ^ n) (ho : o < 2 ^ n) (h : apart c o = true) : o + c = c ||| o := by
  have := pow_le_256 hn
  rw [apart_iff (by omega) (by omega)] at h
  have e : c &&& o = 0 := by simpa using h
  rw [Nat.add_comm]
  exact add_or_of_apart n c o hc e
theorem apart_lt {n c o : Nat} (hn : n ≤ 8) (hc : c < 2 ^ n) (ho : o < 2 ^ n) (h : apart c o = true) : o + c < 2 ^ n := by
  rw [apart_or hn hc ho h]
  exact Nat.or_lt_two_pow hc ho
theorem ret_len (t : List Bool) (c : Nat) : (returnsTable t c).length = t.length := by simp [returnsTable]
theorem returns_is {z : Room} (hn : z.players.length ≤ 8) {c : Nat} (hc : c < 2 ^ z.players.length) : minimalOnes (returnsTable (suffTable z) c) = minimalReturns z c := by
  have P := pow_le_256 hn
  have hv : ∀ i, i < 2 ^ z.players.length → tb (returnsTable (suffTable z) c) i = (apart c i && isSufficient z (c ||| i)) := by
    intro i hi
    unfold returnsTable
    rw [tb_map (by rw [suff_len]; exact hi)]
    cases ha : apart c i with
    | false => rfl
    | true => rw [tb_suff (apart_lt hn hc hi ha), apart_or hn hc hi ha]
  rw [minimal_is (z := z) (f := fun i => apart c i && isSufficient z (c ||| i)) hn (by rw [ret_len, suff_len]) hv]
  unfold minimalReturns minimalCoalitions
  rw [List.filter_filter]
  refine List.filter_congr fun (t : Nat) ht => ?_
  have ht : @LT.lt Nat _ t (2 ^ z.players.length) := List.mem_range.mp ht
  show ((apart c t && isSufficient z (c ||| t)) && _) = ((c &&& t == 0) && _)
  rw [apart_iff (by omega) (by omega)]
  cases ha : (c &&& t == 0) with
  | false => rfl
  | true =>
    rw [Bool.true_and, Bool.true_and]
    congr 1
    have e : c &&& t = 0 := by simpa using ha
    have same : ∀ p ∈ membersOf (playerCount z) t, (!(apart c (t - 2 ^ p) && isSufficient z (c ||| (t - 2 ^ p)))) = !isSufficient z (c ||| (t - 2 ^ p)) := by
      intro p hp
      have hb : t.testBit p = true := by
        unfold membersOf at hp
        rw [List.mem_filter, mem_bit] at hp
        exact hp.2
      have : apart c (t - 2 ^ p) = true := by
        rw [apart_iff (by omega) (Nat.lt_of_le_of_lt (Nat.sub_le t (2 ^ p)) (by omega))]
        have sub : ∀ i, (t - 2 ^ p).testBit i = true → t.testBit i = true := by
          intro i hi
          have hle := pow_le_bit hb
          have e1 : t = (t - 2 ^ p) + 2 ^ p := by omega
          have hz : (t - 2 ^ p).testBit p = false := by
            have := Nat.testBit_two_pow_add_eq (t - 2 ^ p) p
            rw [Nat.add_comm, ← e1, hb] at this
            cases h : (t - 2 ^ p).testBit p with
            | false => rfl
            | true => rw [h] at this; cases this
          rw [e1, bit_add hz, hi]
          rfl
        have : c &&& (t - 2 ^ p) = 0 := by
          refine Nat.eq_of_testBit_eq fun i => ?_
          rw [Nat.testBit_and, Nat.zero_testBit]
          cases h1 : c.testBit i with
          | false => rfl
          | true =>
            cases h2 : (t - 2 ^ p).testBit i with
            | false => rfl
            | true =>
              have : (c &&& t).testBit i = true := by rw [Nat.testBit_and, h1, sub i h2]; rfl
              rw [e, Nat.zero_testBit] at this
              cases this
        rw [this]
        rfl
      rw [this, Bool.true_and]
    have : ∀ l : List Nat, (∀ p ∈ l, p ∈ membersOf (playerCount z) t) → (l.all fun p => !(apart c (t - 2 ^ p) && isSufficient z (c ||| (t - 2 ^ p)))) = l.all fun p => !isSufficient z (c ||| (t - 2 ^ p)) := by
      intro l
      induction l with
      | nil => intro _; rfl
      | cons a l ih =>
        intro h
        rw [List.all_cons, List.all_cons, ih fun p hp => h p (List.mem_cons_of_mem _ hp), same a (h a List.mem_cons_self)]
    exact this _ fun _ h => h
theorem add_lt_bit {n c p : Nat} (hc : c < 2 ^ n) (hp : p < n) (h : isMember c p = false) : c + 2 ^ p < 2 ^ n := by
  rw [mem_bit] at h
  refine Nat.lt_pow_two_of_testBit _ fun i hi => ?_
  rw [bit_add h, bit_high hc hi]
  have : ¬ p = i := by omega
  simp [this]
theorem swings_is {z : Room} {p : Nat} (hp : p < z.players.length) : swingsOf (suffTable z) p = swings z p := by
  unfold swingsOf swings allCoalitions playerCount
  rw [suff_len]
  refine List.filter_congr fun c hc => ?_
  have hc := List.mem_range.mp hc
  cases hm : isMember c p with
  | true => rfl
  | false =>
    rw [tb_suff hc, tb_suff (add_lt_bit hc hp hm)]
theorem members_len {n c : Nat} (hn : n ≤ 8) (h : c < 2 ^ n) : (members8 c).length ≤ n := by
  rw [members_is hn h]
  unfold membersOf
  have := List.length_filter_le (isMember c) (List.range n)
  rw [List.length_range] at this
  exact this
theorem count_is {z : Room} (hn : z.players.length ≤ 8) (k : Nat) : countOf (suffTable z) k = sufficientCountOfSize z k := by
  unfold countOf sufficientCountOfSize allCoalitions coalitionSize playerCount
  rw [suff_len]
  congr 1
  refine List.filter_congr fun c hc => ?_
  have hc := List.mem_range.mp hc
  rw [members_is hn hc, tb_suff hc]
theorem counts_is {z : Room} (hn : z.players.length ≤ 8) : countsBy (suffTable z) z.players.length = (List.range (playerCount z + 1)).map (sufficientCountOfSize z) := by
  unfold countsBy
  refine List.map_congr_left fun k _ => count_is hn k
end Gs

set_option linter.all false
/-! Weights, the cheapest, shares, packings. -/
namespace Gs
open Vbndam

def wt (z : Room) (p : Nat) : Nat := ((z.players[p]?).map fun x => x.weight).getD 0
theorem foldl_sum : ∀ (l : List Nat) (a : Nat), l.foldl (fun a b => a + b) a = a + l.sum
  | [], a => by simp
  | x :: l, a => by
    rw [List.foldl_cons, foldl_sum l, List.sum_cons]
    omega
theorem sum_cast : ∀ (l : List Nat), (l.map fun (n : Nat) => (n : Int)).sum = ((l.sum : Nat) : Int)
  | [] => rfl
  | x :: l => by
    rw [List.map_cons, List.sum_cons, List.sum_cons, sum_cast l]
    omega
theorem weight_is {z : Room} (hn : z.players.length ≤ 8) (c : Nat) : coalitionWeight z c = (((List.range z.players.length).filter (isMember c)).map (wt z)).sum := by
  unfold coalitionWeight membersOf playerCount
  rw [foldl_sum, Nat.zero_add]
  rfl
theorem wt_at {z : Room} {p : Nat} {x : Player} (h : z.players[p]? = some x) : wt z p = x.weight := by
  unfold wt
  rw [h]
  rfl
theorem total_is (z : Room) : coalitionWeight z (everyone z) = (z.players.map fun x => x.weight).sum := by
  unfold coalitionWeight membersOf playerCount everyone
  rw [foldl_sum, Nat.zero_add]
  have e : (List.range z.players.length).filter (isMember (2 ^ z.players.length - 1)) = List.range z.players.length := by
    rw [List.filter_eq_self]
    intro p hp
    rw [mem_bit, Nat.testBit_two_pow_sub_one]
    exact decide_eq_true (List.mem_range.mp hp)
  rw [e]
  congr 1
  refine List.ext_getElem (by simp) fun i h1 h2 => ?_
  simp at h1 h2 ⊢
  rw [List.getElem?_eq_getElem h1]
  rfl
/-! everyone is sufficient -/
theorem next_everyone (z : Room) : nextRound z (everyone z) = everyone z := by
  unfold everyone
  refine Nat.eq_of_testBit_eq fun q => ?_
  rw [bit_next, Nat.testBit_two_pow_sub_one]
  by_cases h : q < z.players.length <;> simp [h]
theorem suff_everyone (z : Room) : isSufficient z (everyone z) = true := by
  unfold isSufficient actingCoalition
  have : ∀ f, closureFrom z f (everyone z) = everyone z := by
    intro f
    induction f with
    | zero => rfl
    | succ f ih =>
      show closureFrom z f (nextRound z (everyone z)) = _
      rw [next_everyone, ih]
  rw [this]
  exact beq_self_eq_true _
def suffs (z : Room) : List Nat := (allCoalitions z).filter (isSufficient z)
theorem suffs_ne (z : Room) : suffs z ≠ [] := by
  have : everyone z ∈ suffs z := by
    unfold suffs allCoalitions playerCount
    rw [List.mem_filter, List.mem_range]
    refine ⟨?_, suff_everyone z⟩
    unfold everyone
    exact Nat.sub_lt (Nat.two_pow_pos _) (by decide)
  exact List.ne_nil_of_mem this
/-- the first of the least by weight -/
def least (w : Nat → Nat) (l : List Nat) (a : Nat) : Nat := l.foldl (fun b s => if w s < w b then s else b) a
theorem fold_least (w : Nat → Nat) : ∀ (l : List Nat) (a : Nat), l.foldl (fun (b : Option Nat) s => match b with
  | none => some s
  | some c => if w s < w c then some s else b) (some a) = some (least w l a)
  | [], a => rfl
  | s :: l, a => by
    rw [List.foldl_cons]
    show l.foldl _ (if w s < w a then some s else some a) = some (least w l (if w s < w a then s else a))
    by_cases h : w s < w a
    · rw [if_pos h, if_pos h]
      exact fold_least w l s
    · rw [if_neg h, if_neg h]
      exact fold_least w l a
theorem cheapest_is {z : Room} {a : Nat} {l : List Nat} (h : suffs z = a :: l) : cheapestSufficient z = least (coalitionWeight z) l a := by
  have e : cheapestSufficient z = (((suffs z).foldl (fun (b : Option Nat) s => match b with
  | none => some s
  | some c => if coalitionWeight z s < coalitionWeight z c then some s else b) none)).getD (everyone z) := rfl
  rw [e, h, List.foldl_cons]
  show (l.foldl _ (some a)).getD _ = _
  rw [fold_least]
  rfl
/-- pairs of a weight and a coalition, by the first, then the second -/
def lexLt (x y : Nat × Nat) : Bool := decide (x.1 < y.1) || (decide (x.1 = y.1) && decide (x.2 < y.2))
theorem least_lex (w : Nat → Nat) : ∀ (l : List Nat) (a : Nat), (a :: l).Pairwise (· < ·) → (l.map fun c => (w c, c)).foldl (fun b y => if lexLt y b = true then y else b) (w a, a) = (w (least w l a), least w l a)
  | [], a, _ => rfl
  | s :: l, a, h => by
    rw [List.map_cons, List.foldl_cons]
    rw [List.pairwise_cons] at h
    have has : a < s := h.1 s List.mem_cons_self
    have hs := List.pairwise_cons.mp h.2
    show List.foldl _ (if lexLt (w s, s) (w a, a) = true then (w s, s) else (w a, a)) _ = (w (least w l (if w s < w a then s else a)), _)
    have e : lexLt (w s, s) (w a, a) = decide (w s < w a) := by
      unfold lexLt
      have : ¬ s < a := by omega
      simp [this]
    rw [e]
    by_cases hw : w s < w a
    · simp only [decide_eq_true hw, if_true, if_pos hw]
      have := least_lex w l s h.2
      rw [this]
      show _ = (_, least w (s :: l) a)
      show _ = (_, least w l (if w s < w a then s else a))
      rw [if_pos hw]
    · rw [decide_eq_false hw, if_neg Bool.false_ne_true, if_neg hw]
      have := least_lex w l a (List.pairwise_cons.mpr ⟨fun b hb => h.1 b (List.mem_cons_of_mem _ hb), hs.2⟩)
      rw [this]
      show _ = (_, least w l (if w s < w a then s else a))
      rw [if_neg hw]
theorem suffs_sorted (z : Room) : (suffs z).Pairwise (· < ·) := List.Pairwise.sublist List.filter_sublist List.pairwise_lt_range
/-! shares -/
def sumOf (l : List Nat) : Nat := l.sum
def indexOver (sizes : List Nat) (n : Nat) : Nat := (sizes.map fun k => factorial k * factorial (n - 1 - k)).sum
theorem size_lt {n s p : Nat} (hp : p < n) (h : isMember s p = false) : ((List.range n).filter (isMember s)).length < n := by
  have := filter_len_lt (f := fun _ => true) (g := isMember s) (List.range n) (fun _ _ _ => rfl) ⟨p, List.mem_range.mpr hp, rfl, h⟩
  rw [List.filter_eq_self.mpr (fun _ _ => rfl), List.length_range] at this
  exact this
theorem mem_swings {z : Room} {p s : Nat} (h : s ∈ swings z p) : s < 2 ^ z.players.length ∧ isMember s p = false := by
  unfold swings allCoalitions playerCount at h
  rw [List.mem_filter, List.mem_range] at h
  refine ⟨h.1, ?_⟩
  have := h.2
  rw [Bool.and_eq_true] at this
  simpa using this.1
theorem swing_size {z : Room} {p s : Nat} (hn : z.players.length ≤ 8) (hp : p < z.players.length) (h : s ∈ swings z p) : (members8 s).length < z.players.length := by
  obtain ⟨h1, h2⟩ := mem_swings h
  rw [members_is hn h1]
  exact size_lt hp h2
theorem pivotal_is {z : Room} {p : Nat} (hn : z.players.length ≤ 8) (hp : p < z.players.length) : pivotalOrderCount z p = indexOver ((swingsOf (suffTable z) p).map fun s => (members8 s).length) z.players.length := by
  unfold pivotalOrderCount indexOver
  rw [foldl_sum, Nat.zero_add, List.map_map, swings_is hp]
  congr 1
  refine List.map_congr_left fun (s : Nat) hs => ?_
  have h1 := (mem_swings hs).1
  show factorial (coalitionSize z s) * factorial (playerCount z - coalitionSize z s - 1) = factorial (members8 s).length * factorial (z.players.length - 1 - (members8 s).length)
  have e : coalitionSize z s = (members8 s).length := by
    unfold coalitionSize playerCount
    rw [members_is hn h1]
  rw [e]
  unfold playerCount
  rw [Nat.sub_right_comm]
def contOver (counts : List Nat) (a b : Nat) : Nat := ((List.range counts.length).map fun k => counts.getD k 0 * a ^ k * (b - a) ^ (counts.length - 1 - k)).sum
theorem cont_is {z : Room} (hn : z.players.length ≤ 8) (a b : Nat) : continuationWeight z a b = contOver (countsBy (suffTable z) z.players.length) a b := by
  unfold continuationWeight contOver
  rw [foldl_sum, Nat.zero_add]
  have hl : (countsBy (suffTable z) z.players.length).length = z.players.length + 1 := by simp [countsBy]
  rw [hl]
  unfold playerCount
  congr 1
  refine List.map_congr_left fun k hk => ?_
  have hk := List.mem_range.mp hk
  have : (countsBy (suffTable z) z.players.length).getD k 0 = sufficientCountOfSize z k := by
    rw [counts_is hn]
    unfold playerCount
    rw [List.getD_eq_getElem?_getD, List.getElem?_map, List.getElem?_range hk]
    rfl
  rw [this]
  rfl
/-! packings -/
theorem sumList_is : ∀ l : List Nat, sumList l = l.sum
  | [] => rfl
  | x :: l => by
    show x + sumList l = _
    rw [sumList_is l, List.sum_cons]
theorem zip_all {α : Type} (f : α × Nat → Bool) : ∀ (l : List α) (k : Nat), ((l.zipIdx k).all f = true) ↔ ∀ i x, l[i]? = some x → f (x, k + i) = true
  | [], k => by simp
  | a :: l, k => by
    rw [List.zipIdx_cons, List.all_cons, Bool.and_eq_true, zip_all f l (k + 1)]
    constructor
    · rintro ⟨h1, h2⟩ i x hx
      cases i with
      | zero =>
        cases hx
        exact h1
      | succ i =>
        have := h2 i x hx
        rw [show k + 1 + i = k + (i + 1) by omega] at this
        exact this
    · intro h
      refine ⟨h 0 a rfl, fun i x hx => ?_⟩
      have := h (i + 1) x hx
      rw [show k + 1 + i = k + (i + 1) by omega]
      exact this
/-- what the coalitions that hold a player sum up to -/
def packed (l : List (Nat × Nat)) (p : Nat) : Nat := ((l.filter fun x => isMember x.1 p).map fun x => x.2).sum
theorem packing_is (z : Room) (l : List (Nat × Nat)) : isPackingValid z l = true ↔ ((∀ x ∈ l, isBlocking z x.1 = true) ∧ ∀ i x, z.players[i]? = some x → packed l i ≤ x.weight) := by
  unfold isPackingValid
  rw [Bool.and_eq_true, List.all_eq_true, zip_all]
  refine and_congr Iff.rfl ?_
  constructor
  · intro h i x hx
    have := of_decide_eq_true (h i x hx)
    rw [sumList_is, Nat.zero_add] at this
    exact this
  · intro h i x hx
    refine decide_eq_true ?_
    rw [sumList_is, Nat.zero_add]
    exact h i x hx
theorem bound_is (l : List (Nat × Nat)) : packingBound l = (l.map fun x => x.2).sum := sumList_is _
/-! what a room keeps -/
structure RuleOk (n : Nat) (u : Rule) : Prop where
  ab : u.absent < n
  req : u.required ≤ u.substitutes.length
  subs : ∀ p ∈ u.substitutes, p < n
  few : u.substitutes.length ≤ 8
structure PlayerOk (p : Player) : Prop where
  wt : p.weight ≤ 1000
  nm : p.name.length ≤ 12
/-- what a room may be while it is read -/
structure Part (z : Room) : Prop where
  n8 : z.players.length ≤ 8
  r20 : z.rules.length ≤ 20
  rules : ∀ u ∈ z.rules, RuleOk z.players.length u
  pl : ∀ p ∈ z.players, PlayerOk p
structure Wf (z : Room) : Prop extends Part z where
  n1 : 1 ≤ z.players.length
theorem Wf.erase {z : Room} (h : Wf z) (k : Nat) : Wf { z with rules := z.rules.eraseIdx k } where
  n8 := h.n8
  r20 := Nat.le_trans (List.length_eraseIdx_le ..) h.r20
  rules := fun u hu => h.rules u (List.mem_of_mem_eraseIdx hu)
  pl := h.pl
  n1 := h.n1
theorem Wf.setw {z : Room} (h : Wf z) (i : Nat) {w : Nat} (hw : w ≤ 1000) : Wf { z with players := z.players.modify i fun x => { x with weight := w } } where
  n8 := by
    show (z.players.modify i _).length ≤ 8
    rw [List.length_modify]
    exact h.n8
  r20 := h.r20
  rules := fun u hu => by
    show RuleOk (z.players.modify i _).length u
    rw [List.length_modify]
    exact h.rules u hu
  pl := fun p hp => by
    have hp : p ∈ z.players.modify i fun x => { x with weight := w } := hp
    obtain ⟨j, hj, e⟩ := List.mem_iff_getElem.mp hp
    rw [List.length_modify] at hj
    have q := h.pl z.players[j] (List.getElem_mem hj)
    rw [List.getElem_modify] at e
    by_cases hij : i = j
    · rw [if_pos hij] at e
      subst e
      exact ⟨hw, q.nm⟩
    · rw [if_neg hij] at e
      subst e
      exact q
  n1 := by
    show 1 ≤ (z.players.modify i _).length
    rw [List.length_modify]
    exact h.n1
end Gs

set_option Elab.async false
set_option linter.all false
set_option maxRecDepth 100000
set_option maxHeartbeats 4000000
/-! Plain: texts in lines and tokens. -/
namespace Gs
open Vbndaa (Token Cursor ParseError tokenizeWith splitAtByte currentOffset parseToken expectToken nextTokenIs expectEnd toBytes natOfToken isIdentifier isLowercase isDigit valueOf)
def toks (p : Nat) (t : List Nat) : List Token := tokenizeWith Vbndam.noSeparators p t
def lineOf (x : Nat × List Nat) : List Token := toks x.1 x.2 ++ [⟨x.1 + x.2.length, []⟩]
structure Sc where
  off : Nat
  ls : List (List Token)
  ts : List Token
  sg : List Nat
def Sc.ts' (s : Sc) : List Token := if s.sg = [] then s.ts else s.ts ++ [⟨s.off - s.sg.length, s.sg⟩]
def scStep (s : Sc) (b : Nat) : Sc :=
  if b = 10 then ⟨s.off + 1, s.ls ++ [s.ts' ++ [⟨s.off, []⟩]], [], []⟩
  else if b = 32 then ⟨s.off + 1, s.ls, s.ts', []⟩
  else ⟨s.off + 1, s.ls, s.ts, s.sg ++ [b]⟩
def sc0 : Sc := ⟨0, [], [], []⟩
theorem toks_nil (p : Nat) : toks p [] = [] := rfl
theorem toks_sp (p : Nat) (r : List Nat) : toks p (32 :: r) = toks (p + 1) r := by
  unfold toks
  simp [tokenizeWith]
theorem toks_one (p c : Nat) (h : c ≠ 32) : toks p [c] = [⟨p, [c]⟩] := by
  show (if c = 32 then _ else if Vbndam.noSeparators c = true then _ else _) = _
  rw [if_neg h, if_neg (show ¬ Vbndam.noSeparators c = true from Bool.false_ne_true)]
theorem toks_csp (p c : Nat) (r : List Nat) (h : c ≠ 32) : toks p (c :: 32 :: r) = ⟨p, [c]⟩ :: toks (p + 1) (32 :: r) := by
  show (if c = 32 then _ else if Vbndam.noSeparators c = true then _ else if 32 = 32 ∨ Vbndam.noSeparators 32 = true then _ else _) = _
  rw [if_neg h, if_neg (show ¬ Vbndam.noSeparators c = true from Bool.false_ne_true), if_pos (.inl rfl)]
  rfl
theorem toks_cd (p c d : Nat) (r : List Nat) (h : c ≠ 32) (hd : d ≠ 32) : toks p (c :: d :: r) = match toks (p + 1) (d :: r) with
    | [] => [⟨p, [c]⟩]
    | w :: l => ⟨p, c :: w.bytes⟩ :: l := by
  show (if c = 32 then _ else if Vbndam.noSeparators c = true then _ else if d = 32 ∨ Vbndam.noSeparators d = true then _ else _) = _
  rw [if_neg h, if_neg (show ¬ Vbndam.noSeparators c = true from Bool.false_ne_true), if_neg (by rintro (q | q); exact hd q; exact Bool.false_ne_true q)]
  rfl
/-- a word at the head -/
theorem word_sp : ∀ (sg : List Nat) (p : Nat) (x : List Nat), sg ≠ [] → (∀ c ∈ sg, c ≠ 32) → toks p (sg ++ 32 :: x) = ⟨p, sg⟩ :: toks (p + sg.length + 1) x
  | [], _, _, h, _ => absurd rfl h
  | [c], p, x, _, h => by
    show toks p (c :: 32 :: x) = _
    rw [toks_csp p c x (h c (List.mem_cons_self ..)), toks_sp]
    rfl
  | c :: d :: sg, p, x, _, h => by
    have hd := h d (List.mem_cons_of_mem _ (List.mem_cons_self ..))
    have ih := word_sp (d :: sg) (p + 1) x (List.cons_ne_nil _ _) fun y hy => h y (List.mem_cons_of_mem _ hy)
    show toks p (c :: d :: (sg ++ 32 :: x)) = _
    rw [toks_cd p c d _ (h c (List.mem_cons_self ..)) hd, show d :: (sg ++ 32 :: x) = (d :: sg) ++ 32 :: x from rfl, ih]
    show ⟨p, c :: d :: sg⟩ :: toks (p + 1 + (d :: sg).length + 1) x = ⟨p, c :: d :: sg⟩ :: toks (p + (c :: d :: sg).length + 1) x
    congr 2
    show p + 1 + (sg.length + 1) + 1 = p + (sg.length + 1 + 1) + 1
    omega
theorem word_end : ∀ (sg : List Nat) (p : Nat), sg ≠ [] → (∀ c ∈ sg, c ≠ 32) → toks p sg = [⟨p, sg⟩]
  | [], _, h, _ => absurd rfl h
  | [c], p, _, h => toks_one p c (h c (List.mem_cons_self ..))
  | c :: d :: sg, p, _, h => by
    have hd := h d (List.mem_cons_of_mem _ (List.mem_cons_self ..))
    have ih := word_end (d :: sg) (p + 1) (List.cons_ne_nil _ _) fun y hy => h y (List.mem_cons_of_mem _ hy)
    rw [toks_cd p c d _ (h c (List.mem_cons_self ..)) hd, ih]
theorem ts_sp (s : Sc) (x : List Nat) (h : ∀ c ∈ s.sg, c ≠ 32) (hl : s.sg.length ≤ s.off) : s.ts ++ toks (s.off - s.sg.length) (s.sg ++ 32 :: x) = s.ts' ++ toks (s.off + 1) x := by
  unfold Sc.ts'
  by_cases e : s.sg = []
  · rw [if_pos e, e]
    show s.ts ++ toks (s.off - 0) (32 :: x) = _
    rw [toks_sp]
    rfl
  · rw [if_neg e, word_sp _ _ _ e h, List.append_assoc]
    show s.ts ++ _ :: toks (s.off - s.sg.length + s.sg.length + 1) x = _
    rw [Nat.sub_add_cancel hl]
    rfl
theorem ts_end (s : Sc) (h : ∀ c ∈ s.sg, c ≠ 32) : s.ts ++ toks (s.off - s.sg.length) s.sg = s.ts' := by
  unfold Sc.ts'
  by_cases e : s.sg = []
  · rw [if_pos e, e]
    show s.ts ++ [] = _
    rw [List.append_nil]
  · rw [if_neg e, word_end _ _ e h]
theorem scan_any : ∀ (t : List Nat) (s : Sc), (∀ c ∈ s.sg, c ≠ 32) → s.sg.length ≤ s.off → ∃ x l, splitAtByte 10 s.off t = (s.off, x) :: l ∧
    ((t ++ [10]).foldl scStep s).ls = s.ls ++ ((s.ts ++ toks (s.off - s.sg.length) (s.sg ++ x) ++ [⟨s.off + x.length, []⟩]) :: l.map lineOf)
  | [], s, h, hl => by
    refine ⟨[], [], rfl, ?_⟩
    show (scStep s 10).ls = _
    unfold scStep
    rw [if_pos rfl, List.append_nil, ts_end s h]
    rfl
  | c :: t, s, h, hl => by
    have hstep : ((c :: t) ++ [10]).foldl scStep s = (t ++ [10]).foldl scStep (scStep s c) := rfl
    rw [hstep]
    by_cases h10 : c = 10
    · subst h10
      obtain ⟨x, l, e1, e2⟩ := scan_any t (scStep s 10) (by unfold scStep; rw [if_pos rfl]; intro c hc; cases hc) (by unfold scStep; rw [if_pos rfl]; exact Nat.zero_le _)
      have eo : (scStep s 10).off = s.off + 1 := by unfold scStep; rw [if_pos rfl]
      have el : (scStep s 10).ls = s.ls ++ [s.ts' ++ [⟨s.off, []⟩]] := by unfold scStep; rw [if_pos rfl]
      have et : (scStep s 10).ts = [] := by unfold scStep; rw [if_pos rfl]
      have eg : (scStep s 10).sg = [] := by unfold scStep; rw [if_pos rfl]
      refine ⟨[], (s.off + 1, x) :: l, ?_, ?_⟩
      · show (if (10 : Nat) = 10 then _ else _) = _
        rw [if_pos rfl, ← eo, e1]
      · rw [e2, eo, el, et, eg, List.append_nil, ts_end s h, List.append_assoc]
        rfl
    · by_cases h32 : c = 32
      · subst h32
        have es : scStep s 32 = ⟨s.off + 1, s.ls, s.ts', []⟩ := by unfold scStep; rw [if_neg (by decide), if_pos rfl]
        obtain ⟨x, l, e1, e2⟩ := scan_any t (scStep s 32) (by rw [es]; intro c hc; cases hc) (by rw [es]; exact Nat.zero_le _)
        rw [es] at e1 e2
        refine ⟨32 :: x, l, ?_, ?_⟩
        · show (if (32 : Nat) = 10 then _ else match splitAtByte 10 (s.off + 1) t with
            | [] => _
            | x :: l => (s.off, 32 :: x.2) :: l) = _
          rw [if_neg (by decide), e1]
        · rw [es, e2, ts_sp s x h hl]
          show s.ls ++ ((s.ts' ++ toks (s.off + 1 - 0) ([] ++ x) ++ [⟨s.off + 1 + x.length, []⟩]) :: l.map lineOf) = s.ls ++ ((s.ts' ++ toks (s.off + 1) x ++ [⟨s.off + (x.length + 1), []⟩]) :: l.map lineOf)
          rw [show s.off + 1 + x.length = s.off + (x.length + 1) by omega]
          rfl
      · have es : scStep s c = ⟨s.off + 1, s.ls, s.ts, s.sg ++ [c]⟩ := by unfold scStep; rw [if_neg h10, if_neg h32]
        have hs : (s.sg ++ [c]).length = s.sg.length + 1 := by rw [List.length_append, List.length_singleton]
        obtain ⟨x, l, e1, e2⟩ := scan_any t (scStep s c) (by
          rw [es]
          intro d hd
          rcases List.mem_append.mp hd with hd | hd
          · exact h d hd
          · rw [List.mem_singleton.mp hd]
            exact h32) (by rw [es]; show (s.sg ++ [c]).length ≤ s.off + 1; omega)
        rw [es] at e1 e2
        refine ⟨c :: x, l, ?_, ?_⟩
        · show (if c = 10 then _ else match splitAtByte 10 (s.off + 1) t with
            | [] => _
            | x :: l => (s.off, c :: x.2) :: l) = _
          rw [if_neg h10, e1]
        · rw [es, e2]
          show s.ls ++ ((s.ts ++ toks (s.off + 1 - (s.sg ++ [c]).length) ((s.sg ++ [c]) ++ x) ++ [⟨s.off + 1 + x.length, []⟩]) :: l.map lineOf) = s.ls ++ ((s.ts ++ toks (s.off - s.sg.length) (s.sg ++ c :: x) ++ [⟨s.off + (x.length + 1), []⟩]) :: l.map lineOf)
          rw [hs, List.append_assoc s.sg [c] x, show s.off + 1 - (s.sg.length + 1) = s.off - s.sg.length by omega, show s.off + 1 + x.length = s.off + (x.length + 1) by omega]
          rfl
theorem scan_is (t : List Nat) : ((t ++ [10]).foldl scStep sc0).ls = (splitAtByte 10 0 t).map lineOf := by
  obtain ⟨x, l, e1, e2⟩ := scan_any t sc0 (fun c hc => by cases hc) (Nat.le_refl _)
  rw [e2, show splitAtByte 10 0 t = (0, x) :: l from e1]
  rfl
/-- few of all -/
structure Few (s : Sc) : Prop where
  l : s.ls.length ≤ s.off
  t : s.ts.length ≤ s.off
  g : s.sg.length ≤ s.off
theorem few_step {s : Sc} (h : Few s) (b : Nat) : Few (scStep s b) := by
  have hl := h.l
  have ht := h.t
  have hg := h.g
  have h' : s.ts'.length ≤ s.off + 1 := by
    unfold Sc.ts'
    split
    · omega
    · rw [List.length_append, List.length_singleton]
      omega
  unfold scStep
  split
  · refine ⟨?_, Nat.zero_le _, Nat.zero_le _⟩
    show (s.ls ++ [_]).length ≤ s.off + 1
    rw [List.length_append, List.length_singleton]
    omega
  · split
    · exact ⟨Nat.le_succ_of_le hl, h', Nat.zero_le _⟩
    · refine ⟨Nat.le_succ_of_le hl, Nat.le_succ_of_le ht, ?_⟩
      show (s.sg ++ [b]).length ≤ s.off + 1
      rw [List.length_append, List.length_singleton]
      omega
theorem step_off (s : Sc) (b : Nat) : (scStep s b).off = s.off + 1 := by
  unfold scStep
  split
  · rfl
  · split <;> rfl
/-! ### tokens of a line -/
theorem toks_ok : ∀ (n : Nat) (t : List Nat) (p : Nat), t.length ≤ n → (toks p t).length ≤ t.length ∧ ∀ w ∈ toks p t, w.bytes ≠ [] ∧ w.bytes.length ≤ t.length
  | _, [], p, _ => ⟨Nat.le_refl _, fun w hw => by cases hw⟩
  | 0, _ :: _, _, h => absurd h (by simp)
  | n + 1, c :: r, p, h => by
    have hr : r.length ≤ n := by simpa using h
    have hc : (c :: r).length = r.length + 1 := rfl
    have ih := toks_ok n r (p + 1) hr
    by_cases h32 : c = 32
    · subst h32
      rw [toks_sp]
      refine ⟨by omega, fun w hw => ⟨(ih.2 w hw).1, ?_⟩⟩
      have := (ih.2 w hw).2
      omega
    · match r, hr, hc, ih with
      | [], _, _, _ =>
        rw [toks_one p c h32]
        refine ⟨Nat.le_refl _, fun w hw => ?_⟩
        rw [List.mem_singleton.mp hw]
        exact ⟨List.cons_ne_nil _ _, Nat.le_refl _⟩
      | d :: r, hr, hc, ih =>
        by_cases hd : d = 32
        · subst hd
          rw [toks_csp p c r h32]
          refine ⟨?_, fun w hw => ?_⟩
          · rw [List.length_cons]
            omega
          · rcases List.mem_cons.mp hw with rfl | hw
            · exact ⟨List.cons_ne_nil _ _, by show 1 ≤ _; omega⟩
            · have := ih.2 w hw
              exact ⟨this.1, by omega⟩
        · rw [toks_cd p c d r h32 hd]
          cases e : toks (p + 1) (d :: r) with
          | nil =>
            refine ⟨by show 1 ≤ _; omega, fun w hw => ?_⟩
            rw [List.mem_singleton.mp hw]
            exact ⟨List.cons_ne_nil _ _, by show 1 ≤ _; omega⟩
          | cons w0 l =>
            rw [e] at ih
            refine ⟨?_, fun w hw => ?_⟩
            · have := ih.1
              rw [List.length_cons] at this ⊢
              omega
            · rcases List.mem_cons.mp hw with rfl | hw
              · refine ⟨List.cons_ne_nil _ _, ?_⟩
                have := (ih.2 w0 (List.mem_cons_self ..)).2
                show w0.bytes.length + 1 ≤ _
                omega
              · have := ih.2 w (List.mem_cons_of_mem _ hw)
                exact ⟨this.1, by omega⟩
theorem split_few : ∀ (t : List Nat) (p : Nat), (splitAtByte 10 p t).length ≤ t.length + 1 ∧ ∀ x ∈ splitAtByte 10 p t, x.2.length ≤ t.length
  | [], p => ⟨Nat.le_refl _, fun x hx => by
    rw [List.mem_singleton.mp (show x ∈ [(p, ([] : List Nat))] from hx)]
    exact Nat.le_refl _⟩
  | c :: r, p => by
    have ih := split_few r (p + 1)
    have hc : (c :: r).length = r.length + 1 := rfl
    show (if c = 10 then (p, []) :: splitAtByte 10 (p + 1) r else match splitAtByte 10 (p + 1) r with
      | [] => [(p, [c])]
      | x :: l => (p, c :: x.2) :: l).length ≤ _ ∧ ∀ x ∈ (if c = 10 then (p, []) :: splitAtByte 10 (p + 1) r else match splitAtByte 10 (p + 1) r with
      | [] => [(p, [c])]
      | x :: l => (p, c :: x.2) :: l), _
    by_cases h10 : c = 10
    · rw [if_pos h10]
      refine ⟨by rw [List.length_cons]; omega, fun x hx => ?_⟩
      rcases List.mem_cons.mp hx with rfl | hx
      · exact Nat.zero_le _
      · have := ih.2 x hx
        omega
    · rw [if_neg h10]
      cases e : splitAtByte 10 (p + 1) r with
      | nil =>
        refine ⟨by show 1 ≤ _; omega, fun x hx => ?_⟩
        rw [List.mem_singleton.mp hx]
        show 1 ≤ _
        omega
      | cons x0 l =>
        rw [e] at ih
        refine ⟨by have := ih.1; rw [List.length_cons] at this ⊢; omega, fun x hx => ?_⟩
        rcases List.mem_cons.mp hx with rfl | hx
        · have := ih.2 x0 (List.mem_cons_self ..)
          show x0.2.length + 1 ≤ _
          omega
        · have := ih.2 x (List.mem_cons_of_mem _ hx)
          omega
/-! ### names, numbers -/
def nameOk (w : List Nat) : Bool := (decide (1 ≤ w.length) && decide (w.length ≤ 12)) && (isLowercase (w.getD 0 0) && ((w.all fun c => isLowercase c || isDigit c) && !(Vbndam.reservedWords.any fun r => decide (w = r))))
theorem nameOk_is (w : List Nat) : nameOk w = true ↔ (isIdentifier w = true ∧ Vbndam.reservedWords.contains w = false) := by
  have hres : (Vbndam.reservedWords.any fun r => decide (w = r)) = Vbndam.reservedWords.contains w := by
    rw [List.contains_eq_any_beq]
    refine congrArg (fun f => Vbndam.reservedWords.any f) (funext fun r => ?_)
    rw [Bool.eq_iff_iff, decide_eq_true_eq, beq_iff_eq]
  unfold nameOk
  rw [hres]
  cases w with
  | nil => simp [isIdentifier]
  | cons c r =>
    have e : isIdentifier (c :: r) = (isLowercase c && (decide (r.length ≤ 11) && r.all fun d => isLowercase d || isDigit d)) := rfl
    rw [e]
    have e1 : (c :: r).length = r.length + 1 := rfl
    have e2 : (c :: r).getD 0 0 = c := rfl
    rw [e1, e2, List.all_cons]
    have e3 : decide (1 ≤ r.length + 1) = true := decide_eq_true (by omega)
    have e4 : decide (r.length + 1 ≤ 12) = decide (r.length ≤ 11) := decide_eq_decide.mpr (by omega)
    rw [e3, e4]
    cases isLowercase c <;> cases decide (r.length ≤ 11) <;> cases (r.all fun d => isLowercase d || isDigit d) <;> cases Vbndam.reservedWords.contains (c :: r) <;> simp
def numOk (w : List Nat) : Bool := ((decide (1 ≤ w.length) && decide (w.length ≤ 4)) && w.all isDigit) && (decide (w.length = 1) || !decide (w.getD 0 0 = 48))
theorem numOk_is (w : List Nat) : natOfToken 4 w = if numOk w = true then some (valueOf w) else none := by
  unfold natOfToken
  have : (w.isEmpty = true ∨ 4 < w.length ∨ w.all isDigit = false ∨ (1 < w.length ∧ w.head? = some 48)) ↔ ¬ numOk w = true := by
    unfold numOk
    cases w with
    | nil => simp
    | cons c r =>
      have e1 : (c :: r).length = r.length + 1 := rfl
      have e2 : (c :: r).getD 0 0 = c := rfl
      have e3 : (c :: r).head? = some c := rfl
      rw [e1, e2, e3]
      have e4 : decide (1 ≤ r.length + 1) = true := decide_eq_true (by omega)
      rw [e4]
      by_cases h4 : r.length + 1 ≤ 4
      · cases h5 : (c :: r).all isDigit
        · simp
        · by_cases h6 : r.length = 0
          · simp [h4, h5, h6]
          · by_cases h7 : c = 48
            · simp [h4, h5, h6, h7]
              try omega
            · simp [h4, h5, h6, h7]
              try omega
      · simp [h4]
        try omega
  by_cases h : numOk w = true
  · rw [if_pos h, if_neg (fun q => this.mp q h)]
  · rw [if_neg h, if_pos (this.mpr h)]
theorem digits_small : ∀ (l : List Nat) (a k : Nat), l.all isDigit = true → a + 1 ≤ k → l.foldl (fun n c => 10 * n + (c - 48)) a + 1 ≤ k * 10 ^ l.length
  | [], a, k, _, hk => by simpa using hk
  | c :: l, a, k, hd, hk => by
    rw [List.all_cons, Bool.and_eq_true] at hd
    have hc : c ≤ 57 := by
      have := hd.1
      unfold isDigit at this
      rw [Bool.and_eq_true, decide_eq_true_eq, decide_eq_true_eq] at this
      exact this.2
    have := digits_small l (10 * a + (c - 48)) (k * 10) hd.2 (by omega)
    rw [List.foldl_cons, List.length_cons, Nat.pow_succ, Nat.mul_comm (10 ^ l.length), ← Nat.mul_assoc]
    exact this
theorem value_few {w : List Nat} (hd : w.all isDigit = true) (hl : w.length ≤ 4) : valueOf w ≤ 9999 := by
  have := digits_small w 0 1 hd (by decide)
  have hp : 10 ^ w.length ≤ 10 ^ 4 := Nat.pow_le_pow_right (by decide) hl
  unfold valueOf
  have e : (10 : Nat) ^ 4 = 10000 := by decide
  omega
theorem numOk_facts {w : List Nat} (h : numOk w = true) : w.length ≤ 4 ∧ w.all isDigit = true := by
  unfold numOk at h
  rw [Bool.and_eq_true, Bool.and_eq_true, Bool.and_eq_true, decide_eq_true_eq, decide_eq_true_eq] at h
  exact ⟨h.1.1.2, h.1.2⟩
theorem value_small {w : List Nat} (h : numOk w = true) : valueOf w ≤ 9999 := value_few (numOk_facts h).2 (numOk_facts h).1
theorem value_snoc (l : List Nat) (c : Nat) : valueOf (l ++ [c]) = 10 * valueOf l + (c - 48) := by
  unfold valueOf
  rw [List.foldl_append]
  rfl
end Gs

set_option Elab.async false
set_option linter.all false
set_option maxRecDepth 100000
set_option maxHeartbeats 4000000
/-! Plain: cursors. -/
namespace Gs
open Vbndaa (Token Cursor ParseError tokenizeWith splitAtByte currentOffset parseToken expectToken nextTokenIs expectEnd toBytes natOfToken isIdentifier valueOf cursorOf parseLines)
def tokOf (q : Cursor) : Token := match q.tokens with
  | [] => ⟨q.endOffset, []⟩
  | w :: _ => w
def skip (q : Cursor) : Cursor := Vbndam.skipToken q
def CurOk (q : Cursor) : Prop := ∀ w ∈ q.tokens, w.bytes ≠ [] ∧ w.bytes.length ≤ 2000
theorem CurOk.skip {q : Cursor} (h : CurOk q) : CurOk (skip q) := fun w hw => h w (List.mem_of_mem_drop (show w ∈ q.tokens.drop 1 from hw))
theorem off_is (q : Cursor) : currentOffset q = (tokOf q).offset := by
  unfold currentOffset tokOf
  cases q.tokens <;> rfl
theorem token_is {α : Type} (k : Nat) (f : List Nat → Option α) (hf : f [] = none) (q : Cursor) : parseToken k f q = match f (tokOf q).bytes with
    | some x => .ok (x, skip q)
    | none => .error ⟨k, (tokOf q).offset⟩ := by
  obtain ⟨ts, e⟩ := q
  cases ts with
  | nil =>
    show _ = match f [] with
      | some x => _
      | none => _
    rw [hf]
    rfl
  | cons w l => rfl
theorem expect_is {u : List Nat} (hu : u ≠ []) (q : Cursor) : expectToken 1 u q = if (tokOf q).bytes = u then .ok ((), skip q) else .error ⟨1, (tokOf q).offset⟩ := by
  unfold expectToken
  rw [token_is 1 _ (if_neg (fun e => hu e.symm)) q]
  by_cases h : (tokOf q).bytes = u
  · rw [if_pos h, if_pos h]
  · rw [if_neg h, if_neg h]
theorem next_word {u : List Nat} (hu : u ≠ []) (q : Cursor) : nextTokenIs u q = decide ((tokOf q).bytes = u) := by
  obtain ⟨ts, e⟩ := q
  cases ts with
  | nil =>
    show false = decide (([] : List Nat) = u)
    exact (decide_eq_false (fun e => hu e.symm)).symm
  | cons w l =>
    show (w.bytes == u) = decide (w.bytes = u)
    rw [Bool.eq_iff_iff, beq_iff_eq, decide_eq_true_eq]
theorem name_nil : nameOk [] = false := rfl
theorem name_is (q : Cursor) : Vbndam.parseName q = if nameOk (tokOf q).bytes = true then .ok ((tokOf q).bytes, skip q) else .error ⟨1, (tokOf q).offset⟩ := by
  unfold Vbndam.parseName
  rw [token_is 1 _ (by rw [if_neg]; rintro ⟨h, _⟩; cases h) q]
  have := nameOk_is (tokOf q).bytes
  by_cases h : nameOk (tokOf q).bytes = true
  · rw [if_pos (this.mp h), if_pos h]
  · rw [if_neg (fun z => h (this.mpr z)), if_neg h]
theorem number_is (lo hi : Nat) (q : Cursor) : Vbndam.parseNatInRange lo hi q = if numOk (tokOf q).bytes = true then (if lo ≤ valueOf (tokOf q).bytes ∧ valueOf (tokOf q).bytes ≤ hi then .ok (valueOf (tokOf q).bytes, skip q) else .error ⟨3, (tokOf q).offset⟩) else .error ⟨1, (tokOf q).offset⟩ := by
  unfold Vbndam.parseNatInRange
  rw [token_is 1 (natOfToken 4) rfl q, numOk_is, off_is]
  by_cases h : numOk (tokOf q).bytes = true
  · rw [if_pos h, if_pos h]
  · rw [if_neg h, if_neg h]
theorem end_is {α : Type} {q : Cursor} (h : CurOk q) (x : α) : expectEnd 1 x q = if (tokOf q).bytes = [] then .ok x else .error ⟨1, (tokOf q).offset⟩ := by
  obtain ⟨ts, e⟩ := q
  cases ts with
  | nil => exact (if_pos rfl).symm
  | cons w l => exact (if_neg (h w (List.mem_cons_self ..)).1).symm
theorem player_is (z : Vbndam.Room) (q : Cursor) : Vbndam.parsePlayer z q = if nameOk (tokOf q).bytes = true then (match z.players.findIdx? fun p => p.name == (tokOf q).bytes with
    | some i => .ok (i, skip q)
    | none => .error ⟨5, (tokOf q).offset⟩) else .error ⟨1, (tokOf q).offset⟩ := by
  unfold Vbndam.parsePlayer
  rw [name_is, off_is]
  by_cases h : nameOk (tokOf q).bytes = true
  · rw [if_pos h, if_pos h]
    rfl
  · rw [if_neg h, if_neg h]
theorem ne_of_name {w : List Nat} (h : nameOk w = true) : w ≠ [] ∧ w.length ≤ 12 := by
  refine ⟨fun e => ?_, ?_⟩
  · rw [e] at h
    cases h
  · unfold nameOk at h
    rw [Bool.and_eq_true, Bool.and_eq_true, decide_eq_true_eq, decide_eq_true_eq] at h
    exact h.1.2
theorem ne_of_num {w : List Nat} (h : numOk w = true) : w ≠ [] := fun e => by
  rw [e] at h
  cases h
theorem tok_ok {q : Cursor} (h : CurOk q) : (tokOf q).bytes.length ≤ 2000 := by
  unfold tokOf
  cases hq : q.tokens with
  | nil => exact Nat.zero_le _
  | cons w l => exact (h w (by rw [hq]; exact List.mem_cons_self ..)).2
/-! ### lines -/
def playerLine (z : Vbndam.Room) (off : Nat) (q : Cursor) : Except ParseError Vbndam.Room := if Vbndam.maxPlayers ≤ z.players.length then .error ⟨7, off⟩ else match Vbndam.parseName q with
  | .error e => .error e
  | .ok (n, y) => if z.players.any (fun p => p.name == n) = true then .error ⟨4, currentOffset q⟩ else match expectToken 1 (toBytes "weight") y with
    | .error e => .error e
    | .ok (_, y) => match Vbndam.parseNatInRange 0 1000 y with
      | .error e => .error e
      | .ok (w, y) => expectEnd 1 { z with players := z.players ++ [⟨n, w⟩] } y
def ruleLine (z : Vbndam.Room) (off : Nat) (q : Cursor) : Except ParseError Vbndam.Room := if Vbndam.maxRules ≤ z.rules.length then .error ⟨7, off⟩ else match Vbndam.parsePlayer z q with
  | .error e => .error e
  | .ok (p, q) => match expectToken 1 (toBytes "by") q with
    | .error e => .error e
    | .ok (_, q) => if nextTokenIs (toBytes "any") q = true then (match Vbndam.parseNatInRange 1 Vbndam.maxPlayers (skip q) with
        | .error e => .error e
        | .ok (k, y) => match expectToken 1 (toBytes "of") y with
          | .error e => .error e
          | .ok (_, y) => match Vbndam.parseSubstitutes z p (y.tokens.length + 1) [] y with
            | .error e => .error e
            | .ok (l, y) => if l.length < k then .error ⟨6, currentOffset (skip q)⟩ else expectEnd 1 { z with rules := z.rules ++ [⟨p, k, l⟩] } y)
      else match Vbndam.parseSubstitutes z p (q.tokens.length + 1) [] q with
        | .error e => .error e
        | .ok (l, y) => expectEnd 1 { z with rules := z.rules ++ [⟨p, l.length, l⟩] } y
theorem line_is (z : Vbndam.Room) (q : Cursor) : Vbndam.parseRoomLine z q = if nextTokenIs (toBytes "player") q = true then playerLine z (currentOffset q) (skip q) else if nextTokenIs (toBytes "keep") q = true then ruleLine z (currentOffset q) (skip q) else .error ⟨1, currentOffset q⟩ := by
  unfold Vbndam.parseRoomLine playerLine ruleLine
  by_cases h1 : nextTokenIs (toBytes "player") q = true
  · rw [if_pos h1, if_pos h1]
    by_cases h2 : Vbndam.maxPlayers ≤ z.players.length
    · rw [if_pos h2, if_pos h2]
    · rw [if_neg h2, if_neg h2]
      show (match Vbndam.parseName (skip q) with
        | .error e => _
        | .ok (n, y) => _) = _
      cases Vbndam.parseName (skip q) with
      | error e => rfl
      | ok x =>
        obtain ⟨n, y⟩ := x
        show (if z.players.any (fun p => p.name == n) = true then _ else _) = (if z.players.any (fun p => p.name == n) = true then _ else _)
        by_cases h3 : z.players.any (fun p => p.name == n) = true
        · rw [if_pos h3, if_pos h3]
          rfl
        · rw [if_neg h3, if_neg h3]
          cases hx : expectToken 1 (toBytes "weight") y with
          | error e => simp [bind, Except.bind, hx]
          | ok x =>
            obtain ⟨_, y2⟩ := x
            cases hy : Vbndam.parseNatInRange 0 1000 y2 with
            | error e => simp [bind, Except.bind, hx, hy]
            | ok x2 => simp [bind, Except.bind, hx, hy]
  · rw [if_neg h1, if_neg h1]
    by_cases h2 : nextTokenIs (toBytes "keep") q = true
    · rw [if_pos h2, if_pos h2]
      by_cases h3 : Vbndam.maxRules ≤ z.rules.length
      · rw [if_pos h3, if_pos h3]
      · rw [if_neg h3, if_neg h3]
        have es : Vbndam.skipToken q = skip q := rfl
        rw [es]
        cases hx : Vbndam.parsePlayer z (skip q) with
        | error e => simp [bind, Except.bind]
        | ok x =>
          obtain ⟨p, q1⟩ := x
          cases hy : expectToken 1 (toBytes "by") q1 with
          | error e => simp [bind, Except.bind, hy]
          | ok x2 =>
            obtain ⟨_, q2⟩ := x2
            have es2 : Vbndam.skipToken q2 = skip q2 := rfl
            by_cases h4 : nextTokenIs (toBytes "any") q2 = true
            · simp only [bind, Except.bind, hy, h4, if_true, es2]
              cases h5 : Vbndam.parseNatInRange 1 Vbndam.maxPlayers (skip q2) with
              | error e => simp
              | ok x3 =>
                obtain ⟨k, y⟩ := x3
                cases h6 : expectToken 1 (toBytes "of") y with
                | error e => simp [h6]
                | ok x4 =>
                  obtain ⟨_, y2⟩ := x4
                  cases h7 : Vbndam.parseSubstitutes z p (y2.tokens.length + 1) [] y2 with
                  | error e => simp [h6, h7]
                  | ok x5 => simp [h6, h7]
            · simp only [bind, Except.bind, hy, h4]
              cases h7 : Vbndam.parseSubstitutes z p (q2.tokens.length + 1) [] q2 with
              | error e => simp
              | ok x5 => simp
    · rw [if_neg h2, if_neg h2]
end Gs

set_option Elab.async false
set_option linter.all false
set_option maxRecDepth 100000
set_option maxHeartbeats 4000000
/-! Where each def stands (printed by gen_top.py). -/
namespace Gs
open PySem PySem.Spec PyProof.Rows L2
def top (i : Nat) : Stmt := PySem.Challenge.pw_standins_s01_answers.main.body.getD i (.Pass ⟨0, 0, 0, 0⟩)
abbrev s_Player_init : Stmt := inClass (top 5) 0
abbrev s_Rule_init : Stmt := inClass (top 6) 0
abbrev s_Rule_is_enabled : Stmt := inClass (top 6) 1
abbrev s_is_member : Stmt := top 7
abbrev s_with_member : Stmt := top 8
abbrev s_Room_init : Stmt := inClass (top 9) 0
abbrev s_Room_many : Stmt := inClass (top 9) 1
abbrev s_Room_all_players : Stmt := inClass (top 9) 2
abbrev s_Room_first_rule : Stmt := inClass (top 9) 3
abbrev s_Room_round_steps : Stmt := inClass (top 9) 4
abbrev s_Room_steps : Stmt := inClass (top 9) 5
abbrev s_Room_acting : Stmt := inClass (top 9) 6
abbrev s_Room_are_valid : Stmt := inClass (top 9) 7
abbrev s_Room_is_sufficient : Stmt := inClass (top 9) 8
abbrev s_Room_is_blocking : Stmt := inClass (top 9) 9
abbrev s_Room_sufficient_table : Stmt := inClass (top 9) 10
abbrev s_Room_weight_of : Stmt := inClass (top 9) 11
abbrev s_members_of : Stmt := top 10
abbrev s_minimal_ones : Stmt := top 11
abbrev s_blocking_table : Stmt := top 12
abbrev s_returns_table : Stmt := top 13
abbrev s_swings_of : Stmt := top 14
abbrev s_counts_by_members : Stmt := top 15
abbrev s_Refused_init : Stmt := inClass (top 21) 0
abbrev s_need : Stmt := top 22
abbrev s_need_between : Stmt := top 23
abbrev s_divisor : Stmt := top 25
abbrev s_lowest : Stmt := top 26
abbrev s_power_of : Stmt := top 27
abbrev s_factorial : Stmt := top 28
abbrev s_index_of : Stmt := top 29
abbrev s_probability_of : Stmt := top 30
abbrev s_Token_init : Stmt := inClass (top 38) 0
abbrev s_signs_of : Stmt := top 39
abbrev s_lines_of : Stmt := top 40
abbrev s_is_letter : Stmt := top 41
abbrev s_is_digit : Stmt := top 42
abbrev s_is_word : Stmt := top 43
abbrev s_is_name : Stmt := top 44
abbrev s_is_number : Stmt := top 45
abbrev s_number_of : Stmt := top 46
abbrev s_BadText_init : Stmt := inClass (top 56) 0
abbrev s_check : Stmt := top 57
abbrev s_Reader_init : Stmt := inClass (top 58) 0
abbrev s_Reader_next_token : Stmt := inClass (top 58) 1
abbrev s_Reader_take_word : Stmt := inClass (top 58) 2
abbrev s_Reader_take_name : Stmt := inClass (top 58) 3
abbrev s_Reader_take_number : Stmt := inClass (top 58) 4
abbrev s_Reader_take_end : Stmt := inClass (top 58) 5
abbrev s_Reader_names : Stmt := inClass (top 58) 6
abbrev s_Reader_take_player : Stmt := inClass (top 58) 7
abbrev s_Reader_read_player : Stmt := inClass (top 58) 8
abbrev s_Reader_read_rule : Stmt := inClass (top 58) 9
abbrev s_Reader_read_substitutes : Stmt := inClass (top 58) 10
abbrev s_Reader_read_line : Stmt := inClass (top 58) 11
abbrev s_room_of : Stmt := top 59
abbrev s_written : Stmt := top 60
abbrev s_number_signs : Stmt := top 61
abbrev s_rule_words : Stmt := top 62
abbrev s_canonical : Stmt := top 63
abbrev s_Call_init : Stmt := inClass (top 73) 0
abbrev s_need_text : Stmt := top 74
abbrev s_need_pairs : Stmt := top 75
abbrev s_pairs_of : Stmt := top 76
abbrev s_told : Stmt := top 77
abbrev s_Desk_init : Stmt := inClass (top 78) 0
abbrev s_Desk_load : Stmt := inClass (top 78) 1
abbrev s_Desk_check : Stmt := inClass (top 78) 2
abbrev s_Desk_need_room : Stmt := inClass (top 78) 3
abbrev s_Desk_take_coalition : Stmt := inClass (top 78) 4
abbrev s_Desk_take_player : Stmt := inClass (top 78) 5
abbrev s_Desk_acting_coalition : Stmt := inClass (top 78) 6
abbrev s_Desk_check_steps : Stmt := inClass (top 78) 7
abbrev s_Desk_is_closed : Stmt := inClass (top 78) 8
abbrev s_Desk_tell_sufficient : Stmt := inClass (top 78) 9
abbrev s_Desk_tell_blocking : Stmt := inClass (top 78) 10
abbrev s_Desk_minimal_sufficient : Stmt := inClass (top 78) 11
abbrev s_Desk_minimal_blocking : Stmt := inClass (top 78) 12
abbrev s_Desk_cheapest : Stmt := inClass (top 78) 13
abbrev s_Desk_verify_packing : Stmt := inClass (top 78) 14
abbrev s_Desk_minimal_returns : Stmt := inClass (top 78) 15
abbrev s_Desk_swing_count : Stmt := inClass (top 78) 16
abbrev s_Desk_power_index : Stmt := inClass (top 78) 17
abbrev s_Desk_continuation : Stmt := inClass (top 78) 18
abbrev s_Desk_sufficient_counts : Stmt := inClass (top 78) 19
abbrev s_Desk_remove_rule : Stmt := inClass (top 78) 20
abbrev s_Desk_set_weight : Stmt := inClass (top 78) 21
abbrev s_Desk_print_room : Stmt := inClass (top 78) 22
abbrev s_Desk_summary : Stmt := inClass (top 78) 23
abbrev s_Desk_fields : Stmt := inClass (top 78) 24
abbrev s_Desk_fields_with_row : Stmt := inClass (top 78) 25
abbrev s_Desk_fields_of_room : Stmt := inClass (top 78) 26
abbrev s_Desk_fields_by_two : Stmt := inClass (top 78) 27
abbrev s_Desk_fields_by_one : Stmt := inClass (top 78) 28
abbrev s_read_calls : Stmt := top 79
abbrev s_answer_of : Stmt := top 80
abbrev s_answers : Stmt := top 81
abbrev n_Player_init : List Str := ["self", "name", "weight"]
abbrev p_Player_init : List Str := ["self", "name", "weight"]
theorem sc_Player_init : FnScope n_Player_init p_Player_init (defScope s_Player_init) := ⟨rfl, rfl, rfl, by decide +kernel, rfl, by decide +kernel, by decide +kernel⟩
abbrev n_Rule_init : List Str := ["self", "absent", "required", "substitutes"]
abbrev p_Rule_init : List Str := ["self", "absent", "required", "substitutes"]
theorem sc_Rule_init : FnScope n_Rule_init p_Rule_init (defScope s_Rule_init) := ⟨rfl, rfl, rfl, by decide +kernel, rfl, by decide +kernel, by decide +kernel⟩
abbrev n_Rule_is_enabled : List Str := ["self", "coalition", "player"]
abbrev p_Rule_is_enabled : List Str := ["self", "coalition"]
theorem sc_Rule_is_enabled : FnScope n_Rule_is_enabled p_Rule_is_enabled (defScope s_Rule_is_enabled) := ⟨rfl, rfl, rfl, by decide +kernel, rfl, by decide +kernel, by decide +kernel⟩
abbrev n_is_member : List Str := ["coalition", "player"]
abbrev p_is_member : List Str := ["coalition", "player"]
theorem sc_is_member : FnScope n_is_member p_is_member (defScope s_is_member) := ⟨rfl, rfl, rfl, by decide +kernel, rfl, by decide +kernel, by decide +kernel⟩
abbrev n_with_member : List Str := ["coalition", "player"]
abbrev p_with_member : List Str := ["coalition", "player"]
theorem sc_with_member : FnScope n_with_member p_with_member (defScope s_with_member) := ⟨rfl, rfl, rfl, by decide +kernel, rfl, by decide +kernel, by decide +kernel⟩
abbrev n_Room_init : List Str := ["self", "players", "rules"]
abbrev p_Room_init : List Str := ["self", "players", "rules"]
theorem sc_Room_init : FnScope n_Room_init p_Room_init (defScope s_Room_init) := ⟨rfl, rfl, rfl, by decide +kernel, rfl, by decide +kernel, by decide +kernel⟩
abbrev n_Room_many : List Str := ["self"]
abbrev p_Room_many : List Str := ["self"]
theorem sc_Room_many : FnScope n_Room_many p_Room_many (defScope s_Room_many) := ⟨rfl, rfl, rfl, by decide +kernel, rfl, by decide +kernel, by decide +kernel⟩
abbrev n_Room_all_players : List Str := ["self"]
abbrev p_Room_all_players : List Str := ["self"]
theorem sc_Room_all_players : FnScope n_Room_all_players p_Room_all_players (defScope s_Room_all_players) := ⟨rfl, rfl, rfl, by decide +kernel, rfl, by decide +kernel, by decide +kernel⟩
abbrev n_Room_first_rule : List Str := ["self", "player", "coalition", "place", "rule"]
abbrev p_Room_first_rule : List Str := ["self", "player", "coalition"]
theorem sc_Room_first_rule : FnScope n_Room_first_rule p_Room_first_rule (defScope s_Room_first_rule) := ⟨rfl, rfl, rfl, by decide +kernel, rfl, by decide +kernel, by decide +kernel⟩
abbrev n_Room_round_steps : List Str := ["self", "coalition", "found", "player", "rule"]
abbrev p_Room_round_steps : List Str := ["self", "coalition"]
theorem sc_Room_round_steps : FnScope n_Room_round_steps p_Room_round_steps (defScope s_Room_round_steps) := ⟨rfl, rfl, rfl, by decide +kernel, rfl, by decide +kernel, by decide +kernel⟩
abbrev n_Room_steps : List Str := ["self", "coalition", "found", "more", "player", "rule"]
abbrev p_Room_steps : List Str := ["self", "coalition"]
theorem sc_Room_steps : FnScope n_Room_steps p_Room_steps (defScope s_Room_steps) := ⟨rfl, rfl, rfl, by decide +kernel, rfl, by decide +kernel, by decide +kernel⟩
abbrev n_Room_acting : List Str := ["self", "coalition", "player", "rule"]
abbrev p_Room_acting : List Str := ["self", "coalition"]
theorem sc_Room_acting : FnScope n_Room_acting p_Room_acting (defScope s_Room_acting) := ⟨rfl, rfl, rfl, by decide +kernel, rfl, by decide +kernel, by decide +kernel⟩
abbrev n_Room_are_valid : List Str := ["self", "coalition", "steps", "player", "number", "rule"]
abbrev p_Room_are_valid : List Str := ["self", "coalition", "steps"]
theorem sc_Room_are_valid : FnScope n_Room_are_valid p_Room_are_valid (defScope s_Room_are_valid) := ⟨rfl, rfl, rfl, by decide +kernel, rfl, by decide +kernel, by decide +kernel⟩
abbrev n_Room_is_sufficient : List Str := ["self", "coalition"]
abbrev p_Room_is_sufficient : List Str := ["self", "coalition"]
theorem sc_Room_is_sufficient : FnScope n_Room_is_sufficient p_Room_is_sufficient (defScope s_Room_is_sufficient) := ⟨rfl, rfl, rfl, by decide +kernel, rfl, by decide +kernel, by decide +kernel⟩
abbrev n_Room_is_blocking : List Str := ["self", "coalition"]
abbrev p_Room_is_blocking : List Str := ["self", "coalition"]
theorem sc_Room_is_blocking : FnScope n_Room_is_blocking p_Room_is_blocking (defScope s_Room_is_blocking) := ⟨rfl, rfl, rfl, by decide +kernel, rfl, by decide +kernel, by decide +kernel⟩
abbrev n_Room_sufficient_table : List Str := ["self", "coalition"]
abbrev p_Room_sufficient_table : List Str := ["self"]
theorem sc_Room_sufficient_table : FnScope n_Room_sufficient_table p_Room_sufficient_table (defScope s_Room_sufficient_table) := ⟨rfl, rfl, rfl, by decide +kernel, rfl, by decide +kernel, by decide +kernel⟩
abbrev n_Room_weight_of : List Str := ["self", "coalition", "place", "player"]
abbrev p_Room_weight_of : List Str := ["self", "coalition"]
theorem sc_Room_weight_of : FnScope n_Room_weight_of p_Room_weight_of (defScope s_Room_weight_of) := ⟨rfl, rfl, rfl, by decide +kernel, rfl, by decide +kernel, by decide +kernel⟩
abbrev n_members_of : List Str := ["coalition", "player"]
abbrev p_members_of : List Str := ["coalition"]
theorem sc_members_of : FnScope n_members_of p_members_of (defScope s_members_of) := ⟨rfl, rfl, rfl, by decide +kernel, rfl, by decide +kernel, by decide +kernel⟩
abbrev n_minimal_ones : List Str := ["table", "found", "coalition", "has_it", "fewer", "player", "one"]
abbrev p_minimal_ones : List Str := ["table"]
theorem sc_minimal_ones : FnScope n_minimal_ones p_minimal_ones (defScope s_minimal_ones) := ⟨rfl, rfl, rfl, by decide +kernel, rfl, by decide +kernel, by decide +kernel⟩
abbrev n_blocking_table : List Str := ["table", "has_it"]
abbrev p_blocking_table : List Str := ["table"]
theorem sc_blocking_table : FnScope n_blocking_table p_blocking_table (defScope s_blocking_table) := ⟨rfl, rfl, rfl, by decide +kernel, rfl, by decide +kernel, by decide +kernel⟩
abbrev n_returns_table : List Str := ["table", "coalition", "mine", "found", "other", "are_apart", "player"]
abbrev p_returns_table : List Str := ["table", "coalition"]
theorem sc_returns_table : FnScope n_returns_table p_returns_table (defScope s_returns_table) := ⟨rfl, rfl, rfl, by decide +kernel, rfl, by decide +kernel, by decide +kernel⟩
abbrev n_swings_of : List Str := ["table", "player", "found", "coalition", "has_it"]
abbrev p_swings_of : List Str := ["table", "player"]
theorem sc_swings_of : FnScope n_swings_of p_swings_of (defScope s_swings_of) := ⟨rfl, rfl, rfl, by decide +kernel, rfl, by decide +kernel, by decide +kernel⟩
abbrev n_counts_by_members : List Str := ["table", "players", "counts", "coalition", "has_it"]
abbrev p_counts_by_members : List Str := ["table", "players"]
theorem sc_counts_by_members : FnScope n_counts_by_members p_counts_by_members (defScope s_counts_by_members) := ⟨rfl, rfl, rfl, by decide +kernel, rfl, by decide +kernel, by decide +kernel⟩
abbrev n_Refused_init : List Str := ["self", "code"]
abbrev p_Refused_init : List Str := ["self", "code"]
theorem sc_Refused_init : FnScope n_Refused_init p_Refused_init (defScope s_Refused_init) := ⟨rfl, rfl, rfl, by decide +kernel, rfl, by decide +kernel, by decide +kernel⟩
abbrev n_need : List Str := ["good", "code"]
abbrev p_need : List Str := ["good", "code"]
theorem sc_need : FnScope n_need p_need (defScope s_need) := ⟨rfl, rfl, rfl, by decide +kernel, rfl, by decide +kernel, by decide +kernel⟩
abbrev n_need_between : List Str := ["number", "least", "most"]
abbrev p_need_between : List Str := ["number", "least", "most"]
theorem sc_need_between : FnScope n_need_between p_need_between (defScope s_need_between) := ⟨rfl, rfl, rfl, by decide +kernel, rfl, by decide +kernel, by decide +kernel⟩
abbrev n_divisor : List Str := ["one", "other", "rest"]
abbrev p_divisor : List Str := ["one", "other"]
theorem sc_divisor : FnScope n_divisor p_divisor (defScope s_divisor) := ⟨rfl, rfl, rfl, by decide +kernel, rfl, by decide +kernel, by decide +kernel⟩
abbrev n_lowest : List Str := ["over", "under", "part"]
abbrev p_lowest : List Str := ["over", "under"]
theorem sc_lowest : FnScope n_lowest p_lowest (defScope s_lowest) := ⟨rfl, rfl, rfl, by decide +kernel, rfl, by decide +kernel, by decide +kernel⟩
abbrev n_power_of : List Str := ["base", "many", "found", "turn"]
abbrev p_power_of : List Str := ["base", "many"]
theorem sc_power_of : FnScope n_power_of p_power_of (defScope s_power_of) := ⟨rfl, rfl, rfl, by decide +kernel, rfl, by decide +kernel, by decide +kernel⟩
abbrev n_factorial : List Str := ["number", "found", "factor"]
abbrev p_factorial : List Str := ["number"]
theorem sc_factorial : FnScope n_factorial p_factorial (defScope s_factorial) := ⟨rfl, rfl, rfl, by decide +kernel, rfl, by decide +kernel, by decide +kernel⟩
abbrev n_index_of : List Str := ["swings", "players", "over", "many"]
abbrev p_index_of : List Str := ["swings", "players"]
theorem sc_index_of : FnScope n_index_of p_index_of (defScope s_index_of) := ⟨rfl, rfl, rfl, by decide +kernel, rfl, by decide +kernel, by decide +kernel⟩
abbrev n_probability_of : List Str := ["counts", "a", "b", "players", "over", "many", "count"]
abbrev p_probability_of : List Str := ["counts", "a", "b"]
theorem sc_probability_of : FnScope n_probability_of p_probability_of (defScope s_probability_of) := ⟨rfl, rfl, rfl, by decide +kernel, rfl, by decide +kernel, by decide +kernel⟩
abbrev n_Token_init : List Str := ["self", "offset", "signs"]
abbrev p_Token_init : List Str := ["self", "offset", "signs"]
theorem sc_Token_init : FnScope n_Token_init p_Token_init (defScope s_Token_init) := ⟨rfl, rfl, rfl, by decide +kernel, rfl, by decide +kernel, by decide +kernel⟩
abbrev n_signs_of : List Str := ["text", "letter"]
abbrev p_signs_of : List Str := ["text"]
theorem sc_signs_of : FnScope n_signs_of p_signs_of (defScope s_signs_of) := ⟨rfl, rfl, rfl, by decide +kernel, rfl, by decide +kernel, by decide +kernel⟩
abbrev n_lines_of : List Str := ["text", "lines", "tokens", "signs", "offset", "byte"]
abbrev p_lines_of : List Str := ["text"]
theorem sc_lines_of : FnScope n_lines_of p_lines_of (defScope s_lines_of) := ⟨rfl, rfl, rfl, by decide +kernel, rfl, by decide +kernel, by decide +kernel⟩
abbrev n_is_letter : List Str := ["byte"]
abbrev p_is_letter : List Str := ["byte"]
theorem sc_is_letter : FnScope n_is_letter p_is_letter (defScope s_is_letter) := ⟨rfl, rfl, rfl, by decide +kernel, rfl, by decide +kernel, by decide +kernel⟩
abbrev n_is_digit : List Str := ["byte"]
abbrev p_is_digit : List Str := ["byte"]
theorem sc_is_digit : FnScope n_is_digit p_is_digit (defScope s_is_digit) := ⟨rfl, rfl, rfl, by decide +kernel, rfl, by decide +kernel, by decide +kernel⟩
abbrev n_is_word : List Str := ["signs", "text"]
abbrev p_is_word : List Str := ["signs", "text"]
theorem sc_is_word : FnScope n_is_word p_is_word (defScope s_is_word) := ⟨rfl, rfl, rfl, by decide +kernel, rfl, by decide +kernel, by decide +kernel⟩
abbrev n_is_name : List Str := ["signs", "byte", "text"]
abbrev p_is_name : List Str := ["signs"]
theorem sc_is_name : FnScope n_is_name p_is_name (defScope s_is_name) := ⟨rfl, rfl, rfl, by decide +kernel, rfl, by decide +kernel, by decide +kernel⟩
abbrev n_is_number : List Str := ["signs", "byte"]
abbrev p_is_number : List Str := ["signs"]
theorem sc_is_number : FnScope n_is_number p_is_number (defScope s_is_number) := ⟨rfl, rfl, rfl, by decide +kernel, rfl, by decide +kernel, by decide +kernel⟩
abbrev n_number_of : List Str := ["signs", "found", "byte"]
abbrev p_number_of : List Str := ["signs"]
theorem sc_number_of : FnScope n_number_of p_number_of (defScope s_number_of) := ⟨rfl, rfl, rfl, by decide +kernel, rfl, by decide +kernel, by decide +kernel⟩
abbrev n_BadText_init : List Str := ["self", "kind", "offset"]
abbrev p_BadText_init : List Str := ["self", "kind", "offset"]
theorem sc_BadText_init : FnScope n_BadText_init p_BadText_init (defScope s_BadText_init) := ⟨rfl, rfl, rfl, by decide +kernel, rfl, by decide +kernel, by decide +kernel⟩
abbrev n_check : List Str := ["good", "kind", "offset"]
abbrev p_check : List Str := ["good", "kind", "offset"]
theorem sc_check : FnScope n_check p_check (defScope s_check) := ⟨rfl, rfl, rfl, by decide +kernel, rfl, by decide +kernel, by decide +kernel⟩
abbrev n_Reader_init : List Str := ["self"]
abbrev p_Reader_init : List Str := ["self"]
theorem sc_Reader_init : FnScope n_Reader_init p_Reader_init (defScope s_Reader_init) := ⟨rfl, rfl, rfl, by decide +kernel, rfl, by decide +kernel, by decide +kernel⟩
abbrev n_Reader_next_token : List Str := ["self"]
abbrev p_Reader_next_token : List Str := ["self"]
theorem sc_Reader_next_token : FnScope n_Reader_next_token p_Reader_next_token (defScope s_Reader_next_token) := ⟨rfl, rfl, rfl, by decide +kernel, rfl, by decide +kernel, by decide +kernel⟩
abbrev n_Reader_take_word : List Str := ["self", "text", "token"]
abbrev p_Reader_take_word : List Str := ["self", "text"]
theorem sc_Reader_take_word : FnScope n_Reader_take_word p_Reader_take_word (defScope s_Reader_take_word) := ⟨rfl, rfl, rfl, by decide +kernel, rfl, by decide +kernel, by decide +kernel⟩
abbrev n_Reader_take_name : List Str := ["self", "token"]
abbrev p_Reader_take_name : List Str := ["self"]
theorem sc_Reader_take_name : FnScope n_Reader_take_name p_Reader_take_name (defScope s_Reader_take_name) := ⟨rfl, rfl, rfl, by decide +kernel, rfl, by decide +kernel, by decide +kernel⟩
abbrev n_Reader_take_number : List Str := ["self", "least", "most", "token", "number"]
abbrev p_Reader_take_number : List Str := ["self", "least", "most"]
theorem sc_Reader_take_number : FnScope n_Reader_take_number p_Reader_take_number (defScope s_Reader_take_number) := ⟨rfl, rfl, rfl, by decide +kernel, rfl, by decide +kernel, by decide +kernel⟩
abbrev n_Reader_take_end : List Str := ["self", "token"]
abbrev p_Reader_take_end : List Str := ["self"]
theorem sc_Reader_take_end : FnScope n_Reader_take_end p_Reader_take_end (defScope s_Reader_take_end) := ⟨rfl, rfl, rfl, by decide +kernel, rfl, by decide +kernel, by decide +kernel⟩
abbrev n_Reader_names : List Str := ["self", "player"]
abbrev p_Reader_names : List Str := ["self"]
theorem sc_Reader_names : FnScope n_Reader_names p_Reader_names (defScope s_Reader_names) := ⟨rfl, rfl, rfl, by decide +kernel, rfl, by decide +kernel, by decide +kernel⟩
abbrev n_Reader_take_player : List Str := ["self", "token"]
abbrev p_Reader_take_player : List Str := ["self"]
theorem sc_Reader_take_player : FnScope n_Reader_take_player p_Reader_take_player (defScope s_Reader_take_player) := ⟨rfl, rfl, rfl, by decide +kernel, rfl, by decide +kernel, by decide +kernel⟩
abbrev n_Reader_read_player : List Str := ["self", "offset", "token", "weight"]
abbrev p_Reader_read_player : List Str := ["self", "offset"]
theorem sc_Reader_read_player : FnScope n_Reader_read_player p_Reader_read_player (defScope s_Reader_read_player) := ⟨rfl, rfl, rfl, by decide +kernel, rfl, by decide +kernel, by decide +kernel⟩
abbrev n_Reader_read_rule : List Str := ["self", "offset", "absent", "required", "place", "substitutes"]
abbrev p_Reader_read_rule : List Str := ["self", "offset"]
theorem sc_Reader_read_rule : FnScope n_Reader_read_rule p_Reader_read_rule (defScope s_Reader_read_rule) := ⟨rfl, rfl, rfl, by decide +kernel, rfl, by decide +kernel, by decide +kernel⟩
abbrev n_Reader_read_substitutes : List Str := ["self", "absent", "found", "token", "player"]
abbrev p_Reader_read_substitutes : List Str := ["self", "absent"]
theorem sc_Reader_read_substitutes : FnScope n_Reader_read_substitutes p_Reader_read_substitutes (defScope s_Reader_read_substitutes) := ⟨rfl, rfl, rfl, by decide +kernel, rfl, by decide +kernel, by decide +kernel⟩
abbrev n_Reader_read_line : List Str := ["self", "tokens", "first"]
abbrev p_Reader_read_line : List Str := ["self", "tokens"]
theorem sc_Reader_read_line : FnScope n_Reader_read_line p_Reader_read_line (defScope s_Reader_read_line) := ⟨rfl, rfl, rfl, by decide +kernel, rfl, by decide +kernel, by decide +kernel⟩
abbrev n_room_of : List Str := ["text", "reader", "tokens"]
abbrev p_room_of : List Str := ["text"]
theorem sc_room_of : FnScope n_room_of p_room_of (defScope s_room_of) := ⟨rfl, rfl, rfl, by decide +kernel, rfl, by decide +kernel, by decide +kernel⟩
abbrev n_written : List Str := ["words", "found", "word"]
abbrev p_written : List Str := ["words"]
theorem sc_written : FnScope n_written p_written (defScope s_written) := ⟨rfl, rfl, rfl, by decide +kernel, rfl, by decide +kernel, by decide +kernel⟩
abbrev n_number_signs : List Str := ["number"]
abbrev p_number_signs : List Str := ["number"]
theorem sc_number_signs : FnScope n_number_signs p_number_signs (defScope s_number_signs) := ⟨rfl, rfl, rfl, by decide +kernel, rfl, by decide +kernel, by decide +kernel⟩
abbrev n_rule_words : List Str := ["room", "rule", "found", "player"]
abbrev p_rule_words : List Str := ["room", "rule"]
theorem sc_rule_words : FnScope n_rule_words p_rule_words (defScope s_rule_words) := ⟨rfl, rfl, rfl, by decide +kernel, rfl, by decide +kernel, by decide +kernel⟩
abbrev n_canonical : List Str := ["room", "found", "player", "rule"]
abbrev p_canonical : List Str := ["room"]
theorem sc_canonical : FnScope n_canonical p_canonical (defScope s_canonical) := ⟨rfl, rfl, rfl, by decide +kernel, rfl, by decide +kernel, by decide +kernel⟩
abbrev n_Call_init : List Str := ["self", "operation", "numbers", "row"]
abbrev p_Call_init : List Str := ["self", "operation", "numbers", "row"]
theorem sc_Call_init : FnScope n_Call_init p_Call_init (defScope s_Call_init) := ⟨rfl, rfl, rfl, by decide +kernel, rfl, by decide +kernel, by decide +kernel⟩
abbrev n_need_text : List Str := ["text", "byte"]
abbrev p_need_text : List Str := ["text"]
theorem sc_need_text : FnScope n_need_text p_need_text (defScope s_need_text) := ⟨rfl, rfl, rfl, by decide +kernel, rfl, by decide +kernel, by decide +kernel⟩
abbrev n_need_pairs : List Str := ["row"]
abbrev p_need_pairs : List Str := ["row"]
theorem sc_need_pairs : FnScope n_need_pairs p_need_pairs (defScope s_need_pairs) := ⟨rfl, rfl, rfl, by decide +kernel, rfl, by decide +kernel, by decide +kernel⟩
abbrev n_pairs_of : List Str := ["row", "at"]
abbrev p_pairs_of : List Str := ["row"]
theorem sc_pairs_of : FnScope n_pairs_of p_pairs_of (defScope s_pairs_of) := ⟨rfl, rfl, rfl, by decide +kernel, rfl, by decide +kernel, by decide +kernel⟩
abbrev n_told : List Str := ["numbers"]
abbrev p_told : List Str := ["numbers"]
theorem sc_told : FnScope n_told p_told (defScope s_told) := ⟨rfl, rfl, rfl, by decide +kernel, rfl, by decide +kernel, by decide +kernel⟩
abbrev n_Desk_init : List Str := ["self"]
abbrev p_Desk_init : List Str := ["self"]
theorem sc_Desk_init : FnScope n_Desk_init p_Desk_init (defScope s_Desk_init) := ⟨rfl, rfl, rfl, by decide +kernel, rfl, by decide +kernel, by decide +kernel⟩
abbrev n_Desk_load : List Str := ["self", "text", "room"]
abbrev p_Desk_load : List Str := ["self", "text"]
theorem sc_Desk_load : FnScope n_Desk_load p_Desk_load (defScope s_Desk_load) := ⟨rfl, rfl, rfl, by decide +kernel, rfl, by decide +kernel, by decide +kernel⟩
abbrev n_Desk_check : List Str := ["self", "text", "room", "fault"]
abbrev p_Desk_check : List Str := ["self", "text"]
theorem sc_Desk_check : FnScope n_Desk_check p_Desk_check (defScope s_Desk_check) := ⟨rfl, rfl, rfl, by decide +kernel, rfl, by decide +kernel, by decide +kernel⟩
abbrev n_Desk_need_room : List Str := ["self"]
abbrev p_Desk_need_room : List Str := ["self"]
theorem sc_Desk_need_room : FnScope n_Desk_need_room p_Desk_need_room (defScope s_Desk_need_room) := ⟨rfl, rfl, rfl, by decide +kernel, rfl, by decide +kernel, by decide +kernel⟩
abbrev n_Desk_take_coalition : List Str := ["self", "coalition"]
abbrev p_Desk_take_coalition : List Str := ["self", "coalition"]
theorem sc_Desk_take_coalition : FnScope n_Desk_take_coalition p_Desk_take_coalition (defScope s_Desk_take_coalition) := ⟨rfl, rfl, rfl, by decide +kernel, rfl, by decide +kernel, by decide +kernel⟩
abbrev n_Desk_take_player : List Str := ["self", "player"]
abbrev p_Desk_take_player : List Str := ["self", "player"]
theorem sc_Desk_take_player : FnScope n_Desk_take_player p_Desk_take_player (defScope s_Desk_take_player) := ⟨rfl, rfl, rfl, by decide +kernel, rfl, by decide +kernel, by decide +kernel⟩
abbrev n_Desk_acting_coalition : List Str := ["self", "coalition", "steps", "found", "player", "rule"]
abbrev p_Desk_acting_coalition : List Str := ["self", "coalition"]
theorem sc_Desk_acting_coalition : FnScope n_Desk_acting_coalition p_Desk_acting_coalition (defScope s_Desk_acting_coalition) := ⟨rfl, rfl, rfl, by decide +kernel, rfl, by decide +kernel, by decide +kernel⟩
abbrev n_Desk_check_steps : List Str := ["self", "coalition", "row", "steps", "player", "rule"]
abbrev p_Desk_check_steps : List Str := ["self", "coalition", "row"]
theorem sc_Desk_check_steps : FnScope n_Desk_check_steps p_Desk_check_steps (defScope s_Desk_check_steps) := ⟨rfl, rfl, rfl, by decide +kernel, rfl, by decide +kernel, by decide +kernel⟩
abbrev n_Desk_is_closed : List Str := ["self", "coalition"]
abbrev p_Desk_is_closed : List Str := ["self", "coalition"]
theorem sc_Desk_is_closed : FnScope n_Desk_is_closed p_Desk_is_closed (defScope s_Desk_is_closed) := ⟨rfl, rfl, rfl, by decide +kernel, rfl, by decide +kernel, by decide +kernel⟩
abbrev n_Desk_tell_sufficient : List Str := ["self", "coalition"]
abbrev p_Desk_tell_sufficient : List Str := ["self", "coalition"]
theorem sc_Desk_tell_sufficient : FnScope n_Desk_tell_sufficient p_Desk_tell_sufficient (defScope s_Desk_tell_sufficient) := ⟨rfl, rfl, rfl, by decide +kernel, rfl, by decide +kernel, by decide +kernel⟩
abbrev n_Desk_tell_blocking : List Str := ["self", "coalition"]
abbrev p_Desk_tell_blocking : List Str := ["self", "coalition"]
theorem sc_Desk_tell_blocking : FnScope n_Desk_tell_blocking p_Desk_tell_blocking (defScope s_Desk_tell_blocking) := ⟨rfl, rfl, rfl, by decide +kernel, rfl, by decide +kernel, by decide +kernel⟩
abbrev n_Desk_minimal_sufficient : List Str := ["self"]
abbrev p_Desk_minimal_sufficient : List Str := ["self"]
theorem sc_Desk_minimal_sufficient : FnScope n_Desk_minimal_sufficient p_Desk_minimal_sufficient (defScope s_Desk_minimal_sufficient) := ⟨rfl, rfl, rfl, by decide +kernel, rfl, by decide +kernel, by decide +kernel⟩
abbrev n_Desk_minimal_blocking : List Str := ["self"]
abbrev p_Desk_minimal_blocking : List Str := ["self"]
theorem sc_Desk_minimal_blocking : FnScope n_Desk_minimal_blocking p_Desk_minimal_blocking (defScope s_Desk_minimal_blocking) := ⟨rfl, rfl, rfl, by decide +kernel, rfl, by decide +kernel, by decide +kernel⟩
abbrev n_Desk_cheapest : List Str := ["self", "table", "rows", "one", "has_it"]
abbrev p_Desk_cheapest : List Str := ["self"]
theorem sc_Desk_cheapest : FnScope n_Desk_cheapest p_Desk_cheapest (defScope s_Desk_cheapest) := ⟨rfl, rfl, rfl, by decide +kernel, rfl, by decide +kernel, by decide +kernel⟩
abbrev n_Desk_verify_packing : List Str := ["self", "row", "number", "packing", "place", "player", "coalition"]
abbrev p_Desk_verify_packing : List Str := ["self", "row"]
theorem sc_Desk_verify_packing : FnScope n_Desk_verify_packing p_Desk_verify_packing (defScope s_Desk_verify_packing) := ⟨rfl, rfl, rfl, by decide +kernel, rfl, by decide +kernel, by decide +kernel⟩
abbrev n_Desk_minimal_returns : List Str := ["self", "coalition"]
abbrev p_Desk_minimal_returns : List Str := ["self", "coalition"]
theorem sc_Desk_minimal_returns : FnScope n_Desk_minimal_returns p_Desk_minimal_returns (defScope s_Desk_minimal_returns) := ⟨rfl, rfl, rfl, by decide +kernel, rfl, by decide +kernel, by decide +kernel⟩
abbrev n_Desk_swing_count : List Str := ["self", "player"]
abbrev p_Desk_swing_count : List Str := ["self", "player"]
theorem sc_Desk_swing_count : FnScope n_Desk_swing_count p_Desk_swing_count (defScope s_Desk_swing_count) := ⟨rfl, rfl, rfl, by decide +kernel, rfl, by decide +kernel, by decide +kernel⟩
abbrev n_Desk_power_index : List Str := ["self", "player", "swings", "one"]
abbrev p_Desk_power_index : List Str := ["self", "player"]
theorem sc_Desk_power_index : FnScope n_Desk_power_index p_Desk_power_index (defScope s_Desk_power_index) := ⟨rfl, rfl, rfl, by decide +kernel, rfl, by decide +kernel, by decide +kernel⟩
abbrev n_Desk_continuation : List Str := ["self", "a", "b", "counts"]
abbrev p_Desk_continuation : List Str := ["self", "a", "b"]
theorem sc_Desk_continuation : FnScope n_Desk_continuation p_Desk_continuation (defScope s_Desk_continuation) := ⟨rfl, rfl, rfl, by decide +kernel, rfl, by decide +kernel, by decide +kernel⟩
abbrev n_Desk_sufficient_counts : List Str := ["self"]
abbrev p_Desk_sufficient_counts : List Str := ["self"]
theorem sc_Desk_sufficient_counts : FnScope n_Desk_sufficient_counts p_Desk_sufficient_counts (defScope s_Desk_sufficient_counts) := ⟨rfl, rfl, rfl, by decide +kernel, rfl, by decide +kernel, by decide +kernel⟩
abbrev n_Desk_remove_rule : List Str := ["self", "number"]
abbrev p_Desk_remove_rule : List Str := ["self", "number"]
theorem sc_Desk_remove_rule : FnScope n_Desk_remove_rule p_Desk_remove_rule (defScope s_Desk_remove_rule) := ⟨rfl, rfl, rfl, by decide +kernel, rfl, by decide +kernel, by decide +kernel⟩
abbrev n_Desk_set_weight : List Str := ["self", "player", "weight"]
abbrev p_Desk_set_weight : List Str := ["self", "player", "weight"]
theorem sc_Desk_set_weight : FnScope n_Desk_set_weight p_Desk_set_weight (defScope s_Desk_set_weight) := ⟨rfl, rfl, rfl, by decide +kernel, rfl, by decide +kernel, by decide +kernel⟩
abbrev n_Desk_print_room : List Str := ["self"]
abbrev p_Desk_print_room : List Str := ["self"]
theorem sc_Desk_print_room : FnScope n_Desk_print_room p_Desk_print_room (defScope s_Desk_print_room) := ⟨rfl, rfl, rfl, by decide +kernel, rfl, by decide +kernel, by decide +kernel⟩
abbrev n_Desk_summary : List Str := ["self", "player"]
abbrev p_Desk_summary : List Str := ["self"]
theorem sc_Desk_summary : FnScope n_Desk_summary p_Desk_summary (defScope s_Desk_summary) := ⟨rfl, rfl, rfl, by decide +kernel, rfl, by decide +kernel, by decide +kernel⟩
abbrev n_Desk_fields : List Str := ["self", "call"]
abbrev p_Desk_fields : List Str := ["self", "call"]
theorem sc_Desk_fields : FnScope n_Desk_fields p_Desk_fields (defScope s_Desk_fields) := ⟨rfl, rfl, rfl, by decide +kernel, rfl, by decide +kernel, by decide +kernel⟩
abbrev n_Desk_fields_with_row : List Str := ["self", "operation", "numbers", "row"]
abbrev p_Desk_fields_with_row : List Str := ["self", "operation", "numbers", "row"]
theorem sc_Desk_fields_with_row : FnScope n_Desk_fields_with_row p_Desk_fields_with_row (defScope s_Desk_fields_with_row) := ⟨rfl, rfl, rfl, by decide +kernel, rfl, by decide +kernel, by decide +kernel⟩
abbrev n_Desk_fields_of_room : List Str := ["self", "operation"]
abbrev p_Desk_fields_of_room : List Str := ["self", "operation"]
theorem sc_Desk_fields_of_room : FnScope n_Desk_fields_of_room p_Desk_fields_of_room (defScope s_Desk_fields_of_room) := ⟨rfl, rfl, rfl, by decide +kernel, rfl, by decide +kernel, by decide +kernel⟩
abbrev n_Desk_fields_by_two : List Str := ["self", "operation", "one", "other"]
abbrev p_Desk_fields_by_two : List Str := ["self", "operation", "one", "other"]
theorem sc_Desk_fields_by_two : FnScope n_Desk_fields_by_two p_Desk_fields_by_two (defScope s_Desk_fields_by_two) := ⟨rfl, rfl, rfl, by decide +kernel, rfl, by decide +kernel, by decide +kernel⟩
abbrev n_Desk_fields_by_one : List Str := ["self", "operation", "number"]
abbrev p_Desk_fields_by_one : List Str := ["self", "operation", "number"]
theorem sc_Desk_fields_by_one : FnScope n_Desk_fields_by_one p_Desk_fields_by_one (defScope s_Desk_fields_by_one) := ⟨rfl, rfl, rfl, by decide +kernel, rfl, by decide +kernel, by decide +kernel⟩
abbrev n_read_calls : List Str := ["numbers", "calls", "at", "operation", "behind", "whole", "row", "end"]
abbrev p_read_calls : List Str := ["numbers"]
theorem sc_read_calls : FnScope n_read_calls p_read_calls (defScope s_read_calls) := ⟨rfl, rfl, rfl, by decide +kernel, rfl, by decide +kernel, by decide +kernel⟩
abbrev n_answer_of : List Str := ["desk", "call", "refusal"]
abbrev p_answer_of : List Str := ["desk", "call"]
theorem sc_answer_of : FnScope n_answer_of p_answer_of (defScope s_answer_of) := ⟨rfl, rfl, rfl, by decide +kernel, rfl, by decide +kernel, by decide +kernel⟩
abbrev n_answers : List Str := ["calls", "desk", "found", "call", "answer"]
abbrev p_answers : List Str := ["calls"]
theorem sc_answers : FnScope n_answers p_answers (defScope s_answers) := ⟨rfl, rfl, rfl, by decide +kernel, rfl, by decide +kernel, by decide +kernel⟩
def d_Player_init : He.DefD := ⟨("Player", some "__init__"), "__init__", "Player.__init__", defArgs s_Player_init, defBody s_Player_init, defScope s_Player_init, [], []⟩
def d_Rule_init : He.DefD := ⟨("Rule", some "__init__"), "__init__", "Rule.__init__", defArgs s_Rule_init, defBody s_Rule_init, defScope s_Rule_init, [], []⟩
def d_Rule_is_enabled : He.DefD := ⟨("Rule", some "is_enabled"), "is_enabled", "Rule.is_enabled", defArgs s_Rule_is_enabled, defBody s_Rule_is_enabled, defScope s_Rule_is_enabled, [], []⟩
def d_is_member : He.DefD := ⟨("is_member", none), "is_member", "is_member", defArgs s_is_member, defBody s_is_member, defScope s_is_member, [], []⟩
def d_with_member : He.DefD := ⟨("with_member", none), "with_member", "with_member", defArgs s_with_member, defBody s_with_member, defScope s_with_member, [], []⟩
def d_Room_init : He.DefD := ⟨("Room", some "__init__"), "__init__", "Room.__init__", defArgs s_Room_init, defBody s_Room_init, defScope s_Room_init, [], []⟩
def d_Room_many : He.DefD := ⟨("Room", some "many"), "many", "Room.many", defArgs s_Room_many, defBody s_Room_many, defScope s_Room_many, [], []⟩
def d_Room_all_players : He.DefD := ⟨("Room", some "all_players"), "all_players", "Room.all_players", defArgs s_Room_all_players, defBody s_Room_all_players, defScope s_Room_all_players, [], []⟩
def d_Room_first_rule : He.DefD := ⟨("Room", some "first_rule"), "first_rule", "Room.first_rule", defArgs s_Room_first_rule, defBody s_Room_first_rule, defScope s_Room_first_rule, [], []⟩
def d_Room_round_steps : He.DefD := ⟨("Room", some "round_steps"), "round_steps", "Room.round_steps", defArgs s_Room_round_steps, defBody s_Room_round_steps, defScope s_Room_round_steps, [], []⟩
def d_Room_steps : He.DefD := ⟨("Room", some "steps"), "steps", "Room.steps", defArgs s_Room_steps, defBody s_Room_steps, defScope s_Room_steps, [], []⟩
def d_Room_acting : He.DefD := ⟨("Room", some "acting"), "acting", "Room.acting", defArgs s_Room_acting, defBody s_Room_acting, defScope s_Room_acting, [], []⟩
def d_Room_are_valid : He.DefD := ⟨("Room", some "are_valid"), "are_valid", "Room.are_valid", defArgs s_Room_are_valid, defBody s_Room_are_valid, defScope s_Room_are_valid, [], []⟩
def d_Room_is_sufficient : He.DefD := ⟨("Room", some "is_sufficient"), "is_sufficient", "Room.is_sufficient", defArgs s_Room_is_sufficient, defBody s_Room_is_sufficient, defScope s_Room_is_sufficient, [], []⟩
def d_Room_is_blocking : He.DefD := ⟨("Room", some "is_blocking"), "is_blocking", "Room.is_blocking", defArgs s_Room_is_blocking, defBody s_Room_is_blocking, defScope s_Room_is_blocking, [], []⟩
def d_Room_sufficient_table : He.DefD := ⟨("Room", some "sufficient_table"), "sufficient_table", "Room.sufficient_table", defArgs s_Room_sufficient_table, defBody s_Room_sufficient_table, defScope s_Room_sufficient_table, [], []⟩
def d_Room_weight_of : He.DefD := ⟨("Room", some "weight_of"), "weight_of", "Room.weight_of", defArgs s_Room_weight_of, defBody s_Room_weight_of, defScope s_Room_weight_of, [], []⟩
def d_members_of : He.DefD := ⟨("members_of", none), "members_of", "members_of", defArgs s_members_of, defBody s_members_of, defScope s_members_of, [], []⟩
def d_minimal_ones : He.DefD := ⟨("minimal_ones", none), "minimal_ones", "minimal_ones", defArgs s_minimal_ones, defBody s_minimal_ones, defScope s_minimal_ones, [], []⟩
def d_blocking_table : He.DefD := ⟨("blocking_table", none), "blocking_table", "blocking_table", defArgs s_blocking_table, defBody s_blocking_table, defScope s_blocking_table, [], []⟩
def d_returns_table : He.DefD := ⟨("returns_table", none), "returns_table", "returns_table", defArgs s_returns_table, defBody s_returns_table, defScope s_returns_table, [], []⟩
def d_swings_of : He.DefD := ⟨("swings_of", none), "swings_of", "swings_of", defArgs s_swings_of, defBody s_swings_of, defScope s_swings_of, [], []⟩
def d_counts_by_members : He.DefD := ⟨("counts_by_members", none), "counts_by_members", "counts_by_members", defArgs s_counts_by_members, defBody s_counts_by_members, defScope s_counts_by_members, [], []⟩
def d_Refused_init : He.DefD := ⟨("Refused", some "__init__"), "__init__", "Refused.__init__", defArgs s_Refused_init, defBody s_Refused_init, defScope s_Refused_init, [], []⟩
def d_need : He.DefD := ⟨("need", none), "need", "need", defArgs s_need, defBody s_need, defScope s_need, [], []⟩
def d_need_between : He.DefD := ⟨("need_between", none), "need_between", "need_between", defArgs s_need_between, defBody s_need_between, defScope s_need_between, [], []⟩
def d_divisor : He.DefD := ⟨("divisor", none), "divisor", "divisor", defArgs s_divisor, defBody s_divisor, defScope s_divisor, [], []⟩
def d_lowest : He.DefD := ⟨("lowest", none), "lowest", "lowest", defArgs s_lowest, defBody s_lowest, defScope s_lowest, [], []⟩
def d_power_of : He.DefD := ⟨("power_of", none), "power_of", "power_of", defArgs s_power_of, defBody s_power_of, defScope s_power_of, [], []⟩
def d_factorial : He.DefD := ⟨("factorial", none), "factorial", "factorial", defArgs s_factorial, defBody s_factorial, defScope s_factorial, [], []⟩
def d_index_of : He.DefD := ⟨("index_of", none), "index_of", "index_of", defArgs s_index_of, defBody s_index_of, defScope s_index_of, [], []⟩
def d_probability_of : He.DefD := ⟨("probability_of", none), "probability_of", "probability_of", defArgs s_probability_of, defBody s_probability_of, defScope s_probability_of, [], []⟩
def d_Token_init : He.DefD := ⟨("Token", some "__init__"), "__init__", "Token.__init__", defArgs s_Token_init, defBody s_Token_init, defScope s_Token_init, [], []⟩
def d_signs_of : He.DefD := ⟨("signs_of", none), "signs_of", "signs_of", defArgs s_signs_of, defBody s_signs_of, defScope s_signs_of, [], []⟩
def d_lines_of : He.DefD := ⟨("lines_of", none), "lines_of", "lines_of", defArgs s_lines_of, defBody s_lines_of, defScope s_lines_of, [], []⟩
def d_is_letter : He.DefD := ⟨("is_letter", none), "is_letter", "is_letter", defArgs s_is_letter, defBody s_is_letter, defScope s_is_letter, [], []⟩
def d_is_digit : He.DefD := ⟨("is_digit", none), "is_digit", "is_digit", defArgs s_is_digit, defBody s_is_digit, defScope s_is_digit, [], []⟩
def d_is_word : He.DefD := ⟨("is_word", none), "is_word", "is_word", defArgs s_is_word, defBody s_is_word, defScope s_is_word, [], []⟩
def d_is_name : He.DefD := ⟨("is_name", none), "is_name", "is_name", defArgs s_is_name, defBody s_is_name, defScope s_is_name, [], []⟩
def d_is_number : He.DefD := ⟨("is_number", none), "is_number", "is_number", defArgs s_is_number, defBody s_is_number, defScope s_is_number, [], []⟩
def d_number_of : He.DefD := ⟨("number_of", none), "number_of", "number_of", defArgs s_number_of, defBody s_number_of, defScope s_number_of, [], []⟩
def d_BadText_init : He.DefD := ⟨("BadText", some "__init__"), "__init__", "BadText.__init__", defArgs s_BadText_init, defBody s_BadText_init, defScope s_BadText_init, [], []⟩
def d_check : He.DefD := ⟨("check", none), "check", "check", defArgs s_check, defBody s_check, defScope s_check, [], []⟩
def d_Reader_init : He.DefD := ⟨("Reader", some "__init__"), "__init__", "Reader.__init__", defArgs s_Reader_init, defBody s_Reader_init, defScope s_Reader_init, [], []⟩
def d_Reader_next_token : He.DefD := ⟨("Reader", some "next_token"), "next_token", "Reader.next_token", defArgs s_Reader_next_token, defBody s_Reader_next_token, defScope s_Reader_next_token, [], []⟩
def d_Reader_take_word : He.DefD := ⟨("Reader", some "take_word"), "take_word", "Reader.take_word", defArgs s_Reader_take_word, defBody s_Reader_take_word, defScope s_Reader_take_word, [], []⟩
def d_Reader_take_name : He.DefD := ⟨("Reader", some "take_name"), "take_name", "Reader.take_name", defArgs s_Reader_take_name, defBody s_Reader_take_name, defScope s_Reader_take_name, [], []⟩
def d_Reader_take_number : He.DefD := ⟨("Reader", some "take_number"), "take_number", "Reader.take_number", defArgs s_Reader_take_number, defBody s_Reader_take_number, defScope s_Reader_take_number, [], []⟩
def d_Reader_take_end : He.DefD := ⟨("Reader", some "take_end"), "take_end", "Reader.take_end", defArgs s_Reader_take_end, defBody s_Reader_take_end, defScope s_Reader_take_end, [], []⟩
def d_Reader_names : He.DefD := ⟨("Reader", some "names"), "names", "Reader.names", defArgs s_Reader_names, defBody s_Reader_names, defScope s_Reader_names, [], []⟩
def d_Reader_take_player : He.DefD := ⟨("Reader", some "take_player"), "take_player", "Reader.take_player", defArgs s_Reader_take_player, defBody s_Reader_take_player, defScope s_Reader_take_player, [], []⟩
def d_Reader_read_player : He.DefD := ⟨("Reader", some "read_player"), "read_player", "Reader.read_player", defArgs s_Reader_read_player, defBody s_Reader_read_player, defScope s_Reader_read_player, [], []⟩
def d_Reader_read_rule : He.DefD := ⟨("Reader", some "read_rule"), "read_rule", "Reader.read_rule", defArgs s_Reader_read_rule, defBody s_Reader_read_rule, defScope s_Reader_read_rule, [], []⟩
def d_Reader_read_substitutes : He.DefD := ⟨("Reader", some "read_substitutes"), "read_substitutes", "Reader.read_substitutes", defArgs s_Reader_read_substitutes, defBody s_Reader_read_substitutes, defScope s_Reader_read_substitutes, [], []⟩
def d_Reader_read_line : He.DefD := ⟨("Reader", some "read_line"), "read_line", "Reader.read_line", defArgs s_Reader_read_line, defBody s_Reader_read_line, defScope s_Reader_read_line, [], []⟩
def d_room_of : He.DefD := ⟨("room_of", none), "room_of", "room_of", defArgs s_room_of, defBody s_room_of, defScope s_room_of, [], []⟩
def d_written : He.DefD := ⟨("written", none), "written", "written", defArgs s_written, defBody s_written, defScope s_written, [], []⟩
def d_number_signs : He.DefD := ⟨("number_signs", none), "number_signs", "number_signs", defArgs s_number_signs, defBody s_number_signs, defScope s_number_signs, [], []⟩
def d_rule_words : He.DefD := ⟨("rule_words", none), "rule_words", "rule_words", defArgs s_rule_words, defBody s_rule_words, defScope s_rule_words, [], []⟩
def d_canonical : He.DefD := ⟨("canonical", none), "canonical", "canonical", defArgs s_canonical, defBody s_canonical, defScope s_canonical, [], []⟩
def d_Call_init : He.DefD := ⟨("Call", some "__init__"), "__init__", "Call.__init__", defArgs s_Call_init, defBody s_Call_init, defScope s_Call_init, [], []⟩
def d_need_text : He.DefD := ⟨("need_text", none), "need_text", "need_text", defArgs s_need_text, defBody s_need_text, defScope s_need_text, [], []⟩
def d_need_pairs : He.DefD := ⟨("need_pairs", none), "need_pairs", "need_pairs", defArgs s_need_pairs, defBody s_need_pairs, defScope s_need_pairs, [], []⟩
def d_pairs_of : He.DefD := ⟨("pairs_of", none), "pairs_of", "pairs_of", defArgs s_pairs_of, defBody s_pairs_of, defScope s_pairs_of, [], []⟩
def d_told : He.DefD := ⟨("told", none), "told", "told", defArgs s_told, defBody s_told, defScope s_told, [], []⟩
def d_Desk_init : He.DefD := ⟨("Desk", some "__init__"), "__init__", "Desk.__init__", defArgs s_Desk_init, defBody s_Desk_init, defScope s_Desk_init, [], []⟩
def d_Desk_load : He.DefD := ⟨("Desk", some "load"), "load", "Desk.load", defArgs s_Desk_load, defBody s_Desk_load, defScope s_Desk_load, [], []⟩
def d_Desk_check : He.DefD := ⟨("Desk", some "check"), "check", "Desk.check", defArgs s_Desk_check, defBody s_Desk_check, defScope s_Desk_check, [], []⟩
def d_Desk_need_room : He.DefD := ⟨("Desk", some "need_room"), "need_room", "Desk.need_room", defArgs s_Desk_need_room, defBody s_Desk_need_room, defScope s_Desk_need_room, [], []⟩
def d_Desk_take_coalition : He.DefD := ⟨("Desk", some "take_coalition"), "take_coalition", "Desk.take_coalition", defArgs s_Desk_take_coalition, defBody s_Desk_take_coalition, defScope s_Desk_take_coalition, [], []⟩
def d_Desk_take_player : He.DefD := ⟨("Desk", some "take_player"), "take_player", "Desk.take_player", defArgs s_Desk_take_player, defBody s_Desk_take_player, defScope s_Desk_take_player, [], []⟩
def d_Desk_acting_coalition : He.DefD := ⟨("Desk", some "acting_coalition"), "acting_coalition", "Desk.acting_coalition", defArgs s_Desk_acting_coalition, defBody s_Desk_acting_coalition, defScope s_Desk_acting_coalition, [], []⟩
def d_Desk_check_steps : He.DefD := ⟨("Desk", some "check_steps"), "check_steps", "Desk.check_steps", defArgs s_Desk_check_steps, defBody s_Desk_check_steps, defScope s_Desk_check_steps, [], []⟩
def d_Desk_is_closed : He.DefD := ⟨("Desk", some "is_closed"), "is_closed", "Desk.is_closed", defArgs s_Desk_is_closed, defBody s_Desk_is_closed, defScope s_Desk_is_closed, [], []⟩
def d_Desk_tell_sufficient : He.DefD := ⟨("Desk", some "tell_sufficient"), "tell_sufficient", "Desk.tell_sufficient", defArgs s_Desk_tell_sufficient, defBody s_Desk_tell_sufficient, defScope s_Desk_tell_sufficient, [], []⟩
def d_Desk_tell_blocking : He.DefD := ⟨("Desk", some "tell_blocking"), "tell_blocking", "Desk.tell_blocking", defArgs s_Desk_tell_blocking, defBody s_Desk_tell_blocking, defScope s_Desk_tell_blocking, [], []⟩
def d_Desk_minimal_sufficient : He.DefD := ⟨("Desk", some "minimal_sufficient"), "minimal_sufficient", "Desk.minimal_sufficient", defArgs s_Desk_minimal_sufficient, defBody s_Desk_minimal_sufficient, defScope s_Desk_minimal_sufficient, [], []⟩
def d_Desk_minimal_blocking : He.DefD := ⟨("Desk", some "minimal_blocking"), "minimal_blocking", "Desk.minimal_blocking", defArgs s_Desk_minimal_blocking, defBody s_Desk_minimal_blocking, defScope s_Desk_minimal_blocking, [], []⟩
def d_Desk_cheapest : He.DefD := ⟨("Desk", some "cheapest"), "cheapest", "Desk.cheapest", defArgs s_Desk_cheapest, defBody s_Desk_cheapest, defScope s_Desk_cheapest, [], []⟩
def d_Desk_verify_packing : He.DefD := ⟨("Desk", some "verify_packing"), "verify_packing", "Desk.verify_packing", defArgs s_Desk_verify_packing, defBody s_Desk_verify_packing, defScope s_Desk_verify_packing, [], []⟩
def d_Desk_minimal_returns : He.DefD := ⟨("Desk", some "minimal_returns"), "minimal_returns", "Desk.minimal_returns", defArgs s_Desk_minimal_returns, defBody s_Desk_minimal_returns, defScope s_Desk_minimal_returns, [], []⟩
def d_Desk_swing_count : He.DefD := ⟨("Desk", some "swing_count"), "swing_count", "Desk.swing_count", defArgs s_Desk_swing_count, defBody s_Desk_swing_count, defScope s_Desk_swing_count, [], []⟩
def d_Desk_power_index : He.DefD := ⟨("Desk", some "power_index"), "power_index", "Desk.power_index", defArgs s_Desk_power_index, defBody s_Desk_power_index, defScope s_Desk_power_index, [], []⟩
def d_Desk_continuation : He.DefD := ⟨("Desk", some "continuation"), "continuation", "Desk.continuation", defArgs s_Desk_continuation, defBody s_Desk_continuation, defScope s_Desk_continuation, [], []⟩
def d_Desk_sufficient_counts : He.DefD := ⟨("Desk", some "sufficient_counts"), "sufficient_counts", "Desk.sufficient_counts", defArgs s_Desk_sufficient_counts, defBody s_Desk_sufficient_counts, defScope s_Desk_sufficient_counts, [], []⟩
def d_Desk_remove_rule : He.DefD := ⟨("Desk", some "remove_rule"), "remove_rule", "Desk.remove_rule", defArgs s_Desk_remove_rule, defBody s_Desk_remove_rule, defScope s_Desk_remove_rule, [], []⟩
def d_Desk_set_weight : He.DefD := ⟨("Desk", some "set_weight"), "set_weight", "Desk.set_weight", defArgs s_Desk_set_weight, defBody s_Desk_set_weight, defScope s_Desk_set_weight, [], []⟩
def d_Desk_print_room : He.DefD := ⟨("Desk", some "print_room"), "print_room", "Desk.print_room", defArgs s_Desk_print_room, defBody s_Desk_print_room, defScope s_Desk_print_room, [], []⟩
def d_Desk_summary : He.DefD := ⟨("Desk", some "summary"), "summary", "Desk.summary", defArgs s_Desk_summary, defBody s_Desk_summary, defScope s_Desk_summary, [], []⟩
def d_Desk_fields : He.DefD := ⟨("Desk", some "fields"), "fields", "Desk.fields", defArgs s_Desk_fields, defBody s_Desk_fields, defScope s_Desk_fields, [], []⟩
def d_Desk_fields_with_row : He.DefD := ⟨("Desk", some "fields_with_row"), "fields_with_row", "Desk.fields_with_row", defArgs s_Desk_fields_with_row, defBody s_Desk_fields_with_row, defScope s_Desk_fields_with_row, [], []⟩
def d_Desk_fields_of_room : He.DefD := ⟨("Desk", some "fields_of_room"), "fields_of_room", "Desk.fields_of_room", defArgs s_Desk_fields_of_room, defBody s_Desk_fields_of_room, defScope s_Desk_fields_of_room, [], []⟩
def d_Desk_fields_by_two : He.DefD := ⟨("Desk", some "fields_by_two"), "fields_by_two", "Desk.fields_by_two", defArgs s_Desk_fields_by_two, defBody s_Desk_fields_by_two, defScope s_Desk_fields_by_two, [], []⟩
def d_Desk_fields_by_one : He.DefD := ⟨("Desk", some "fields_by_one"), "fields_by_one", "Desk.fields_by_one", defArgs s_Desk_fields_by_one, defBody s_Desk_fields_by_one, defScope s_Desk_fields_by_one, [], []⟩
def d_read_calls : He.DefD := ⟨("read_calls", none), "read_calls", "read_calls", defArgs s_read_calls, defBody s_read_calls, defScope s_read_calls, [], []⟩
def d_answer_of : He.DefD := ⟨("answer_of", none), "answer_of", "answer_of", defArgs s_answer_of, defBody s_answer_of, defScope s_answer_of, [], []⟩
def d_answers : He.DefD := ⟨("answers", none), "answers", "answers", defArgs s_answers, defBody s_answers, defScope s_answers, [], []⟩
def fn : List He.DefD := [d_Player_init, d_Rule_init, d_Rule_is_enabled, d_is_member, d_with_member, d_Room_init, d_Room_many, d_Room_all_players, d_Room_first_rule, d_Room_round_steps, d_Room_steps, d_Room_acting, d_Room_are_valid, d_Room_is_sufficient, d_Room_is_blocking, d_Room_sufficient_table, d_Room_weight_of, d_members_of, d_minimal_ones, d_blocking_table, d_returns_table, d_swings_of, d_counts_by_members, d_Refused_init, d_need, d_need_between, d_divisor, d_lowest, d_power_of, d_factorial, d_index_of, d_probability_of, d_Token_init, d_signs_of, d_lines_of, d_is_letter, d_is_digit, d_is_word, d_is_name, d_is_number, d_number_of, d_BadText_init, d_check, d_Reader_init, d_Reader_next_token, d_Reader_take_word, d_Reader_take_name, d_Reader_take_number, d_Reader_take_end, d_Reader_names, d_Reader_take_player, d_Reader_read_player, d_Reader_read_rule, d_Reader_read_substitutes, d_Reader_read_line, d_room_of, d_written, d_number_signs, d_rule_words, d_canonical, d_Call_init, d_need_text, d_need_pairs, d_pairs_of, d_told, d_Desk_init, d_Desk_load, d_Desk_check, d_Desk_need_room, d_Desk_take_coalition, d_Desk_take_player, d_Desk_acting_coalition, d_Desk_check_steps, d_Desk_is_closed, d_Desk_tell_sufficient, d_Desk_tell_blocking, d_Desk_minimal_sufficient, d_Desk_minimal_blocking, d_Desk_cheapest, d_Desk_verify_packing, d_Desk_minimal_returns, d_Desk_swing_count, d_Desk_power_index, d_Desk_continuation, d_Desk_sufficient_counts, d_Desk_remove_rule, d_Desk_set_weight, d_Desk_print_room, d_Desk_summary, d_Desk_fields, d_Desk_fields_with_row, d_Desk_fields_of_room, d_Desk_fields_by_two, d_Desk_fields_by_one, d_read_calls, d_answer_of, d_answers]
def fa : List He.Fa := [.glo "is_member",
  .glo "with_member",
  .glo "members_of",
  .glo "minimal_ones",
  .glo "blocking_table",
  .glo "returns_table",
  .glo "swings_of",
  .glo "counts_by_members",
  .glo "need",
  .glo "need_between",
  .glo "divisor",
  .glo "lowest",
  .glo "power_of",
  .glo "factorial",
  .glo "index_of",
  .glo "probability_of",
  .glo "signs_of",
  .glo "lines_of",
  .glo "is_letter",
  .glo "is_digit",
  .glo "is_word",
  .glo "is_name",
  .glo "is_number",
  .glo "number_of",
  .glo "check",
  .glo "room_of",
  .glo "written",
  .glo "number_signs",
  .glo "rule_words",
  .glo "canonical",
  .glo "need_text",
  .glo "need_pairs",
  .glo "pairs_of",
  .glo "told",
  .glo "read_calls",
  .glo "answer_of",
  .glo "answers",
  .glo "Player",
  .cls "Player",
  .mkr "Player",
  .noat "Player" "name",
  .noat "Player" "weight",
  .glo "Rule",
  .cls "Rule",
  .mkr "Rule",
  .noat "Rule" "absent",
  .noat "Rule" "required",
  .noat "Rule" "substitutes",
  .meth "Rule" "is_enabled",
  .glo "Room",
  .cls "Room",
  .mkr "Room",
  .noat "Room" "players",
  .noat "Room" "rules",
  .meth "Room" "many",
  .meth "Room" "all_players",
  .meth "Room" "first_rule",
  .meth "Room" "round_steps",
  .meth "Room" "steps",
  .meth "Room" "acting",
  .meth "Room" "are_valid",
  .meth "Room" "is_sufficient",
  .meth "Room" "is_blocking",
  .meth "Room" "sufficient_table",
  .meth "Room" "weight_of",
  .glo "Refused",
  .noat "Refused" "code",
  .exm "Refused" "Refused" true,
  .glo "Token",
  .cls "Token",
  .mkr "Token",
  .noat "Token" "offset",
  .noat "Token" "signs",
  .glo "BadText",
  .noat "BadText" "kind",
  .noat "BadText" "offset",
  .exm "BadText" "BadText" true,
  .glo "Reader",
  .cls "Reader",
  .mkr "Reader",
  .noat "Reader" "players",
  .noat "Reader" "rules",
  .noat "Reader" "tokens",
  .noat "Reader" "at",
  .meth "Reader" "next_token",
  .meth "Reader" "take_word",
  .meth "Reader" "take_name",
  .meth "Reader" "take_number",
  .meth "Reader" "take_end",
  .meth "Reader" "names",
  .meth "Reader" "take_player",
  .meth "Reader" "read_player",
  .meth "Reader" "read_rule",
  .meth "Reader" "read_substitutes",
  .meth "Reader" "read_line",
  .glo "Call",
  .cls "Call",
  .mkr "Call",
  .noat "Call" "operation",
  .noat "Call" "numbers",
  .noat "Call" "row",
  .glo "Desk",
  .cls "Desk",
  .mkr "Desk",
  .noat "Desk" "room",
  .meth "Desk" "load",
  .meth "Desk" "check",
  .meth "Desk" "need_room",
  .meth "Desk" "take_coalition",
  .meth "Desk" "take_player",
  .meth "Desk" "acting_coalition",
  .meth "Desk" "check_steps",
  .meth "Desk" "is_closed",
  .meth "Desk" "tell_sufficient",
  .meth "Desk" "tell_blocking",
  .meth "Desk" "minimal_sufficient",
  .meth "Desk" "minimal_blocking",
  .meth "Desk" "cheapest",
  .meth "Desk" "verify_packing",
  .meth "Desk" "minimal_returns",
  .meth "Desk" "swing_count",
  .meth "Desk" "power_index",
  .meth "Desk" "continuation",
  .meth "Desk" "sufficient_counts",
  .meth "Desk" "remove_rule",
  .meth "Desk" "set_weight",
  .meth "Desk" "print_room",
  .meth "Desk" "summary",
  .meth "Desk" "fields",
  .meth "Desk" "fields_with_row",
  .meth "Desk" "fields_of_room",
  .meth "Desk" "fields_by_two",
  .meth "Desk" "fields_by_one",
  .int "MOST_PLAYERS" (8),
  .int "MOST_RULES" (20),
  .int "GREATEST_WEIGHT" (1000),
  .glo "PLACES",
  .int "OUT_OF_RANGE" (-1),
  .int "NO_ROOM" (-2),
  .int "BAD_TEXT" (-3),
  .int "NOT_THERE" (-4),
  .int "NEWLINE" (10),
  .int "SPACE" (32),
  .int "ZERO" (48),
  .int "LONGEST_NAME" (12),
  .int "MOST_DIGITS" (4),
  .glo "RESERVED",
  .int "BAD_TOKEN" (1),
  .int "BAD_NUMBER" (3),
  .int "THERE_ALREADY" (4),
  .int "UNKNOWN_NAME" (5),
  .int "TOO_GREAT" (6),
  .int "TOO_MANY" (7),
  .int "NO_PLAYER" (9),
  .int "ABSENT_NAME" (10),
  .int "MOST_BYTES" (2000),
  .int "GREATEST_BYTE" (255),
  .int "GREATEST_COALITION" (255),
  .int "MOST_IN_LIST" (40),
  .int "GREATEST_IN_PACKING" (1000000),
  .int "MOST_PARTS" (100),
  .glo "NUMBERS",
  .glo "WITH_ROW",
  .free "len",
  .free "any",
  .free "all",
  .free "sum",
  .free "min",
  .free "list",
  .free "range",
  .free "enumerate",
  .free "reversed",
  .free "int",
  .free "str",
  .free "ord",
  .free "ValueError"]
def tv_PLACES : List He.Dv := [.int (1), .int (2), .int (4), .int (8), .int (16), .int (32), .int (64), .int (128), .int (256)]
def tv_RESERVED : List He.Dv := [.str "by", .str "any", .str "of", .str "weight"]
def tv_NUMBERS : List He.Dv := [.int (0), .int (0), .int (0), .int (1), .int (1), .int (1), .int (1), .int (1), .int (0), .int (0), .int (0), .int (0), .int (1), .int (1), .int (1), .int (2), .int (0), .int (1), .int (2), .int (0)]
def tv_WITH_ROW : List He.Dv := [.int (0), .int (1), .int (4), .int (11)]
/-- an own exception over ValueError with its own __init__ -/
def oexB (K : PySem.W.Frag) (x : Str) : Bool := (match K.lookup (He.ga K x) with
  | some ⟨.type c, _, .cls cd, sl⟩ => (match cd.mro, sl.toList with
    | .ref D :: bm, [_, _, _, _, some (.builtin n), _] => decide (c = "type") && (decide (D = He.ga K x) && (decide (n = "ValueError.__new__") && (!cd.hasDel && (cd.hasDict && PySem.HandSPX.refsVE bm))))
    | _, _ => false)
  | _ => false) && (He.eqO (PySem.W.findIn K (.ref (He.ga K x)) "__setattr__") (some (some (.builtin "object.__setattr__"))) && (decide (PySem.W.subIn K (.ref (He.ga K x)) (.type "BaseException") = some true) &&
    (decide (PySem.W.typeIn K (.ref (He.ga K x)) = some (.type "type")) && (PySem.W.keepIn K (.ref (He.ga K x)) && (He.eqO (PySem.W.findIn K (.ref (He.ga K x)) "__init__") (some (some (.ref (He.ma K (He.ga K x) "__init__")))) &&
    (decide (PySem.W.typeIn K (.ref (He.ma K (He.ga K x) "__init__")) = some (.type "function")) && xfB K (He.ga K x)))))))
def exB (K : PySem.W.Frag) : Bool := oexB K "Refused" && (oexB K "BadText" && (He.tupB K "PLACES" tv_PLACES && (He.tupB K "RESERVED" tv_RESERVED && (He.tupB K "NUMBERS" tv_NUMBERS && (He.tupB K "WITH_ROW" tv_WITH_ROW)))))
/-- what the top has written -/
structure Top (K : PySem.W.Frag) (mg : Str → Option Value) : Prop where
  says : He.SaysD fa fn K
  ex : exB K = true
  mg : ∃ h : Heap, K.In h ∧ h.Ns mainGlobals mg
section
variable {K : PySem.W.Frag} {mg : Str → Option Value}
theorem Top.glo_is_member (c : Top K mg) : mg "is_member" = some (.ref (He.ga K "is_member")) := by
  obtain ⟨_, X, G⟩ := c.mg
  exact He.glo_ok X G (c.says.fact 0 rfl)
theorem Top.glo_with_member (c : Top K mg) : mg "with_member" = some (.ref (He.ga K "with_member")) := by
  obtain ⟨_, X, G⟩ := c.mg
  exact He.glo_ok X G (c.says.fact 1 rfl)
theorem Top.glo_members_of (c : Top K mg) : mg "members_of" = some (.ref (He.ga K "members_of")) := by
  obtain ⟨_, X, G⟩ := c.mg
  exact He.glo_ok X G (c.says.fact 2 rfl)
theorem Top.glo_minimal_ones (c : Top K mg) : mg "minimal_ones" = some (.ref (He.ga K "minimal_ones")) := by
  obtain ⟨_, X, G⟩ := c.mg
  exact He.glo_ok X G (c.says.fact 3 rfl)
theorem Top.glo_blocking_table (c : Top K mg) : mg "blocking_table" = some (.ref (He.ga K "blocking_table")) := by
  obtain ⟨_, X, G⟩ := c.mg
  exact He.glo_ok X G (c.says.fact 4 rfl)
theorem Top.glo_returns_table (c : Top K mg) : mg "returns_table" = some (.ref (He.ga K "returns_table")) := by
  obtain ⟨_, X, G⟩ := c.mg
  exact He.glo_ok X G (c.says.fact 5 rfl)
theorem Top.glo_swings_of (c : Top K mg) : mg "swings_of" = some (.ref (He.ga K "swings_of")) := by
  obtain ⟨_, X, G⟩ := c.mg
  exact He.glo_ok X G (c.says.fact 6 rfl)
theorem Top.glo_counts_by_members (c : Top K mg) : mg "counts_by_members" = some (.ref (He.ga K "counts_by_members")) := by
  obtain ⟨_, X, G⟩ := c.mg
  exact He.glo_ok X G (c.says.fact 7 rfl)
theorem Top.glo_need (c : Top K mg) : mg "need" = some (.ref (He.ga K "need")) := by
  obtain ⟨_, X, G⟩ := c.mg
  exact He.glo_ok X G (c.says.fact 8 rfl)
theorem Top.glo_need_between (c : Top K mg) : mg "need_between" = some (.ref (He.ga K "need_between")) := by
  obtain ⟨_, X, G⟩ := c.mg
  exact He.glo_ok X G (c.says.fact 9 rfl)
theorem Top.glo_divisor (c : Top K mg) : mg "divisor" = some (.ref (He.ga K "divisor")) := by
  obtain ⟨_, X, G⟩ := c.mg
  exact He.glo_ok X G (c.says.fact 10 rfl)
theorem Top.glo_lowest (c : Top K mg) : mg "lowest" = some (.ref (He.ga K "lowest")) := by
  obtain ⟨_, X, G⟩ := c.mg
  exact He.glo_ok X G (c.says.fact 11 rfl)
theorem Top.glo_power_of (c : Top K mg) : mg "power_of" = some (.ref (He.ga K "power_of")) := by
  obtain ⟨_, X, G⟩ := c.mg
  exact He.glo_ok X G (c.says.fact 12 rfl)
theorem Top.glo_factorial (c : Top K mg) : mg "factorial" = some (.ref (He.ga K "factorial")) := by
  obtain ⟨_, X, G⟩ := c.mg
  exact He.glo_ok X G (c.says.fact 13 rfl)
theorem Top.glo_index_of (c : Top K mg) : mg "index_of" = some (.ref (He.ga K "index_of")) := by
  obtain ⟨_, X, G⟩ := c.mg
  exact He.glo_ok X G (c.says.fact 14 rfl)
theorem Top.glo_probability_of (c : Top K mg) : mg "probability_of" = some (.ref (He.ga K "probability_of")) := by
  obtain ⟨_, X, G⟩ := c.mg
  exact He.glo_ok X G (c.says.fact 15 rfl)
theorem Top.glo_signs_of (c : Top K mg) : mg "signs_of" = some (.ref (He.ga K "signs_of")) := by
  obtain ⟨_, X, G⟩ := c.mg
  exact He.glo_ok X G (c.says.fact 16 rfl)
theorem Top.glo_lines_of (c : Top K mg) : mg "lines_of" = some (.ref (He.ga K "lines_of")) := by
  obtain ⟨_, X, G⟩ := c.mg
  exact He.glo_ok X G (c.says.fact 17 rfl)
theorem Top.glo_is_letter (c : Top K mg) : mg "is_letter" = some (.ref (He.ga K "is_letter")) := by
  obtain ⟨_, X, G⟩ := c.mg
  exact He.glo_ok X G (c.says.fact 18 rfl)
theorem Top.glo_is_digit (c : Top K mg) : mg "is_digit" = some (.ref (He.ga K "is_digit")) := by
  obtain ⟨_, X, G⟩ := c.mg
  exact He.glo_ok X G (c.says.fact 19 rfl)
theorem Top.glo_is_word (c : Top K mg) : mg "is_word" = some (.ref (He.ga K "is_word")) := by
  obtain ⟨_, X, G⟩ := c.mg
  exact He.glo_ok X G (c.says.fact 20 rfl)
theorem Top.glo_is_name (c : Top K mg) : mg "is_name" = some (.ref (He.ga K "is_name")) := by
  obtain ⟨_, X, G⟩ := c.mg
  exact He.glo_ok X G (c.says.fact 21 rfl)
theorem Top.glo_is_number (c : Top K mg) : mg "is_number" = some (.ref (He.ga K "is_number")) := by
  obtain ⟨_, X, G⟩ := c.mg
  exact He.glo_ok X G (c.says.fact 22 rfl)
theorem Top.glo_number_of (c : Top K mg) : mg "number_of" = some (.ref (He.ga K "number_of")) := by
  obtain ⟨_, X, G⟩ := c.mg
  exact He.glo_ok X G (c.says.fact 23 rfl)
theorem Top.glo_check (c : Top K mg) : mg "check" = some (.ref (He.ga K "check")) := by
  obtain ⟨_, X, G⟩ := c.mg
  exact He.glo_ok X G (c.says.fact 24 rfl)
theorem Top.glo_room_of (c : Top K mg) : mg "room_of" = some (.ref (He.ga K "room_of")) := by
  obtain ⟨_, X, G⟩ := c.mg
  exact He.glo_ok X G (c.says.fact 25 rfl)
theorem Top.glo_written (c : Top K mg) : mg "written" = some (.ref (He.ga K "written")) := by
  obtain ⟨_, X, G⟩ := c.mg
  exact He.glo_ok X G (c.says.fact 26 rfl)
theorem Top.glo_number_signs (c : Top K mg) : mg "number_signs" = some (.ref (He.ga K "number_signs")) := by
  obtain ⟨_, X, G⟩ := c.mg
  exact He.glo_ok X G (c.says.fact 27 rfl)
theorem Top.glo_rule_words (c : Top K mg) : mg "rule_words" = some (.ref (He.ga K "rule_words")) := by
  obtain ⟨_, X, G⟩ := c.mg
  exact He.glo_ok X G (c.says.fact 28 rfl)
theorem Top.glo_canonical (c : Top K mg) : mg "canonical" = some (.ref (He.ga K "canonical")) := by
  obtain ⟨_, X, G⟩ := c.mg
  exact He.glo_ok X G (c.says.fact 29 rfl)
theorem Top.glo_need_text (c : Top K mg) : mg "need_text" = some (.ref (He.ga K "need_text")) := by
  obtain ⟨_, X, G⟩ := c.mg
  exact He.glo_ok X G (c.says.fact 30 rfl)
theorem Top.glo_need_pairs (c : Top K mg) : mg "need_pairs" = some (.ref (He.ga K "need_pairs")) := by
  obtain ⟨_, X, G⟩ := c.mg
  exact He.glo_ok X G (c.says.fact 31 rfl)
theorem Top.glo_pairs_of (c : Top K mg) : mg "pairs_of" = some (.ref (He.ga K "pairs_of")) := by
  obtain ⟨_, X, G⟩ := c.mg
  exact He.glo_ok X G (c.says.fact 32 rfl)
theorem Top.glo_told (c : Top K mg) : mg "told" = some (.ref (He.ga K "told")) := by
  obtain ⟨_, X, G⟩ := c.mg
  exact He.glo_ok X G (c.says.fact 33 rfl)
theorem Top.glo_read_calls (c : Top K mg) : mg "read_calls" = some (.ref (He.ga K "read_calls")) := by
  obtain ⟨_, X, G⟩ := c.mg
  exact He.glo_ok X G (c.says.fact 34 rfl)
theorem Top.glo_answer_of (c : Top K mg) : mg "answer_of" = some (.ref (He.ga K "answer_of")) := by
  obtain ⟨_, X, G⟩ := c.mg
  exact He.glo_ok X G (c.says.fact 35 rfl)
theorem Top.glo_answers (c : Top K mg) : mg "answers" = some (.ref (He.ga K "answers")) := by
  obtain ⟨_, X, G⟩ := c.mg
  exact He.glo_ok X G (c.says.fact 36 rfl)
theorem Top.glo_Player (c : Top K mg) : mg "Player" = some (.ref (He.ga K "Player")) := by
  obtain ⟨_, X, G⟩ := c.mg
  exact He.glo_ok X G (c.says.fact 37 rfl)
theorem Top.cls_Player (c : Top K mg) : Cls K (He.ga K "Player") := He.cls_ok (c.says.fact 38 rfl)
theorem Top.mkr_Player (c : Top K mg) : Mk K (He.ga K "Player") (He.ma K (He.ga K "Player") "__init__") := He.mkr_ok (c.says.fact 39 rfl)
theorem Top.no_Player_name (c : Top K mg) : NoAttr K (He.ga K "Player") "name" := He.noat_ok (c.says.fact 40 rfl)
theorem Top.no_Player_weight (c : Top K mg) : NoAttr K (He.ga K "Player") "weight" := He.noat_ok (c.says.fact 41 rfl)
theorem Top.glo_Rule (c : Top K mg) : mg "Rule" = some (.ref (He.ga K "Rule")) := by
  obtain ⟨_, X, G⟩ := c.mg
  exact He.glo_ok X G (c.says.fact 42 rfl)
theorem Top.cls_Rule (c : Top K mg) : Cls K (He.ga K "Rule") := He.cls_ok (c.says.fact 43 rfl)
theorem Top.mkr_Rule (c : Top K mg) : Mk K (He.ga K "Rule") (He.ma K (He.ga K "Rule") "__init__") := He.mkr_ok (c.says.fact 44 rfl)
theorem Top.no_Rule_absent (c : Top K mg) : NoAttr K (He.ga K "Rule") "absent" := He.noat_ok (c.says.fact 45 rfl)
theorem Top.no_Rule_required (c : Top K mg) : NoAttr K (He.ga K "Rule") "required" := He.noat_ok (c.says.fact 46 rfl)
theorem Top.no_Rule_substitutes (c : Top K mg) : NoAttr K (He.ga K "Rule") "substitutes" := He.noat_ok (c.says.fact 47 rfl)
theorem Top.me_Rule_is_enabled (c : Top K mg) : Meth K (He.ga K "Rule") "is_enabled" (He.ma K (He.ga K "Rule") "is_enabled") := He.meth_ok (c.says.fact 48 rfl)
theorem Top.glo_Room (c : Top K mg) : mg "Room" = some (.ref (He.ga K "Room")) := by
  obtain ⟨_, X, G⟩ := c.mg
  exact He.glo_ok X G (c.says.fact 49 rfl)
theorem Top.cls_Room (c : Top K mg) : Cls K (He.ga K "Room") := He.cls_ok (c.says.fact 50 rfl)
theorem Top.mkr_Room (c : Top K mg) : Mk K (He.ga K "Room") (He.ma K (He.ga K "Room") "__init__") := He.mkr_ok (c.says.fact 51 rfl)
theorem Top.no_Room_players (c : Top K mg) : NoAttr K (He.ga K "Room") "players" := He.noat_ok (c.says.fact 52 rfl)
theorem Top.no_Room_rules (c : Top K mg) : NoAttr K (He.ga K "Room") "rules" := He.noat_ok (c.says.fact 53 rfl)
theorem Top.me_Room_many (c : Top K mg) : Meth K (He.ga K "Room") "many" (He.ma K (He.ga K "Room") "many") := He.meth_ok (c.says.fact 54 rfl)
theorem Top.me_Room_all_players (c : Top K mg) : Meth K (He.ga K "Room") "all_players" (He.ma K (He.ga K "Room") "all_players") := He.meth_ok (c.says.fact 55 rfl)
theorem Top.me_Room_first_rule (c : Top K mg) : Meth K (He.ga K "Room") "first_rule" (He.ma K (He.ga K "Room") "first_rule") := He.meth_ok (c.says.fact 56 rfl)
theorem Top.me_Room_round_steps (c : Top K mg) : Meth K (He.ga K "Room") "round_steps" (He.ma K (He.ga K "Room") "round_steps") := He.meth_ok (c.says.fact 57 rfl)
theorem Top.me_Room_steps (c : Top K mg) : Meth K (He.ga K "Room") "steps" (He.ma K (He.ga K "Room") "steps") := He.meth_ok (c.says.fact 58 rfl)
theorem Top.me_Room_acting (c : Top K mg) : Meth K (He.ga K "Room") "acting" (He.ma K (He.ga K "Room") "acting") := He.meth_ok (c.says.fact 59 rfl)
theorem Top.me_Room_are_valid (c : Top K mg) : Meth K (He.ga K "Room") "are_valid" (He.ma K (He.ga K "Room") "are_valid") := He.meth_ok (c.says.fact 60 rfl)
theorem Top.me_Room_is_sufficient (c : Top K mg) : Meth K (He.ga K "Room") "is_sufficient" (He.ma K (He.ga K "Room") "is_sufficient") := He.meth_ok (c.says.fact 61 rfl)
theorem Top.me_Room_is_blocking (c : Top K mg) : Meth K (He.ga K "Room") "is_blocking" (He.ma K (He.ga K "Room") "is_blocking") := He.meth_ok (c.says.fact 62 rfl)
theorem Top.me_Room_sufficient_table (c : Top K mg) : Meth K (He.ga K "Room") "sufficient_table" (He.ma K (He.ga K "Room") "sufficient_table") := He.meth_ok (c.says.fact 63 rfl)
theorem Top.me_Room_weight_of (c : Top K mg) : Meth K (He.ga K "Room") "weight_of" (He.ma K (He.ga K "Room") "weight_of") := He.meth_ok (c.says.fact 64 rfl)
theorem Top.glo_Refused (c : Top K mg) : mg "Refused" = some (.ref (He.ga K "Refused")) := by
  obtain ⟨_, X, G⟩ := c.mg
  exact He.glo_ok X G (c.says.fact 65 rfl)
theorem Top.no_Refused_code (c : Top K mg) : NoAttr K (He.ga K "Refused") "code" := He.noat_ok (c.says.fact 66 rfl)
theorem Top.exm_Refused (c : Top K mg) : PySem.W.exmOne K (.ref (He.ga K "Refused")) (.ref (He.ga K "Refused")) = some true := He.exm_ok (c.says.fact 67 rfl)
theorem Top.glo_Token (c : Top K mg) : mg "Token" = some (.ref (He.ga K "Token")) := by
  obtain ⟨_, X, G⟩ := c.mg
  exact He.glo_ok X G (c.says.fact 68 rfl)
theorem Top.cls_Token (c : Top K mg) : Cls K (He.ga K "Token") := He.cls_ok (c.says.fact 69 rfl)
theorem Top.mkr_Token (c : Top K mg) : Mk K (He.ga K "Token") (He.ma K (He.ga K "Token") "__init__") := He.mkr_ok (c.says.fact 70 rfl)
theorem Top.no_Token_offset (c : Top K mg) : NoAttr K (He.ga K "Token") "offset" := He.noat_ok (c.says.fact 71 rfl)
theorem Top.no_Token_signs (c : Top K mg) : NoAttr K (He.ga K "Token") "signs" := He.noat_ok (c.says.fact 72 rfl)
theorem Top.glo_BadText (c : Top K mg) : mg "BadText" = some (.ref (He.ga K "BadText")) := by
  obtain ⟨_, X, G⟩ := c.mg
  exact He.glo_ok X G (c.says.fact 73 rfl)
theorem Top.no_BadText_kind (c : Top K mg) : NoAttr K (He.ga K "BadText") "kind" := He.noat_ok (c.says.fact 74 rfl)
theorem Top.no_BadText_offset (c : Top K mg) : NoAttr K (He.ga K "BadText") "offset" := He.noat_ok (c.says.fact 75 rfl)
theorem Top.exm_BadText (c : Top K mg) : PySem.W.exmOne K (.ref (He.ga K "BadText")) (.ref (He.ga K "BadText")) = some true := He.exm_ok (c.says.fact 76 rfl)
theorem Top.glo_Reader (c : Top K mg) : mg "Reader" = some (.ref (He.ga K "Reader")) := by
  obtain ⟨_, X, G⟩ := c.mg
  exact He.glo_ok X G (c.says.fact 77 rfl)
theorem Top.cls_Reader (c : Top K mg) : Cls K (He.ga K "Reader") := He.cls_ok (c.says.fact 78 rfl)
theorem Top.mkr_Reader (c : Top K mg) : Mk K (He.ga K "Reader") (He.ma K (He.ga K "Reader") "__init__") := He.mkr_ok (c.says.fact 79 rfl)
theorem Top.no_Reader_players (c : Top K mg) : NoAttr K (He.ga K "Reader") "players" := He.noat_ok (c.says.fact 80 rfl)
theorem Top.no_Reader_rules (c : Top K mg) : NoAttr K (He.ga K "Reader") "rules" := He.noat_ok (c.says.fact 81 rfl)
theorem Top.no_Reader_tokens (c : Top K mg) : NoAttr K (He.ga K "Reader") "tokens" := He.noat_ok (c.says.fact 82 rfl)
theorem Top.no_Reader_at (c : Top K mg) : NoAttr K (He.ga K "Reader") "at" := He.noat_ok (c.says.fact 83 rfl)
theorem Top.me_Reader_next_token (c : Top K mg) : Meth K (He.ga K "Reader") "next_token" (He.ma K (He.ga K "Reader") "next_token") := He.meth_ok (c.says.fact 84 rfl)
theorem Top.me_Reader_take_word (c : Top K mg) : Meth K (He.ga K "Reader") "take_word" (He.ma K (He.ga K "Reader") "take_word") := He.meth_ok (c.says.fact 85 rfl)
theorem Top.me_Reader_take_name (c : Top K mg) : Meth K (He.ga K "Reader") "take_name" (He.ma K (He.ga K "Reader") "take_name") := He.meth_ok (c.says.fact 86 rfl)
theorem Top.me_Reader_take_number (c : Top K mg) : Meth K (He.ga K "Reader") "take_number" (He.ma K (He.ga K "Reader") "take_number") := He.meth_ok (c.says.fact 87 rfl)
theorem Top.me_Reader_take_end (c : Top K mg) : Meth K (He.ga K "Reader") "take_end" (He.ma K (He.ga K "Reader") "take_end") := He.meth_ok (c.says.fact 88 rfl)
theorem Top.me_Reader_names (c : Top K mg) : Meth K (He.ga K "Reader") "names" (He.ma K (He.ga K "Reader") "names") := He.meth_ok (c.says.fact 89 rfl)
theorem Top.me_Reader_take_player (c : Top K mg) : Meth K (He.ga K "Reader") "take_player" (He.ma K (He.ga K "Reader") "take_player") := He.meth_ok (c.says.fact 90 rfl)
theorem Top.me_Reader_read_player (c : Top K mg) : Meth K (He.ga K "Reader") "read_player" (He.ma K (He.ga K "Reader") "read_player") := He.meth_ok (c.says.fact 91 rfl)
theorem Top.me_Reader_read_rule (c : Top K mg) : Meth K (He.ga K "Reader") "read_rule" (He.ma K (He.ga K "Reader") "read_rule") := He.meth_ok (c.says.fact 92 rfl)
theorem Top.me_Reader_read_substitutes (c : Top K mg) : Meth K (He.ga K "Reader") "read_substitutes" (He.ma K (He.ga K "Reader") "read_substitutes") := He.meth_ok (c.says.fact 93 rfl)
theorem Top.me_Reader_read_line (c : Top K mg) : Meth K (He.ga K "Reader") "read_line" (He.ma K (He.ga K "Reader") "read_line") := He.meth_ok (c.says.fact 94 rfl)
theorem Top.glo_Call (c : Top K mg) : mg "Call" = some (.ref (He.ga K "Call")) := by
  obtain ⟨_, X, G⟩ := c.mg
  exact He.glo_ok X G (c.says.fact 95 rfl)
theorem Top.cls_Call (c : Top K mg) : Cls K (He.ga K "Call") := He.cls_ok (c.says.fact 96 rfl)
theorem Top.mkr_Call (c : Top K mg) : Mk K (He.ga K "Call") (He.ma K (He.ga K "Call") "__init__") := He.mkr_ok (c.says.fact 97 rfl)
theorem Top.no_Call_operation (c : Top K mg) : NoAttr K (He.ga K "Call") "operation" := He.noat_ok (c.says.fact 98 rfl)
theorem Top.no_Call_numbers (c : Top K mg) : NoAttr K (He.ga K "Call") "numbers" := He.noat_ok (c.says.fact 99 rfl)
theorem Top.no_Call_row (c : Top K mg) : NoAttr K (He.ga K "Call") "row" := He.noat_ok (c.says.fact 100 rfl)
theorem Top.glo_Desk (c : Top K mg) : mg "Desk" = some (.ref (He.ga K "Desk")) := by
  obtain ⟨_, X, G⟩ := c.mg
  exact He.glo_ok X G (c.says.fact 101 rfl)
theorem Top.cls_Desk (c : Top K mg) : Cls K (He.ga K "Desk") := He.cls_ok (c.says.fact 102 rfl)
theorem Top.mkr_Desk (c : Top K mg) : Mk K (He.ga K "Desk") (He.ma K (He.ga K "Desk") "__init__") := He.mkr_ok (c.says.fact 103 rfl)
theorem Top.no_Desk_room (c : Top K mg) : NoAttr K (He.ga K "Desk") "room" := He.noat_ok (c.says.fact 104 rfl)
theorem Top.me_Desk_load (c : Top K mg) : Meth K (He.ga K "Desk") "load" (He.ma K (He.ga K "Desk") "load") := He.meth_ok (c.says.fact 105 rfl)
theorem Top.me_Desk_check (c : Top K mg) : Meth K (He.ga K "Desk") "check" (He.ma K (He.ga K "Desk") "check") := He.meth_ok (c.says.fact 106 rfl)
theorem Top.me_Desk_need_room (c : Top K mg) : Meth K (He.ga K "Desk") "need_room" (He.ma K (He.ga K "Desk") "need_room") := He.meth_ok (c.says.fact 107 rfl)
theorem Top.me_Desk_take_coalition (c : Top K mg) : Meth K (He.ga K "Desk") "take_coalition" (He.ma K (He.ga K "Desk") "take_coalition") := He.meth_ok (c.says.fact 108 rfl)
theorem Top.me_Desk_take_player (c : Top K mg) : Meth K (He.ga K "Desk") "take_player" (He.ma K (He.ga K "Desk") "take_player") := He.meth_ok (c.says.fact 109 rfl)
theorem Top.me_Desk_acting_coalition (c : Top K mg) : Meth K (He.ga K "Desk") "acting_coalition" (He.ma K (He.ga K "Desk") "acting_coalition") := He.meth_ok (c.says.fact 110 rfl)
theorem Top.me_Desk_check_steps (c : Top K mg) : Meth K (He.ga K "Desk") "check_steps" (He.ma K (He.ga K "Desk") "check_steps") := He.meth_ok (c.says.fact 111 rfl)
theorem Top.me_Desk_is_closed (c : Top K mg) : Meth K (He.ga K "Desk") "is_closed" (He.ma K (He.ga K "Desk") "is_closed") := He.meth_ok (c.says.fact 112 rfl)
theorem Top.me_Desk_tell_sufficient (c : Top K mg) : Meth K (He.ga K "Desk") "tell_sufficient" (He.ma K (He.ga K "Desk") "tell_sufficient") := He.meth_ok (c.says.fact 113 rfl)
theorem Top.me_Desk_tell_blocking (c : Top K mg) : Meth K (He.ga K "Desk") "tell_blocking" (He.ma K (He.ga K "Desk") "tell_blocking") := He.meth_ok (c.says.fact 114 rfl)
theorem Top.me_Desk_minimal_sufficient (c : Top K mg) : Meth K (He.ga K "Desk") "minimal_sufficient" (He.ma K (He.ga K "Desk") "minimal_sufficient") := He.meth_ok (c.says.fact 115 rfl)
theorem Top.me_Desk_minimal_blocking (c : Top K mg) : Meth K (He.ga K "Desk") "minimal_blocking" (He.ma K (He.ga K "Desk") "minimal_blocking") := He.meth_ok (c.says.fact 116 rfl)
theorem Top.me_Desk_cheapest (c : Top K mg) : Meth K (He.ga K "Desk") "cheapest" (He.ma K (He.ga K "Desk") "cheapest") := He.meth_ok (c.says.fact 117 rfl)
theorem Top.me_Desk_verify_packing (c : Top K mg) : Meth K (He.ga K "Desk") "verify_packing" (He.ma K (He.ga K "Desk") "verify_packing") := He.meth_ok (c.says.fact 118 rfl)
theorem Top.me_Desk_minimal_returns (c : Top K mg) : Meth K (He.ga K "Desk") "minimal_returns" (He.ma K (He.ga K "Desk") "minimal_returns") := He.meth_ok (c.says.fact 119 rfl)
theorem Top.me_Desk_swing_count (c : Top K mg) : Meth K (He.ga K "Desk") "swing_count" (He.ma K (He.ga K "Desk") "swing_count") := He.meth_ok (c.says.fact 120 rfl)
theorem Top.me_Desk_power_index (c : Top K mg) : Meth K (He.ga K "Desk") "power_index" (He.ma K (He.ga K "Desk") "power_index") := He.meth_ok (c.says.fact 121 rfl)
theorem Top.me_Desk_continuation (c : Top K mg) : Meth K (He.ga K "Desk") "continuation" (He.ma K (He.ga K "Desk") "continuation") := He.meth_ok (c.says.fact 122 rfl)
theorem Top.me_Desk_sufficient_counts (c : Top K mg) : Meth K (He.ga K "Desk") "sufficient_counts" (He.ma K (He.ga K "Desk") "sufficient_counts") := He.meth_ok (c.says.fact 123 rfl)
theorem Top.me_Desk_remove_rule (c : Top K mg) : Meth K (He.ga K "Desk") "remove_rule" (He.ma K (He.ga K "Desk") "remove_rule") := He.meth_ok (c.says.fact 124 rfl)
theorem Top.me_Desk_set_weight (c : Top K mg) : Meth K (He.ga K "Desk") "set_weight" (He.ma K (He.ga K "Desk") "set_weight") := He.meth_ok (c.says.fact 125 rfl)
theorem Top.me_Desk_print_room (c : Top K mg) : Meth K (He.ga K "Desk") "print_room" (He.ma K (He.ga K "Desk") "print_room") := He.meth_ok (c.says.fact 126 rfl)
theorem Top.me_Desk_summary (c : Top K mg) : Meth K (He.ga K "Desk") "summary" (He.ma K (He.ga K "Desk") "summary") := He.meth_ok (c.says.fact 127 rfl)
theorem Top.me_Desk_fields (c : Top K mg) : Meth K (He.ga K "Desk") "fields" (He.ma K (He.ga K "Desk") "fields") := He.meth_ok (c.says.fact 128 rfl)
theorem Top.me_Desk_fields_with_row (c : Top K mg) : Meth K (He.ga K "Desk") "fields_with_row" (He.ma K (He.ga K "Desk") "fields_with_row") := He.meth_ok (c.says.fact 129 rfl)
theorem Top.me_Desk_fields_of_room (c : Top K mg) : Meth K (He.ga K "Desk") "fields_of_room" (He.ma K (He.ga K "Desk") "fields_of_room") := He.meth_ok (c.says.fact 130 rfl)
theorem Top.me_Desk_fields_by_two (c : Top K mg) : Meth K (He.ga K "Desk") "fields_by_two" (He.ma K (He.ga K "Desk") "fields_by_two") := He.meth_ok (c.says.fact 131 rfl)
theorem Top.me_Desk_fields_by_one (c : Top K mg) : Meth K (He.ga K "Desk") "fields_by_one" (He.ma K (He.ga K "Desk") "fields_by_one") := He.meth_ok (c.says.fact 132 rfl)
theorem Top.int_MOST_PLAYERS (c : Top K mg) : ∃ t, mg "MOST_PLAYERS" = some (.int (8) t) := by
  obtain ⟨_, X, G⟩ := c.mg
  exact He.int_ok X G (c.says.fact 133 rfl)
theorem Top.int_MOST_RULES (c : Top K mg) : ∃ t, mg "MOST_RULES" = some (.int (20) t) := by
  obtain ⟨_, X, G⟩ := c.mg
  exact He.int_ok X G (c.says.fact 134 rfl)
theorem Top.int_GREATEST_WEIGHT (c : Top K mg) : ∃ t, mg "GREATEST_WEIGHT" = some (.int (1000) t) := by
  obtain ⟨_, X, G⟩ := c.mg
  exact He.int_ok X G (c.says.fact 135 rfl)
theorem Top.glo_PLACES (c : Top K mg) : mg "PLACES" = some (.ref (He.ga K "PLACES")) := by
  obtain ⟨_, X, G⟩ := c.mg
  exact He.glo_ok X G (c.says.fact 136 rfl)
theorem Top.int_OUT_OF_RANGE (c : Top K mg) : ∃ t, mg "OUT_OF_RANGE" = some (.int (-1) t) := by
  obtain ⟨_, X, G⟩ := c.mg
  exact He.int_ok X G (c.says.fact 137 rfl)
theorem Top.int_NO_ROOM (c : Top K mg) : ∃ t, mg "NO_ROOM" = some (.int (-2) t) := by
  obtain ⟨_, X, G⟩ := c.mg
  exact He.int_ok X G (c.says.fact 138 rfl)
theorem Top.int_BAD_TEXT (c : Top K mg) : ∃ t, mg "BAD_TEXT" = some (.int (-3) t) := by
  obtain ⟨_, X, G⟩ := c.mg
  exact He.int_ok X G (c.says.fact 139 rfl)
theorem Top.int_NOT_THERE (c : Top K mg) : ∃ t, mg "NOT_THERE" = some (.int (-4) t) := by
  obtain ⟨_, X, G⟩ := c.mg
  exact He.int_ok X G (c.says.fact 140 rfl)
theorem Top.int_NEWLINE (c : Top K mg) : ∃ t, mg "NEWLINE" = some (.int (10) t) := by
  obtain ⟨_, X, G⟩ := c.mg
  exact He.int_ok X G (c.says.fact 141 rfl)
theorem Top.int_SPACE (c : Top K mg) : ∃ t, mg "SPACE" = some (.int (32) t) := by
  obtain ⟨_, X, G⟩ := c.mg
  exact He.int_ok X G (c.says.fact 142 rfl)
theorem Top.int_ZERO (c : Top K mg) : ∃ t, mg "ZERO" = some (.int (48) t) := by
  obtain ⟨_, X, G⟩ := c.mg
  exact He.int_ok X G (c.says.fact 143 rfl)
theorem Top.int_LONGEST_NAME (c : Top K mg) : ∃ t, mg "LONGEST_NAME" = some (.int (12) t) := by
  obtain ⟨_, X, G⟩ := c.mg
  exact He.int_ok X G (c.says.fact 144 rfl)
theorem Top.int_MOST_DIGITS (c : Top K mg) : ∃ t, mg "MOST_DIGITS" = some (.int (4) t) := by
  obtain ⟨_, X, G⟩ := c.mg
  exact He.int_ok X G (c.says.fact 145 rfl)
theorem Top.glo_RESERVED (c : Top K mg) : mg "RESERVED" = some (.ref (He.ga K "RESERVED")) := by
  obtain ⟨_, X, G⟩ := c.mg
  exact He.glo_ok X G (c.says.fact 146 rfl)
theorem Top.int_BAD_TOKEN (c : Top K mg) : ∃ t, mg "BAD_TOKEN" = some (.int (1) t) := by
  obtain ⟨_, X, G⟩ := c.mg
  exact He.int_ok X G (c.says.fact 147 rfl)
theorem Top.int_BAD_NUMBER (c : Top K mg) : ∃ t, mg "BAD_NUMBER" = some (.int (3) t) := by
  obtain ⟨_, X, G⟩ := c.mg
  exact He.int_ok X G (c.says.fact 148 rfl)
theorem Top.int_THERE_ALREADY (c : Top K mg) : ∃ t, mg "THERE_ALREADY" = some (.int (4) t) := by
  obtain ⟨_, X, G⟩ := c.mg
  exact He.int_ok X G (c.says.fact 149 rfl)
theorem Top.int_UNKNOWN_NAME (c : Top K mg) : ∃ t, mg "UNKNOWN_NAME" = some (.int (5) t) := by
  obtain ⟨_, X, G⟩ := c.mg
  exact He.int_ok X G (c.says.fact 150 rfl)
theorem Top.int_TOO_GREAT (c : Top K mg) : ∃ t, mg "TOO_GREAT" = some (.int (6) t) := by
  obtain ⟨_, X, G⟩ := c.mg
  exact He.int_ok X G (c.says.fact 151 rfl)
theorem Top.int_TOO_MANY (c : Top K mg) : ∃ t, mg "TOO_MANY" = some (.int (7) t) := by
  obtain ⟨_, X, G⟩ := c.mg
  exact He.int_ok X G (c.says.fact 152 rfl)
theorem Top.int_NO_PLAYER (c : Top K mg) : ∃ t, mg "NO_PLAYER" = some (.int (9) t) := by
  obtain ⟨_, X, G⟩ := c.mg
  exact He.int_ok X G (c.says.fact 153 rfl)
theorem Top.int_ABSENT_NAME (c : Top K mg) : ∃ t, mg "ABSENT_NAME" = some (.int (10) t) := by
  obtain ⟨_, X, G⟩ := c.mg
  exact He.int_ok X G (c.says.fact 154 rfl)
theorem Top.int_MOST_BYTES (c : Top K mg) : ∃ t, mg "MOST_BYTES" = some (.int (2000) t) := by
  obtain ⟨_, X, G⟩ := c.mg
  exact He.int_ok X G (c.says.fact 155 rfl)
theorem Top.int_GREATEST_BYTE (c : Top K mg) : ∃ t, mg "GREATEST_BYTE" = some (.int (255) t) := by
  obtain ⟨_, X, G⟩ := c.mg
  exact He.int_ok X G (c.says.fact 156 rfl)
theorem Top.int_GREATEST_COALITION (c : Top K mg) : ∃ t, mg "GREATEST_COALITION" = some (.int (255) t) := by
  obtain ⟨_, X, G⟩ := c.mg
  exact He.int_ok X G (c.says.fact 157 rfl)
theorem Top.int_MOST_IN_LIST (c : Top K mg) : ∃ t, mg "MOST_IN_LIST" = some (.int (40) t) := by
  obtain ⟨_, X, G⟩ := c.mg
  exact He.int_ok X G (c.says.fact 158 rfl)
theorem Top.int_GREATEST_IN_PACKING (c : Top K mg) : ∃ t, mg "GREATEST_IN_PACKING" = some (.int (1000000) t) := by
  obtain ⟨_, X, G⟩ := c.mg
  exact He.int_ok X G (c.says.fact 159 rfl)
theorem Top.int_MOST_PARTS (c : Top K mg) : ∃ t, mg "MOST_PARTS" = some (.int (100) t) := by
  obtain ⟨_, X, G⟩ := c.mg
  exact He.int_ok X G (c.says.fact 160 rfl)
theorem Top.glo_NUMBERS (c : Top K mg) : mg "NUMBERS" = some (.ref (He.ga K "NUMBERS")) := by
  obtain ⟨_, X, G⟩ := c.mg
  exact He.glo_ok X G (c.says.fact 161 rfl)
theorem Top.glo_WITH_ROW (c : Top K mg) : mg "WITH_ROW" = some (.ref (He.ga K "WITH_ROW")) := by
  obtain ⟨_, X, G⟩ := c.mg
  exact He.glo_ok X G (c.says.fact 162 rfl)
theorem Top.free_len (c : Top K mg) : mg "len" = none := by
  obtain ⟨_, X, G⟩ := c.mg
  exact He.free_ok X G (c.says.fact 163 rfl)
theorem Top.free_any (c : Top K mg) : mg "any" = none := by
  obtain ⟨_, X, G⟩ := c.mg
  exact He.free_ok X G (c.says.fact 164 rfl)
theorem Top.free_all (c : Top K mg) : mg "all" = none := by
  obtain ⟨_, X, G⟩ := c.mg
  exact He.free_ok X G (c.says.fact 165 rfl)
theorem Top.free_sum (c : Top K mg) : mg "sum" = none := by
  obtain ⟨_, X, G⟩ := c.mg
  exact He.free_ok X G (c.says.fact 166 rfl)
theorem Top.free_min (c : Top K mg) : mg "min" = none := by
  obtain ⟨_, X, G⟩ := c.mg
  exact He.free_ok X G (c.says.fact 167 rfl)
theorem Top.free_list (c : Top K mg) : mg "list" = none := by
  obtain ⟨_, X, G⟩ := c.mg
  exact He.free_ok X G (c.says.fact 168 rfl)
theorem Top.free_range (c : Top K mg) : mg "range" = none := by
  obtain ⟨_, X, G⟩ := c.mg
  exact He.free_ok X G (c.says.fact 169 rfl)
theorem Top.free_enumerate (c : Top K mg) : mg "enumerate" = none := by
  obtain ⟨_, X, G⟩ := c.mg
  exact He.free_ok X G (c.says.fact 170 rfl)
theorem Top.free_reversed (c : Top K mg) : mg "reversed" = none := by
  obtain ⟨_, X, G⟩ := c.mg
  exact He.free_ok X G (c.says.fact 171 rfl)
theorem Top.free_int (c : Top K mg) : mg "int" = none := by
  obtain ⟨_, X, G⟩ := c.mg
  exact He.free_ok X G (c.says.fact 172 rfl)
theorem Top.free_str (c : Top K mg) : mg "str" = none := by
  obtain ⟨_, X, G⟩ := c.mg
  exact He.free_ok X G (c.says.fact 173 rfl)
theorem Top.free_ord (c : Top K mg) : mg "ord" = none := by
  obtain ⟨_, X, G⟩ := c.mg
  exact He.free_ok X G (c.says.fact 174 rfl)
theorem Top.free_ValueError (c : Top K mg) : mg "ValueError" = none := by
  obtain ⟨_, X, G⟩ := c.mg
  exact He.free_ok X G (c.says.fact 175 rfl)
theorem Top.f_Player_init (c : Top K mg) : ∃ fd, FunD K "__init__" "Player.__init__" (defArgs s_Player_init) (defBody s_Player_init) (defScope s_Player_init) [] [] (He.fAd K ("Player", some "__init__")) fd := c.says.def_ 0 (d := d_Player_init) rfl
theorem Top.f_Rule_init (c : Top K mg) : ∃ fd, FunD K "__init__" "Rule.__init__" (defArgs s_Rule_init) (defBody s_Rule_init) (defScope s_Rule_init) [] [] (He.fAd K ("Rule", some "__init__")) fd := c.says.def_ 1 (d := d_Rule_init) rfl
theorem Top.f_Rule_is_enabled (c : Top K mg) : ∃ fd, FunD K "is_enabled" "Rule.is_enabled" (defArgs s_Rule_is_enabled) (defBody s_Rule_is_enabled) (defScope s_Rule_is_enabled) [] [] (He.fAd K ("Rule", some "is_enabled")) fd := c.says.def_ 2 (d := d_Rule_is_enabled) rfl
theorem Top.f_is_member (c : Top K mg) : ∃ fd, FunD K "is_member" "is_member" (defArgs s_is_member) (defBody s_is_member) (defScope s_is_member) [] [] (He.fAd K ("is_member", none)) fd := c.says.def_ 3 (d := d_is_member) rfl
theorem Top.f_with_member (c : Top K mg) : ∃ fd, FunD K "with_member" "with_member" (defArgs s_with_member) (defBody s_with_member) (defScope s_with_member) [] [] (He.fAd K ("with_member", none)) fd := c.says.def_ 4 (d := d_with_member) rfl
theorem Top.f_Room_init (c : Top K mg) : ∃ fd, FunD K "__init__" "Room.__init__" (defArgs s_Room_init) (defBody s_Room_init) (defScope s_Room_init) [] [] (He.fAd K ("Room", some "__init__")) fd := c.says.def_ 5 (d := d_Room_init) rfl
theorem Top.f_Room_many (c : Top K mg) : ∃ fd, FunD K "many" "Room.many" (defArgs s_Room_many) (defBody s_Room_many) (defScope s_Room_many) [] [] (He.fAd K ("Room", some "many")) fd := c.says.def_ 6 (d := d_Room_many) rfl
theorem Top.f_Room_all_players (c : Top K mg) : ∃ fd, FunD K "all_players" "Room.all_players" (defArgs s_Room_all_players) (defBody s_Room_all_players) (defScope s_Room_all_players) [] [] (He.fAd K ("Room", some "all_players")) fd := c.says.def_ 7 (d := d_Room_all_players) rfl
theorem Top.f_Room_first_rule (c : Top K mg) : ∃ fd, FunD K "first_rule" "Room.first_rule" (defArgs s_Room_first_rule) (defBody s_Room_first_rule) (defScope s_Room_first_rule) [] [] (He.fAd K ("Room", some "first_rule")) fd := c.says.def_ 8 (d := d_Room_first_rule) rfl
theorem Top.f_Room_round_steps (c : Top K mg) : ∃ fd, FunD K "round_steps" "Room.round_steps" (defArgs s_Room_round_steps) (defBody s_Room_round_steps) (defScope s_Room_round_steps) [] [] (He.fAd K ("Room", some "round_steps")) fd := c.says.def_ 9 (d := d_Room_round_steps) rfl
theorem Top.f_Room_steps (c : Top K mg) : ∃ fd, FunD K "steps" "Room.steps" (defArgs s_Room_steps) (defBody s_Room_steps) (defScope s_Room_steps) [] [] (He.fAd K ("Room", some "steps")) fd := c.says.def_ 10 (d := d_Room_steps) rfl
theorem Top.f_Room_acting (c : Top K mg) : ∃ fd, FunD K "acting" "Room.acting" (defArgs s_Room_acting) (defBody s_Room_acting) (defScope s_Room_acting) [] [] (He.fAd K ("Room", some "acting")) fd := c.says.def_ 11 (d := d_Room_acting) rfl
theorem Top.f_Room_are_valid (c : Top K mg) : ∃ fd, FunD K "are_valid" "Room.are_valid" (defArgs s_Room_are_valid) (defBody s_Room_are_valid) (defScope s_Room_are_valid) [] [] (He.fAd K ("Room", some "are_valid")) fd := c.says.def_ 12 (d := d_Room_are_valid) rfl
theorem Top.f_Room_is_sufficient (c : Top K mg) : ∃ fd, FunD K "is_sufficient" "Room.is_sufficient" (defArgs s_Room_is_sufficient) (defBody s_Room_is_sufficient) (defScope s_Room_is_sufficient) [] [] (He.fAd K ("Room", some "is_sufficient")) fd := c.says.def_ 13 (d := d_Room_is_sufficient) rfl
theorem Top.f_Room_is_blocking (c : Top K mg) : ∃ fd, FunD K "is_blocking" "Room.is_blocking" (defArgs s_Room_is_blocking) (defBody s_Room_is_blocking) (defScope s_Room_is_blocking) [] [] (He.fAd K ("Room", some "is_blocking")) fd := c.says.def_ 14 (d := d_Room_is_blocking) rfl
theorem Top.f_Room_sufficient_table (c : Top K mg) : ∃ fd, FunD K "sufficient_table" "Room.sufficient_table" (defArgs s_Room_sufficient_table) (defBody s_Room_sufficient_table) (defScope s_Room_sufficient_table) [] [] (He.fAd K ("Room", some "sufficient_table")) fd := c.says.def_ 15 (d := d_Room_sufficient_table) rfl
theorem Top.f_Room_weight_of (c : Top K mg) : ∃ fd, FunD K "weight_of" "Room.weight_of" (defArgs s_Room_weight_of) (defBody s_Room_weight_of) (defScope s_Room_weight_of) [] [] (He.fAd K ("Room", some "weight_of")) fd := c.says.def_ 16 (d := d_Room_weight_of) rfl
theorem Top.f_members_of (c : Top K mg) : ∃ fd, FunD K "members_of" "members_of" (defArgs s_members_of) (defBody s_members_of) (defScope s_members_of) [] [] (He.fAd K ("members_of", none)) fd := c.says.def_ 17 (d := d_members_of) rfl
theorem Top.f_minimal_ones (c : Top K mg) : ∃ fd, FunD K "minimal_ones" "minimal_ones" (defArgs s_minimal_ones) (defBody s_minimal_ones) (defScope s_minimal_ones) [] [] (He.fAd K ("minimal_ones", none)) fd := c.says.def_ 18 (d := d_minimal_ones) rfl
theorem Top.f_blocking_table (c : Top K mg) : ∃ fd, FunD K "blocking_table" "blocking_table" (defArgs s_blocking_table) (defBody s_blocking_table) (defScope s_blocking_table) [] [] (He.fAd K ("blocking_table", none)) fd := c.says.def_ 19 (d := d_blocking_table) rfl
theorem Top.f_returns_table (c : Top K mg) : ∃ fd, FunD K "returns_table" "returns_table" (defArgs s_returns_table) (defBody s_returns_table) (defScope s_returns_table) [] [] (He.fAd K ("returns_table", none)) fd := c.says.def_ 20 (d := d_returns_table) rfl
theorem Top.f_swings_of (c : Top K mg) : ∃ fd, FunD K "swings_of" "swings_of" (defArgs s_swings_of) (defBody s_swings_of) (defScope s_swings_of) [] [] (He.fAd K ("swings_of", none)) fd := c.says.def_ 21 (d := d_swings_of) rfl
theorem Top.f_counts_by_members (c : Top K mg) : ∃ fd, FunD K "counts_by_members" "counts_by_members" (defArgs s_counts_by_members) (defBody s_counts_by_members) (defScope s_counts_by_members) [] [] (He.fAd K ("counts_by_members", none)) fd := c.says.def_ 22 (d := d_counts_by_members) rfl
theorem Top.f_Refused_init (c : Top K mg) : ∃ fd, FunD K "__init__" "Refused.__init__" (defArgs s_Refused_init) (defBody s_Refused_init) (defScope s_Refused_init) [] [] (He.fAd K ("Refused", some "__init__")) fd := c.says.def_ 23 (d := d_Refused_init) rfl
theorem Top.f_need (c : Top K mg) : ∃ fd, FunD K "need" "need" (defArgs s_need) (defBody s_need) (defScope s_need) [] [] (He.fAd K ("need", none)) fd := c.says.def_ 24 (d := d_need) rfl
theorem Top.f_need_between (c : Top K mg) : ∃ fd, FunD K "need_between" "need_between" (defArgs s_need_between) (defBody s_need_between) (defScope s_need_between) [] [] (He.fAd K ("need_between", none)) fd := c.says.def_ 25 (d := d_need_between) rfl
theorem Top.f_divisor (c : Top K mg) : ∃ fd, FunD K "divisor" "divisor" (defArgs s_divisor) (defBody s_divisor) (defScope s_divisor) [] [] (He.fAd K ("divisor", none)) fd := c.says.def_ 26 (d := d_divisor) rfl
theorem Top.f_lowest (c : Top K mg) : ∃ fd, FunD K "lowest" "lowest" (defArgs s_lowest) (defBody s_lowest) (defScope s_lowest) [] [] (He.fAd K ("lowest", none)) fd := c.says.def_ 27 (d := d_lowest) rfl
theorem Top.f_power_of (c : Top K mg) : ∃ fd, FunD K "power_of" "power_of" (defArgs s_power_of) (defBody s_power_of) (defScope s_power_of) [] [] (He.fAd K ("power_of", none)) fd := c.says.def_ 28 (d := d_power_of) rfl
theorem Top.f_factorial (c : Top K mg) : ∃ fd, FunD K "factorial" "factorial" (defArgs s_factorial) (defBody s_factorial) (defScope s_factorial) [] [] (He.fAd K ("factorial", none)) fd := c.says.def_ 29 (d := d_factorial) rfl
theorem Top.f_index_of (c : Top K mg) : ∃ fd, FunD K "index_of" "index_of" (defArgs s_index_of) (defBody s_index_of) (defScope s_index_of) [] [] (He.fAd K ("index_of", none)) fd := c.says.def_ 30 (d := d_index_of) rfl
theorem Top.f_probability_of (c : Top K mg) : ∃ fd, FunD K "probability_of" "probability_of" (defArgs s_probability_of) (defBody s_probability_of) (defScope s_probability_of) [] [] (He.fAd K ("probability_of", none)) fd := c.says.def_ 31 (d := d_probability_of) rfl
theorem Top.f_Token_init (c : Top K mg) : ∃ fd, FunD K "__init__" "Token.__init__" (defArgs s_Token_init) (defBody s_Token_init) (defScope s_Token_init) [] [] (He.fAd K ("Token", some "__init__")) fd := c.says.def_ 32 (d := d_Token_init) rfl
theorem Top.f_signs_of (c : Top K mg) : ∃ fd, FunD K "signs_of" "signs_of" (defArgs s_signs_of) (defBody s_signs_of) (defScope s_signs_of) [] [] (He.fAd K ("signs_of", none)) fd := c.says.def_ 33 (d := d_signs_of) rfl
theorem Top.f_lines_of (c : Top K mg) : ∃ fd, FunD K "lines_of" "lines_of" (defArgs s_lines_of) (defBody s_lines_of) (defScope s_lines_of) [] [] (He.fAd K ("lines_of", none)) fd := c.says.def_ 34 (d := d_lines_of) rfl
theorem Top.f_is_letter (c : Top K mg) : ∃ fd, FunD K "is_letter" "is_letter" (defArgs s_is_letter) (defBody s_is_letter) (defScope s_is_letter) [] [] (He.fAd K ("is_letter", none)) fd := c.says.def_ 35 (d := d_is_letter) rfl
theorem Top.f_is_digit (c : Top K mg) : ∃ fd, FunD K "is_digit" "is_digit" (defArgs s_is_digit) (defBody s_is_digit) (defScope s_is_digit) [] [] (He.fAd K ("is_digit", none)) fd := c.says.def_ 36 (d := d_is_digit) rfl
theorem Top.f_is_word (c : Top K mg) : ∃ fd, FunD K "is_word" "is_word" (defArgs s_is_word) (defBody s_is_word) (defScope s_is_word) [] [] (He.fAd K ("is_word", none)) fd := c.says.def_ 37 (d := d_is_word) rfl
theorem Top.f_is_name (c : Top K mg) : ∃ fd, FunD K "is_name" "is_name" (defArgs s_is_name) (defBody s_is_name) (defScope s_is_name) [] [] (He.fAd K ("is_name", none)) fd := c.says.def_ 38 (d := d_is_name) rfl
theorem Top.f_is_number (c : Top K mg) : ∃ fd, FunD K "is_number" "is_number" (defArgs s_is_number) (defBody s_is_number) (defScope s_is_number) [] [] (He.fAd K ("is_number", none)) fd := c.says.def_ 39 (d := d_is_number) rfl
theorem Top.f_number_of (c : Top K mg) : ∃ fd, FunD K "number_of" "number_of" (defArgs s_number_of) (defBody s_number_of) (defScope s_number_of) [] [] (He.fAd K ("number_of", none)) fd := c.says.def_ 40 (d := d_number_of) rfl
theorem Top.f_BadText_init (c : Top K mg) : ∃ fd, FunD K "__init__" "BadText.__init__" (defArgs s_BadText_init) (defBody s_BadText_init) (defScope s_BadText_init) [] [] (He.fAd K ("BadText", some "__init__")) fd := c.says.def_ 41 (d := d_BadText_init) rfl
theorem Top.f_check (c : Top K mg) : ∃ fd, FunD K "check" "check" (defArgs s_check) (defBody s_check) (defScope s_check) [] [] (He.fAd K ("check", none)) fd := c.says.def_ 42 (d := d_check) rfl
theorem Top.f_Reader_init (c : Top K mg) : ∃ fd, FunD K "__init__" "Reader.__init__" (defArgs s_Reader_init) (defBody s_Reader_init) (defScope s_Reader_init) [] [] (He.fAd K ("Reader", some "__init__")) fd := c.says.def_ 43 (d := d_Reader_init) rfl
theorem Top.f_Reader_next_token (c : Top K mg) : ∃ fd, FunD K "next_token" "Reader.next_token" (defArgs s_Reader_next_token) (defBody s_Reader_next_token) (defScope s_Reader_next_token) [] [] (He.fAd K ("Reader", some "next_token")) fd := c.says.def_ 44 (d := d_Reader_next_token) rfl
theorem Top.f_Reader_take_word (c : Top K mg) : ∃ fd, FunD K "take_word" "Reader.take_word" (defArgs s_Reader_take_word) (defBody s_Reader_take_word) (defScope s_Reader_take_word) [] [] (He.fAd K ("Reader", some "take_word")) fd := c.says.def_ 45 (d := d_Reader_take_word) rfl
theorem Top.f_Reader_take_name (c : Top K mg) : ∃ fd, FunD K "take_name" "Reader.take_name" (defArgs s_Reader_take_name) (defBody s_Reader_take_name) (defScope s_Reader_take_name) [] [] (He.fAd K ("Reader", some "take_name")) fd := c.says.def_ 46 (d := d_Reader_take_name) rfl
theorem Top.f_Reader_take_number (c : Top K mg) : ∃ fd, FunD K "take_number" "Reader.take_number" (defArgs s_Reader_take_number) (defBody s_Reader_take_number) (defScope s_Reader_take_number) [] [] (He.fAd K ("Reader", some "take_number")) fd := c.says.def_ 47 (d := d_Reader_take_number) rfl
theorem Top.f_Reader_take_end (c : Top K mg) : ∃ fd, FunD K "take_end" "Reader.take_end" (defArgs s_Reader_take_end) (defBody s_Reader_take_end) (defScope s_Reader_take_end) [] [] (He.fAd K ("Reader", some "take_end")) fd := c.says.def_ 48 (d := d_Reader_take_end) rfl
theorem Top.f_Reader_names (c : Top K mg) : ∃ fd, FunD K "names" "Reader.names" (defArgs s_Reader_names) (defBody s_Reader_names) (defScope s_Reader_names) [] [] (He.fAd K ("Reader", some "names")) fd := c.says.def_ 49 (d := d_Reader_names) rfl
theorem Top.f_Reader_take_player (c : Top K mg) : ∃ fd, FunD K "take_player" "Reader.take_player" (defArgs s_Reader_take_player) (defBody s_Reader_take_player) (defScope s_Reader_take_player) [] [] (He.fAd K ("Reader", some "take_player")) fd := c.says.def_ 50 (d := d_Reader_take_player) rfl
theorem Top.f_Reader_read_player (c : Top K mg) : ∃ fd, FunD K "read_player" "Reader.read_player" (defArgs s_Reader_read_player) (defBody s_Reader_read_player) (defScope s_Reader_read_player) [] [] (He.fAd K ("Reader", some "read_player")) fd := c.says.def_ 51 (d := d_Reader_read_player) rfl
theorem Top.f_Reader_read_rule (c : Top K mg) : ∃ fd, FunD K "read_rule" "Reader.read_rule" (defArgs s_Reader_read_rule) (defBody s_Reader_read_rule) (defScope s_Reader_read_rule) [] [] (He.fAd K ("Reader", some "read_rule")) fd := c.says.def_ 52 (d := d_Reader_read_rule) rfl
theorem Top.f_Reader_read_substitutes (c : Top K mg) : ∃ fd, FunD K "read_substitutes" "Reader.read_substitutes" (defArgs s_Reader_read_substitutes) (defBody s_Reader_read_substitutes) (defScope s_Reader_read_substitutes) [] [] (He.fAd K ("Reader", some "read_substitutes")) fd := c.says.def_ 53 (d := d_Reader_read_substitutes) rfl
theorem Top.f_Reader_read_line (c : Top K mg) : ∃ fd, FunD K "read_line" "Reader.read_line" (defArgs s_Reader_read_line) (defBody s_Reader_read_line) (defScope s_Reader_read_line) [] [] (He.fAd K ("Reader", some "read_line")) fd := c.says.def_ 54 (d := d_Reader_read_line) rfl
theorem Top.f_room_of (c : Top K mg) : ∃ fd, FunD K "room_of" "room_of" (defArgs s_room_of) (defBody s_room_of) (defScope s_room_of) [] [] (He.fAd K ("room_of", none)) fd := c.says.def_ 55 (d := d_room_of) rfl
theorem Top.f_written (c : Top K mg) : ∃ fd, FunD K "written" "written" (defArgs s_written) (defBody s_written) (defScope s_written) [] [] (He.fAd K ("written", none)) fd := c.says.def_ 56 (d := d_written) rfl
theorem Top.f_number_signs (c : Top K mg) : ∃ fd, FunD K "number_signs" "number_signs" (defArgs s_number_signs) (defBody s_number_signs) (defScope s_number_signs) [] [] (He.fAd K ("number_signs", none)) fd := c.says.def_ 57 (d := d_number_signs) rfl
theorem Top.f_rule_words (c : Top K mg) : ∃ fd, FunD K "rule_words" "rule_words" (defArgs s_rule_words) (defBody s_rule_words) (defScope s_rule_words) [] [] (He.fAd K ("rule_words", none)) fd := c.says.def_ 58 (d := d_rule_words) rfl
theorem Top.f_canonical (c : Top K mg) : ∃ fd, FunD K "canonical" "canonical" (defArgs s_canonical) (defBody s_canonical) (defScope s_canonical) [] [] (He.fAd K ("canonical", none)) fd := c.says.def_ 59 (d := d_canonical) rfl
theorem Top.f_Call_init (c : Top K mg) : ∃ fd, FunD K "__init__" "Call.__init__" (defArgs s_Call_init) (defBody s_Call_init) (defScope s_Call_init) [] [] (He.fAd K ("Call", some "__init__")) fd := c.says.def_ 60 (d := d_Call_init) rfl
theorem Top.f_need_text (c : Top K mg) : ∃ fd, FunD K "need_text" "need_text" (defArgs s_need_text) (defBody s_need_text) (defScope s_need_text) [] [] (He.fAd K ("need_text", none)) fd := c.says.def_ 61 (d := d_need_text) rfl
theorem Top.f_need_pairs (c : Top K mg) : ∃ fd, FunD K "need_pairs" "need_pairs" (defArgs s_need_pairs) (defBody s_need_pairs) (defScope s_need_pairs) [] [] (He.fAd K ("need_pairs", none)) fd := c.says.def_ 62 (d := d_need_pairs) rfl
theorem Top.f_pairs_of (c : Top K mg) : ∃ fd, FunD K "pairs_of" "pairs_of" (defArgs s_pairs_of) (defBody s_pairs_of) (defScope s_pairs_of) [] [] (He.fAd K ("pairs_of", none)) fd := c.says.def_ 63 (d := d_pairs_of) rfl
theorem Top.f_told (c : Top K mg) : ∃ fd, FunD K "told" "told" (defArgs s_told) (defBody s_told) (defScope s_told) [] [] (He.fAd K ("told", none)) fd := c.says.def_ 64 (d := d_told) rfl
theorem Top.f_Desk_init (c : Top K mg) : ∃ fd, FunD K "__init__" "Desk.__init__" (defArgs s_Desk_init) (defBody s_Desk_init) (defScope s_Desk_init) [] [] (He.fAd K ("Desk", some "__init__")) fd := c.says.def_ 65 (d := d_Desk_init) rfl
theorem Top.f_Desk_load (c : Top K mg) : ∃ fd, FunD K "load" "Desk.load" (defArgs s_Desk_load) (defBody s_Desk_load) (defScope s_Desk_load) [] [] (He.fAd K ("Desk", some "load")) fd := c.says.def_ 66 (d := d_Desk_load) rfl
theorem Top.f_Desk_check (c : Top K mg) : ∃ fd, FunD K "check" "Desk.check" (defArgs s_Desk_check) (defBody s_Desk_check) (defScope s_Desk_check) [] [] (He.fAd K ("Desk", some "check")) fd := c.says.def_ 67 (d := d_Desk_check) rfl
theorem Top.f_Desk_need_room (c : Top K mg) : ∃ fd, FunD K "need_room" "Desk.need_room" (defArgs s_Desk_need_room) (defBody s_Desk_need_room) (defScope s_Desk_need_room) [] [] (He.fAd K ("Desk", some "need_room")) fd := c.says.def_ 68 (d := d_Desk_need_room) rfl
theorem Top.f_Desk_take_coalition (c : Top K mg) : ∃ fd, FunD K "take_coalition" "Desk.take_coalition" (defArgs s_Desk_take_coalition) (defBody s_Desk_take_coalition) (defScope s_Desk_take_coalition) [] [] (He.fAd K ("Desk", some "take_coalition")) fd := c.says.def_ 69 (d := d_Desk_take_coalition) rfl
theorem Top.f_Desk_take_player (c : Top K mg) : ∃ fd, FunD K "take_player" "Desk.take_player" (defArgs s_Desk_take_player) (defBody s_Desk_take_player) (defScope s_Desk_take_player) [] [] (He.fAd K ("Desk", some "take_player")) fd := c.says.def_ 70 (d := d_Desk_take_player) rfl
theorem Top.f_Desk_acting_coalition (c : Top K mg) : ∃ fd, FunD K "acting_coalition" "Desk.acting_coalition" (defArgs s_Desk_acting_coalition) (defBody s_Desk_acting_coalition) (defScope s_Desk_acting_coalition) [] [] (He.fAd K ("Desk", some "acting_coalition")) fd := c.says.def_ 71 (d := d_Desk_acting_coalition) rfl
theorem Top.f_Desk_check_steps (c : Top K mg) : ∃ fd, FunD K "check_steps" "Desk.check_steps" (defArgs s_Desk_check_steps) (defBody s_Desk_check_steps) (defScope s_Desk_check_steps) [] [] (He.fAd K ("Desk", some "check_steps")) fd := c.says.def_ 72 (d := d_Desk_check_steps) rfl
theorem Top.f_Desk_is_closed (c : Top K mg) : ∃ fd, FunD K "is_closed" "Desk.is_closed" (defArgs s_Desk_is_closed) (defBody s_Desk_is_closed) (defScope s_Desk_is_closed) [] [] (He.fAd K ("Desk", some "is_closed")) fd := c.says.def_ 73 (d := d_Desk_is_closed) rfl
theorem Top.f_Desk_tell_sufficient (c : Top K mg) : ∃ fd, FunD K "tell_sufficient" "Desk.tell_sufficient" (defArgs s_Desk_tell_sufficient) (defBody s_Desk_tell_sufficient) (defScope s_Desk_tell_sufficient) [] [] (He.fAd K ("Desk", some "tell_sufficient")) fd := c.says.def_ 74 (d := d_Desk_tell_sufficient) rfl
theorem Top.f_Desk_tell_blocking (c : Top K mg) : ∃ fd, FunD K "tell_blocking" "Desk.tell_blocking" (defArgs s_Desk_tell_blocking) (defBody s_Desk_tell_blocking) (defScope s_Desk_tell_blocking) [] [] (He.fAd K ("Desk", some "tell_blocking")) fd := c.says.def_ 75 (d := d_Desk_tell_blocking) rfl
theorem Top.f_Desk_minimal_sufficient (c : Top K mg) : ∃ fd, FunD K "minimal_sufficient" "Desk.minimal_sufficient" (defArgs s_Desk_minimal_sufficient) (defBody s_Desk_minimal_sufficient) (defScope s_Desk_minimal_sufficient) [] [] (He.fAd K ("Desk", some "minimal_sufficient")) fd := c.says.def_ 76 (d := d_Desk_minimal_sufficient) rfl
theorem Top.f_Desk_minimal_blocking (c : Top K mg) : ∃ fd, FunD K "minimal_blocking" "Desk.minimal_blocking" (defArgs s_Desk_minimal_blocking) (defBody s_Desk_minimal_blocking) (defScope s_Desk_minimal_blocking) [] [] (He.fAd K ("Desk", some "minimal_blocking")) fd := c.says.def_ 77 (d := d_Desk_minimal_blocking) rfl
theorem Top.f_Desk_cheapest (c : Top K mg) : ∃ fd, FunD K "cheapest" "Desk.cheapest" (defArgs s_Desk_cheapest) (defBody s_Desk_cheapest) (defScope s_Desk_cheapest) [] [] (He.fAd K ("Desk", some "cheapest")) fd := c.says.def_ 78 (d := d_Desk_cheapest) rfl
theorem Top.f_Desk_verify_packing (c : Top K mg) : ∃ fd, FunD K "verify_packing" "Desk.verify_packing" (defArgs s_Desk_verify_packing) (defBody s_Desk_verify_packing) (defScope s_Desk_verify_packing) [] [] (He.fAd K ("Desk", some "verify_packing")) fd := c.says.def_ 79 (d := d_Desk_verify_packing) rfl
theorem Top.f_Desk_minimal_returns (c : Top K mg) : ∃ fd, FunD K "minimal_returns" "Desk.minimal_returns" (defArgs s_Desk_minimal_returns) (defBody s_Desk_minimal_returns) (defScope s_Desk_minimal_returns) [] [] (He.fAd K ("Desk", some "minimal_returns")) fd := c.says.def_ 80 (d := d_Desk_minimal_returns) rfl
theorem Top.f_Desk_swing_count (c : Top K mg) : ∃ fd, FunD K "swing_count" "Desk.swing_count" (defArgs s_Desk_swing_count) (defBody s_Desk_swing_count) (defScope s_Desk_swing_count) [] [] (He.fAd K ("Desk", some "swing_count")) fd := c.says.def_ 81 (d := d_Desk_swing_count) rfl
theorem Top.f_Desk_power_index (c : Top K mg) : ∃ fd, FunD K "power_index" "Desk.power_index" (defArgs s_Desk_power_index) (defBody s_Desk_power_index) (defScope s_Desk_power_index) [] [] (He.fAd K ("Desk", some "power_index")) fd := c.says.def_ 82 (d := d_Desk_power_index) rfl
theorem Top.f_Desk_continuation (c : Top K mg) : ∃ fd, FunD K "continuation" "Desk.continuation" (defArgs s_Desk_continuation) (defBody s_Desk_continuation) (defScope s_Desk_continuation) [] [] (He.fAd K ("Desk", some "continuation")) fd := c.says.def_ 83 (d := d_Desk_continuation) rfl
theorem Top.f_Desk_sufficient_counts (c : Top K mg) : ∃ fd, FunD K "sufficient_counts" "Desk.sufficient_counts" (defArgs s_Desk_sufficient_counts) (defBody s_Desk_sufficient_counts) (defScope s_Desk_sufficient_counts) [] [] (He.fAd K ("Desk", some "sufficient_counts")) fd := c.says.def_ 84 (d := d_Desk_sufficient_counts) rfl
theorem Top.f_Desk_remove_rule (c : Top K mg) : ∃ fd, FunD K "remove_rule" "Desk.remove_rule" (defArgs s_Desk_remove_rule) (defBody s_Desk_remove_rule) (defScope s_Desk_remove_rule) [] [] (He.fAd K ("Desk", some "remove_rule")) fd := c.says.def_ 85 (d := d_Desk_remove_rule) rfl
theorem Top.f_Desk_set_weight (c : Top K mg) : ∃ fd, FunD K "set_weight" "Desk.set_weight" (defArgs s_Desk_set_weight) (defBody s_Desk_set_weight) (defScope s_Desk_set_weight) [] [] (He.fAd K ("Desk", some "set_weight")) fd := c.says.def_ 86 (d := d_Desk_set_weight) rfl
theorem Top.f_Desk_print_room (c : Top K mg) : ∃ fd, FunD K "print_room" "Desk.print_room" (defArgs s_Desk_print_room) (defBody s_Desk_print_room) (defScope s_Desk_print_room) [] [] (He.fAd K ("Desk", some "print_room")) fd := c.says.def_ 87 (d := d_Desk_print_room) rfl
theorem Top.f_Desk_summary (c : Top K mg) : ∃ fd, FunD K "summary" "Desk.summary" (defArgs s_Desk_summary) (defBody s_Desk_summary) (defScope s_Desk_summary) [] [] (He.fAd K ("Desk", some "summary")) fd := c.says.def_ 88 (d := d_Desk_summary) rfl
theorem Top.f_Desk_fields (c : Top K mg) : ∃ fd, FunD K "fields" "Desk.fields" (defArgs s_Desk_fields) (defBody s_Desk_fields) (defScope s_Desk_fields) [] [] (He.fAd K ("Desk", some "fields")) fd := c.says.def_ 89 (d := d_Desk_fields) rfl
theorem Top.f_Desk_fields_with_row (c : Top K mg) : ∃ fd, FunD K "fields_with_row" "Desk.fields_with_row" (defArgs s_Desk_fields_with_row) (defBody s_Desk_fields_with_row) (defScope s_Desk_fields_with_row) [] [] (He.fAd K ("Desk", some "fields_with_row")) fd := c.says.def_ 90 (d := d_Desk_fields_with_row) rfl
theorem Top.f_Desk_fields_of_room (c : Top K mg) : ∃ fd, FunD K "fields_of_room" "Desk.fields_of_room" (defArgs s_Desk_fields_of_room) (defBody s_Desk_fields_of_room) (defScope s_Desk_fields_of_room) [] [] (He.fAd K ("Desk", some "fields_of_room")) fd := c.says.def_ 91 (d := d_Desk_fields_of_room) rfl
theorem Top.f_Desk_fields_by_two (c : Top K mg) : ∃ fd, FunD K "fields_by_two" "Desk.fields_by_two" (defArgs s_Desk_fields_by_two) (defBody s_Desk_fields_by_two) (defScope s_Desk_fields_by_two) [] [] (He.fAd K ("Desk", some "fields_by_two")) fd := c.says.def_ 92 (d := d_Desk_fields_by_two) rfl
theorem Top.f_Desk_fields_by_one (c : Top K mg) : ∃ fd, FunD K "fields_by_one" "Desk.fields_by_one" (defArgs s_Desk_fields_by_one) (defBody s_Desk_fields_by_one) (defScope s_Desk_fields_by_one) [] [] (He.fAd K ("Desk", some "fields_by_one")) fd := c.says.def_ 93 (d := d_Desk_fields_by_one) rfl
theorem Top.f_read_calls (c : Top K mg) : ∃ fd, FunD K "read_calls" "read_calls" (defArgs s_read_calls) (defBody s_read_calls) (defScope s_read_calls) [] [] (He.fAd K ("read_calls", none)) fd := c.says.def_ 94 (d := d_read_calls) rfl
theorem Top.f_answer_of (c : Top K mg) : ∃ fd, FunD K "answer_of" "answer_of" (defArgs s_answer_of) (defBody s_answer_of) (defScope s_answer_of) [] [] (He.fAd K ("answer_of", none)) fd := c.says.def_ 95 (d := d_answer_of) rfl
theorem Top.f_answers (c : Top K mg) : ∃ fd, FunD K "answers" "answers" (defArgs s_answers) (defBody s_answers) (defScope s_answers) [] [] (He.fAd K ("answers", none)) fd := c.says.def_ 96 (d := d_answers) rfl
theorem Top.ex0 (c : Top K mg) : oexB K "Refused" = true := by
  have h := c.ex
  unfold exB at h
  simp only [Bool.and_eq_true] at h
  exact h.1
theorem Top.ex1 (c : Top K mg) : oexB K "BadText" = true := by
  have h := c.ex
  unfold exB at h
  simp only [Bool.and_eq_true] at h
  exact h.2.1
theorem Top.ex2 (c : Top K mg) : He.tupB K "PLACES" tv_PLACES = true := by
  have h := c.ex
  unfold exB at h
  simp only [Bool.and_eq_true] at h
  exact h.2.2.1
theorem Top.ex3 (c : Top K mg) : He.tupB K "RESERVED" tv_RESERVED = true := by
  have h := c.ex
  unfold exB at h
  simp only [Bool.and_eq_true] at h
  exact h.2.2.2.1
theorem Top.ex4 (c : Top K mg) : He.tupB K "NUMBERS" tv_NUMBERS = true := by
  have h := c.ex
  unfold exB at h
  simp only [Bool.and_eq_true] at h
  exact h.2.2.2.2.1
theorem Top.ex5 (c : Top K mg) : He.tupB K "WITH_ROW" tv_WITH_ROW = true := by
  have h := c.ex
  unfold exB at h
  simp only [Bool.and_eq_true] at h
  exact h.2.2.2.2.2
theorem Top.tup_PLACES (c : Top K mg) (H : Hp) : SqT K H (He.ga K "PLACES") (tv_PLACES.map (He.Dv.v K)) := He.tupB_ok c.ex2 H
theorem Top.tup_RESERVED (c : Top K mg) (H : Hp) : SqT K H (He.ga K "RESERVED") (tv_RESERVED.map (He.Dv.v K)) := He.tupB_ok c.ex3 H
theorem Top.tup_NUMBERS (c : Top K mg) (H : Hp) : SqT K H (He.ga K "NUMBERS") (tv_NUMBERS.map (He.Dv.v K)) := He.tupB_ok c.ex4 H
theorem Top.tup_WITH_ROW (c : Top K mg) (H : Hp) : SqT K H (He.ga K "WITH_ROW") (tv_WITH_ROW.map (He.Dv.v K)) := He.tupB_ok c.ex5 H
end
end Gs

set_option Elab.async false
set_option linter.all false
set_option maxRecDepth 100000
set_option maxHeartbeats 0
namespace Gs
open PySem PySem.Spec PyProof.Rows L2
open PySem.W
abbrev PP : Program := PySem.Challenge.rw_standins_s01_answers.prog
abbrev qv : Program := view PP [81]
def nm0 : List PySem.Str := ["MOST_PLAYERS", "MOST_RULES", "GREATEST_WEIGHT", "PLACES", "Player", "Rule", "is_member", "with_member", "Room", "members_of", "minimal_ones", "blocking_table", "returns_table", "swings_of", "counts_by_members", "OUT_OF_RANGE", "NO_ROOM", "BAD_TEXT", "NOT_THERE", "Refused", "need", "need_between", "divisor", "lowest", "power_of", "factorial", "index_of", "probability_of", "NEWLINE", "SPACE"]
def nm1 : List PySem.Str := ["ZERO", "LONGEST_NAME", "MOST_DIGITS", "RESERVED", "Token", "signs_of", "lines_of", "is_letter", "is_digit", "is_word", "is_name", "is_number", "number_of", "BAD_TOKEN", "BAD_NUMBER", "THERE_ALREADY", "UNKNOWN_NAME", "TOO_GREAT", "TOO_MANY", "NO_PLAYER", "ABSENT_NAME", "BadText", "check", "Reader", "room_of", "written", "number_signs", "rule_words", "canonical", "MOST_BYTES"]
def nm2 : List PySem.Str := ["GREATEST_BYTE", "GREATEST_COALITION", "MOST_IN_LIST", "GREATEST_IN_PACKING", "MOST_PARTS", "NUMBERS", "WITH_ROW", "Call", "need_text", "need_pairs", "pairs_of", "told", "Desk", "read_calls", "answer_of"]
def names : List PySem.Str := nm0 ++ nm1 ++ nm2
/-- the objects of a dict, of a function, of a class that are looked at -/
def dictA (g : Addr → Option Obj) (a : Addr) : List Addr := match g a with
  | some ⟨_, _, .dict es _, _⟩ => es.toList.flatMap fun e => He.refV e.val
  | _ => []
def partA (g : Addr → Option Obj) (a : Addr) : List Addr := match g a with
  | some ⟨_, _, .func fd, _⟩ => He.refV fd.code
  | some ⟨_, _, .cls cd, _⟩ => [cd.ns]
  | _ => []
def force (l : List Addr) (k : List Addr → List Addr) : List Addr := match l with
  | [] => k []
  | a :: r => HandSHeadRun.frNat a fun a => force r fun r => k (a :: r)
def asL (g : Addr → Option Obj) : List Addr := force (dictA g mainGlobals) fun l1 => force (l1.flatMap (partA g)) fun l2 => force (l2.flatMap (dictA g)) fun l3 => force (l3.flatMap (partA g)) fun l4 => mainGlobals :: (l1 ++ l2 ++ l3 ++ l4)
abbrev AlG : Type := He.AlD × Bool
def obG (g : Addr → Option Obj) : AlG := (He.obsD fa fn (He.frG g (asL g)), exB (He.frG g (asL g)))
def hk : PySem.W.Hook where
  α := AlG
  obs := fun s => obG s.heap.get?
  val := fun _ => (He.valD fn, true)
  says := fun _ h => ∃ K : PySem.W.Frag, K.In h ∧ He.SaysD fa fn K ∧ exB K = true
  of := fun _ _ e => ⟨_, He.frG_in, congrArg (fun z : AlG => z.1) e, congrArg (fun z : AlG => z.2) e⟩
  keeps := fun _ _ _ ⟨K, hK, c⟩ k => ⟨K, PySem.W.Frag.In.keeps hK k, c⟩
def ob (s : PySem.W.SharedT) : AlG := obG (HandSHeadRun.getT s)
theorem ob_eq (s : PySem.W.SharedT) : ob s = hk.obs s.abs := by
  have e : HandSHeadRun.getT s = s.abs.heap.get? := funext (HandSHeadRun.getT_eq s)
  unfold ob
  rw [e]
  rfl

theorem run (w : World) (os : OsState) : (HandSHeadRun.endF (HandSHeadRun.stepQ (HandSHeadRun.denQ HandSHeadRun.tabQ) PP w) 30000 PP w os).map (fun s => (HandSHeadRun.looksF PP (boot_heap w.params) s.abs, HandSHeadRun.seenQ qv names (importedModules PP.main.body) (fun s => xlAt qv [] s && recOk [] s) s.abs, ob s)) = some (true, openGood qv names, hk.val w) := by
  kernel_rfl
end Gs

set_option Elab.async false
set_option linter.all false
set_option maxRecDepth 100000
set_option maxHeartbeats 4000000
/-! Words for all walks: a def that keeps a promise by its name, what expressions evaluate to. -/
namespace Gs
open PySem PySem.Spec PyProof.Rows L2 Evl
abbrev vI (n : Nat) : V := .int (n : Int)
def vN (l : List Nat) : List V := l.map vI
def vB (l : List Bool) : List V := l.map V.bl
theorem vN_len (l : List Nat) : (vN l).length = l.length := List.length_map _
theorem vB_len (l : List Bool) : (vB l).length = l.length := List.length_map _
theorem vN_at {l : List Nat} {i n : Nat} (h : l[i]? = some n) : (vN l)[i]? = some (vI n) := by
  unfold vN
  rw [List.getElem?_map, h]
  rfl
theorem vB_at {l : List Bool} {i : Nat} {b : Bool} (h : l[i]? = some b) : (vB l)[i]? = some (.bl b) := by
  unfold vB
  rw [List.getElem?_map, h]
  rfl
theorem vN_of {l : List Nat} {i : Nat} {x : V} (h : (vN l)[i]? = some x) : ∃ n, l[i]? = some n ∧ x = vI n := by
  unfold vN at h
  rw [List.getElem?_map] at h
  cases e : l[i]? with
  | none =>
    rw [e] at h
    cases h
  | some n =>
    rw [e] at h
    exact ⟨n, rfl, (Option.some.inj h).symm⟩
theorem vB_of {l : List Bool} {i : Nat} {x : V} (h : (vB l)[i]? = some x) : ∃ n, l[i]? = some n ∧ x = .bl n := by
  unfold vB at h
  rw [List.getElem?_map] at h
  cases e : l[i]? with
  | none =>
    rw [e] at h
    cases h
  | some n =>
    rw [e] at h
    exact ⟨n, rfl, (Option.some.inj h).symm⟩
theorem vN_app (l m : List Nat) : vN (l ++ m) = vN l ++ vN m := List.map_append ..
theorem vN_ints (l : List Nat) : vN l = (l.map fun (n : Nat) => (n : Int)).map V.int := by
  unfold vN
  rw [List.map_map]
  rfl
/-! ### a def keeps its promise -/
section
variable {P : Program} {w : World} {K : PySem.W.Frag} {mg : Str → Option Value} {base : Heap} {CX : CXT} {k : Nat} {sp : Sp} {N ps : List Str} {x qual : Str} {pa : Arguments} {bo : List Stmt} {sc : Scope} {wh : Str × Option Str}
def FOk (P : Program) (w : World) (K : PySem.W.Frag) (mg : Str → Option Value) (base : Heap) (CX : CXT) (k : Nat) (wh : Str × Option Str) (ps : List Str) (sp : Sp) : Prop :=
  ∃ fd, Binds K fd ps [] ∧ PySem.W.keepIn K (.ref (He.fAd K wh)) = true ∧ FnOk P w K mg base CX k (He.fAd K wh) fd ps sp
theorem FOk.mk (F : ∃ fd, FunD K x qual pa bo sc [] [] (He.fAd K wh) fd) (S : FnScope N ps sc)
    (hb : ∀ (kV doc pm : Value) (an : Option Addr) (cdv ct : Value) (us : List Value), us.length = ps.length → bindArgs (PySem.W.fnOf x qual pa bo sc .none kV doc pm an cdv ct) ⟨us, []⟩ = pure (ps.zip us))
    (len : ∀ vs H Q E, sp vs H Q E → vs.length = ps.length)
    (body : ∀ (cdv : Value) (A : Around) (outer : List Env) (s : Shared) (H : Hp) (vs : List V) (Q : VK) (E : XK), Room k (A.deeper (envOfC qual sc s.heap.objs.size (He.fAd K wh) cdv)) → sp vs H Q E →
      ∃ t, PSs (cxOf CX P w K mg base N qual sc (He.fAd K wh) cdv A outer s H E) bo t ∧ t { nx := fun _ H' => Q .non H', rt := Q } (start N vs) H) : FOk P w K mg base CX (k + 1) wh ps sp := by
  obtain ⟨fd, F⟩ := F
  exact ⟨fd, F.bindsN hb, F.kp, F.ok S len body⟩
theorem FOk.mk0 (F : ∃ fd, FunD K x qual pa bo sc [] [] (He.fAd K wh) fd) (S : FnScope N ps sc)
    (hb : ∀ (kV doc pm : Value) (an : Option Addr) (cdv ct : Value) (us : List Value), us.length = ps.length → bindArgs (PySem.W.fnOf x qual pa bo sc .none kV doc pm an cdv ct) ⟨us, []⟩ = pure (ps.zip us))
    (len : ∀ vs H Q E, sp vs H Q E → vs.length = ps.length)
    (body : ∀ (cdv : Value) (A : Around) (outer : List Env) (s : Shared) (H : Hp) (vs : List V) (Q : VK) (E : XK), Room k (A.deeper (envOfC qual sc s.heap.objs.size (He.fAd K wh) cdv)) → sp vs H Q E →
      ∃ t, PSs (cxOf CX0 P w K mg base N qual sc (He.fAd K wh) cdv A outer s H E).nox bo t ∧ t { nx := fun _ H' => Q .non H', rt := Q } (start N vs) H) : FOk P w K mg base CX0 (k + 1) wh ps sp :=
  FOk.mk F S hb len fun cdv A outer s H vs Q E hr h => by
    obtain ⟨t, h1, h2⟩ := body cdv A outer s H vs Q E hr h
    exact ⟨t, h1.nox, h2⟩
theorem FOk.up {j : Nat} (F : FOk P w K mg base CX k wh ps sp) (h : k ≤ j) : FOk P w K mg base CX j wh ps sp := by
  obtain ⟨fd, b, kp, G⟩ := F
  exact ⟨fd, b, kp, G.mono h⟩
end
section
variable {X : Cx} {CX : CXT} {k : Nat} {ps : List Str} {sp : Sp} {E : XK} {x m C : Str} {p pos apos : Pos} {e o : Expr} {es : List Expr} {ta : TE} {t : TA}
theorem pe_cf (F : FOk X.prog X.w X.K X.mg X.base CX k (x, none) ps sp) (hr : Room k X.A) (hm : X.mg x = some (.ref (He.ga X.K x))) (hx : Passes CX X E) (ha : PA X (e :: es) t) (hg : Gl X x := by rfl)
    (hdb : (x == ("__debug__" : Str)) = false := by decide) (he : starEach (e :: es) X.env = (false, eval e X.env) :: starEach es X.env := by rfl) (hpl : (backTo pos (starEach es X.env)).any (·.1) = false := by rfl) :
    PE X (.Call (.Name x p) (e :: es) [] pos) (tCall sp [] E t) := by
  obtain ⟨fd, b, kp, G⟩ := F
  exact pe_call G hr hg hm kp b .nil hx ha hdb he hpl
theorem pe_cf0 (F : FOk X.prog X.w X.K X.mg X.base CX k (x, none) ps sp) (hr : Room k X.A) (hm : X.mg x = some (.ref (He.ga X.K x))) (hx : Passes CX X E) (hg : Gl X x := by rfl)
    (hdb : (x == ("__debug__" : Str)) = false := by decide) : PE X (.Call (.Name x p) [] [] pos) (tCall sp [] E tNil) := by
  obtain ⟨fd, b, kp, G⟩ := F
  exact pe_call0 G hr hg hm kp b .nil hx hdb
theorem pe_mf {pl : Sem Bool} {CA f : Addr} (F : FOk X.prog X.w X.K X.mg X.base CX k (C, some m) ps sp) (hr : Room k X.A) (c : Cls X.K CA) (hm : Meth X.K CA m f) (hx : Passes CX X E) (he : PE X o ta) (ha : PA X (e :: es) t) (hf : f = He.fAd X.K (C, some m) := by rfl)
    (hst : starEach (e :: es) X.env = (false, eval e X.env) :: starEach es X.env := by rfl) (hpl : (backTo pos (starEach es X.env)).any (·.1) = false := by rfl)
    (ht : eval (.Call (.Attribute o m apos) (e :: es) [] pos) X.env = (do
      let ov ← eval o X.env
      standAt apos.atName
      let (f, first) ← holding [ov] (getMethod ov m pl)
      callWith pos f first (backTo pos (starEach (e :: es) X.env)) (backToKw pos (keywordEach [] X.env))) := by rfl) :
    PE X (.Call (.Attribute o m apos) (e :: es) [] pos) (tMeth CA m sp [] E ta t) := by
  obtain ⟨fd, b, kp, G⟩ := F
  subst hf
  exact pe_meth he c hm G hr b .nil hx ha hst hpl ht
theorem pe_mf0 {pl : Sem Bool} {CA f : Addr} (F : FOk X.prog X.w X.K X.mg X.base CX k (C, some m) ps sp) (hr : Room k X.A) (c : Cls X.K CA) (hm : Meth X.K CA m f) (hx : Passes CX X E) (he : PE X o ta) (hf : f = He.fAd X.K (C, some m) := by rfl)
    (ht : eval (.Call (.Attribute o m apos) [] [] pos) X.env = (do
      let ov ← eval o X.env
      standAt apos.atName
      let (f, first) ← holding [ov] (getMethod ov m pl)
      callWith pos f first (backTo pos (starEach [] X.env)) (backToKw pos (keywordEach [] X.env))) := by rfl) :
    PE X (.Call (.Attribute o m apos) [] [] pos) (tMeth CA m sp [] E ta tNil) := by
  obtain ⟨fd, b, kp, G⟩ := F
  subst hf
  exact pe_meth0 he c hm G hr b .nil hx ht
theorem pe_mk (F : FOk X.prog X.w X.K X.mg X.base CX k (x, some "__init__") ps sp) (M : Mk X.K (He.ga X.K x) (He.ma X.K (He.ga X.K x) "__init__")) (hr : Room (k + 1) X.A) (hm : X.mg x = some (.ref (He.ga X.K x))) (hx : Passes CX X E) (ha : PA X (e :: es) t) (hg : Gl X x := by rfl)
    (hdb : (x == ("__debug__" : Str)) = false := by decide) (he : starEach (e :: es) X.env = (false, eval e X.env) :: starEach es X.env := by rfl) (hpl : (backTo pos (starEach es X.env)).any (·.1) = false := by rfl) :
    PE X (.Call (.Name x p) (e :: es) [] pos) (tMake (He.ga X.K x) sp [] E t) := by
  obtain ⟨fd, b, kp, G⟩ := F
  exact pe_make M G hr hg hm b .nil hx ha hdb he hpl
theorem pe_mk0 (F : FOk X.prog X.w X.K X.mg X.base CX k (x, some "__init__") ps sp) (M : Mk X.K (He.ga X.K x) (He.ma X.K (He.ga X.K x) "__init__")) (hr : Room (k + 1) X.A) (hm : X.mg x = some (.ref (He.ga X.K x))) (hx : Passes CX X E) (hg : Gl X x := by rfl)
    (hdb : (x == ("__debug__" : Str)) = false := by decide) : PE X (.Call (.Name x p) [] [] pos) (tMake (He.ga X.K x) sp [] E tNil) := by
  obtain ⟨fd, b, kp, G⟩ := F
  exact pe_make0 M G hr hg hm b .nil hx hdb
theorem pe_fldK {K : PySem.W.Frag} {f : Str} (he : PE X e ta') (hK : X.K = K := by rfl) (hb : attributeBase e f X.env (eval e X.env) = eval e X.env := by rfl) : PE X (.Attribute e f pos) (tFld K ta' f) := by
  subst hK
  exact pe_fld he hb
theorem pe_gi {x : Str} {i : Int} {pos : Pos} (h : ∃ t, X.mg x = some (.int i t)) (hg : Gl X x := by rfl) (hd : (x == ("__debug__" : Str)) = false := by decide) : PE X (.Name x pos) (tC (.int i)) := by
  obtain ⟨t, h⟩ := h
  exact pe_glob hg h ⟨t, rfl⟩ hd
theorem pe_gr {x : Str} {a : Addr} {pos : Pos} (h : X.mg x = some (.ref a)) (hg : Gl X x := by rfl) (hd : (x == ("__debug__" : Str)) = false := by decide) : PE X (.Name x pos) (tC (.ref a)) := pe_glob hg h rfl hd
/-- the same rules, K a letter (within a comprehension) -/
theorem ixl {K : PySem.W.Frag} (hK : X.K = K := by rfl) : IxR X (rIxL K) := by
  subst hK
  exact ix_list
theorem ixt {K : PySem.W.Frag} (hK : X.K = K := by rfl) : IxR X (rIxT K) := by
  subst hK
  exact ix_tup
theorem call_lenK {K : PySem.W.Frag} (hK : X.K = K := by rfl) : CallR X (.builtin "len") (rLenS K) := by
  subst hK
  exact call_len_seq
end
/-! ### what evaluates to what -/
section
variable {K : PySem.W.Frag} {σ : L2.St} {H H' : Hp} {ta tb te tx : TE} {t u : TT} {x y z v : V} {r : R2} {a C dx : Addr} {fs : List (Str × V)} {f : Str}
theorem ev_fld (h : Ev ta σ H (.ref a)) (ho : H a = some (.ins C dx fs)) (c : Cls K C) (n : NoAttr K C f) (l : fs.lookup f = some v) : Ev (tFld K ta f) σ H v := fun H1 e Q q =>
  h H1 e _ fun H2 e2 => ⟨a, C, dx, fs, v, rfl, e2 _ _ (e _ _ ho), c, n, l, q H2 e2⟩
theorem ev_meth {sp : Sp} {E : XK} {m : Str} {t : TA} {vs : List V} (h : Ev ta σ H (.ref a)) (ho : H a = some (.ins C dx fs)) (l : fs.lookup m = none) (ha : EvA t σ H vs) (hs : SpV sp (.ref a :: (vs ++ [])) H z) : Ev (tMeth C m sp [] E ta t) σ H z := fun H1 e Q q =>
  h H1 e _ fun H2 e2 => ⟨a, dx, fs, rfl, e2 _ _ (e _ _ ho), l, ha H2 (e.trans e2) _ fun H3 e3 => hs H3 ((e.trans e2).trans e3) Q (fun H4 e4 => q H4 ((e2.trans e3).trans e4)) E⟩
theorem el_meth {sp : Sp} {E : XK} {m : Str} {t : TA} {vs xs : List V} (h : Ev ta σ H (.ref a)) (ho : H a = some (.ins C dx fs)) (l : fs.lookup m = none) (ha : EvA t σ H vs) (hs : SpL sp (.ref a :: (vs ++ [])) H xs) : EvL (tMeth C m sp [] E ta t) σ H xs := fun H1 e Q q =>
  h H1 e _ fun H2 e2 => ⟨a, dx, fs, rfl, e2 _ _ (e _ _ ho), l, ha H2 (e.trans e2) _ fun H3 e3 => hs H3 ((e.trans e2).trans e3) Q (fun p H4 hp e4 h4 => q p H4 (fresh_back (e2.trans e3) hp) ((e2.trans e3).trans e4) h4) E⟩
theorem ev_cf {sp : Sp} {E : XK} {ta : TA} {vs : List V} (h : EvA ta σ H vs) (hs : SpV sp (vs ++ []) H z) : Ev (tCall sp [] E ta) σ H z := ev_call h hs
/-- ints: // and % by what is written, comparisons -/
theorem cdivN {i : Int} {j : Nat} (h0 : 0 < j) (h : j < 1073741824) : CDivN i (j : Int) := ⟨by omega, by omega⟩
theorem lookup_hit {k : Str} {v : V} {r : List (Str × V)} : List.lookup k ((k, v) :: r) = some v := by simp [List.lookup]
theorem lookup_miss {k g : Str} {v : V} {r : List (Str × V)} (h : (k == g) = false) : List.lookup k ((g, v) :: r) = List.lookup k r := by simp only [List.lookup, h]
/-- a test that is a call's value, a comparison's value -/
theorem et_v {b : Bool} (h : Ev te σ H (.bl b)) : EvT (tTest te) σ H b := et_test h
theorem ev_len_any {p : Addr} {xs : List V} (ha : Ev ta σ H (.ref p)) (h : H p = some (.lst xs)) : Ev (tCB (rLenS K) (tCons ta tNil)) σ H (.int (xs.length : Int)) := ev_len ha (sq_of h)
end
/-! ### a comprehension over anything that is walked -/
section
variable {J : It} {n : Nat} {G : Hp → Prop} {Y : Nat → Hp → V → Hp → Prop} {wi : TI} {g : TG} {t : TT} {te : TE} {σ : L2.St} {H : Hp} {vs : List Nat}
theorem el_lcW (f : Nat → Bool) (v : Nat → V) (σ' : Nat → L2.St) (w : Walk J n G Y) (hwi : ∀ H1, Ex H H1 → ∀ R : It → Hp → Prop, (∀ H2, Ex H1 H2 → R J H2) → wi σ H1 R) (hG : ∀ H1, Ex H H1 → G H1) (hn : n ≤ 40000)
    (hw : ∀ i, i < n → wipe (σ' i) vs = wipe σ vs)
    (turn : ∀ i x H1 H2, i < n → Ex H H1 → Y i H1 x H2 → Ex H1 H2 ∧ ∀ R : L2.St → Hp → Prop, R (σ' i) H2 → g x (wipe σ vs) H2 R)
    (ht : ∀ i H1, i < n → Ex H H1 → EvT t (σ' i) H1 (f i)) (he : ∀ i H1, i < n → Ex H H1 → f i = true → Ev te (σ' i) H1 (v i)) :
    EvL (tLc wi g t te vs) σ H (given n f v) := fun H0 e Q q => hwi H0 e _ fun H1 e1 D hD =>
  lc_it w (Cw H1 f v D) ⟨hD, Ex.new hD, upd_same⟩ (fun i H' _ p => hG H' ((e.trans e1).trans p.2.1)) (fun i x Ha Hb hi p y => by
    obtain ⟨ex, hR⟩ := turn i x Ha Hb hi ((e.trans e1).trans p.2.1) y
    refine hR _ ⟨hw i hi, ?_⟩
    have p2 : Cw H1 f v D i Hb := ⟨p.1, p.2.1.trans ex, ex _ _ p.2.2⟩
    exact cw_turn p2 (by omega) (ht i H1 hi (e.trans e1)) fun hf => he i H1 hi (e.trans e1) hf) fun H' p => q D H' (fresh_back e1 p.1) (e1.trans p.2.1) p.2.2
end
section
variable {K : PySem.W.Frag} {g : TG} {t : TT} {te tl : TE} {ta : TA} {σ : L2.St} {H : Hp} {vs : List Nat} {a : Addr} {xs : List V}
/-- target a, b of a new pair -/
theorem g_pair {T : Addr} {x y : V} {i j : Nat} {σ0 : L2.St} {H2 : Hp} {R : L2.St → Hp → Prop} (hT : SqT K H2 T [x, y]) (q : R ((σ0.set i (some x)).set j (some y)) H2) : gTup K 2 (gCons (gName i) (gCons (gName j) gNil)) (.ref T) σ0 H2 R :=
  ⟨T, [x, y], rfl, hT, rfl, x, [y], rfl, y, [], rfl, rfl, q⟩
theorem given_all {n : Nat} {v : Nat → V} : given n (fun _ => true) v = (List.range n).map v := by
  unfold given
  rw [List.filter_eq_self.mpr (fun _ _ => rfl)]
end
end Gs

set_option Elab.async false
set_option linter.all false
set_option maxRecDepth 100000
set_option maxHeartbeats 4000000
/-! Walks: members, rules. -/
namespace Gs
open PySem PySem.Spec PyProof.Rows L2 Evl
/-! ### what lies in the heap -/
def plF (n : Addr) (w : Nat) : List (Str × V) := [("name", .ref n), ("weight", vI w)]
def ruF (a r : Nat) (s : Addr) : List (Str × V) := [("absent", vI a), ("required", vI r), ("substitutes", .ref s)]
def rmF (p r : Addr) : List (Str × V) := [("players", .ref p), ("rules", .ref r)]
theorem plF_name (n : Addr) (w : Nat) : (plF n w).lookup ("name" : Str) = some (.ref n) := lookup_hit
theorem plF_weight (n : Addr) (w : Nat) : (plF n w).lookup ("weight" : Str) = some (vI w) := (lookup_miss (by decide +kernel)).trans lookup_hit
theorem ruF_absent (a r : Nat) (s : Addr) : (ruF a r s).lookup ("absent" : Str) = some (vI a) := lookup_hit
theorem ruF_required (a r : Nat) (s : Addr) : (ruF a r s).lookup ("required" : Str) = some (vI r) := (lookup_miss (by decide +kernel)).trans lookup_hit
theorem ruF_substitutes (a r : Nat) (s : Addr) : (ruF a r s).lookup ("substitutes" : Str) = some (.ref s) := (lookup_miss (by decide +kernel)).trans ((lookup_miss (by decide +kernel)).trans lookup_hit)
theorem rmF_players (p r : Addr) : (rmF p r).lookup ("players" : Str) = some (.ref p) := lookup_hit
theorem rmF_rules (p r : Addr) : (rmF p r).lookup ("rules" : Str) = some (.ref r) := (lookup_miss (by decide +kernel)).trans lookup_hit
theorem ruF_none (a r : Nat) (s : Addr) {m : Str} (h1 : (m == ("absent" : Str)) = false) (h2 : (m == ("required" : Str)) = false) (h3 : (m == ("substitutes" : Str)) = false) : (ruF a r s).lookup m = none :=
  (lookup_miss h1).trans ((lookup_miss h2).trans ((lookup_miss h3).trans rfl))
theorem rmF_none (p r : Addr) {m : Str} (h1 : (m == ("players" : Str)) = false) (h2 : (m == ("rules" : Str)) = false) : (rmF p r).lookup m = none := (lookup_miss h1).trans ((lookup_miss h2).trans rfl)
/-- item by item -/
def EachAt {α : Type} (R : V → α → Prop) (vs : List V) (xs : List α) : Prop := vs.length = xs.length ∧ ∀ (i : Nat) (v : V) (x : α), vs[i]? = some v → xs[i]? = some x → R v x
theorem EachAt.imp {α : Type} {R R' : V → α → Prop} {vs : List V} {xs : List α} (h : EachAt R vs xs) (f : ∀ v x, R v x → R' v x) : EachAt R' vs xs := ⟨h.1, fun i v x a b => f v x (h.2 i v x a b)⟩
theorem EachAt.nil {α : Type} {R : V → α → Prop} : EachAt R [] ([] : List α) := ⟨rfl, fun i v x a _ => by simp at a⟩
theorem EachAt.get {α : Type} {R : V → α → Prop} {vs : List V} {xs : List α} (h : EachAt R vs xs) {i : Nat} {x : α} (hx : xs[i]? = some x) : ∃ v, vs[i]? = some v ∧ R v x := by
  have hi : i < xs.length := (List.getElem?_eq_some_iff.mp hx).1
  have hv : i < vs.length := by
    rw [h.1]
    exact hi
  exact ⟨vs[i], List.getElem?_eq_getElem hv, h.2 i _ x (List.getElem?_eq_getElem hv) hx⟩
theorem EachAt.of {α : Type} {R : V → α → Prop} {vs : List V} {xs : List α} (h : EachAt R vs xs) {i : Nat} {v : V} (hv : vs[i]? = some v) : ∃ x, xs[i]? = some x ∧ R v x := by
  have hi : i < vs.length := (List.getElem?_eq_some_iff.mp hv).1
  have hx : i < xs.length := by
    rw [← h.1]
    exact hi
  exact ⟨xs[i], List.getElem?_eq_getElem hx, h.2 i v _ hv (List.getElem?_eq_getElem hx)⟩
theorem EachAt.app {α : Type} {R : V → α → Prop} {vs ws : List V} {xs ys : List α} (h : EachAt R vs xs) (g : EachAt R ws ys) : EachAt R (vs ++ ws) (xs ++ ys) := by
  refine ⟨by rw [List.length_append, List.length_append, h.1, g.1], fun i v x a b => ?_⟩
  rw [List.getElem?_append] at a b
  by_cases hi : i < vs.length
  · rw [if_pos hi] at a
    rw [if_pos (by rw [← h.1]; exact hi)] at b
    exact h.2 i v x a b
  · rw [if_neg hi] at a
    rw [if_neg (by rw [← h.1]; exact hi), ← h.1] at b
    exact g.2 _ v x a b
theorem EachAt.one {α : Type} {R : V → α → Prop} {v : V} {x : α} (h : R v x) : EachAt R [v] [x] := ⟨rfl, fun i w y a b => by
  cases i with
  | zero =>
    cases a
    cases b
    exact h
  | succ i => simp at a⟩
section
variable (K : PySem.W.Frag) (F : Addr → Prop) (H : Hp)
def PlayerAt (v : V) (p : Vbndam.Player) : Prop := ∃ a dx n, v = .ref a ∧ H a = some (.ins (He.ga K "Player") dx (plF n p.weight)) ∧ H n = some (.lst (vN p.name)) ∧ F a ∧ ¬ F n
def RuleAt (v : V) (u : Vbndam.Rule) : Prop := ∃ a dx s, v = .ref a ∧ H a = some (.ins (He.ga K "Rule") dx (ruF u.absent u.required s)) ∧ H s = some (.lst (vN u.substitutes)) ∧ ¬ F a ∧ ¬ F s
/-- the lists of a room: players at ap, rules at ar -/
structure ListsAt (ap ar : Addr) (z : Vbndam.Room) : Prop where
  pl : ∃ ps, H ap = some (.lst ps) ∧ EachAt (PlayerAt K F H) ps z.players ∧ ps.Nodup
  ru : ∃ rs, H ar = some (.lst rs) ∧ EachAt (RuleAt K F H) rs z.rules
  ne : ap ≠ ar
  fp : F ap
  fr : F ar
def RoomAt (r : Addr) (z : Vbndam.Room) : Prop := ∃ dx ap ar, H r = some (.ins (He.ga K "Room") dx (rmF ap ar)) ∧ F r ∧ ListsAt K F H ap ar z
end
section
variable {K : PySem.W.Frag} {F : Addr → Prop} {H H' : Hp} {z : Vbndam.Room} {r ap ar : Addr} {v : V}
theorem PlayerAt.ex {p : Vbndam.Player} (h : PlayerAt K F H v p) (e : Ex H H') : PlayerAt K F H' v p := by
  obtain ⟨a, dx, n, rfl, h1, h2, h3⟩ := h
  exact ⟨a, dx, n, rfl, e _ _ h1, e _ _ h2, h3⟩
theorem RuleAt.ex {u : Vbndam.Rule} (h : RuleAt K F H v u) (e : Ex H H') : RuleAt K F H' v u := by
  obtain ⟨a, dx, n, rfl, h1, h2, h3⟩ := h
  exact ⟨a, dx, n, rfl, e _ _ h1, e _ _ h2, h3⟩
theorem ListsAt.ex (h : ListsAt K F H ap ar z) (e : Ex H H') : ListsAt K F H' ap ar z where
  pl := by
    obtain ⟨ps, h1, h2, h3⟩ := h.pl
    exact ⟨ps, e _ _ h1, h2.imp fun _ _ q => q.ex e, h3⟩
  ru := by
    obtain ⟨rs, h1, h2⟩ := h.ru
    exact ⟨rs, e _ _ h1, h2.imp fun _ _ q => q.ex e⟩
  ne := h.ne
  fp := h.fp
  fr := h.fr
theorem RoomAt.ex (h : RoomAt K F H r z) (e : Ex H H') : RoomAt K F H' r z := by
  obtain ⟨dx, ap, ar, h1, h2, h3⟩ := h
  exact ⟨dx, ap, ar, e _ _ h1, h2, h3.ex e⟩
end
/-! ### promises -/
def spIsMember : Sp := fun vs H Q _ => ∃ c p : Nat, vs = [vI c, vI p] ∧ p < 9 ∧ Q (.bl (Vbndam.isMember c p)) H
def spWithMember : Sp := fun vs H Q _ => ∃ c p : Nat, vs = [vI c, vI p] ∧ p < 9 ∧ Q (vI (addM c p)) H
def spEnabled (K : PySem.W.Frag) : Sp := fun vs H Q _ => ∃ (F : Addr → Prop) (r : V) (u : Vbndam.Rule) (c : Nat), vs = [r, vI c] ∧ RuleAt K F H r u ∧ (∀ p ∈ u.substitutes, p < 9) ∧ u.substitutes.length ≤ 100 ∧ ∀ H', Ex H H' → Q (.bl (Vbndam.isRuleEnabled c u)) H'
theorem places_at {K : PySem.W.Frag} {p : Nat} (h : p < 9) : atI (tv_PLACES.map (He.Dv.v K)) (p : Int) = some (vI (2 ^ p)) := by
  match p, h with
  | 0, _ => rfl
  | 1, _ => rfl
  | 2, _ => rfl
  | 3, _ => rfl
  | 4, _ => rfl
  | 5, _ => rfl
  | 6, _ => rfl
  | 7, _ => rfl
  | 8, _ => rfl
theorem pow9 {p : Nat} (h : p < 9) : 2 ^ p ≤ 256 := Nat.le_trans (Nat.pow_le_pow_right (by decide) (show p ≤ 8 by omega)) (by decide)
theorem filter_index (l : List Nat) (g : Nat → Bool) : ((List.range l.length).filter fun i => g (l.getD i 0)).length = (l.filter g).length := by
  induction l with
  | nil => rfl
  | cons x l ih =>
    have e : ((List.range l.length).map Nat.succ).filter (fun i => g ((x :: l).getD i 0)) = ((List.range l.length).filter fun i => g (l.getD i 0)).map Nat.succ := by
      rw [List.filter_map]
      rfl
    rw [List.length_cons, List.range_succ_eq_map, List.filter_cons, List.filter_cons, e]
    show (if g x = true then _ else _ : List Nat).length = _
    cases g x
    · rw [if_neg Bool.false_ne_true, if_neg Bool.false_ne_true, List.length_map, ih]
    · rw [if_pos rfl, if_pos rfl, List.length_cons, List.length_cons, List.length_map, ih]
theorem cdiv_of {i : Int} {j : Nat} (h0 : 0 < j) (h : j ≤ 256) : CDiv i (j : Int) := ⟨by omega, by omega⟩
section
variable {P : Program} {w : World} {K : PySem.W.Frag} {mg : Str → Option Value} {base : Heap}
theorem ok_is_member (c : Top K mg) : FOk P w K mg base CX0 1 ("is_member", none) p_is_member spIsMember := by
  refine FOk.mk0 c.f_is_member sc_is_member (fun _ _ _ _ _ _ us hl => match us, hl with | [_, _], _ => rfl) (fun vs H Q E h => ?_) (fun cdv A outer s H vs Q E hr h => ?_)
  · obtain ⟨m, p, rfl, _⟩ := h
    rfl
  · obtain ⟨m, p, rfl, hp, k⟩ := h
    refine ⟨_, pss_one (ps_ret (pe_cmpR op_eq (pe_op op_mod (pe_op op_fdiv (pv 0) (pe_ix ix_tup (pe_gr c.glo_PLACES) (pv 1) (fun _ _ => rfl))) pe_int) pe_int (nomark _))), ?_⟩
    have hP := pow9 hp
    have h0 : 0 < 2 ^ p := Nat.two_pow_pos p
    have hc : CDiv (m : Int) ((2 ^ p : Nat) : Int) := cdiv_of h0 hP
    refine ⟨_, rfl, _, rfl, _, _, _, _, rfl, rfl, c.tup_PLACES H, places_at hp, (m : Int), ((2 ^ p : Nat) : Int), rfl, rfl, hc, _, _, rfl, rfl, (by show (0 : Int) < 2; decide), rfl, ?_⟩
    have e : decide (V.int ((m : Int) / ((2 ^ p : Nat) : Int) % 2) = V.int 1) = Vbndam.isMember m p := by
      unfold Vbndam.isMember
      have q : ((m : Int) / ((2 ^ p : Nat) : Int) % 2) = ((m / 2 ^ p % 2 : Nat) : Int) := by
        rw [Int.natCast_emod, Int.natCast_ediv]
        rfl
      rw [q]
      by_cases h1 : m / 2 ^ p % 2 = 1
      · rw [h1]
        rfl
      · rw [decide_eq_false (fun e => h1 (by have := V.int.inj e; omega))]
        exact (beq_eq_false_iff_ne.mpr h1).symm
    show Q (V.bl (decide (V.int ((m : Int) / ((2 ^ p : Nat) : Int) % 2) = V.int 1))) H
    rw [e]
    exact k
theorem sv_member {H : Hp} {m p : Nat} (hp : p < 9) : SpV spIsMember ([vI m, vI p] ++ []) H (.bl (Vbndam.isMember m p)) := fun H1 _ Q q _ => ⟨m, p, rfl, hp, q H1 (Ex.refl H1)⟩
theorem ok_with_member (c : Top K mg) : FOk P w K mg base CX0 2 ("with_member", none) p_with_member spWithMember := by
  refine FOk.mk0 c.f_with_member sc_with_member (fun _ _ _ _ _ _ us hl => match us, hl with | [_, _], _ => rfl) (fun vs H Q E h => ?_) (fun cdv A outer s H vs Q E hr h => ?_)
  · obtain ⟨m, p, rfl, _⟩ := h
    rfl
  · obtain ⟨m, p, rfl, hp, k⟩ := h
    refine ⟨_, pss_one (ps_ret (pe_ifExp (pt_val (pe_cf (ok_is_member c) hr c.glo_is_member pass0 (pa_cons (pv 0) (pa_cons (pv 1) pa_nil)))) (pv 0) (pe_op op_add (pv 0) (pe_ix ix_tup (pe_gr c.glo_PLACES) (pv 1) (fun _ _ => rfl))))), ?_⟩
    refine ⟨_, rfl, _, rfl, m, p, rfl, hp, _, rfl, ?_⟩
    unfold addM at k
    cases h : Vbndam.isMember m p with
    | true =>
      rw [if_pos h] at k
      exact iteT ⟨_, rfl, k⟩
    | false =>
      rw [if_neg (by rw [h]; exact Bool.false_ne_true)] at k
      exact iteF ⟨_, rfl, _, rfl, _, _, _, _, rfl, rfl, c.tup_PLACES H, places_at hp, _, _, rfl, rfl, k⟩
theorem sv_with {H : Hp} {m p : Nat} (hp : p < 9) : SpV spWithMember ([vI m, vI p] ++ []) H (vI (addM m p)) := fun H1 _ Q q _ => ⟨m, p, rfl, hp, q H1 (Ex.refl H1)⟩
theorem ok_is_enabled (c : Top K mg) : FOk P w K mg base CX0 2 ("Rule", some "is_enabled") p_Rule_is_enabled (spEnabled K) := by
  refine FOk.mk0 c.f_Rule_is_enabled sc_Rule_is_enabled (fun _ _ _ _ _ _ us hl => match us, hl with | [_, _], _ => rfl) (fun vs H Q E h => ?_) (fun cdv A outer s H vs Q E hr h => ?_)
  · obtain ⟨F, r, u, m, rfl, _⟩ := h
    rfl
  · obtain ⟨F, r, u, m, rfl, ⟨a, dx, sb, rfl, h1, h2, _⟩, hsub, hl, k⟩ := h
    refine ⟨_, pss_one (ps_ret (pe_cmpR op_ge (pe_callB call_len_seq (by rfl) c.free_len PySem.boot_len (pa_cons (pe_lc (own := [("player", 2)]) (g := gName 2) rfl sc_Rule_is_enabled.nd (pi_list (pe_fld (pv 0) rfl))
      (blkOk_by (N := n_Rule_is_enabled) (sc := defScope s_Rule_is_enabled) (by decide +kernel)) (fun _ _ _ _ _ => pg_name (i := 2) sc_Rule_is_enabled.nd rfl (.inl rfl))
      (fun _ _ _ _ _ => pts_one (pt_val (pe_cf (ok_is_member c) hr c.glo_is_member pass0 (pa_cons (pv 1) (pa_cons (pv 2) pa_nil))))) (fun _ _ _ _ _ => pv 2)) pa_nil)) (pe_fld (pv 0) rfl) (nomark _))), ?_⟩
    let v := fun i => vI (u.substitutes.getD i 0)
    let f := fun i => Vbndam.isMember m (u.substitutes.getD i 0)
    refine s_ret (ev_op (ev_lenN (el_lcL (K := K) (a := sb) (xs := vN u.substitutes) (j := 2) (vs := [2]) f v (ev_fld (ev_var rfl) h1 c.cls_Rule c.no_Rule_substitutes (ruF_substitutes _ _ _)) (sq_of h2) (by rw [vN_len]; omega) (fun x => rfl)
      (fun i x H1 e hx => by
        obtain ⟨p, hp, rfl⟩ := vN_of hx
        have eq : u.substitutes.getD i 0 = p := by
          rw [List.getD_eq_getElem?_getD, hp]
          rfl
        show EvT _ _ _ (Vbndam.isMember m (u.substitutes.getD i 0))
        rw [eq]
        exact et_B (ev_cf (ea_cons (ev_var rfl) (ea_cons (ev_var rfl) ea_nil)) (sv_member (hsub p (List.mem_of_getElem? hp)))))
      (fun i x H1 e hx _ => by
        obtain ⟨p, hp, rfl⟩ := vN_of hx
        have eq : u.substitutes.getD i 0 = p := by
          rw [List.getD_eq_getElem?_getD, hp]
          rfl
        show Ev _ _ _ (vI (u.substitutes.getD i 0))
        rw [eq]
        exact ev_var rfl))) (ev_fld (ev_var rfl) h1 c.cls_Rule c.no_Rule_required (ruF_required _ _ _)) rv_I0) fun H1 e1 => ?_
    have eq : (given (vN u.substitutes).length f v).length = (u.substitutes.filter (Vbndam.isMember m)).length := by
      unfold given
      rw [List.length_map, vN_len]
      exact filter_index u.substitutes (Vbndam.isMember m)
    have e2 : decide (((u.required : Nat) : Int) ≤ (((given (vN u.substitutes).length f v).length : Nat) : Int)) = Vbndam.isRuleEnabled m u := by
      unfold Vbndam.isRuleEnabled
      rw [eq]
      by_cases hh : u.required ≤ (u.substitutes.filter (Vbndam.isMember m)).length
      · rw [decide_eq_true hh, decide_eq_true (by omega)]
      · rw [decide_eq_false hh, decide_eq_false (by omega)]
    show Q (V.bl (decide (((u.required : Nat) : Int) ≤ (((given (vN u.substitutes).length f v).length : Nat) : Int)))) H1
    rw [e2]
    exact k H1 e1
end
end Gs

set_option Elab.async false
set_option linter.all false
set_option maxRecDepth 100000
set_option maxHeartbeats 4000000
/-! Loops and comprehensions over lists of data. -/
namespace Gs
open PySem PySem.Spec PyProof.Rows L2 Evl
theorem given_get {α : Type} (l : List α) (d : α) (f : α → Bool) (v : α → V) : given l.length (fun i => f (l.getD i d)) (fun i => v (l.getD i d)) = (l.filter f).map v := by
  unfold given
  induction l with
  | nil => rfl
  | cons x l ih =>
    have e : ((List.range l.length).map Nat.succ).filter (fun i => f ((x :: l).getD i d)) = ((List.range l.length).filter fun i => f (l.getD i d)).map Nat.succ := by
      rw [List.filter_map]
      rfl
    rw [List.length_cons, List.range_succ_eq_map, List.filter_cons, List.filter_cons, e]
    show ((if f x = true then _ else _ : List Nat).map _) = (if f x = true then _ else _ : List α).map v
    cases f x
    · rw [if_neg Bool.false_ne_true, if_neg Bool.false_ne_true, List.map_map, ← ih]
      rfl
    · rw [if_pos rfl, if_pos rfl, List.map_cons, List.map_cons, List.map_map, ← ih]
      rfl
theorem getD_at {α : Type} {l : List α} {i : Nat} {x d : α} (h : l[i]? = some x) : l.getD i d = x := by
  rw [List.getD_eq_getElem?_getD, h]
  rfl
theorem take_more {α : Type} {l : List α} {i : Nat} {x : α} (h : l[i]? = some x) : l.take (i + 1) = l.take i ++ [x] := by
  rw [List.take_add_one, h]
  rfl
theorem map_of {α : Type} {enc : α → V} {l : List α} {i : Nat} {v : V} (h : (l.map enc)[i]? = some v) : ∃ x, l[i]? = some x ∧ v = enc x := by
  rw [List.getElem?_map] at h
  cases e : l[i]? with
  | none =>
    rw [e] at h
    cases h
  | some x =>
    rw [e] at h
    exact ⟨x, rfl, (Option.some.inj h).symm⟩
section
variable {K : PySem.W.Frag} {g : TG} {t : TT} {te tl : TE} {ta : TA} {σ : L2.St} {H : Hp} {vs : List Nat} {a : Addr} {j j1 j2 : Nat} {α : Type} {enc : α → V} {l : List α}
/-- [e for x in l if t] over a list that stands -/
theorem el_lcA [Inhabited α] (f : α → Bool) (v : α → V) (h : Ev tl σ H (.ref a)) (hx : SqL K H a (l.map enc)) (hz : l.length ≤ 40000) (hw : ∀ x, wipe ((wipe σ vs).set j (some x)) vs = wipe σ vs)
    (ht : ∀ x ∈ l, ∀ H1, Ex H H1 → EvT t ((wipe σ vs).set j (some (enc x))) H1 (f x)) (he : ∀ x ∈ l, ∀ H1, Ex H H1 → f x = true → Ev te ((wipe σ vs).set j (some (enc x))) H1 (v x)) :
    EvL (tLc (iList K tl) (gName j) t te vs) σ H ((l.filter f).map v) := by
  rw [← given_get l default]
  have e := List.length_map (as := l) enc
  rw [← e]
  refine el_lcL _ _ h hx (by rw [e]; exact hz) hw (fun i x H1 e1 hi => ?_) (fun i x H1 e1 hi hf => ?_)
  · obtain ⟨y, hy, rfl⟩ := map_of hi
    rw [getD_at hy]
    exact ht y (List.mem_of_getElem? hy) H1 e1
  · obtain ⟨y, hy, rfl⟩ := map_of hi
    rw [getD_at hy] at hf ⊢
    exact he y (List.mem_of_getElem? hy) H1 e1 hf
/-- .. over a new list -/
theorem el_lcAN [Inhabited α] (f : α → Bool) (v : α → V) (h : EvL tl σ H (l.map enc)) (hz : l.length ≤ 40000) (hw : ∀ x, wipe ((wipe σ vs).set j (some x)) vs = wipe σ vs)
    (ht : ∀ x ∈ l, ∀ H1, Ex H H1 → EvT t ((wipe σ vs).set j (some (enc x))) H1 (f x)) (he : ∀ x ∈ l, ∀ H1, Ex H H1 → f x = true → Ev te ((wipe σ vs).set j (some (enc x))) H1 (v x)) :
    EvL (tLc (iList K tl) (gName j) t te vs) σ H ((l.filter f).map v) := by
  rw [← given_get l default]
  have e := List.length_map (as := l) enc
  rw [← e]
  refine el_lcNL _ _ h (by rw [e]; exact hz) hw (fun i x H1 e1 hi => ?_) (fun i x H1 e1 hi hf => ?_)
  · obtain ⟨y, hy, rfl⟩ := map_of hi
    rw [getD_at hy]
    exact ht y (List.mem_of_getElem? hy) H1 e1
  · obtain ⟨y, hy, rfl⟩ := map_of hi
    rw [getD_at hy] at hf ⊢
    exact he y (List.mem_of_getElem? hy) H1 e1 hf
/-- .. over range(n) -/
theorem el_lcR {n : Nat} (f : Nat → Bool) (v : Nat → V) (h : EvA ta σ H [vI n]) (hz : n ≤ 40000) (hw : ∀ x, wipe ((wipe σ vs).set j (some x)) vs = wipe σ vs)
    (ht : ∀ i, i < n → ∀ H1, Ex H H1 → EvT t ((wipe σ vs).set j (some (vI i))) H1 (f i)) (he : ∀ i, i < n → ∀ H1, Ex H H1 → f i = true → Ev te ((wipe σ vs).set j (some (vI i))) H1 (v i)) :
    EvL (tLc (iRng1 ta) (gName j) t te vs) σ H (((List.range n).filter f).map v) := by
  have q := el_lcR1 (n := (n : Int)) f v h (by omega) hw (fun i H1 e hi => ht i (by omega) H1 e) (fun i H1 e hi hf => he i (by omega) H1 e hf)
  exact q
/-- .. over the pairs (index, item) of a list -/
theorem el_lcE [Inhabited α] (f : Nat → α → Bool) (v : Nat → α → V) (h : EvA ta σ H [.ref a]) (hx : SqL K H a (l.map enc)) (hz : l.length ≤ 40000) (hw : ∀ x y, wipe (((wipe σ vs).set j1 (some x)).set j2 (some y)) vs = wipe σ vs)
    (ht : ∀ i x, l[i]? = some x → ∀ H1, Ex H H1 → EvT t (((wipe σ vs).set j1 (some (vI i))).set j2 (some (enc x))) H1 (f i x)) (he : ∀ i x, l[i]? = some x → ∀ H1, Ex H H1 → f i x = true → Ev te (((wipe σ vs).set j1 (some (vI i))).set j2 (some (enc x))) H1 (v i x)) :
    EvL (tLc (iEnum K ta) (gTup K 2 (gCons (gName j1) (gCons (gName j2) gNil))) t te vs) σ H (((List.range l.length).filter fun i => f i (l.getD i default)).map fun i => v i (l.getD i default)) := by
  have el := List.length_map (as := l) enc
  refine el_lcW (J := Ite K a) (n := l.length) (G := fun H => SqL K H a (l.map enc)) (fun i => f i (l.getD i default)) (fun i => v i (l.getD i default))
    (fun i => ((wipe σ vs).set j1 (some (vI i))).set j2 (some (enc (l.getD i default)))) (by rw [← el]; exact walk_enum) (fun H1 e R q => h H1 e _ fun H2 e2 => ⟨a, _, rfl, ex_l (e.trans e2) hx, q H2 e2⟩) (fun H1 e => ex_l e hx) hz (fun i _ => hw _ _)
    (fun i x H1 H2 hi e y => ?_) (fun i H1 hi e => ?_) (fun i H1 hi e hf => ?_)
  · obtain ⟨T, x1, y1, rfl, hT, rfl, h1, h2⟩ := y
    cases h1
    obtain ⟨z, hz2, rfl⟩ := map_of h2
    refine ⟨Ex.new hT, fun R q => ?_⟩
    rw [getD_at hz2] at q
    exact g_pair (st_of upd_same) q
  · have hl : l[i]? = some (l.getD i default) := by
      rw [List.getD_eq_getElem?_getD, List.getElem?_eq_getElem hi]
      rfl
    exact ht i _ hl H1 e
  · have hl : l[i]? = some (l.getD i default) := by
      rw [List.getD_eq_getElem?_getD, List.getElem?_eq_getElem hi]
      rfl
    exact he i _ hl H1 e hf
end
/-! ### loops: the invariant speaks of the part gone through -/
section
variable {K : PySem.W.Frag} {g : TG} {tb : TS} {D : Ends} {σ : L2.St} {H : Hp} {a : Addr} {j j1 j2 : Nat} {α : Type} {xs : List V} {zs : List α}
theorem for_listE (hlen : xs.length = zs.length) (Pv : List α → L2.St → Hp → Prop) (h0 : Pv [] σ H) (hl : ∀ i σ H, i ≤ zs.length → Pv (zs.take i) σ H → SqL K H a xs)
    (hs : ∀ i v x σ H, xs[i]? = some v → zs[i]? = some x → Pv (zs.take i) σ H → g v σ H fun σ2 H2 => tb { D with nx := Pv (zs.take i ++ [x]), ct := Pv (zs.take i ++ [x]), bk := D.nx } σ2 H2) (hd : ∀ σ H, Pv zs σ H → D.nx σ H) :
    ∃ W : Nat → Nat → L2.St → Hp → Prop, (∃ m, W 0 m σ H) ∧ ∀ i m σ H, W i m σ H →
      ((Itl K a).stop i H ∧ D.nx σ H) ∨ ((Itl K a).go i H ∧ ∃ N : L2.St → Hp → Prop, (∀ σ' H', N σ' H' → ∃ m', m' < m ∧ W (i + 1) m' σ' H') ∧ ∀ x H', (Itl K a).yld i H x H' → g x σ H' fun σ2 H2 => tb { D with nx := N, ct := N, bk := D.nx } σ2 H2) := by
  refine for_list (K := K) (a := a) (xs := xs) (fun i σ H => Pv (zs.take i) σ H) h0 (fun i σ H hi p => hl i σ H (by rw [← hlen]; exact hi) p) (fun i v σ H hi p => ?_) (fun σ H p => ?_)
  · have hi2 : i < zs.length := by
      rw [← hlen]
      exact (List.getElem?_eq_some_iff.mp hi).1
    have hz := List.getElem?_eq_getElem hi2
    have q := hs i v _ σ H hi hz p
    rw [← take_more hz] at q
    exact q
  · rw [hlen, List.take_length] at p
    exact hd σ H p
theorem for_enumE (hlen : xs.length = zs.length) (Pv : List α → L2.St → Hp → Prop) (h0 : Pv [] σ H) (hl : ∀ i σ H, i ≤ zs.length → Pv (zs.take i) σ H → SqL K H a xs)
    (hs : ∀ i v x σ H H', xs[i]? = some v → zs[i]? = some x → Pv (zs.take i) σ H → Ex H H' → (∃ T o, H' = upd H T o ∧ H T = none) → tb { D with nx := Pv (zs.take i ++ [x]), ct := Pv (zs.take i ++ [x]), bk := D.nx } ((σ.set j1 (some (vI i))).set j2 (some v)) H') (hd : ∀ σ H, Pv zs σ H → D.nx σ H) :
    ∃ W : Nat → Nat → L2.St → Hp → Prop, (∃ m, W 0 m σ H) ∧ ∀ i m σ H, W i m σ H →
      ((Ite K a).stop i H ∧ D.nx σ H) ∨ ((Ite K a).go i H ∧ ∃ N : L2.St → Hp → Prop, (∀ σ' H', N σ' H' → ∃ m', m' < m ∧ W (i + 1) m' σ' H') ∧ ∀ x H', (Ite K a).yld i H x H' → gTup K 2 (gCons (gName j1) (gCons (gName j2) gNil)) x σ H' fun σ2 H2 => tb { D with nx := N, ct := N, bk := D.nx } σ2 H2) := by
  refine for_it (J := Ite K a) (n := xs.length) (G := fun H => SqL K H a xs) walk_enum (fun i σ H => Pv (zs.take i) σ H) h0 (fun i σ H hi p => hl i σ H (by rw [← hlen]; exact hi) p) (fun i v σ H H' hi p y => ?_) (fun σ H p => ?_)
  · have hi2 : i < zs.length := by
      rw [← hlen]
      exact hi
    have hz := List.getElem?_eq_getElem hi2
    obtain ⟨T, x1, y1, rfl, hT, rfl, h1, h2⟩ := y
    cases h1
    have q := hs i y1 _ σ H (upd H T (.tup [.int (i : Nat), y1])) h2 hz p (Ex.new hT) ⟨T, _, rfl, hT⟩
    rw [← take_more hz] at q
    exact g_pair (st_of upd_same) q
  · rw [hlen, List.take_length] at p
    exact hd σ H p
end
/-! the statements -/
section
variable {K : PySem.W.Frag} {g : TG} {tb tz : TS} {D : Ends} {σ : L2.St} {H : Hp} {a : Addr} {j j1 j2 : Nat} {α : Type} {xs : List V} {zs : List α} {ta : TA} {tl te : TE}
theorem s_forE (h : EvA ta σ H [.ref a]) (hx : H a = some (.lst xs)) (hlen : xs.length = zs.length) (Pv : List α → L2.St → Hp → Prop) (h0 : ∀ H1, Ex H H1 → Pv [] σ H1) (hl : ∀ i σ H, i ≤ zs.length → Pv (zs.take i) σ H → SqL K H a xs)
    (hs : ∀ i v x σ H H', xs[i]? = some v → zs[i]? = some x → Pv (zs.take i) σ H → Ex H H' → (∃ T o, H' = upd H T o ∧ H T = none) → tb { D with nx := Pv (zs.take i ++ [x]), ct := Pv (zs.take i ++ [x]), bk := D.nx } ((σ.set j1 (some (vI i))).set j2 (some v)) H') (hd : ∀ σ H, Pv zs σ H → D.nx σ H) :
    tFor (iEnum K ta) (gTup K 2 (gCons (gName j1) (gCons (gName j2) gNil))) tb D σ H :=
  h H (Ex.refl H) _ fun H1 e => ⟨a, xs, rfl, sq_of (e _ _ hx), for_enumE hlen Pv (h0 H1 e) hl hs hd⟩
theorem q_forE (h : EvA ta σ H [.ref a]) (hx : H a = some (.lst xs)) (hlen : xs.length = zs.length) (Pv : List α → L2.St → Hp → Prop) (h0 : ∀ H1, Ex H H1 → Pv [] σ H1) (hl : ∀ i σ H, i ≤ zs.length → Pv (zs.take i) σ H → SqL K H a xs)
    (hs : ∀ i v x σ H H', xs[i]? = some v → zs[i]? = some x → Pv (zs.take i) σ H → Ex H H' → (∃ T o, H' = upd H T o ∧ H T = none) → tb { D with nx := Pv (zs.take i ++ [x]), ct := Pv (zs.take i ++ [x]), bk := tz D } ((σ.set j1 (some (vI i))).set j2 (some v)) H') (hd : ∀ σ H, Pv zs σ H → tz D σ H) :
    tSeq (tFor (iEnum K ta) (gTup K 2 (gCons (gName j1) (gCons (gName j2) gNil))) tb) tz D σ H := s_forE (D := { D with nx := tz D }) h hx hlen Pv h0 hl hs hd
theorem q_forA (h : Ev tl σ H (.ref a)) (hx : SqL K H a xs) (hlen : xs.length = zs.length) (Pv : List α → L2.St → Hp → Prop) (h0 : ∀ H1, Ex H H1 → Pv [] σ H1) (hl : ∀ i σ H, i ≤ zs.length → Pv (zs.take i) σ H → SqL K H a xs)
    (hs : ∀ i v x σ H, xs[i]? = some v → zs[i]? = some x → Pv (zs.take i) σ H → g v σ H fun σ2 H2 => tb { D with nx := Pv (zs.take i ++ [x]), ct := Pv (zs.take i ++ [x]), bk := tz D } σ2 H2) (hd : ∀ σ H, Pv zs σ H → tz D σ H) :
    tSeq (tFor (iList K tl) g tb) tz D σ H :=
  h H (Ex.refl H) _ fun H1 e => ⟨a, rfl, ⟨xs, ex_l e hx⟩, for_listE (D := { D with nx := tz D }) hlen Pv (h0 H1 e) hl hs hd⟩
theorem s_forA (h : Ev tl σ H (.ref a)) (hx : SqL K H a xs) (hlen : xs.length = zs.length) (Pv : List α → L2.St → Hp → Prop) (h0 : ∀ H1, Ex H H1 → Pv [] σ H1) (hl : ∀ i σ H, i ≤ zs.length → Pv (zs.take i) σ H → SqL K H a xs)
    (hs : ∀ i v x σ H, xs[i]? = some v → zs[i]? = some x → Pv (zs.take i) σ H → g v σ H fun σ2 H2 => tb { D with nx := Pv (zs.take i ++ [x]), ct := Pv (zs.take i ++ [x]), bk := D.nx } σ2 H2) (hd : ∀ σ H, Pv zs σ H → D.nx σ H) :
    tFor (iList K tl) g tb D σ H :=
  h H (Ex.refl H) _ fun H1 e => ⟨a, rfl, ⟨xs, ex_l e hx⟩, for_listE hlen Pv (h0 H1 e) hl hs hd⟩
/-- over a new list at p -/
theorem q_forN (h : EvL tl σ H xs) (hlen : xs.length = zs.length) (Pv : Addr → List α → L2.St → Hp → Prop) (h0 : ∀ p H1, H p = none → Ex H H1 → H1 p = some (.lst xs) → Pv p [] σ H1) (hl : ∀ p i σ H, i ≤ zs.length → Pv p (zs.take i) σ H → SqL K H p xs)
    (hs : ∀ p i v x σ H, xs[i]? = some v → zs[i]? = some x → Pv p (zs.take i) σ H → g v σ H fun σ2 H2 => tb { D with nx := Pv p (zs.take i ++ [x]), ct := Pv p (zs.take i ++ [x]), bk := tz D } σ2 H2) (hd : ∀ p σ H, Pv p zs σ H → tz D σ H) :
    tSeq (tFor (iList K tl) g tb) tz D σ H :=
  h H (Ex.refl H) _ fun p H1 hp e h1 => ⟨p, rfl, ⟨xs, sq_of h1⟩, for_listE (D := { D with nx := tz D }) hlen (Pv p) (h0 p H1 hp e h1) (hl p) (hs p) (hd p)⟩
theorem rg_nat (n : Nat) : rgV 0 (n : Int) = vN (List.range n) := by
  unfold rgV vN
  rw [show ((n : Int) - 0).toNat = n by omega]
  refine List.map_congr_left fun i _ => ?_
  show V.int (0 + (i : Int)) = V.int i
  rw [Int.zero_add]
theorem el_listRg {n : Nat} (h : Ev te σ H (vI n)) (hn : n ≤ 16777216) : EvL (tLstRg (tRg1 te)) σ H (vN (List.range n)) := fun H1 e Q q =>
  h H1 e _ fun H2 e2 => ⟨_, rfl, RgOk.of_le (by omega) (by omega) (by omega) (by omega), fun p hp => q p _ (fresh_back e2 hp) (e2.trans (Ex.new hp)) (by rw [upd_same, rg_nat])⟩
end
/-! ### pairs of numbers -/
def PairAt (H : Hp) (v : V) (p : Nat × Nat) : Prop := ∃ t, v = .ref t ∧ H t = some (.tup [vI p.1, vI p.2])
theorem PairAt.ex {H H' : Hp} {v : V} {p : Nat × Nat} (h : PairAt H v p) (e : Ex H H') : PairAt H' v p := by
  obtain ⟨t, rfl, h1⟩ := h
  exact ⟨t, rfl, e _ _ h1⟩
def PairsAt (H : Hp) (a : Addr) (ps : List (Nat × Nat)) : Prop := ∃ xs, H a = some (.lst xs) ∧ EachAt (PairAt H) xs ps
theorem PairsAt.ex {H H' : Hp} {a : Addr} {ps : List (Nat × Nat)} (h : PairsAt H a ps) (e : Ex H H') : PairsAt H' a ps := by
  obtain ⟨xs, h1, h2⟩ := h
  exact ⟨xs, e _ _ h1, h2.imp fun _ _ q => q.ex e⟩
theorem g_pairAt {K : PySem.W.Frag} {H : Hp} {v : V} {p : Nat × Nat} {i j : Nat} {σ0 : L2.St} {R : L2.St → Hp → Prop} (h : PairAt H v p) (q : R ((σ0.set i (some (vI p.1))).set j (some (vI p.2))) H) : gTup K 2 (gCons (gName i) (gCons (gName j) gNil)) v σ0 H R := by
  obtain ⟨t, rfl, h1⟩ := h
  exact g_pair (st_of h1) q
section
variable {K : PySem.W.Frag} {t : TT} {te tl : TE} {σ : L2.St} {H : Hp} {vs : List Nat} {a : Addr} {j1 j2 : Nat} {ps : List (Nat × Nat)}
/-- [e for a, b in pairs if t] -/
theorem el_lcP (f : Nat × Nat → Bool) (v : Nat × Nat → V) (h : Ev tl σ H (.ref a)) (hx : PairsAt H a ps) (hz : ps.length ≤ 40000) (hw : ∀ x y, wipe (((wipe σ vs).set j1 (some x)).set j2 (some y)) vs = wipe σ vs)
    (ht : ∀ p ∈ ps, ∀ H1, Ex H H1 → EvT t (((wipe σ vs).set j1 (some (vI p.1))).set j2 (some (vI p.2))) H1 (f p)) (he : ∀ p ∈ ps, ∀ H1, Ex H H1 → f p = true → Ev te (((wipe σ vs).set j1 (some (vI p.1))).set j2 (some (vI p.2))) H1 (v p)) :
    EvL (tLc (iList K tl) (gTup K 2 (gCons (gName j1) (gCons (gName j2) gNil))) t te vs) σ H ((ps.filter f).map v) := by
  rw [← given_get ps (0, 0)]
  obtain ⟨xs, h1, h2⟩ := hx
  have el := h2.1
  rw [← el]
  refine el_lcW (J := Itl K a) (n := xs.length) (G := fun H => SqL K H a xs) _ _ (fun i => ((wipe σ vs).set j1 (some (vI (ps.getD i (0, 0)).1))).set j2 (some (vI (ps.getD i (0, 0)).2))) walk_list
    (fun H1 e R q => h H1 e _ fun H2 e2 => ⟨a, rfl, ⟨_, sq_of ((e.trans e2) _ _ h1)⟩, q H2 e2⟩) (fun H1 e => sq_of (e _ _ h1)) (by rw [el]; exact hz) (fun i _ => hw _ _) (fun i x H1 H2 hi e y => ?_) (fun i H1 hi e => ?_) (fun i H1 hi e hf => ?_)
  · obtain ⟨rfl, hy⟩ := y
    obtain ⟨p, hp, hP⟩ := h2.of hy
    refine ⟨Ex.refl _, fun R q => ?_⟩
    rw [getD_at hp] at q
    exact g_pairAt (hP.ex e) q
  · have hi : i < ps.length := by rw [← el]; exact hi
    have hl : ps[i]? = some (ps.getD i (0, 0)) := by
      rw [List.getD_eq_getElem?_getD, List.getElem?_eq_getElem hi]
      rfl
    exact ht _ (List.mem_of_getElem? hl) H1 e
  · have hi : i < ps.length := by rw [← el]; exact hi
    have hl : ps[i]? = some (ps.getD i (0, 0)) := by
      rw [List.getD_eq_getElem?_getD, List.getElem?_eq_getElem hi]
      rfl
    exact he _ (List.mem_of_getElem? hl) H1 e hf
end
/-! ### something new that is made -/
def EvM (te : TE) (σ : L2.St) (H : Hp) (P : Addr → Hp → Prop) : Prop := ∀ H1, Ex H H1 → ∀ Q : VK, (∀ p H2, H1 p = none → Ex H1 H2 → P p H2 → Q (.ref p) H2) → te σ H1 Q
def SpM (sp : Sp) (vs : List V) (H : Hp) (P : Addr → Hp → Prop) : Prop := ∀ H1, Ex H H1 → ∀ Q : VK, (∀ p H2, H1 p = none → Ex H1 H2 → P p H2 → Q (.ref p) H2) → ∀ E : XK, sp vs H1 Q E
section
variable {K : PySem.W.Frag} {g : TG} {tb tz : TS} {D : Ends} {σ : L2.St} {H H' : Hp} {a C dx : Addr} {fs : List (Str × V)} {α : Type} {xs : List V} {zs : List α} {ta : TA} {tl te : TE} {P : Addr → Hp → Prop} {sp : Sp} {E : XK} {m : Str} {vs : List V}
theorem EvM.mono (e : Ex H H') (h : EvM te σ H P) : EvM te σ H' P := fun H1 a Q q => h H1 (e.trans a) Q q
theorem em_meth {t : TA} (h : Ev tl σ H (.ref a)) (ho : H a = some (.ins C dx fs)) (l : fs.lookup m = none) (ha : EvA t σ H vs) (hs : SpM sp (.ref a :: (vs ++ [])) H P) : EvM (tMeth C m sp [] E tl t) σ H P := fun H1 e Q q =>
  h H1 e _ fun H2 e2 => ⟨a, dx, fs, rfl, e2 _ _ (e _ _ ho), l, ha H2 (e.trans e2) _ fun H3 e3 => hs H3 ((e.trans e2).trans e3) Q (fun p H4 hp e4 h4 => q p H4 (fresh_back (e2.trans e3) hp) ((e2.trans e3).trans e4) h4) E⟩
theorem em_cf (h : EvA ta σ H vs) (hs : SpM sp (vs ++ []) H P) : EvM (tCall sp [] E ta) σ H P := fun H1 e Q q =>
  h H1 e _ fun H2 e2 => hs H2 (e.trans e2) Q (fun p H3 hp e3 h3 => q p H3 (fresh_back e2 hp) (e2.trans e3) h3) E
theorem s_asgM {i : Nat} (h : EvM te σ H P) (k : ∀ p H1, H p = none → Ex H H1 → P p H1 → D.nx (σ.set i (some (.ref p))) H1) : tAsg te (gName i) D σ H := h H (Ex.refl H) _ k
theorem q_asgM {i : Nat} (h : EvM te σ H P) (k : ∀ p H1, H p = none → Ex H H1 → P p H1 → tz D (σ.set i (some (.ref p))) H1) : tSeq (tAsg te (gName i)) tz D σ H := h H (Ex.refl H) _ k
theorem s_retM (h : EvM te σ H P) (k : ∀ p H1, H p = none → Ex H H1 → P p H1 → D.rt (.ref p) H1) : tRet te D σ H := h H (Ex.refl H) _ k
/-- pairs gone through -/
theorem for_pairs {ps : List (Nat × Nat)} {j1 j2 : Nat} (hx : PairsAt H a ps) (Pv : List (Nat × Nat) → L2.St → Hp → Prop) (h0 : Pv [] σ H) (hl : ∀ pre σ H1, Pv pre σ H1 → Ex H H1)
    (hs : ∀ i x σ H1, ps[i]? = some x → Pv (ps.take i) σ H1 → tb { D with nx := Pv (ps.take i ++ [x]), ct := Pv (ps.take i ++ [x]), bk := D.nx } ((σ.set j1 (some (vI x.1))).set j2 (some (vI x.2))) H1) (hd : ∀ σ H, Pv ps σ H → D.nx σ H) :
    ∃ W : Nat → Nat → L2.St → Hp → Prop, (∃ m, W 0 m σ H) ∧ ∀ i m σ H, W i m σ H →
      ((Itl K a).stop i H ∧ D.nx σ H) ∨ ((Itl K a).go i H ∧ ∃ N : L2.St → Hp → Prop, (∀ σ' H', N σ' H' → ∃ m', m' < m ∧ W (i + 1) m' σ' H') ∧ ∀ x H', (Itl K a).yld i H x H' → gTup K 2 (gCons (gName j1) (gCons (gName j2) gNil)) x σ H' fun σ2 H2 => tb { D with nx := N, ct := N, bk := D.nx } σ2 H2) := by
  obtain ⟨xs, h1, h2⟩ := hx
  exact for_listE (xs := xs) h2.1 Pv h0 (fun i σ H1 _ q => sq_of (hl _ _ _ q _ _ h1)) (fun i v x σ H1 hv hx q => g_pairAt ((h2.2 i v x hv hx).ex (hl _ _ _ q)) (hs i x σ H1 hx q)) hd
theorem q_forPairs {ps : List (Nat × Nat)} {j1 j2 : Nat} (h : Ev tl σ H (.ref a)) (hx : PairsAt H a ps) (Pv : List (Nat × Nat) → L2.St → Hp → Prop) (h0 : ∀ H1, Ex H H1 → Pv [] σ H1) (hl : ∀ pre σ H1, Pv pre σ H1 → Ex H H1)
    (hs : ∀ i x σ H1, ps[i]? = some x → Pv (ps.take i) σ H1 → tb { D with nx := Pv (ps.take i ++ [x]), ct := Pv (ps.take i ++ [x]), bk := tz D } ((σ.set j1 (some (vI x.1))).set j2 (some (vI x.2))) H1) (hd : ∀ σ H, Pv ps σ H → tz D σ H) :
    tSeq (tFor (iList K tl) (gTup K 2 (gCons (gName j1) (gCons (gName j2) gNil))) tb) tz D σ H := by
  refine h H (Ex.refl H) _ fun H1 e => ?_
  obtain ⟨xs, h1, h2⟩ := hx
  exact ⟨a, rfl, ⟨xs, sq_of (e _ _ h1)⟩, for_listE (D := { D with nx := tz D }) (xs := xs) h2.1 Pv (h0 H1 e) (fun i σ H1 _ q => sq_of (hl _ _ _ q _ _ h1)) (fun i v x σ H1 hv hx q => g_pairAt ((h2.2 i v x hv hx).ex (hl _ _ _ q)) (hs i x σ H1 hx q)) hd⟩
theorem q_forMPairs {ps : List (Nat × Nat)} {j1 j2 : Nat} (h : EvM tl σ H (fun p H => PairsAt H p ps)) (Pv : Hp → List (Nat × Nat) → L2.St → Hp → Prop) (h0 : ∀ H1, Ex H H1 → Pv H1 [] σ H1) (hl : ∀ H1 pre σ H2, Pv H1 pre σ H2 → Ex H1 H2)
    (hs : ∀ H0 i x σ H1, ps[i]? = some x → Pv H0 (ps.take i) σ H1 → tb { D with nx := Pv H0 (ps.take i ++ [x]), ct := Pv H0 (ps.take i ++ [x]), bk := tz D } ((σ.set j1 (some (vI x.1))).set j2 (some (vI x.2))) H1) (hd : ∀ H0 σ H, Pv H0 ps σ H → tz D σ H) :
    tSeq (tFor (iList K tl) (gTup K 2 (gCons (gName j1) (gCons (gName j2) gNil))) tb) tz D σ H := by
  refine h H (Ex.refl H) _ fun p H1 hp e hP => ?_
  obtain ⟨xs, h1, h2⟩ := hP
  exact ⟨p, rfl, ⟨xs, sq_of h1⟩, for_listE (D := { D with nx := tz D }) (xs := xs) h2.1 (Pv H1) (h0 H1 e) (fun i σ H1' _ q => sq_of (hl _ _ _ _ q _ _ h1)) (fun i v x σ H1' hv hx q => g_pairAt ((h2.2 i v x hv hx).ex (hl _ _ _ _ q)) (hs H1 i x σ H1' hx q)) (hd H1)⟩
theorem et_yes : EvT tYes σ H true := fun H1 _ _ q => q H1 (Ex.refl H1)
end
/-- a pair more -/
theorem PairAt.upd {H : Hp} {f : Addr} {xs : List V} {o : HO} {v : V} {p : Nat × Nat} (h : PairAt H v p) (hf : H f = some (.lst xs)) : PairAt (upd H f o) v p := by
  obtain ⟨t, rfl, ht⟩ := h
  exact ⟨t, rfl, by rw [upd_ne (ne_of ht hf (by intro z; cases z))]; exact ht⟩
theorem pairs_app {H : Hp} {f t : Addr} {xs : List V} {ps : List (Nat × Nat)} {q : Nat × Nat} (hf : H f = some (.lst xs)) (he : EachAt (PairAt H) xs ps) (ht : H t = some (.tup [vI q.1, vI q.2])) : PairsAt (upd H f (.lst (xs ++ [.ref t]))) f (ps ++ [q]) :=
  ⟨_, upd_same, EachAt.app (he.imp fun _ _ h => h.upd hf) (EachAt.one ((show PairAt H (.ref t) q from ⟨t, rfl, ht⟩).upd hf))⟩
end Gs

set_option Elab.async false
set_option linter.all false
set_option maxRecDepth 100000
set_option maxHeartbeats 4000000
/-! Rules that the layer lacks: a list against the empty list, xs[i] op= e of a list, the least of pairs. -/
namespace Gs
open PySem PySem.Spec PyProof.Rows L2 Evl
section
variable {X : Cx}
def rEqNil (K : PySem.W.Frag) : R2 := fun x y H Q => ∃ a b xs, x = .ref a ∧ y = .ref b ∧ SqL K H a xs ∧ SqL K H b [] ∧ Q (.bl xs.isEmpty) H
def rNeNil (K : PySem.W.Frag) : R2 := fun x y H Q => ∃ a b xs, x = .ref a ∧ y = .ref b ∧ SqL K H a xs ∧ SqL K H b [] ∧ Q (.bl (!xs.isEmpty)) H
theorem op_eqNil (hu : X.A.units < cLine) : OpR X (compareOp .Eq) (rEqNil X.K) := by
  intro pins s σ H x y v u Q I rx ry h
  obtain ⟨a, b, xs, rfl, rfl, ha, hb, q⟩ := h
  obtain ⟨its, rv, pl, _⟩ := I.list ha
  obtain ⟨its2, rv2, pl2, _⟩ := I.list hb
  cases rx
  cases ry
  have e2 : its2 = [] := by
    cases rv2
    rfl
  subst e2
  cases xs with
  | nil =>
    have e1 : its = [] := by
      cases rv
      rfl
    subst e1
    exact SeqAt.eq_listAt (e := fun _ => true) pl.isList pl2.isList rfl hu (fun j h1 _ => absurd h1 (Nat.not_lt_zero j)) ⟨.bl true, H, I, rfl, q⟩
  | cons x r =>
    have e1 : its.length = r.length + 1 := rv.length.symm
    refine SeqAt.eq_list_lengthsAt pl.isList pl2.isList ?_ hu ⟨.bl false, H, I, rfl, q⟩
    rw [List.size_toArray, e1]
    rfl
theorem op_neNil (hu : X.A.units < cLine) : OpR X (compareOp .NotEq) (rNeNil X.K) := by
  intro pins s σ H x y v u Q I rx ry h
  obtain ⟨a, b, xs, rfl, rfl, ha, hb, q⟩ := h
  obtain ⟨its, rv, pl, _⟩ := I.list ha
  obtain ⟨its2, rv2, pl2, _⟩ := I.list hb
  cases rx
  cases ry
  have e2 : its2 = [] := by
    cases rv2
    rfl
  subst e2
  cases xs with
  | nil =>
    have e1 : its = [] := by
      cases rv
      rfl
    subst e1
    exact SeqAt.RcNeAt.lists (e := fun _ => true) pl.isList pl2.isList rfl hu (fun j h1 _ => absurd h1 (Nat.not_lt_zero j)) _ _ _ _ ⟨.bl false, H, I, rfl, q⟩
  | cons x r =>
    have e1 : its.length = r.length + 1 := rv.length.symm
    refine SeqAt.RcNeAt.lists_lengths pl.isList pl2.isList ?_ hu _ _ _ _ ⟨.bl true, H, I, rfl, q⟩
    rw [List.size_toArray, e1]
    rfl
/-- o[i], a list's, by values: an index from 0 on -/
def rGetL (K : PySem.W.Frag) : V → V → Hp → VK → Prop := fun x y H Q => ∃ (p : Addr) (xs : List V) (j : Nat) (v : V), x = .ref p ∧ y = .int (j : Int) ∧ SqL K H p xs ∧ xs[j]? = some v ∧ Q v H
theorem pget_list : PGet X (rGetL X.K) := by
  intro pins s σ H o i ov iv Q I rx ry h
  obtain ⟨p, xs, j, v, rfl, rfl, hq, hv, q⟩ := h
  cases rx
  obtain ⟨t, rfl⟩ := ry
  obtain ⟨its, r, pl, hz⟩ := I.list hq
  obtain ⟨w, ew, rw'⟩ := r.get hv
  have hj : j < its.length := (List.getElem?_eq_some_iff.mp ew).1
  have hl := r.length
  have hn := line63
  have h0 : (0 : Int) ≤ (j : Int) := Int.natCast_nonneg j
  have h1 : (j : Int) < 2 ^ 63 := by omega
  have hx : its.toArray[(j : Int).toNat]? = some w := by simpa using ew
  exact wpAny_getItem_list (Q := EP X pins σ Q) pl.isList h0 h1 hx ⟨v, H, I, rw', q⟩
end
/-! ### the least of pairs of numbers -/
theorem toks_pair (a b : Int) : PySem.W.keyToks (.tuple [.int a, .int b]) = [.inl 1, .inl a, .inl 1, .inl b, .inl 0] := rfl
theorem lt_one (a b : Int) (l m : List (Int ⊕ List Nat)) : PyProof.Rows.lexLt PyProof.Rows.itemOrd ((Sum.inl a : Int ⊕ List Nat) :: l) ((Sum.inl b : Int ⊕ List Nat) :: m) = (decide (a < b) || (!decide (b < a) && PyProof.Rows.lexLt PyProof.Rows.itemOrd l m)) :=
  PyProof.Rows.lex_cons (O := PyProof.Rows.itemOrd) _ _ _ _
theorem lt_pair (a b c d : Int) : PySem.W.dataLt (.tuple [.int a, .int b]) (.tuple [.int c, .int d]) = (decide (a < c) || (decide (a = c) && decide (b < d))) := by
  unfold PySem.W.dataLt
  rw [toks_pair, toks_pair, lt_one, lt_one, lt_one, lt_one, lt_one]
  have e : PyProof.Rows.lexLt PyProof.Rows.itemOrd ([] : List (Int ⊕ List Nat)) [] = false := rfl
  rw [e]
  by_cases h1 : a < c
  · simp [h1]
  · by_cases h2 : a = c
    · subst h2
      simp
    · have h3 : c < a := by omega
      simp [h1, h2, h3]
/-- min(rows), rows pairs of numbers from 0 on -/
def pd (p : Nat × Nat) : PyData := .tuple [.int (p.1 : Int), .int (p.2 : Int)]
theorem lt_pd (p q : Nat × Nat) : PySem.W.dataLt (pd p) (pd q) = lexLt p q := by
  unfold pd
  rw [lt_pair]
  unfold lexLt
  have e1 : decide (((p.1 : Nat) : Int) < (q.1 : Int)) = decide (p.1 < q.1) := decide_eq_decide.mpr (by omega)
  have e2 : decide (((p.1 : Nat) : Int) = (q.1 : Int)) = decide (p.1 = q.1) := decide_eq_decide.mpr (by omega)
  have e3 : decide (((p.2 : Nat) : Int) < (q.2 : Int)) = decide (p.2 < q.2) := decide_eq_decide.mpr (by omega)
  rw [e1, e2, e3]
theorem minD_pd : ∀ (l : List (Nat × Nat)) (p : Nat × Nat), PySem.W.minD (pd p) (l.map pd) = pd (l.foldl (fun b y => if lexLt y b = true then y else b) p)
  | [], p => rfl
  | q :: l, p => by
    rw [List.map_cons, List.foldl_cons]
    show PySem.W.minD (if PySem.W.dataLt (pd q) (pd p) = true then pd q else pd p) (l.map pd) = _
    rw [lt_pd]
    cases h : lexLt q p with
    | true =>
      rw [if_pos rfl, if_pos rfl]
      exact minD_pd l q
    | false =>
      rw [if_neg Bool.false_ne_true, if_neg Bool.false_ne_true]
      exact minD_pd l p
section
variable {X : Cx}
def rMinP (K : PySem.W.Frag) : List V → Hp → VK → Prop := fun vs H Q => ∃ (a : Addr) (p : Nat × Nat) (ps : List (Nat × Nat)), vs = [.ref a] ∧ PairsAt H a (p :: ps) ∧
  ∀ (t : Addr), H t = some (.tup [vI (ps.foldl (fun b y => if lexLt y b = true then y else b) p).1, vI (ps.foldl (fun b y => if lexLt y b = true then y else b) p).2]) → Q (.ref t) H
theorem dp_pairs {K : PySem.W.Frag} {H : Hp} : ∀ {xs : List V} {ps : List (Nat × Nat)}, EachAt (PairAt H) xs ps → DpAll K H xs (ps.map pd)
  | [], [], _ => .nil
  | [], _ :: _, h => by have := h.1; simp at this
  | _ :: _, [], h => by have := h.1; simp at this
  | x :: xs, p :: ps, h => by
    obtain ⟨t, rfl, ht⟩ := h.2 0 x p rfl rfl
    refine .cons (.tup (st_of ht) (.cons (.int _) (.cons (.int _) .nil))) (dp_pairs ⟨by have := h.1; simpa using this, fun i v q a b => h.2 (i + 1) v q (by simpa using a) (by simpa using b)⟩)
theorem cr_minP (hc : X.calm = true) (hu : X.A.units + 10 < cLine) : CallR X (.builtin "min") (rMinP X.K) := by
  intro pins s σ H vs us Q I r h
  obtain ⟨a, p, ps, rfl, ⟨xs, hx, he⟩, q⟩ := h
  obtain ⟨its, rv, pl, _⟩ := I.list (sq_of hx)
  rw [Vals.ref1 r]
  obtain ⟨as, hr⟩ := Dp.readsAll I _ _ _ (dp_pairs (K := X.K) he) rv
  have hal : PySem.W.AlikeAll ((p :: ps).map pd) := by
    refine ⟨fun x hx y hy => ?_, fun x hx => ?_⟩
    · obtain ⟨x', _, rfl⟩ := List.mem_map.mp hx
      obtain ⟨y', _, rfl⟩ := List.mem_map.mp hy
      rfl
    · obtain ⟨x', _, rfl⟩ := List.mem_map.mp hx
      intro z
      cases z
  have hd : PyData.depthAll ((p :: ps).map pd) ≤ 5 := by
    have : ∀ l : List (Nat × Nat), PyData.depthAll (l.map pd) ≤ 5 := by
      intro l
      induction l with
      | nil => exact Nat.zero_le _
      | cons x l ih =>
        show max (pd x).depth (PyData.depthAll (l.map pd)) ≤ 5
        refine Nat.max_le.mpr ⟨?_, ih⟩
        show PyData.depth (.tuple [.int (x.1 : Int), .int (x.2 : Int)]) ≤ 5
        simp [PyData.depth, PyData.depthAll]
    exact this _
  refine PySem.W.min_list_data (x := pd p) (xs := ps.map pd) (as := as) (I.ok.hd hc) pl.isList (by simpa using hr) hal (by have hd' : PyData.depthAll (pd p :: ps.map pd) ≤ 5 := hd; omega) fun i v h' tk bs hv hrd hk => ?_
  rw [minD_pd] at hrd
  have J := I.kept (t' := tk) hk
  obtain ⟨y, hy, ry⟩ : ∃ y, xs[i]? = some y ∧ RelV y v := by
    have hv' : its[i]? = some v := by simpa using hv
    have hi : i < xs.length := by
      rw [rv.length]
      exact (List.getElem?_eq_some_iff.mp hv').1
    obtain ⟨u, hu1, hu2⟩ := rv.get (List.getElem?_eq_getElem hi)
    rw [hv'] at hu1
    cases hu1
    exact ⟨_, List.getElem?_eq_getElem hi, hu2⟩
  obtain ⟨pp, hpp, t, rfl, ht⟩ := he.of hy
  have et : pp = ps.foldl (fun b y => if lexLt y b = true then y else b) p := by
    generalize ps.foldl (fun b y => if lexLt y b = true then y else b) p = best at hrd ⊢
    obtain ⟨it2, rv2, ⟨o2, ho2, _, n2, hd2⟩, _⟩ := J.tuple (st_of ht)
    cases ry
    unfold pd at hrd
    cases hrd with
    | tuple k1 k2 k3 k4 =>
      rw [ho2] at k1
      cases k1
      rw [hd2] at k3
      cases k3
      cases rv2 with
      | cons r1 r2 =>
        cases r2 with
        | cons r3 r4 =>
          cases r4
          obtain ⟨t1, rfl⟩ := r1
          obtain ⟨t2, rfl⟩ := r3
          have k5 : ReadsAll h' [Value.int (pp.1 : Int) t1, Value.int (pp.2 : Int) t2] [.int (best.1 : Int), .int (best.2 : Int)] bs := k4
          cases k5 with
          | cons a1 a2 =>
            cases a2 with
            | cons a3 a4 =>
              have e1 : (pp.1 : Int) = best.1 := by
                generalize (pp.1 : Int) = u at a1
                generalize (best.1 : Int) = u' at a1 ⊢
                cases a1
                rfl
              have e2 : (pp.2 : Int) = best.2 := by
                generalize (pp.2 : Int) = u at a3
                generalize (best.2 : Int) = u' at a3 ⊢
                cases a3
                rfl
              exact Prod.ext (by omega) (by omega)
  refine ⟨.ref t, H, J, ry, q t ?_⟩
  rw [← et]
  exact ht
end
end Gs

set_option Elab.async false
set_option linter.all false
set_option maxRecDepth 100000
set_option maxHeartbeats 4000000
/-! Walks: a room's methods. -/
namespace Gs
open PySem PySem.Spec PyProof.Rows L2 Evl
section
variable (K : PySem.W.Frag)
def spMany : Sp := fun vs H Q _ => ∃ (F : Addr → Prop) (r : Addr) (z : Vbndam.Room), vs = [.ref r] ∧ RoomAt K F H r z ∧ z.players.length ≤ 8 ∧ ∀ H', Ex H H' → Q (vI (2 ^ z.players.length)) H'
def spAllPlayers : Sp := fun vs H Q _ => ∃ (F : Addr → Prop) (r : Addr) (z : Vbndam.Room), vs = [.ref r] ∧ RoomAt K F H r z ∧ z.players.length ≤ 8 ∧ ∀ p H', H p = none → Ex H H' → H' p = some (.lst (vN (List.range z.players.length))) → Q (.ref p) H'
def spFirstRule : Sp := fun vs H Q _ => ∃ (F : Addr → Prop) (r : Addr) (z : Vbndam.Room) (p m : Nat), vs = [.ref r, vI p, vI m] ∧ RoomAt K F H r z ∧ Wf z ∧ ∀ H', Ex H H' → Q (vI (firstRule z.rules p m)) H'
def spRoundSteps : Sp := fun vs H Q _ => ∃ (F : Addr → Prop) (r : Addr) (z : Vbndam.Room) (m : Nat), vs = [.ref r, vI m] ∧ RoomAt K F H r z ∧ Wf z ∧ ∀ p H', H p = none → Ex H H' → PairsAt H' p (roundSteps z m) → Q (.ref p) H'
end
section
variable {K : PySem.W.Frag} {H : Hp} {F : Addr → Prop} {r : Addr} {z : Vbndam.Room}
theorem sv_many (h : RoomAt K F H r z) (n8 : z.players.length ≤ 8) : SpV (spMany K) (.ref r :: ([] ++ [])) H (vI (2 ^ z.players.length)) := fun H1 e Q q _ => ⟨F, r, z, rfl, h.ex e, n8, q⟩
theorem sl_all (h : RoomAt K F H r z) (n8 : z.players.length ≤ 8) : SpL (spAllPlayers K) (.ref r :: ([] ++ [])) H (vN (List.range z.players.length)) := fun H1 e Q q _ => ⟨F, r, z, rfl, h.ex e, n8, q⟩
theorem sv_first {p m : Nat} (h : RoomAt K F H r z) (w : Wf z) : SpV (spFirstRule K) (.ref r :: ([vI p, vI m] ++ [])) H (vI (firstRule z.rules p m)) := fun H1 e Q q _ => ⟨F, r, z, p, m, rfl, h.ex e, w, q⟩
theorem sv_enabled {v : V} {u : Vbndam.Rule} {m : Nat} (h : RuleAt K F H v u) (hs : ∀ p ∈ u.substitutes, p < 9) (hl : u.substitutes.length ≤ 100) : SpV (spEnabled K) (v :: ([vI m] ++ [])) H (.bl (Vbndam.isRuleEnabled m u)) := fun H1 e Q q _ => ⟨F, v, u, m, rfl, h.ex e, hs, hl, q⟩
end
theorem first_here {rs : List Vbndam.Rule} {p m i : Nat} {u : Vbndam.Rule} (hu : rs[i]? = some u) (ok : okFor p m u = true) (no : ∀ x ∈ rs.take i, okFor p m x = false) : firstRule rs p m = i + 1 := by
  unfold firstRule
  have : rs.findIdx? (okFor p m) = some i := by
    rw [List.findIdx?_eq_some_iff_getElem]
    obtain ⟨hi, e⟩ := List.getElem?_eq_some_iff.mp hu
    refine ⟨hi, by rw [e]; exact ok, fun j hj => ?_⟩
    have hm : rs[j]'(by omega) ∈ rs.take i := by
      rw [List.mem_take_iff_getElem]
      exact ⟨j, by omega, rfl⟩
    rw [no _ hm]
    decide
  rw [this]
theorem first_none {rs : List Vbndam.Rule} {p m : Nat} (no : ∀ x ∈ rs, okFor p m x = false) : firstRule rs p m = 0 := by
  unfold firstRule
  have : rs.findIdx? (okFor p m) = none := by
    rw [List.findIdx?_eq_none_iff]
    exact no
  rw [this]
section
variable {P : Program} {w : World} {K : PySem.W.Frag} {mg : Str → Option Value} {base : Heap}
theorem ok_many (c : Top K mg) : FOk P w K mg base CX0 1 ("Room", some "many") p_Room_many (spMany K) := by
  refine FOk.mk0 c.f_Room_many sc_Room_many (fun _ _ _ _ _ _ us hl => match us, hl with | [_], _ => rfl) (fun vs H Q E h => ?_) (fun cdv A outer s H vs Q E hr h => ?_)
  · obtain ⟨F, r, z, rfl, _⟩ := h
    rfl
  · obtain ⟨F, r, z, rfl, ⟨dx, ap, ar, h1, _, L⟩, n8, k⟩ := h
    obtain ⟨ps, hp, ea, _⟩ := L.pl
    refine ⟨_, pss_one (ps_ret (pe_ix ix_tup (pe_gr c.glo_PLACES) (pe_callB call_len_seq (by rfl) c.free_len PySem.boot_len (pa_cons (pe_fld (pv 0) rfl) pa_nil)) (fun _ _ => rfl))), ?_⟩
    refine s_ret (ev_op ev_c (ev_len (ev_fld (ev_var rfl) h1 c.cls_Room c.no_Room_players (rmF_players _ _)) (sq_of hp)) (rv_ixT (v := vI (2 ^ z.players.length)) (c.tup_PLACES _) ?_)) k
    rw [ea.1]
    exact places_at (by omega)
theorem ok_all_players (c : Top K mg) : FOk P w K mg base CX0 1 ("Room", some "all_players") p_Room_all_players (spAllPlayers K) := by
  refine FOk.mk0 c.f_Room_all_players sc_Room_all_players (fun _ _ _ _ _ _ us hl => match us, hl with | [_], _ => rfl) (fun vs H Q E h => ?_) (fun cdv A outer s H vs Q E hr h => ?_)
  · obtain ⟨F, r, z, rfl, _⟩ := h
    rfl
  · obtain ⟨F, r, z, rfl, ⟨dx, ap, ar, h1, _, L⟩, n8, k⟩ := h
    obtain ⟨ps, hp, ea, _⟩ := L.pl
    refine ⟨_, pss_one (ps_ret (pe_listRg rfl (by rfl) c.free_list (prg_1 (by rfl) c.free_range (pe_callB call_len_seq (by rfl) c.free_len PySem.boot_len (pa_cons (pe_fld (pv 0) rfl) pa_nil))))), ?_⟩
    refine s_retL (el_listRg (n := z.players.length) ?_ (by omega)) k
    rw [← ea.1]
    exact ev_len (ev_fld (ev_var rfl) h1 c.cls_Room c.no_Room_players (rmF_players _ _)) (sq_of hp)
theorem ok_first_rule (c : Top K mg) : FOk P w K mg base CX0 3 ("Room", some "first_rule") p_Room_first_rule (spFirstRule K) := by
  refine FOk.mk0 c.f_Room_first_rule sc_Room_first_rule (fun _ _ _ _ _ _ us hl => match us, hl with | [_, _, _], _ => rfl) (fun vs H Q E h => ?_) (fun cdv A outer s H vs Q E hr h => ?_)
  · obtain ⟨F, r, z, p, m, rfl, _⟩ := h
    rfl
  · obtain ⟨F, r, z, p, m, rfl, ⟨dx, ap, ar, h1, _, L⟩, wf, k⟩ := h
    obtain ⟨rs, hrs, ea⟩ := L.ru
    refine ⟨_, pss_cons (ps_for PassesOwn.never rfl (pi_enum (by rfl) c.free_enumerate (pa_cons (pe_fld (pv 0) rfl) pa_nil)) (pg_tup rfl (pgs_cons (pg_name (i := 3) sc_Room_first_rule.nd rfl (.inl rfl)) (pgs_cons (pg_name (i := 4) sc_Room_first_rule.nd rfl (.inl rfl)) pgs_nil)))
      (pss_one (ps_if (PW.pt (pw_and (pt_cmpR op_eq (pe_fld (pv 4) rfl) (pv 1) (nomark _)) (pw_and1 (pt_val (pe_mf (ok_is_enabled c) hr c.cls_Rule c.me_Rule_is_enabled pass0 (pv 4) (pa_cons (pv 2) pa_nil))))))
        (pss_one (ps_ret (pe_op op_add (pv 3) pe_int))) pss_nil))) (pss_one (ps_ret pe_int)), ?_⟩
    refine q_forE (zs := z.rules) (ea_cons (ev_fld (ev_var rfl) h1 c.cls_Room c.no_Room_rules (rmF_rules _ _)) ea_nil) hrs ea.1 (fun pre σ H2 => (∃ x y, σ = [some (.ref r), some (vI p), some (vI m), x, y]) ∧ Ex H H2 ∧ ∀ u ∈ pre, okFor p m u = false) (fun H1 e1 => ⟨⟨none, none, rfl⟩, e1, fun _ h => by cases h⟩)
      (fun i σ H2 _ q => sq_of (q.2.1 _ _ hrs)) (fun i v u σ H2 H3 hv hu q e3 _ => ?_) (fun σ H2 q => ?_)
    · obtain ⟨⟨x, y, rfl⟩, e2, no⟩ := q
      have hR := (ea.2 i v u hv hu).ex (e2.trans e3)
      obtain ⟨a, dxr, sb, rfl, k1, k2, k3⟩ := id hR
      have ok := wf.rules u (List.mem_of_getElem? hu)
      have eq : (decide (vI u.absent = vI p) && Vbndam.isRuleEnabled m u) = okFor p m u := by
        unfold okFor
        congr 1
        by_cases h : u.absent = p
        · rw [h]
          simp
        · rw [decide_eq_false (fun e => h (by have := V.int.inj e; omega))]
          exact (beq_eq_false_iff_ne.mpr h).symm
      refine s_if (et_and (et_test (ev_op (ev_fld (ev_var rfl) k1 c.cls_Rule c.no_Rule_absent (ruF_absent _ _ _)) (ev_var rfl) (rv_eq rfl)))
        (fun _ => et_B (ev_meth (ev_var rfl) k1 (ruF_none _ _ _ (by decide +kernel) (by decide +kernel) (by decide +kernel)) (ea_cons (ev_var rfl) ea_nil) (sv_enabled hR (fun q hq => Nat.lt_of_lt_of_le (ok.subs q hq) (Nat.le_succ_of_le wf.n8)) (Nat.le_trans ok.few (by decide)))))) (fun hb H4 e4 => ?_) (fun hb H4 e4 => ?_)
      · rw [eq] at hb
        have e := first_here hu hb no
        refine s_ret (ev_op (ev_var rfl) ev_c rv_I0) fun H5 e5 => ?_
        have kk := k H5 (((e2.trans e3).trans e4).trans e5)
        rw [e] at kk
        exact kk
      · rw [eq] at hb
        refine ⟨⟨_, _, rfl⟩, (e2.trans e3).trans e4, fun q hq => ?_⟩
        rcases List.mem_append.mp hq with hq | hq
        · exact no q hq
        · rw [List.mem_singleton.mp hq]
          exact hb
    · obtain ⟨⟨x, y, rfl⟩, e2, no⟩ := q
      have e := first_none no
      have kk := k H2 e2
      rw [e] at kk
      exact kk
end
end Gs

set_option Elab.async false
set_option linter.all false
set_option maxRecDepth 100000
set_option maxHeartbeats 4000000
/-! Walks: rounds, steps, the acting coalition, what suffices. -/
namespace Gs
open PySem PySem.Spec PyProof.Rows L2 Evl
section
variable (K : PySem.W.Frag)
def spSteps : Sp := fun vs H Q _ => ∃ (F : Addr → Prop) (r : Addr) (z : Vbndam.Room) (m : Nat), vs = [.ref r, vI m] ∧ RoomAt K F H r z ∧ Wf z ∧ m < 2 ^ z.players.length ∧ ∀ p H', H p = none → Ex H H' → PairsAt H' p (steps z m) → Q (.ref p) H'
def spActing : Sp := fun vs H Q _ => ∃ (F : Addr → Prop) (r : Addr) (z : Vbndam.Room) (m : Nat), vs = [.ref r, vI m] ∧ RoomAt K F H r z ∧ Wf z ∧ m < 2 ^ z.players.length ∧ ∀ H', Ex H H' → Q (vI (Vbndam.actingCoalition z m)) H'
def spSuff : Sp := fun vs H Q _ => ∃ (F : Addr → Prop) (r : Addr) (z : Vbndam.Room) (m : Nat), vs = [.ref r, vI m] ∧ RoomAt K F H r z ∧ Wf z ∧ m < 2 ^ z.players.length ∧ ∀ H', Ex H H' → Q (.bl (Vbndam.isSufficient z m)) H'
def spBlock : Sp := fun vs H Q _ => ∃ (F : Addr → Prop) (r : Addr) (z : Vbndam.Room) (m : Nat), vs = [.ref r, vI m] ∧ RoomAt K F H r z ∧ Wf z ∧ m < 2 ^ z.players.length ∧ ∀ H', Ex H H' → Q (.bl (Vbndam.isBlocking z m)) H'
def spTable : Sp := fun vs H Q _ => ∃ (F : Addr → Prop) (r : Addr) (z : Vbndam.Room), vs = [.ref r] ∧ RoomAt K F H r z ∧ Wf z ∧ ∀ p H', H p = none → Ex H H' → H' p = some (.lst (vB (suffTable z))) → Q (.ref p) H'
def dn (x : Nat × Nat) : Nat × Nat := (x.1, x.2 - 1)
def spValid : Sp := fun vs H Q _ => ∃ (F : Addr → Prop) (r a : Addr) (z : Vbndam.Room) (m : Nat) (ps : List (Nat × Nat)), vs = [.ref r, vI m, .ref a] ∧ RoomAt K F H r z ∧ Wf z ∧ PairsAt H a ps ∧ (∀ x ∈ ps, x.1 ≤ 7 ∧ 1 ≤ x.2) ∧ ∀ H', Ex H H' → Q (.bl (Vbndam.areStepsValid z m (ps.map dn))) H'
end
section
variable {K : PySem.W.Frag} {H : Hp} {F : Addr → Prop} {r : Addr} {z : Vbndam.Room} {m : Nat}
theorem sm_round (h : RoomAt K F H r z) (w : Wf z) : SpM (spRoundSteps K) (.ref r :: ([vI m] ++ [])) H (fun p H => PairsAt H p (roundSteps z m)) := fun H1 e Q q _ => ⟨F, r, z, m, rfl, h.ex e, w, q⟩
theorem sm_steps (h : RoomAt K F H r z) (w : Wf z) (hm : m < 2 ^ z.players.length) : SpM (spSteps K) (.ref r :: ([vI m] ++ [])) H (fun p H => PairsAt H p (steps z m)) := fun H1 e Q q _ => ⟨F, r, z, m, rfl, h.ex e, w, hm, q⟩
theorem sv_acting (h : RoomAt K F H r z) (w : Wf z) (hm : m < 2 ^ z.players.length) : SpV (spActing K) (.ref r :: ([vI m] ++ [])) H (vI (Vbndam.actingCoalition z m)) := fun H1 e Q q _ => ⟨F, r, z, m, rfl, h.ex e, w, hm, q⟩
theorem sv_suff (h : RoomAt K F H r z) (w : Wf z) (hm : m < 2 ^ z.players.length) : SpV (spSuff K) (.ref r :: ([vI m] ++ [])) H (.bl (Vbndam.isSufficient z m)) := fun H1 e Q q _ => ⟨F, r, z, m, rfl, h.ex e, w, hm, q⟩
theorem sv_block (h : RoomAt K F H r z) (w : Wf z) (hm : m < 2 ^ z.players.length) : SpV (spBlock K) (.ref r :: ([vI m] ++ [])) H (.bl (Vbndam.isBlocking z m)) := fun H1 e Q q _ => ⟨F, r, z, m, rfl, h.ex e, w, hm, q⟩
theorem sl_table (h : RoomAt K F H r z) (w : Wf z) : SpL (spTable K) (.ref r :: ([] ++ [])) H (vB (suffTable z)) := fun H1 e Q q _ => ⟨F, r, z, rfl, h.ex e, w, q⟩
end
theorem steps_len (z : Vbndam.Room) : ∀ (f c : Nat), (Vbndam.stepsFrom z f c).length ≤ f * z.players.length
  | 0, c => by
    show (0 : Nat) ≤ _
    omega
  | f + 1, c => by
    rw [steps_succ, List.length_append]
    have h1 : (specRound z c).length ≤ z.players.length := by
      unfold specRound Vbndam.playerCount
      rw [List.length_map]
      have := List.length_filter_le (fun p => !Vbndam.isMember c p && Vbndam.isMember (Vbndam.nextRound z c) p) (List.range z.players.length)
      rw [List.length_range] at this
      exact this
    have h2 := steps_len z f (Vbndam.nextRound z c)
    rw [Nat.add_mul, Nat.one_mul]
    omega
theorem steps_few {z : Vbndam.Room} (h : z.players.length ≤ 8) (c : Nat) : (steps z c).length ≤ 64 := by
  unfold steps Vbndam.substitutionSteps Vbndam.playerCount
  rw [List.length_map]
  refine Nat.le_trans (steps_len z _ c) ?_
  exact Nat.mul_le_mul h h
theorem steps_first {z : Vbndam.Room} : ∀ (f c : Nat), ∀ x ∈ Vbndam.stepsFrom z f c, x.1 < z.players.length
  | 0, c, x, h => by cases h
  | f + 1, c, x, h => by
    rw [steps_succ] at h
    rcases List.mem_append.mp h with h | h
    · have : x.1 ∈ (specRound z c).map (·.1) := List.mem_map.mpr ⟨x, h, rfl⟩
      rw [specRound_first] at this
      obtain ⟨y, hy, e⟩ := List.mem_map.mp this
      rw [← e]
      exact round_lt z c y hy
    · exact steps_first f _ x h
theorem steps_lt {z : Vbndam.Room} {c : Nat} : ∀ x ∈ steps z c, x.1 < z.players.length := by
  intro x hx
  unfold steps at hx
  obtain ⟨y, hy, rfl⟩ := List.mem_map.mp hx
  exact steps_first _ _ y hy
theorem addAll_one (c : Nat) (l : List (Nat × Nat)) (x : Nat × Nat) : addAll c (l ++ [x]) = addM (addAll c l) x.1 := addAll_append c l [x]
section
variable {P : Program} {w : World} {K : PySem.W.Frag} {mg : Str → Option Value} {base : Heap}
theorem ok_round_steps (c : Top K mg) : FOk P w K mg base CX0 4 ("Room", some "round_steps") p_Room_round_steps (spRoundSteps K) := by
  refine FOk.mk0 c.f_Room_round_steps sc_Room_round_steps (fun _ _ _ _ _ _ us hl => match us, hl with | [_, _], _ => rfl) (fun vs H Q E h => ?_) (fun cdv A outer s H vs Q E hr h => ?_)
  · obtain ⟨F, r, z, m, rfl, _⟩ := h
    rfl
  · obtain ⟨F, r, z, m, rfl, hroom, wf, k⟩ := h
    obtain ⟨dx, ap, ar, h1, _, L⟩ := id hroom
    have n8 := wf.n8
    refine ⟨_, pss_cons (ps_set (i := 2) sc_Room_round_steps.nd rfl (.inl rfl) (pe_lst pa_nil))
      (pss_cons (ps_for PassesOwn.never rfl (pi_list (pe_mf0 (ok_all_players c) (hr.mono (by decide)) c.cls_Room c.me_Room_all_players pass0 (pv 0))) (pg_name (i := 3) sc_Room_round_steps.nd rfl (.inl rfl))
        (pss_cons (ps_set (i := 4) sc_Room_round_steps.nd rfl (.inl rfl) (pe_mf (ok_first_rule c) (hr.mono (by decide)) c.cls_Room c.me_Room_first_rule pass0 (pv 0) (pa_cons (pv 3) (pa_cons (pv 1) pa_nil))))
        (pss_one (ps_if (PW.pt (pw_and (pt_cmpR op_gt (pv 4) pe_int (nomark _)) (pw_and1 (pt_not (pt_val (pe_cf (ok_is_member c) (hr.mono (by decide)) c.glo_is_member pass0 (pa_cons (pv 1) (pa_cons (pv 3) pa_nil))))))))
          (pss_one (ps_expr (pe_bm PySem.F.plainAttrs_list PySem.F.slot_list_append PySem.F.type_list_append mt_append (pv 2) (pa_cons (pe_tup (pa_cons (pv 3) (pa_cons (pv 4) pa_nil))) pa_nil)))) pss_nil))))
      (pss_one (ps_ret (pv 2)))), ?_⟩
    refine q_asgL (el_lst ea_nil (by decide)) fun f H1 hf e1 hf1 => ?_
    have hR1 := hroom.ex e1
    refine q_forN (zs := List.range z.players.length) (el_meth (ev_var rfl) (e1 _ _ h1) (rmF_none _ _ (by decide +kernel) (by decide +kernel)) ea_nil (sl_all hR1 n8)) (vN_len _)
      (fun p pre σ H2 => (∃ x y, σ = [some (.ref r), some (vI m), some (.ref f), x, y]) ∧ Ex H H2 ∧ H2 p = some (.lst (vN (List.range z.players.length))) ∧ p ≠ f ∧ PairsAt H2 f ((pre.filter (joins z m)).map fun p => (p, firstRule z.rules p m)))
      (fun p H2 hp e2 hp2 => ⟨⟨none, none, rfl⟩, e1.trans e2, hp2, (fun q => by rw [q, hf1] at hp; cases hp), [], e2 _ _ hf1, EachAt.nil⟩) (fun p i σ H2 _ q => sq_of q.2.2.1) (fun p i v x σ H2 hv hx q => ?_) (fun p σ H2 q => ?_)
    · obtain ⟨⟨x1, y1, rfl⟩, e2, hp2, npf, xs, hxs, he⟩ := q
      have hx0 : x < z.players.length := List.mem_range.mp (List.mem_of_getElem? hx)
      have hv0 : v = vI x := by
        obtain ⟨n, hn, rfl⟩ := vN_of hv
        rw [hx] at hn
        cases hn
        rfl
      subst hv0
      have hlen : xs.length ≤ i := by
        rw [he.1, List.length_map]
        exact Nat.le_trans (List.length_filter_le _ _) (by rw [List.length_take]; exact Nat.min_le_left _ _)
      have hi : i < z.players.length := by
        have := (List.getElem?_eq_some_iff.mp hx).1
        rwa [List.length_range] at this
      show tSeq _ _ _ _ H2
      refine q_asg (ev_meth (ev_var rfl) (e2 _ _ h1) (rmF_none _ _ (by decide +kernel) (by decide +kernel)) (ea_cons (ev_var rfl) (ea_cons (ev_var rfl) ea_nil)) (sv_first (hroom.ex e2) wf)) fun H3 e3 => ?_
      refine s_when (et_and (et_test (ev_op (ev_var rfl) ev_c rv_I0)) (fun _ => et_not (et_B (ev_cf (ea_cons (ev_var rfl) (ea_cons (ev_var rfl) ea_nil)) (sv_member (show x < 9 by omega)))))) (fun hb H4 e4 => ?_) (fun hb H4 e4 => ?_)
      · have hj : joins z m x = true := by
          unfold joins
          rw [← hb]
          congr 1
          exact decide_eq_decide.mpr (by omega)
        have hf4 : H4 f = some (.lst xs) := e4 _ _ (e3 _ _ hxs)
        refine s_appU hf4 (ev_var rfl) (eu_tup (ea_cons (ev_var rfl) (ea_cons (ev_var rfl) ea_nil)) (by show 2 ≤ 100000; decide)) (by omega) fun t H5 ht e5 ht5 => ?_
        have ee := ((e2.trans e3).trans e4).trans e5
        refine ⟨⟨_, _, rfl⟩, Ex.mut ee hf, ?_, npf, ?_⟩
        · rw [upd_ne npf]
          exact e5 _ _ (e4 _ _ (e3 _ _ hp2))
        · rw [List.filter_append, List.filter_cons, if_pos hj, List.map_append]
          exact pairs_app (q := (x, firstRule z.rules x m)) (e5 _ _ hf4) (he.imp fun _ _ h => h.ex ((e3.trans e4).trans e5)) ht5
      · have hj : joins z m x = false := by
          unfold joins
          rw [← hb]
          congr 1
          exact decide_eq_decide.mpr (by omega)
        refine ⟨⟨_, _, rfl⟩, (e2.trans e3).trans e4, e4 _ _ (e3 _ _ hp2), npf, ?_⟩
        rw [List.filter_append, List.filter_cons, if_neg (by rw [hj]; exact Bool.false_ne_true)]
        show PairsAt H4 f ((((List.range z.players.length).take i).filter _ ++ []).map _)
        rw [List.append_nil]
        exact PairsAt.ex ⟨xs, hxs, he⟩ (e3.trans e4)
    · obtain ⟨⟨x1, y1, rfl⟩, e2, hp2, npf, hps⟩ := q
      exact ⟨_, rfl, k f H2 hf e2 hps⟩
theorem ok_steps (c : Top K mg) : FOk P w K mg base CX0 5 ("Room", some "steps") p_Room_steps (spSteps K) := by
  refine FOk.mk0 c.f_Room_steps sc_Room_steps (fun _ _ _ _ _ _ us hl => match us, hl with | [_, _], _ => rfl) (fun vs H Q E h => ?_) (fun cdv A outer s H vs Q E hr h => ?_)
  · obtain ⟨F, r, z, m, rfl, _⟩ := h
    rfl
  · obtain ⟨F, r, z, m, rfl, hroom, wf, hm, k⟩ := h
    obtain ⟨dx, ap, ar, h1, _, L⟩ := id hroom
    have n8 := wf.n8
    have hu := hu_of hr
    refine ⟨_, pss_cons (ps_set (i := 2) sc_Room_steps.nd rfl (.inl rfl) (pe_lst pa_nil))
      (pss_cons (ps_set (i := 3) sc_Room_steps.nd rfl (.inl rfl) (pe_mf (ok_round_steps c) (hr.mono (by decide)) c.cls_Room c.me_Room_round_steps pass0 (pv 0) (pa_cons (pv 1) pa_nil)))
      (pss_cons (ps_while PassesOwn.never (pt_cmpR (op_neNil (by exact Nat.lt_of_succ_lt hu)) (pv 3) (pe_lst pa_nil) (nomark _))
        (pss_cons (ps_set (i := 2) sc_Room_steps.nd rfl (.inl rfl) (pe_op op_cat (pv 2) (pv 3)))
        (pss_cons (ps_for PassesOwn.never rfl (pi_list (pv 3)) (pg_tup rfl (pgs_cons (pg_name (i := 4) sc_Room_steps.nd rfl (.inl rfl)) (pgs_cons (pg_name (i := 5) sc_Room_steps.nd rfl (.inl rfl)) pgs_nil)))
          (pss_one (ps_set (i := 1) sc_Room_steps.nd rfl (.inl rfl) (pe_cf (ok_with_member c) (hr.mono (by decide)) c.glo_with_member pass0 (pa_cons (pv 1) (pa_cons (pv 4) pa_nil))))))
        (pss_one (ps_set (i := 3) sc_Room_steps.nd rfl (.inl rfl) (pe_mf (ok_round_steps c) (hr.mono (by decide)) c.cls_Room c.me_Room_round_steps pass0 (pv 0) (pa_cons (pv 1) pa_nil)))))))
      (pss_one (ps_ret (pv 2))))), ?_⟩
    refine q_asgL (el_lst ea_nil (by decide)) fun f H1 hf e1 hf1 => ?_
    refine q_asgM (em_meth (ev_var rfl) (e1 _ _ h1) (rmF_none _ _ (by decide +kernel) (by decide +kernel)) (ea_cons (ev_var rfl) ea_nil) (sm_round (hroom.ex e1) wf)) fun mo H2 hmo e2 hmo2 => ?_
    refine q_while (fun mm σ H3 => ∃ (cc fu : Nat) (fd mo : Addr) (dne : List (Nat × Nat)) (x y : Option V), σ = [some (.ref r), some (vI cc), some (.ref fd), some (.ref mo), x, y] ∧ Ex H H3 ∧ H fd = none ∧ cc < 2 ^ z.players.length ∧ PairsAt H3 fd dne ∧ PairsAt H3 mo (roundSteps z cc) ∧
        dne ++ (Vbndam.stepsFrom z fu cc).map up = steps z m ∧ nonmem z.players.length cc ≤ fu ∧ mm = nonmem z.players.length cc) (nonmem z.players.length m)
      ⟨m, z.players.length, f, mo, [], none, none, rfl, e1.trans e2, hf, hm, PairsAt.ex ⟨[], hf1, EachAt.nil⟩ e2, hmo2, rfl, nonmem_le _ _, rfl⟩ (fun mm σ H3 W => ?_)
    obtain ⟨cc, fu, fd, mo, dne, x, y, rfl, e3, hfd, hcc, hd3, hm3, eq, hfu, rfl⟩ := W
    obtain ⟨xs, hx1, hx2⟩ := id hm3
    refine ⟨!xs.isEmpty, et_test (ev_opL (ev_var rfl) (el_lst ea_nil (by decide)) fun p H4 hp e4 => rv_val fun H5 e5 Q q => ⟨mo, p, xs, rfl, rfl, sq_of (e5 _ _ (e4 _ _ hx1)), sq_of (e5 _ _ hp), q⟩), fun hb H4 e4 => ?_, fun hb H4 e4 => ?_⟩
    · have hne : roundSteps z cc ≠ [] := fun e => by
        have := hx2.1
        rw [e] at this
        cases xs with
        | nil => cases hb
        | cons _ _ => simp at this
      obtain ⟨fu', rfl, eq2, hfu'⟩ := steps_more hcc hne hfu
      have hlt : nonmem z.players.length (addAll cc (roundSteps z cc)) < nonmem z.players.length cc := by
        rw [← next_is hcc]
        exact nonmem_lt hcc hne
      have hall : addAll cc (roundSteps z cc) < 2 ^ z.players.length := addAll_lt hcc (round_lt z cc)
      have tot : (dne ++ roundSteps z cc ++ (Vbndam.stepsFrom z fu' (addAll cc (roundSteps z cc))).map up).length ≤ 64 := by
        rw [List.append_assoc, ← eq2, eq]
        exact steps_few n8 m
      obtain ⟨ys, hy1, hy2⟩ := hd3
      have hl : ys.length + xs.length ≤ sizeLine := by
        rw [List.length_append, List.length_append] at tot
        rw [hy2.1, hx2.1, sizeLine_eq]
        omega
      refine ⟨fun σ' H' => ∃ m', m' < nonmem z.players.length cc ∧ ∃ (cc fu : Nat) (fd mo : Addr) (dne : List (Nat × Nat)) (x y : Option V), σ' = [some (.ref r), some (vI cc), some (.ref fd), some (.ref mo), x, y] ∧ Ex H H' ∧ H fd = none ∧ cc < 2 ^ z.players.length ∧ PairsAt H' fd dne ∧ PairsAt H' mo (roundSteps z cc) ∧
        dne ++ (Vbndam.stepsFrom z fu cc).map up = steps z m ∧ nonmem z.players.length cc ≤ fu ∧ m' = nonmem z.players.length cc, fun σ' H' q => q, ?_⟩
      -- found = found + more
      refine ⟨_, rfl, _, rfl, fd, mo, ys, xs, rfl, rfl, e4 _ _ hy1, e4 _ _ hx1, hl, fun p hp => ?_⟩
      have e5 : Ex H4 (upd H4 p (.lst (ys ++ xs))) := Ex.new hp
      have hpp : PairsAt (upd H4 p (.lst (ys ++ xs))) p (dne ++ roundSteps z cc) := ⟨_, upd_same, (hy2.imp fun _ _ h => h.ex (e4.trans e5)).app (hx2.imp fun _ _ h => h.ex (e4.trans e5))⟩
      have hpH : H p = none := fresh_back (e3.trans e4) hp
      refine q_forPairs (ps := roundSteps z cc) (ev_var rfl) (hm3.ex (e4.trans e5)) (fun pre σ H6 => (∃ x y, σ = [some (.ref r), some (vI (addAll cc pre)), some (.ref p), some (.ref mo), x, y]) ∧ Ex (upd H4 p (.lst (ys ++ xs))) H6) (fun H6 e6 => ⟨⟨_, _, rfl⟩, e6⟩) (fun _ _ _ q => q.2) (fun i u σ H6 hu q => ?_) (fun σ H6 q => ?_)
      · obtain ⟨⟨x1, y1, rfl⟩, e6⟩ := q
        have hu8 : u.1 < 9 := by
          have := round_lt z cc u (List.mem_of_getElem? hu)
          omega
        refine s_asg (ev_cf (ea_cons (ev_var rfl) (ea_cons (ev_var rfl) ea_nil)) (sv_with hu8)) fun H7 e7 => ?_
        refine ⟨⟨some (vI u.1), some (vI u.2), ?_⟩, e6.trans e7⟩
        rw [addAll_one]
        rfl
      · obtain ⟨⟨x1, y1, rfl⟩, e6⟩ := q
        have eH := ((e3.trans e4).trans e5).trans e6
        refine s_asgM (em_meth (ev_var rfl) (eH _ _ h1) (rmF_none _ _ (by decide +kernel) (by decide +kernel)) (ea_cons (ev_var rfl) ea_nil) (sm_round (hroom.ex eH) wf)) fun mo2 H7 hmo7 e7 hm7 => ?_
        refine ⟨_, hlt, _, fu', p, mo2, dne ++ roundSteps z cc, x1, y1, rfl, eH.trans e7, hpH, hall, hpp.ex (e6.trans e7), hm7, ?_, hfu', rfl⟩
        rw [List.append_assoc, ← eq2, eq]
    · have he : roundSteps z cc = [] := by
        have := hx2.1
        cases xs with
        | nil => exact List.eq_nil_of_length_eq_zero this.symm
        | cons _ _ => cases hb
      rw [nil_steps hcc he fu] at eq
      simp only [List.map_nil, List.append_nil] at eq
      subst eq
      exact ⟨_, rfl, k fd H4 hfd (e3.trans e4) (hd3.ex e4)⟩
end
end Gs

set_option Elab.async false
set_option linter.all false
set_option maxRecDepth 100000
set_option maxHeartbeats 4000000
/-! Walks: the acting coalition, valid steps, sufficient, blocking, tables. -/
namespace Gs
open PySem PySem.Spec PyProof.Rows L2 Evl
theorem valid_nil (z : Vbndam.Room) (s : Nat) : Vbndam.areStepsValid z s [] = true := rfl
theorem valid_cons (z : Vbndam.Room) (s : Nat) (x : Nat × Nat) (l : List (Nat × Nat)) : Vbndam.areStepsValid z s (x :: l) = ((z.rules[x.2]?).any (fun u => u.absent == x.1 && Vbndam.isRuleEnabled s u) && Vbndam.areStepsValid z (addM s x.1) l) := rfl
theorem vI_eq (m n : Nat) : decide (vI m = vI n) = decide (m = n) := by
  by_cases h : m = n
  · subst h
    simp
  · rw [decide_eq_false h, decide_eq_false (fun e => h (by have := V.int.inj e; omega))]
theorem beq_dec (m n : Nat) : (m == n) = decide (m = n) := by
  by_cases h : m = n
  · subst h
    simp
  · rw [decide_eq_false h]
    exact beq_eq_false_iff_ne.mpr h
section
variable {P : Program} {w : World} {K : PySem.W.Frag} {mg : Str → Option Value} {base : Heap}
theorem ok_acting (c : Top K mg) : FOk P w K mg base CX0 6 ("Room", some "acting") p_Room_acting (spActing K) := by
  refine FOk.mk0 c.f_Room_acting sc_Room_acting (fun _ _ _ _ _ _ us hl => match us, hl with | [_, _], _ => rfl) (fun vs H Q E h => ?_) (fun cdv A outer s H vs Q E hr h => ?_)
  · obtain ⟨F, r, z, m, rfl, _⟩ := h
    rfl
  · obtain ⟨F, r, z, m, rfl, hroom, wf, hm, k⟩ := h
    obtain ⟨dx, ap, ar, h1, _, L⟩ := id hroom
    have n8 := wf.n8
    refine ⟨_, pss_cons (ps_for PassesOwn.never rfl (pi_list (pe_mf (ok_steps c) hr c.cls_Room c.me_Room_steps pass0 (pv 0) (pa_cons (pv 1) pa_nil))) (pg_tup rfl (pgs_cons (pg_name (i := 2) sc_Room_acting.nd rfl (.inl rfl)) (pgs_cons (pg_name (i := 3) sc_Room_acting.nd rfl (.inl rfl)) pgs_nil)))
        (pss_one (ps_set (i := 1) sc_Room_acting.nd rfl (.inl rfl) (pe_cf (ok_with_member c) (hr.mono (by decide)) c.glo_with_member pass0 (pa_cons (pv 1) (pa_cons (pv 2) pa_nil))))))
      (pss_one (ps_ret (pv 1))), ?_⟩
    refine q_forMPairs (ps := steps z m) (em_meth (ev_var rfl) h1 (rmF_none _ _ (by decide +kernel) (by decide +kernel)) (ea_cons (ev_var rfl) ea_nil) (sm_steps hroom wf hm))
      (fun H1 pre σ H2 => (∃ x y, σ = [some (.ref r), some (vI (addAll m pre)), x, y]) ∧ Ex H H2 ∧ Ex H1 H2) (fun H1 e => ⟨⟨none, none, rfl⟩, e, Ex.refl _⟩) (fun _ _ _ _ q => q.2.2) (fun H0 i u σ H6 hu q => ?_) (fun H0 σ H6 q => ?_)
    · obtain ⟨⟨x1, y1, rfl⟩, e6, e7⟩ := q
      have hu8 : u.1 < 9 := by
        have := steps_lt u (List.mem_of_getElem? hu)
        omega
      refine s_asg (ev_cf (ea_cons (ev_var rfl) (ea_cons (ev_var rfl) ea_nil)) (sv_with hu8)) fun H7 e8 => ?_
      refine ⟨⟨some (vI u.1), some (vI u.2), ?_⟩, e6.trans e8, e7.trans e8⟩
      rw [addAll_one]
      rfl
    · obtain ⟨⟨x1, y1, rfl⟩, e6, e7⟩ := q
      rw [acting_is hm]
      exact ⟨_, rfl, k H6 e6⟩
theorem ok_are_valid (c : Top K mg) : FOk P w K mg base CX0 3 ("Room", some "are_valid") p_Room_are_valid (spValid K) := by
  refine FOk.mk0 c.f_Room_are_valid sc_Room_are_valid (fun _ _ _ _ _ _ us hl => match us, hl with | [_, _, _], _ => rfl) (fun vs H Q E h => ?_) (fun cdv A outer s H vs Q E hr h => ?_)
  · obtain ⟨F, r, a, z, m, ps, rfl, _⟩ := h
    rfl
  · obtain ⟨F, r, a, z, m, ps, rfl, hroom, wf, hps, hb, k⟩ := h
    obtain ⟨dx, ap, ar, h1, _, L⟩ := id hroom
    obtain ⟨rs, hrs, ea⟩ := L.ru
    have n8 := wf.n8
    have nd := sc_Room_are_valid.nd
    refine ⟨_, pss_cons (ps_for PassesOwn.never rfl (pi_list (pv 2)) (pg_tup rfl (pgs_cons (pg_name (i := 3) nd rfl (.inl rfl)) (pgs_cons (pg_name (i := 4) nd rfl (.inl rfl)) pgs_nil)))
        (pss_cons (ps_if (pt_cmpR op_gt (pv 4) (pe_callB call_len_seq (by rfl) c.free_len PySem.boot_len (pa_cons (pe_fld (pv 0) rfl) pa_nil)) (nomark _)) (pss_one (ps_ret pe_bl)) pss_nil)
        (pss_cons (ps_set (i := 5) nd rfl (.inl rfl) (pe_ix ix_list (pe_fld (pv 0) rfl) (pe_op op_sub (pv 4) pe_int) (fun _ _ => rfl)))
        (pss_cons (ps_if (PW.pt (pw_or (pt_cmpR op_ne (pe_fld (pv 5) rfl) (pv 3) (nomark _)) (pw_or1 (pt_not (pt_val (pe_mf (ok_is_enabled c) hr c.cls_Rule c.me_Rule_is_enabled pass0 (pv 5) (pa_cons (pv 1) pa_nil))))))) (pss_one (ps_ret pe_bl)) pss_nil)
        (pss_one (ps_set (i := 1) nd rfl (.inl rfl) (pe_cf (ok_with_member c) hr c.glo_with_member pass0 (pa_cons (pv 1) (pa_cons (pv 3) pa_nil)))))))))
      (pss_one (ps_ret pe_bl)), ?_⟩
    refine q_forPairs (ps := ps) (ev_var rfl) hps (fun pre σ H2 => ∃ (cc : Nat) (x y v : Option V), σ = [some (.ref r), some (vI cc), some (.ref a), x, y, v] ∧ Ex H H2 ∧ ∀ rest, Vbndam.areStepsValid z m (pre.map dn ++ rest) = Vbndam.areStepsValid z cc rest)
      (fun H1 e => ⟨m, none, none, none, rfl, e, fun _ => rfl⟩) (fun _ _ _ q => by obtain ⟨_, _, _, _, _, e, _⟩ := q; exact e) (fun i u σ H2 hu q => ?_) (fun σ H2 q => ?_)
    · obtain ⟨cc, x1, y1, v1, rfl, e2, eq⟩ := q
      have hu2 := hb u (List.mem_of_getElem? hu)
      have all : ps = ps.take i ++ u :: ps.drop (i + 1) := by
        have hi := (List.getElem?_eq_some_iff.mp hu).1
        have e : ps[i] = u := (List.getElem?_eq_some_iff.mp hu).2
        rw [← e, ← List.drop_eq_getElem_cons hi, List.take_append_drop]
      have full : Vbndam.areStepsValid z m (ps.map dn) = Vbndam.areStepsValid z cc (dn u :: (ps.drop (i + 1)).map dn) := by
        rw [← eq]
        congr 1
        conv => lhs; rw [all]
        rw [List.map_append, List.map_cons]
      rw [valid_cons] at full
      refine q_when (b := decide (z.rules.length < u.2)) (et_is (et_test (ev_op (ev_var rfl) (ev_len (ev_fld (ev_var rfl) (e2 _ _ h1) c.cls_Room c.no_Room_rules (rmF_rules _ _)) (sq_of (e2 _ _ hrs))) rv_I0)) ?_) (fun hbt H3 e3 => ?_) (fun hbt H3 e3 => ?_)
      · rw [ea.1]
        exact decide_eq_decide.mpr (by omega)
      · have hgt := of_decide_eq_true hbt
        have kk := k H3 (e2.trans e3)
        have no : z.rules[(dn u).2]? = none := by
          show z.rules[u.2 - 1]? = none
          rw [List.getElem?_eq_none_iff]
          omega
        rw [full, no] at kk
        exact kk
      · have hle : u.2 - 1 < z.rules.length := by
          have := of_decide_eq_false hbt
          omega
        have hz := List.getElem?_eq_getElem hle
        obtain ⟨v, hv, hR0⟩ := ea.get hz
        have hR := hR0.ex (e2.trans e3)
        obtain ⟨ra, dxr, sb, rfl, k1, k2, k3⟩ := id hR
        have okr := wf.rules _ (List.mem_of_getElem? hz)
        have hix : atI rs (((u.2 : Nat) : Int) - 1) = some (.ref ra) := by
          have : (((u.2 : Nat) : Int) - 1) = ((u.2 - 1 : Nat) : Int) := by omega
          rw [this]
          exact atI_nat hv
        refine q_asg (ev_op (ev_fld (ev_var rfl) ((e2.trans e3) _ _ h1) c.cls_Room c.no_Room_rules (rmF_rules _ _)) (ev_op (ev_var rfl) ev_c rv_I0) (rv_ixL (sq_of ((e2.trans e3) _ _ hrs)) hix)) fun H4 e4 => ?_
        refine q_when (et_or (et_test (ev_op (ev_fld (ev_var rfl) (e4 _ _ k1) c.cls_Rule c.no_Rule_absent (ruF_absent _ _ _)) (ev_var rfl) (rv_ne rfl)))
          (fun _ => et_not (et_B (ev_meth (ev_var rfl) (e4 _ _ k1) (ruF_none _ _ _ (by decide +kernel) (by decide +kernel) (by decide +kernel)) (ea_cons (ev_var rfl) ea_nil) (sv_enabled (hR.ex e4) (fun q hq => Nat.lt_of_lt_of_le (okr.subs q hq) (Nat.le_succ_of_le n8)) (Nat.le_trans okr.few (by decide)))))))
          (fun hbt2 H5 e5 => ?_) (fun hbt2 H5 e5 => ?_)
        · have kk := k H5 (((e2.trans e3).trans e4).trans e5)
          rw [full, show z.rules[(dn u).2]? = some z.rules[u.2 - 1] from hz] at kk
          rw [vI_eq] at hbt2
          have : ((z.rules[u.2 - 1].absent == (dn u).1) && Vbndam.isRuleEnabled cc z.rules[u.2 - 1]) = false := by
            rw [beq_dec]
            show (decide (z.rules[u.2 - 1].absent = u.1) && _) = false
            cases hd : decide (z.rules[u.2 - 1].absent = u.1) with
            | false => rfl
            | true =>
              rw [hd] at hbt2
              simpa using hbt2
          rw [Option.any_some, this] at kk
          exact kk
        · refine s_asg (ev_cf (ea_cons (ev_var rfl) (ea_cons (ev_var rfl) ea_nil)) (sv_with (show u.1 < 9 by omega))) fun H6 e6 => ?_
          refine ⟨addM cc u.1, some (vI u.1), some (vI u.2), some (.ref ra), rfl, (((e2.trans e3).trans e4).trans e5).trans e6, fun rest => ?_⟩
          rw [List.map_append, List.append_assoc, eq]
          show Vbndam.areStepsValid z cc (dn u :: rest) = _
          rw [valid_cons, show z.rules[(dn u).2]? = some z.rules[u.2 - 1] from hz, Option.any_some]
          rw [vI_eq] at hbt2
          have : ((z.rules[u.2 - 1].absent == (dn u).1) && Vbndam.isRuleEnabled cc z.rules[u.2 - 1]) = true := by
            rw [beq_dec]
            show (decide (z.rules[u.2 - 1].absent = u.1) && _) = true
            cases hd : decide (z.rules[u.2 - 1].absent = u.1) with
            | false =>
              rw [hd] at hbt2
              cases hbt2
            | true =>
              rw [hd] at hbt2
              simpa using hbt2
          rw [this]
          rfl
    · obtain ⟨cc, x1, y1, v1, rfl, e2, eq⟩ := q
      have kk := k H2 e2
      have := eq []
      rw [List.append_nil] at this
      rw [this] at kk
      exact kk
theorem many_pos (n : Nat) : 0 < 2 ^ n := Nat.two_pow_pos n
theorem ok_is_sufficient (c : Top K mg) : FOk P w K mg base CX0 7 ("Room", some "is_sufficient") p_Room_is_sufficient (spSuff K) := by
  refine FOk.mk0 c.f_Room_is_sufficient sc_Room_is_sufficient (fun _ _ _ _ _ _ us hl => match us, hl with | [_, _], _ => rfl) (fun vs H Q E h => ?_) (fun cdv A outer s H vs Q E hr h => ?_)
  · obtain ⟨F, r, z, m, rfl, _⟩ := h
    rfl
  · obtain ⟨F, r, z, m, rfl, hroom, wf, hm, k⟩ := h
    obtain ⟨dx, ap, ar, h1, _, L⟩ := id hroom
    refine ⟨_, pss_one (ps_ret (pe_cmpR op_eq (pe_mf (ok_acting c) hr c.cls_Room c.me_Room_acting pass0 (pv 0) (pa_cons (pv 1) pa_nil)) (pe_op op_sub (pe_mf0 (ok_many c) (hr.mono (by decide)) c.cls_Room c.me_Room_many pass0 (pv 0)) pe_int) (nomark _))), ?_⟩
    have rn : ∀ {m : Str}, (m == ("players" : Str)) = false → (m == ("rules" : Str)) = false → (rmF ap ar).lookup m = none := rmF_none _ _
    refine s_ret (ev_op (ev_meth (ev_var rfl) h1 (rn (by decide +kernel) (by decide +kernel)) (ea_cons (ev_var rfl) ea_nil) (sv_acting hroom wf hm)) (ev_op (ev_meth (ev_var rfl) h1 (rn (by decide +kernel) (by decide +kernel)) ea_nil (sv_many hroom wf.n8)) ev_c rv_I0) (rv_eq rfl)) fun H1 e1 => ?_
    have e : decide (vI (Vbndam.actingCoalition z m) = V.int (((2 ^ z.players.length : Nat) : Int) - 1)) = Vbndam.isSufficient z m := by
      have hp := many_pos z.players.length
      have : V.int (((2 ^ z.players.length : Nat) : Int) - 1) = vI (Vbndam.everyone z) := by
        unfold Vbndam.everyone
        exact congrArg V.int (by omega)
      rw [this, vI_eq]
      unfold Vbndam.isSufficient
      exact (beq_dec _ _).symm
    rw [e]
    exact k H1 e1
theorem ok_is_blocking (c : Top K mg) : FOk P w K mg base CX0 8 ("Room", some "is_blocking") p_Room_is_blocking (spBlock K) := by
  refine FOk.mk0 c.f_Room_is_blocking sc_Room_is_blocking (fun _ _ _ _ _ _ us hl => match us, hl with | [_, _], _ => rfl) (fun vs H Q E h => ?_) (fun cdv A outer s H vs Q E hr h => ?_)
  · obtain ⟨F, r, z, m, rfl, _⟩ := h
    rfl
  · obtain ⟨F, r, z, m, rfl, hroom, wf, hm, k⟩ := h
    obtain ⟨dx, ap, ar, h1, _, L⟩ := id hroom
    have hp := many_pos z.players.length
    refine ⟨_, pss_one (ps_ret (pe_not (pe_mf (ok_is_sufficient c) hr c.cls_Room c.me_Room_is_sufficient pass0 (pv 0) (pa_cons (pe_op op_sub (pe_op op_sub (pe_mf0 (ok_many c) (hr.mono (by decide)) c.cls_Room c.me_Room_many pass0 (pv 0)) pe_int) (pv 1)) pa_nil)))), ?_⟩
    have rn : ∀ {m : Str}, (m == ("players" : Str)) = false → (m == ("rules" : Str)) = false → (rmF ap ar).lookup m = none := rmF_none _ _
    refine s_ret (ev_notV (ev_meth (ev_var rfl) h1 (rn (by decide +kernel) (by decide +kernel)) (ea_cons (ev_is (w := vI (2 ^ z.players.length - 1 - m)) (ev_op (ev_op (ev_meth (ev_var rfl) h1 (rn (by decide +kernel) (by decide +kernel)) ea_nil (sv_many hroom wf.n8)) ev_c rv_I0) (ev_var rfl) rv_I0) (congrArg V.int (by omega))) ea_nil) (sv_suff hroom wf (by omega)))) fun H1 e1 => ?_
    exact k H1 e1
theorem ok_table (c : Top K mg) : FOk P w K mg base CX0 8 ("Room", some "sufficient_table") p_Room_sufficient_table (spTable K) := by
  refine FOk.mk0 c.f_Room_sufficient_table sc_Room_sufficient_table (fun _ _ _ _ _ _ us hl => match us, hl with | [_], _ => rfl) (fun vs H Q E h => ?_) (fun cdv A outer s H vs Q E hr h => ?_)
  · obtain ⟨F, r, z, rfl, _⟩ := h
    rfl
  · obtain ⟨F, r, z, rfl, hroom, wf, k⟩ := h
    obtain ⟨dx, ap, ar, h1, _, L⟩ := id hroom
    have P256 := pow_le_256 wf.n8
    refine ⟨_, pss_one (ps_ret (pe_lc (own := [("coalition", 1)]) (g := gName 1) rfl sc_Room_sufficient_table.nd (pi_range1 (by rfl) c.free_range (pa_cons (pe_mf0 (ok_many c) (hr.mono (by decide)) c.cls_Room c.me_Room_many pass0 (pv 0)) pa_nil))
      (blkOk_by (N := n_Room_sufficient_table) (sc := defScope s_Room_sufficient_table) (by decide +kernel)) (fun _ _ _ _ _ => pg_name (i := 1) sc_Room_sufficient_table.nd rfl (.inl rfl)) (fun _ _ _ _ _ => pts_nil)
      (fun _ _ _ _ _ => by exact (pe_mf (ok_is_sufficient c) hr c.cls_Room c.me_Room_is_sufficient pass0 (pv 0) (pa_cons (pv 1) pa_nil))))), ?_⟩
    have rn : ∀ {m : Str}, (m == ("players" : Str)) = false → (m == ("rules" : Str)) = false → (rmF ap ar).lookup m = none := rmF_none _ _
    refine s_retL (el_lcR (n := 2 ^ z.players.length) (fun _ => true) (fun i => .bl (Vbndam.isSufficient z i)) (ea_cons (ev_meth (ev_var rfl) h1 (rn (by decide +kernel) (by decide +kernel)) ea_nil (sv_many hroom wf.n8)) ea_nil) (by omega) (fun _ => rfl) (fun _ _ _ _ => et_yes)
      (fun i hi H1 e _ => ev_meth (ev_var rfl) (e _ _ h1) (rn (by decide +kernel) (by decide +kernel)) (ea_cons (ev_var rfl) ea_nil) (sv_suff (hroom.ex e) wf hi))) fun p H1 hp e hp1 => ?_
    refine k p H1 hp e ?_
    rw [hp1, List.filter_eq_self.mpr (fun _ _ => rfl)]
    unfold suffTable vB
    rw [List.map_map]
    rfl
end
end Gs

set_option Elab.async false
set_option linter.all false
set_option maxRecDepth 100000
set_option maxHeartbeats 4000000
/-! Walks: tables. -/
namespace Gs
open PySem PySem.Spec PyProof.Rows L2 Evl
section
variable (K : PySem.W.Frag)
def spMembers : Sp := fun vs H Q _ => ∃ m : Nat, vs = [vI m] ∧ ∀ p H', H p = none → Ex H H' → H' p = some (.lst (vN (members8 m))) → Q (.ref p) H'
def spMinimal : Sp := fun vs H Q _ => ∃ (a : Addr) (t : List Bool), vs = [.ref a] ∧ H a = some (.lst (vB t)) ∧ t.length ≤ 256 ∧ ∀ p H', H p = none → Ex H H' → H' p = some (.lst (vN (minimalOnes t))) → Q (.ref p) H'
def spBlocking : Sp := fun vs H Q _ => ∃ (a : Addr) (t : List Bool), vs = [.ref a] ∧ H a = some (.lst (vB t)) ∧ t.length ≤ 256 ∧ ∀ p H', H p = none → Ex H H' → H' p = some (.lst (vB (blockTable t))) → Q (.ref p) H'
def spReturns : Sp := fun vs H Q _ => ∃ (a : Addr) (t : List Bool) (m : Nat), vs = [.ref a, vI m] ∧ H a = some (.lst (vB t)) ∧ t.length ≤ 256 ∧ (∀ o, o < t.length → apart m o = true → o + m < t.length) ∧ ∀ p H', H p = none → Ex H H' → H' p = some (.lst (vB (returnsTable t m))) → Q (.ref p) H'
def spSwings : Sp := fun vs H Q _ => ∃ (a : Addr) (t : List Bool) (p0 : Nat), vs = [.ref a, vI p0] ∧ H a = some (.lst (vB t)) ∧ t.length ≤ 256 ∧ p0 < 9 ∧ (∀ o, o < t.length → Vbndam.isMember o p0 = false → o + 2 ^ p0 < t.length) ∧ ∀ p H', H p = none → Ex H H' → H' p = some (.lst (vN (swingsOf t p0))) → Q (.ref p) H'
def spCounts : Sp := fun vs H Q _ => ∃ (a : Addr) (t : List Bool) (n : Nat), vs = [.ref a, vI n] ∧ H a = some (.lst (vB t)) ∧ t.length ≤ 256 ∧ n ≤ 8 ∧ (∀ o, o < t.length → (members8 o).length ≤ n) ∧ ∀ p H', H p = none → Ex H H' → H' p = some (.lst (vN (countsBy t n))) → Q (.ref p) H'
def spWeightOf : Sp := fun vs H Q _ => ∃ (F : Addr → Prop) (r : Addr) (z : Vbndam.Room) (m : Nat), vs = [.ref r, vI m] ∧ RoomAt K F H r z ∧ Wf z ∧ ∀ H', Ex H H' → Q (vI (Vbndam.coalitionWeight z m)) H'
end
section
variable {K : PySem.W.Frag} {H : Hp} {a : Addr} {t : List Bool} {m : Nat} {σ : L2.St} {te : TE}
theorem sl_members : SpL spMembers ([vI m] ++ []) H (vN (members8 m)) := fun H1 e Q q _ => ⟨m, rfl, q⟩
theorem ev_sumN {l : List Nat} (h : EvL te σ H (vN l)) : Ev (tCB (rSum K) (tCons te tNil)) σ H (vI l.sum) := fun H1 e Q q =>
  h H1 e _ fun p H2 _ e2 hp => ⟨p, l.map fun (n : Nat) => (n : Int), rfl, by rw [← vN_ints]; exact sq_of hp, by rw [sum_cast]; exact q H2 e2⟩
theorem ev_anyN {l : List Bool} (h : EvL te σ H (vB l)) : Ev (tCB (rAny K) (tCons te tNil)) σ H (.bl (l.any id)) := fun H1 e Q q =>
  h H1 e _ fun p H2 _ e2 hp => ⟨p, l, rfl, sq_of hp, q H2 e2⟩
theorem ev_allN {l : List Bool} (h : EvL te σ H (vB l)) : Ev (tCB (rAll K) (tCons te tNil)) σ H (.bl (l.all id)) := fun H1 e Q q =>
  h H1 e _ fun p H2 _ e2 hp => ⟨p, l, rfl, sq_of hp, q H2 e2⟩
/-- arguments, one of them a new list -/
theorem el_callL {sp : Sp} {E : XK} {xs ys : List V} (h : EvL te σ H xs) (hs : ∀ p H1, Ex H H1 → H1 p = some (.lst xs) → SpL sp ([.ref p] ++ []) H1 ys) : EvL (tCall sp [] E (tCons te tNil)) σ H ys := fun H1 e Q q =>
  h H1 e _ fun p H2 hp e2 h2 => hs p H2 (e.trans e2) h2 H2 (Ex.refl _) Q (fun p' H3 hp' e3 h3 => q p' H3 (fresh_back e2 hp') (e2.trans e3) h3) E
theorem el_callL2 {sp : Sp} {E : XK} {xs ys : List V} {tf : TE} {v : V} (h : EvL te σ H xs) (hf : Ev tf σ H v) (hs : ∀ p H1, Ex H H1 → H1 p = some (.lst xs) → SpL sp ([.ref p, v] ++ []) H1 ys) : EvL (tCall sp [] E (tCons te (tCons tf tNil))) σ H ys := fun H1 e Q q =>
  h H1 e _ fun p H2 hp e2 h2 => hf H2 (e.trans e2) _ fun H3 e3 => hs p H3 ((e.trans e2).trans e3) (e3 _ _ h2) H3 (Ex.refl _) Q (fun p' H4 hp' e4 h4 => q p' H4 (fresh_back (e2.trans e3) hp') ((e2.trans e3).trans e4) h4) E
theorem el_cf1 {sp : Sp} {E : XK} {ta : TA} {vs xs : List V} (h : EvA ta σ H vs) (hs : SpL sp (vs ++ []) H xs) : EvL (tCall sp [] E ta) σ H xs := el_call h hs
theorem et_any_of {l : List Nat} {f : Nat → Bool} (h : EvL te σ H ((l.filter fun _ => true).map fun o => .bl (f o))) : Ev (tCB (rAny K) (tCons te tNil)) σ H (.bl (l.any f)) := by
  have e : ((l.filter fun _ => true).map fun o => V.bl (f o)) = vB (l.map f) := by
    rw [List.filter_eq_self.mpr (fun _ _ => rfl)]
    unfold vB
    rw [List.map_map]
    rfl
  rw [e] at h
  refine ev_is (ev_anyN h) ?_
  rw [List.any_map]
  rfl
theorem map_bl (l : List Nat) (f : Nat → Bool) : l.map (fun i => V.bl (f i)) = vB (l.map f) := by
  unfold vB
  rw [List.map_map]
  rfl
theorem map_vI (l : List Nat) (f : Nat → Nat) : l.map (fun i => vI (f i)) = vN (l.map f) := by
  unfold vN
  rw [List.map_map]
  rfl
theorem filter_yes {α : Type} (l : List α) : l.filter (fun _ => true) = l := List.filter_eq_self.mpr (fun _ _ => rfl)
end
theorem tb_at {t : List Bool} {i : Nat} {b : Bool} (h : t[i]? = some b) : tb t i = b := getD_at h
theorem tb_atI {t : List Bool} {i : Nat} (h : i < t.length) : atI (vB t) (i : Int) = some (.bl (tb t i)) := by
  refine atI_nat ?_
  have := List.getElem?_eq_getElem h
  rw [vB_at this]
  rw [tb_at this]
theorem mem8_len (m : Nat) : (members8 m).length ≤ 8 := by
  unfold members8
  have := List.length_filter_le (Vbndam.isMember m) (List.range 8)
  rw [List.length_range] at this
  exact this
def minCond (t : List Bool) (c : Nat) : Bool := tb t c && !(((members8 c).map fun p => c - 2 ^ p).any (tb t))
theorem minCond_is (t : List Bool) : (List.range t.length).filter (minCond t) = minimalOnes t := by
  unfold minimalOnes
  refine List.filter_congr fun c _ => ?_
  unfold minCond
  rw [List.any_map]
  rfl
section
variable {P : Program} {w : World} {K : PySem.W.Frag} {mg : Str → Option Value} {base : Heap}
theorem ok_members_of (c : Top K mg) : FOk P w K mg base CX0 2 ("members_of", none) p_members_of spMembers := by
  refine FOk.mk0 c.f_members_of sc_members_of (fun _ _ _ _ _ _ us hl => match us, hl with | [_], _ => rfl) (fun vs H Q E h => ?_) (fun cdv A outer s H vs Q E hr h => ?_)
  · obtain ⟨m, rfl, _⟩ := h
    rfl
  · obtain ⟨m, rfl, k⟩ := h
    refine ⟨_, pss_one (ps_ret (pe_lc (own := [("player", 1)]) (g := gName 1) rfl sc_members_of.nd (pi_range1 (by rfl) c.free_range (pa_cons (pe_gi c.int_MOST_PLAYERS) pa_nil))
      (blkOk_by (N := n_members_of) (sc := defScope s_members_of) (by decide +kernel)) (fun _ _ _ _ _ => pg_name (i := 1) sc_members_of.nd rfl (.inl rfl))
      (fun _ _ _ _ _ => pts_one (pt_val (pe_cf (ok_is_member c) hr c.glo_is_member pass0 (pa_cons (pv 0) (pa_cons (pv 1) pa_nil))))) (fun _ _ _ _ _ => pv 1))), ?_⟩
    refine s_retL (el_lcR (n := 8) (Vbndam.isMember m) vI (ea_cons ev_c ea_nil) (by decide) (fun _ => rfl) (fun i hi H1 e => et_B (ev_cf (ea_cons (ev_var rfl) (ea_cons (ev_var rfl) ea_nil)) (sv_member (show i < 9 by omega)))) (fun i hi H1 e _ => ev_var rfl)) k
theorem ok_minimal_ones (c : Top K mg) : FOk P w K mg base CX0 3 ("minimal_ones", none) p_minimal_ones spMinimal := by
  refine FOk.mk0 c.f_minimal_ones sc_minimal_ones (fun _ _ _ _ _ _ us hl => match us, hl with | [_], _ => rfl) (fun vs H Q E h => ?_) (fun cdv A outer s H vs Q E hr h => ?_)
  · obtain ⟨a, t, rfl, _⟩ := h
    rfl
  · obtain ⟨a, t, rfl, ht, h256, k⟩ := h
    have nd := sc_minimal_ones.nd
    refine ⟨_, pss_cons (ps_set (i := 1) nd rfl (.inl rfl) (pe_lst pa_nil))
      (pss_cons (ps_for PassesOwn.never rfl (pi_enum (by rfl) c.free_enumerate (pa_cons (pv 0) pa_nil)) (pg_tup rfl (pgs_cons (pg_name (i := 2) nd rfl (.inr rfl)) (pgs_cons (pg_name (i := 3) nd rfl (.inl rfl)) pgs_nil)))
        (pss_cons (ps_setLc (i := 4) (own := [("player", 5)]) (g := gName 5) rfl nd rfl rfl (sw_true rfl rfl rfl (by decide +kernel)) (pi_list (pe_cf (ok_members_of c) hr c.glo_members_of pass0 (pa_cons (pv 2) pa_nil)))
          (blkOk_by (N := n_minimal_ones) (sc := defScope s_minimal_ones) (by decide +kernel)) (fun _ _ _ _ _ => pg_name (i := 5) nd rfl (.inl rfl)) (fun _ _ _ _ _ => pts_nil)
          (fun _ _ _ _ _ => pe_op op_sub (pv 2) (pe_ix (ixt (K := K)) (pe_gr c.glo_PLACES) (pv 5) (fun _ _ => rfl))))
        (pss_one (ps_if (PW.pt (pw_and (pt_val (pv 3)) (pw_and1 (pt_not (pt_val (pe_callB (cr_any rfl) (by rfl) c.free_any (by decide +kernel) (pa_cons (pe_lc (own := [("one", 6)]) (g := gName 6) rfl nd (pi_list (pv 4))
            (blkOk_by (N := n_minimal_ones) (sc := defScope s_minimal_ones) (by decide +kernel)) (fun _ _ _ _ _ => pg_name (i := 6) nd rfl (.inl rfl)) (fun _ _ _ _ _ => pts_nil) (fun _ _ _ _ _ => pe_ix (ixl (K := K)) (pv 0) (pv 6) (fun _ _ => rfl))) pa_nil)))))))
          (pss_one (ps_expr (pe_bm PySem.F.plainAttrs_list PySem.F.slot_list_append PySem.F.type_list_append mt_append (pv 1) (pa_cons (pv 2) pa_nil)))) pss_nil))))
      (pss_one (ps_ret (pv 1)))), ?_⟩
    refine q_asgL (el_lst ea_nil (by decide)) fun f H1 hf e1 hf1 => ?_
    refine q_forE (zs := t) (ea_cons (ev_var rfl) ea_nil) (e1 _ _ ht) (vB_len t) (fun pre σ H2 => (∃ x y u, σ = [some (.ref a), some (.ref f), x, y, u, none, none]) ∧ Ex H H2 ∧ H2 f = some (.lst (vN ((List.range pre.length).filter (minCond t)))))
      (fun H2 e2 => ⟨⟨none, none, none, rfl⟩, e1.trans e2, e2 _ _ hf1⟩) (fun i σ H2 _ q => sq_of (q.2.1 _ _ ht)) (fun i v x σ H2 H3 hv hx q e3 _ => ?_) (fun σ H2 q => ?_)
    · obtain ⟨⟨x1, y1, u1, rfl⟩, e2, hf2⟩ := q
      have hi : i < t.length := (List.getElem?_eq_some_iff.mp hx).1
      have hlen : (t.take i).length = i := by rw [List.length_take]; omega
      rw [hlen] at hf2
      have hv0 : v = .bl (tb t i) := by
        obtain ⟨b, hb, rfl⟩ := vB_of hv
        rw [tb_at hb]
      subst hv0
      refine q_asgL (el_lcAN (l := members8 i) (enc := vI) (fun _ => true) (fun p => vI (i - 2 ^ p)) (el_cf1 (ea_cons (ev_var rfl) ea_nil) sl_members) (Nat.le_trans (mem8_len i) (by decide)) (fun _ => rfl) (fun _ _ _ _ => et_yes) (fun p hp H4 e4 _ => ?_)) fun fw H4 hfw e4 hfw4 => ?_
      · obtain ⟨hp8, hb⟩ := mem_members8 hp
        have hle := pow_le_bit hb
        exact ev_is (ev_op (ev_var rfl) (ev_op ev_c (ev_var rfl) (rv_ixT (c.tup_PLACES _) (places_at (show p < 9 by omega)))) rv_I0) (congrArg V.int (by omega))
      · rw [filter_yes, map_vI] at hfw4
        have ht4 : H4 a = some (.lst (vB t)) := e4 _ _ (e3 _ _ (e2 _ _ ht))
        refine s_when (b := minCond t i) (et_and (et_B (ev_var rfl)) (fun _ => et_not (et_B (et_any_of (el_lcA (l := (members8 i).map fun p => i - 2 ^ p) (enc := vI) (fun _ => true) (fun o => .bl (tb t o)) (ev_var rfl) (sq_of hfw4) (by rw [List.length_map]; exact Nat.le_trans (mem8_len i) (by decide)) (fun _ => rfl) (fun _ _ _ _ => et_yes) (fun o ho H5 e5 _ => ?_)))))) (fun hb H5 e5 => ?_) (fun hb H5 e5 => ?_)
        · obtain ⟨p, hp, rfl⟩ := List.mem_map.mp ho
          exact ev_op (ev_var rfl) (ev_var rfl) (rv_ixL (sq_of (e5 _ _ ht4)) (tb_atI (Nat.lt_of_le_of_lt (Nat.sub_le i (2 ^ p)) hi)))
        · have ee := ((e2.trans e3).trans e4).trans e5
          have hf5 := e5 _ _ (e4 _ _ (e3 _ _ hf2))
          refine s_app hf5 (ev_var rfl) (ev_var rfl) ?_ fun H6 e6 => ?_
          · rw [vN_len]
            exact Nat.lt_of_le_of_lt (List.length_filter_le _ _) (by rw [List.length_range]; omega)
          · refine ⟨⟨_, _, _, rfl⟩, Ex.mut (ee.trans e6) hf, ?_⟩
            rw [upd_same, List.length_append, hlen, List.length_singleton, List.range_succ, List.filter_append, List.filter_cons, if_pos hb, vN_app]
            rfl
        · refine ⟨⟨_, _, _, rfl⟩, ((e2.trans e3).trans e4).trans e5, ?_⟩
          rw [List.length_append, hlen, List.length_singleton, List.range_succ, List.filter_append, List.filter_cons, if_neg (by rw [hb]; exact Bool.false_ne_true)]
          show _ = some (HO.lst (vN (_ ++ [])))
          rw [List.append_nil]
          exact e5 _ _ (e4 _ _ (e3 _ _ hf2))
    · obtain ⟨⟨x1, y1, u1, rfl⟩, e2, hf2⟩ := q
      rw [minCond_is] at hf2
      exact ⟨_, rfl, k f H2 hf e2 hf2⟩
end
end Gs

set_option Elab.async false
set_option linter.all false
set_option maxRecDepth 100000
set_option maxHeartbeats 4000000
/-! Walks: further tables, counts, weights. -/
namespace Gs
open PySem PySem.Spec PyProof.Rows L2 Evl
def swCond (t : List Bool) (p c : Nat) : Bool := !Vbndam.isMember c p && (!tb t c && tb t (c + 2 ^ p))
def b2n (b : Bool) : Nat := if b = true then 1 else 0
def cntTo (t : List Bool) (i k : Nat) : Nat := ((List.range i).filter fun c => (members8 c).length == k && tb t c).length
theorem cnt_next (t : List Bool) (i k : Nat) : cntTo t (i + 1) k = cntTo t i k + (if (members8 i).length = k then b2n (tb t i) else 0) := by
  unfold cntTo
  rw [List.range_succ, List.filter_append, List.length_append, List.filter_cons]
  congr 1
  rw [beq_dec]
  by_cases h : (members8 i).length = k
  · rw [if_pos h, decide_eq_true h, Bool.true_and]
    unfold b2n
    cases tb t i <;> rfl
  · rw [if_neg h, decide_eq_false h, Bool.false_and]
    rfl
theorem cnt_le (t : List Bool) (i k : Nat) : cntTo t i k ≤ i := by
  unfold cntTo
  have := List.length_filter_le (fun c => (members8 c).length == k && tb t c) (List.range i)
  rw [List.length_range] at this
  exact this
section
variable {P : Program} {w : World} {K : PySem.W.Frag} {mg : Str → Option Value} {base : Heap}
theorem ok_blocking_table (c : Top K mg) : FOk P w K mg base CX0 1 ("blocking_table", none) p_blocking_table spBlocking := by
  refine FOk.mk0 c.f_blocking_table sc_blocking_table (fun _ _ _ _ _ _ us hl => match us, hl with | [_], _ => rfl) (fun vs H Q E h => ?_) (fun cdv A outer s H vs Q E hr h => ?_)
  · obtain ⟨a, t, rfl, _⟩ := h
    rfl
  · obtain ⟨a, t, rfl, ht, h256, k⟩ := h
    have nd := sc_blocking_table.nd
    refine ⟨_, pss_one (ps_ret (pe_lc (own := [("has_it", 1)]) (g := gName 1) rfl nd (pi_reversed (by rfl) c.free_reversed (pa_cons (pv 0) pa_nil))
      (blkOk_by (N := n_blocking_table) (sc := defScope s_blocking_table) (by decide +kernel)) (fun _ _ _ _ _ => pg_name (i := 1) nd rfl (.inl rfl)) (fun _ _ _ _ _ => pts_nil) (fun _ _ _ _ _ => pe_not (pv 1)))), ?_⟩
    have hl : (vB t).length = t.length := vB_len t
    refine s_retL (el_lcW (J := Itv K a (vB t).length) (n := (vB t).length) (G := fun H => SqL K H a (vB t)) (fun _ => true) (fun i => .bl (!tb t (t.length - 1 - i))) (fun i => [some (.ref a), some (.bl (tb t (t.length - 1 - i)))]) walk_rev
      (fun H1 e R q => ⟨_, rfl, a, _, rfl, sq_of (e _ _ ht), q H1 (Ex.refl _)⟩) (fun H1 e => sq_of (e _ _ ht)) (by omega) (fun _ _ => rfl) (fun i x H1 H2 hi e y => ?_) (fun _ _ _ _ => et_yes) (fun i H1 hi e _ => ev_notV (ev_var rfl))) fun p H1 hp e hp1 => ?_
    · obtain ⟨rfl, hx⟩ := y
      refine ⟨Ex.refl _, fun R q => ?_⟩
      obtain ⟨b, hb, rfl⟩ := vB_of hx
      rw [hl] at hb
      rw [tb_at hb] at q
      exact q
    · refine k p H1 hp e ?_
      rw [hp1, given_all, hl]
      unfold blockTable vB
      congr 2
      refine List.ext_getElem (by simp) fun i h1 h2 => ?_
      have hi : i < t.length := by simpa using h1
      have hlt : t.length - 1 - i < t.length := by omega
      have : tb t (t.length - 1 - i) = t[t.length - 1 - i] := tb_at (List.getElem?_eq_getElem hlt)
      simp [this]
theorem ok_returns_table (c : Top K mg) : FOk P w K mg base CX0 3 ("returns_table", none) p_returns_table spReturns := by
  refine FOk.mk0 c.f_returns_table sc_returns_table (fun _ _ _ _ _ _ us hl => match us, hl with | [_, _], _ => rfl) (fun vs H Q E h => ?_) (fun cdv A outer s H vs Q E hr h => ?_)
  · obtain ⟨a, t, m, rfl, _⟩ := h
    rfl
  · obtain ⟨a, t, m, rfl, ht, h256, hin, k⟩ := h
    have nd := sc_returns_table.nd
    refine ⟨_, pss_cons (ps_set (i := 2) nd rfl (.inl rfl) (pe_cf (ok_members_of c) hr c.glo_members_of pass0 (pa_cons (pv 1) pa_nil)))
      (pss_cons (ps_set (i := 3) nd rfl (.inl rfl) (pe_lst pa_nil))
      (pss_cons (ps_for PassesOwn.never rfl (pi_range1 (by rfl) c.free_range (pa_cons (pe_callB call_len_seq (by rfl) c.free_len PySem.boot_len (pa_cons (pv 0) pa_nil)) pa_nil)) (pg_name (i := 4) nd rfl (.inr rfl))
        (pss_cons (ps_set (i := 5) nd rfl (.inl rfl) (pe_not (pe_callB (cr_any rfl) (by rfl) c.free_any (by decide +kernel) (pa_cons (pe_lc (own := [("player", 6)]) (g := gName 6) rfl nd (pi_list (pv 2))
            (blkOk_by (N := n_returns_table) (sc := defScope s_returns_table) (by decide +kernel)) (fun _ _ _ _ _ => pg_name (i := 6) nd rfl (.inl rfl)) (fun _ _ _ _ _ => pts_nil)
            (fun _ _ _ _ _ => by exact (pe_cf (ok_is_member c) (hr.mono (by decide)) c.glo_is_member pass0 (pa_cons (pv 4) (pa_cons (pv 6) pa_nil))))) pa_nil))))
        (pss_one (ps_expr (pe_bm PySem.F.plainAttrs_list PySem.F.slot_list_append PySem.F.type_list_append mt_append (pv 3) (pa_cons (pe_and (pv 5) (pe_one (pe_ix ix_list (pv 0) (pe_op op_add (pv 4) (pv 1)) (fun _ _ => rfl)))) pa_nil))))))
      (pss_one (ps_ret (pv 3))))), ?_⟩
    refine q_asgL (el_cf1 (ea_cons (ev_var rfl) ea_nil) sl_members) fun mi H1 hmi e1 hmi1 => ?_
    refine q_asgL (el_lst ea_nil (by decide)) fun f H2 hf e2 hf2 => ?_
    have hfH : H f = none := fresh_back e1 hf
    refine q_forR1 (n := (t.length : Int)) (ea_cons (ev_is (ev_len (ev_var rfl) (sq_of (e2 _ _ (e1 _ _ ht)))) (by rw [vB_len])) ea_nil) (by omega)
      (fun i σ H3 => (∃ x y, σ = [some (.ref a), some (vI m), some (.ref mi), some (.ref f), x, y, none]) ∧ Ex H H3 ∧ H3 mi = some (.lst (vN (members8 m))) ∧ H3 f = some (.lst (vB ((List.range i).map fun o => apart m o && tb t (o + m)))))
      (fun H3 e3 => ⟨⟨none, none, rfl⟩, (e1.trans e2).trans e3, e3 _ _ (e2 _ _ hmi1), e3 _ _ hf2⟩) (fun i σ H3 hi q => ?_) (fun σ H3 q => ?_)
    · obtain ⟨⟨x1, y1, rfl⟩, e3, hm3, hf3⟩ := q
      have hi : i < t.length := by omega
      refine q_asg (v := .bl (apart m i)) (ev_is (ev_notV (et_any_of (f := Vbndam.isMember i) (el_lcA (l := members8 m) (enc := vI) (fun _ => true) _ (ev_var rfl) (sq_of hm3) (Nat.le_trans (mem8_len m) (by decide)) (fun _ => rfl) (fun _ _ _ _ => et_yes) (fun p hp H5 e5 _ =>
          ev_cf (ea_cons (ev_var rfl) (ea_cons (ev_var rfl) ea_nil)) (sv_member (show p < 9 by have := (mem_members8 hp).1; omega)))))) rfl) fun H4 e4 => ?_
      have ht4 := e4 _ _ (e3 _ _ ht)
      refine s_app (e4 _ _ hf3) (ev_var rfl) (ev_andV (ev_var rfl) (fun ha => ev_op (ev_var rfl) (ev_is (w := vI (i + m)) (ev_op (ev_var rfl) (ev_var rfl) rv_I0) (congrArg V.int (by omega))) (rv_ixL (sq_of ht4) (tb_atI (hin i hi ha))))) ?_ fun H5 e5 => ?_
      · rw [vB_len, List.length_map, List.length_range]
        omega
      · have nmf : mi ≠ f := ne_of_none hmi1 hf
        refine ⟨⟨_, _, rfl⟩, Ex.mut ((e3.trans e4).trans e5) hfH, ?_, ?_⟩
        · rw [upd_ne nmf]
          exact e5 _ _ (e4 _ _ hm3)
        · rw [upd_same, List.range_succ, List.map_append]
          unfold vB
          rw [List.map_append]
          rfl
    · obtain ⟨⟨x1, y1, rfl⟩, e3, hm3, hf3⟩ := q
      exact ⟨_, rfl, k f H3 hfH e3 hf3⟩
theorem ok_swings_of (c : Top K mg) : FOk P w K mg base CX0 2 ("swings_of", none) p_swings_of spSwings := by
  refine FOk.mk0 c.f_swings_of sc_swings_of (fun _ _ _ _ _ _ us hl => match us, hl with | [_, _], _ => rfl) (fun vs H Q E h => ?_) (fun cdv A outer s H vs Q E hr h => ?_)
  · obtain ⟨a, t, m, rfl, _⟩ := h
    rfl
  · obtain ⟨a, t, p0, rfl, ht, h256, hp9, hin, k⟩ := h
    have nd := sc_swings_of.nd
    refine ⟨_, pss_cons (ps_set (i := 2) nd rfl (.inl rfl) (pe_lst pa_nil))
      (pss_cons (ps_for PassesOwn.never rfl (pi_enum (by rfl) c.free_enumerate (pa_cons (pv 0) pa_nil)) (pg_tup rfl (pgs_cons (pg_name (i := 3) nd rfl (.inl rfl)) (pgs_cons (pg_name (i := 4) nd rfl (.inl rfl)) pgs_nil)))
        (pss_one (ps_if (PW.pt (pw_and (pt_not (pt_val (pe_cf (ok_is_member c) hr c.glo_is_member pass0 (pa_cons (pv 3) (pa_cons (pv 1) pa_nil))))) (pw_and (pt_not (pt_val (pv 4))) (pw_and1 (pt_val (pe_ix ix_list (pv 0) (pe_op op_add (pv 3) (pe_ix ix_tup (pe_gr c.glo_PLACES) (pv 1) (fun _ _ => rfl))) (fun _ _ => rfl)))))))
          (pss_one (ps_expr (pe_bm PySem.F.plainAttrs_list PySem.F.slot_list_append PySem.F.type_list_append mt_append (pv 2) (pa_cons (pv 3) pa_nil)))) pss_nil)))
      (pss_one (ps_ret (pv 2)))), ?_⟩
    refine q_asgL (el_lst ea_nil (by decide)) fun f H1 hf e1 hf1 => ?_
    refine q_forE (zs := t) (ea_cons (ev_var rfl) ea_nil) (e1 _ _ ht) (vB_len t) (fun pre σ H2 => (∃ x y, σ = [some (.ref a), some (vI p0), some (.ref f), x, y]) ∧ Ex H H2 ∧ H2 f = some (.lst (vN ((List.range pre.length).filter (swCond t p0)))))
      (fun H2 e2 => ⟨⟨none, none, rfl⟩, e1.trans e2, e2 _ _ hf1⟩) (fun i σ H2 _ q => sq_of (q.2.1 _ _ ht)) (fun i v x σ H2 H3 hv hx q e3 _ => ?_) (fun σ H2 q => ?_)
    · obtain ⟨⟨x1, y1, rfl⟩, e2, hf2⟩ := q
      have hi : i < t.length := (List.getElem?_eq_some_iff.mp hx).1
      have hlen : (t.take i).length = i := by rw [List.length_take]; omega
      rw [hlen] at hf2
      have hv0 : v = .bl (tb t i) := by
        obtain ⟨b, hb, rfl⟩ := vB_of hv
        rw [tb_at hb]
      subst hv0
      refine s_when (b := swCond t p0 i) (et_and (et_not (et_B (ev_cf (ea_cons (ev_var rfl) (ea_cons (ev_var rfl) ea_nil)) (sv_member hp9)))) (fun hm => et_and (et_not (et_B (ev_var rfl))) (fun _ => et_B (ev_op (ev_var rfl) (ev_is (w := vI (i + 2 ^ p0)) (ev_op (ev_var rfl) (ev_op ev_c (ev_var rfl) (rv_ixT (c.tup_PLACES _) (places_at hp9))) rv_I0) (congrArg V.int (by omega)))
          (rv_ixL (sq_of (e3 _ _ (e2 _ _ ht))) (tb_atI (hin i hi (by simpa using hm)))))))) (fun hb H5 e5 => ?_) (fun hb H5 e5 => ?_)
      · refine s_app (e5 _ _ (e3 _ _ hf2)) (ev_var rfl) (ev_var rfl) ?_ fun H6 e6 => ?_
        · rw [vN_len]
          exact Nat.lt_of_le_of_lt (List.length_filter_le _ _) (by rw [List.length_range]; omega)
        · refine ⟨⟨_, _, rfl⟩, Ex.mut (((e2.trans e3).trans e5).trans e6) hf, ?_⟩
          rw [upd_same, List.length_append, hlen, List.length_singleton, List.range_succ, List.filter_append, List.filter_cons, if_pos hb, vN_app]
          rfl
      · refine ⟨⟨_, _, rfl⟩, (e2.trans e3).trans e5, ?_⟩
        rw [List.length_append, hlen, List.length_singleton, List.range_succ, List.filter_append, List.filter_cons, if_neg (by rw [hb]; exact Bool.false_ne_true)]
        show _ = some (HO.lst (vN (_ ++ [])))
        rw [List.append_nil]
        exact e5 _ _ (e3 _ _ hf2)
    · obtain ⟨⟨x1, y1, rfl⟩, e2, hf2⟩ := q
      exact ⟨_, rfl, k f H2 hf e2 hf2⟩
theorem vN_set (l : List Nat) (i x : Nat) : (vN l).set i (vI x) = vN (l.set i x) := by
  unfold vN
  rw [List.map_set]
theorem ok_counts_by_members (c : Top K mg) : FOk P w K mg base CX0 3 ("counts_by_members", none) p_counts_by_members spCounts := by
  refine FOk.mk0 c.f_counts_by_members sc_counts_by_members (fun _ _ _ _ _ _ us hl => match us, hl with | [_, _], _ => rfl) (fun vs H Q E h => ?_) (fun cdv A outer s H vs Q E hr h => ?_)
  · obtain ⟨a, t, m, rfl, _⟩ := h
    rfl
  · obtain ⟨a, t, n, rfl, ht, h256, n8, hin, k⟩ := h
    have nd := sc_counts_by_members.nd
    refine ⟨_, pss_cons (ps_set (i := 2) nd rfl (.inl rfl) (pe_op op_rep (pe_lst (pa_cons pe_int pa_nil)) (pe_op op_add (pv 1) pe_int)))
      (pss_cons (ps_for PassesOwn.never rfl (pi_enum (by rfl) c.free_enumerate (pa_cons (pv 0) pa_nil)) (pg_tup rfl (pgs_cons (pg_name (i := 3) nd rfl (.inl rfl)) (pgs_cons (pg_name (i := 4) nd rfl (.inl rfl)) pgs_nil)))
        (pss_one (ps_augS (pv 2) (pe_callB call_len_seq (by rfl) c.free_len PySem.boot_len (pa_cons (pe_cf (ok_members_of c) hr c.glo_members_of pass0 (pa_cons (pv 3) pa_nil)) pa_nil)) pget_list
          (pe_callTy call_int1 (by rfl) c.free_int (by decide +kernel) (pa_cons (pv 4) pa_nil)) ip_add set_list)))
      (pss_one (ps_ret (pv 2)))), ?_⟩
    -- counts = [0] * (players + 1)
    have hrep : EvL (tOp rRep (tLst (tCons (tC (.int 0)) tNil)) (tOp (rI0 fun i j => .int (i + j)) (tVar 1) (tC (.int 1)))) (start n_counts_by_members [.ref a, vI n]) H (vN (List.replicate (n + 1) 0)) := fun H1 e Q q =>
      el_lst (ea_cons ev_c ea_nil) (by show 1 ≤ 100000; decide) H1 e _ fun p H2 hp e2 hp2 => ⟨_, rfl, _, _, rfl, rfl, p, _, _, rfl, rfl, hp2, by omega, by omega, by show 1 * ((n : Int) + 1).toNat ≤ sizeLine; rw [sizeLine_eq]; omega, fun p' hp' => by
        refine q p' _ (fresh_back e2 hp') (e2.trans (Ex.new hp')) ?_
        rw [upd_same]
        congr 2
        rw [show (((n : Nat) : Int) + 1).toNat = n + 1 by omega]
        unfold vN
        rw [List.map_replicate]
        have : ∀ j : Nat, (List.replicate j [V.int 0]).flatten = List.replicate j (vI 0) := by
          intro j
          induction j with
          | zero => rfl
          | succ j ih =>
            rw [List.replicate_succ, List.flatten_cons, ih, List.replicate_succ]
            rfl
        exact this _⟩
    refine q_asgL hrep fun f H1 hf e1 hf1 => ?_
    have h0 : List.replicate (n + 1) 0 = (List.range (n + 1)).map (cntTo t 0) := by
      refine List.ext_getElem (by simp) fun i h1 h2 => ?_
      simp [cntTo]
    refine q_forE (zs := t) (ea_cons (ev_var rfl) ea_nil) (e1 _ _ ht) (vB_len t) (fun pre σ H2 => (∃ x y, σ = [some (.ref a), some (vI n), some (.ref f), x, y]) ∧ Ex H H2 ∧ H2 f = some (.lst (vN ((List.range (n + 1)).map (cntTo t pre.length)))))
      (fun H2 e2 => ⟨⟨none, none, rfl⟩, e1.trans e2, by rw [e2 _ _ hf1, h0]; rfl⟩) (fun i σ H2 _ q => sq_of (q.2.1 _ _ ht)) (fun i v x σ H2 H3 hv hx q e3 _ => ?_) (fun σ H2 q => ?_)
    · obtain ⟨⟨x1, y1, rfl⟩, e2, hf2⟩ := q
      have hi : i < t.length := (List.getElem?_eq_some_iff.mp hx).1
      have hlen : (t.take i).length = i := by rw [List.length_take]; omega
      rw [hlen] at hf2
      have hv0 : v = .bl (tb t i) := by
        obtain ⟨b, hb, rfl⟩ := vB_of hv
        rw [tb_at hb]
      subst hv0
      have hk := hin i hi
      have hget : (vN ((List.range (n + 1)).map (cntTo t i)))[(members8 i).length]? = some (vI (cntTo t i (members8 i).length)) := by
        refine vN_at ?_
        rw [List.getElem?_map, List.getElem?_range (by omega)]
        rfl
      refine ⟨_, rfl, ?_⟩
      refine ev_lenN (K := K) (el_cf1 (ea_cons (ev_var rfl) ea_nil) sl_members) H3 (Ex.refl _) _ fun H4 e4 => ?_
      have hf4 := e4 _ _ (e3 _ _ hf2)
      rw [vN_len]
      refine ⟨f, _, (members8 i).length, _, rfl, rfl, sq_of hf4, hget, ?_⟩
      refine ⟨_, rfl, .inr ⟨_, rfl, ?_⟩⟩
      refine ⟨_, _, rfl, rfl, ?_⟩
      refine ⟨f, _, ((members8 i).length : Int), (members8 i).length, rfl, rfl, hf4, ixN_nat (by rw [vN_len, List.length_map, List.length_range]; omega), ?_⟩
      refine ⟨⟨_, _, rfl⟩, Ex.mut ((e2.trans e3).trans e4) hf, ?_⟩
      rw [upd_same, List.length_append, hlen, List.length_singleton]
      have ev : V.int (((cntTo t i (members8 i).length : Nat) : Int) + (if tb t i = true then 1 else 0)) = vI (cntTo t i (members8 i).length + b2n (tb t i)) := by
        unfold b2n
        cases tb t i <;> rfl
      rw [ev, vN_set]
      congr 2
      refine congrArg vN ?_
      refine List.ext_getElem (by simp) fun j h1 h2 => ?_
      rw [List.getElem_set]
      simp only [List.getElem_map, List.getElem_range]
      rw [cnt_next]
      by_cases hj : (members8 i).length = j
      · rw [if_pos hj, if_pos hj, hj]
      · rw [if_neg hj, if_neg hj, Nat.add_zero]
    · obtain ⟨⟨x1, y1, rfl⟩, e2, hf2⟩ := q
      exact ⟨_, rfl, k f H2 hf e2 hf2⟩
theorem ok_weight_of (c : Top K mg) : FOk P w K mg base CX0 2 ("Room", some "weight_of") p_Room_weight_of (spWeightOf K) := by
  refine FOk.mk0 c.f_Room_weight_of sc_Room_weight_of (fun _ _ _ _ _ _ us hl => match us, hl with | [_, _], _ => rfl) (fun vs H Q E h => ?_) (fun cdv A outer s H vs Q E hr h => ?_)
  · obtain ⟨F, r, z, m, rfl, _⟩ := h
    rfl
  · obtain ⟨F, r, z, m, rfl, hroom, wf, k⟩ := h
    obtain ⟨dx, ap, ar, h1, _, L⟩ := id hroom
    obtain ⟨ps, hps, ea, _⟩ := L.pl
    have nd := sc_Room_weight_of.nd
    have n8 := wf.n8
    refine ⟨_, pss_one (ps_ret (pe_callB (cr_sum rfl) (by rfl) c.free_sum (by decide +kernel) (pa_cons (pe_lc (own := [("place", 2), ("player", 3)]) (g := gTup K 2 (gCons (gName 2) (gCons (gName 3) gNil))) rfl nd (pi_enum (by rfl) c.free_enumerate (pa_cons (pe_fld (pv 0) rfl) pa_nil))
      (blkOk_by (N := n_Room_weight_of) (sc := defScope s_Room_weight_of) (by decide +kernel)) (fun _ _ _ _ _ => by exact (pg_tup rfl (pgs_cons (pg_name (i := 2) nd rfl (.inl rfl)) (pgs_cons (pg_name (i := 3) nd rfl (.inl rfl)) pgs_nil))))
      (fun _ _ _ _ _ => pts_one (pt_val (pe_cf (ok_is_member c) hr c.glo_is_member pass0 (pa_cons (pv 1) (pa_cons (pv 2) pa_nil))))) (fun _ _ _ _ _ => by exact (pe_fldK (K := K) (pv 3)))) pa_nil))), ?_⟩
    have hl : ps.length = z.players.length := ea.1
    have hL : ∀ i, i < ps.length → ∃ (x : Vbndam.Player) (v : V), ps[i]? = some v ∧ z.players[i]? = some x ∧ PlayerAt K F H v x ∧ ps.getD i .non = v := by
      intro i hi
      have hx := List.getElem?_eq_getElem (show i < z.players.length by rw [← hl]; exact hi)
      obtain ⟨v, hv, hP⟩ := ea.get hx
      exact ⟨_, v, hv, hx, hP, getD_at hv⟩
    have eq : vN (((List.range z.players.length).filter (Vbndam.isMember m)).map (wt z)) = given ps.length (Vbndam.isMember m) (fun i => vI (wt z i)) := by
      unfold given vN
      rw [List.map_map, hl]
      rfl
    refine s_ret (ev_sumN (l := ((List.range z.players.length).filter (Vbndam.isMember m)).map (wt z)) ?_) fun H1 e1 => ?_
    · rw [eq]
      refine el_lcW (J := Ite K ap) (n := ps.length) (G := fun H => SqL K H ap ps) (Vbndam.isMember m) (fun i => vI (wt z i)) (fun i => [some (.ref r), some (vI m), some (vI i), some (ps.getD i .non)]) walk_enum
        (fun H1 e R q => ea_cons (ev_fld (ev_var rfl) h1 c.cls_Room c.no_Room_players (rmF_players _ _)) ea_nil H1 e _ fun H2 e2 => ⟨ap, ps, rfl, sq_of (e2 _ _ (e _ _ hps)), q H2 e2⟩) (fun H1 e => sq_of (e _ _ hps)) (by omega) (fun _ _ => rfl)
        (fun i x H1 H2 hi e y => ?_) (fun i H1 hi e => et_B (ev_cf (ea_cons (ev_var rfl) (ea_cons (ev_var rfl) ea_nil)) (sv_member (show i < 9 by omega)))) (fun i H1 hi e _ => ?_)
      · obtain ⟨T, x1, y1, rfl, hT, rfl, k1, k2⟩ := y
        cases k1
        refine ⟨Ex.new hT, fun R q => ?_⟩
        rw [getD_at k2] at q
        exact g_pair (st_of upd_same) q
      · obtain ⟨x, v, hv, hx, ⟨pa, pdx, pn, rfl, q1, q2, _⟩, hd⟩ := hL i hi
        rw [hd, wt_at hx]
        exact ev_fld (ev_var rfl) (e _ _ q1) c.cls_Player c.no_Player_weight (plF_weight _ _)
    · rw [← weight_is n8]
      exact k H1 e1
end
end Gs

set_option Elab.async false
set_option linter.all false
set_option maxRecDepth 100000
set_option maxHeartbeats 4000000
/-! Walks: shares. -/
namespace Gs
open PySem PySem.Spec PyProof.Rows L2 Evl
def spDivisor : Sp := fun vs H Q _ => ∃ a b : Nat, vs = [vI a, vI b] ∧ ∀ H', Ex H H' → Q (vI (Nat.gcd a b)) H'
def spLowest : Sp := fun vs H Q _ => ∃ a b : Nat, vs = [vI a, vI b] ∧ 0 < b ∧ b < 2 ^ 64 ∧ ∀ p H', H p = none → Ex H H' → H' p = some (.lst (vN [a / Nat.gcd a b, b / Nat.gcd a b])) → Q (.ref p) H'
def spPower : Sp := fun vs H Q _ => ∃ a k : Nat, vs = [vI a, vI k] ∧ a ≤ 1000 ∧ k ≤ 1000 ∧ ∀ H', Ex H H' → Q (vI (a ^ k)) H'
def spFact : Sp := fun vs H Q _ => ∃ k : Nat, vs = [vI k] ∧ k ≤ 1000 ∧ ∀ H', Ex H H' → Q (vI (Vbndam.factorial k)) H'
def spIndexOf : Sp := fun vs H Q _ => ∃ (a : Addr) (l : List Nat) (n : Nat), vs = [.ref a, vI n] ∧ H a = some (.lst (vN l)) ∧ l.length ≤ 256 ∧ n ≤ 8 ∧ (∀ k ∈ l, k < n) ∧ ∀ p H', H p = none → Ex H H' → H' p = some (.lst (vN [indexOver l n / Nat.gcd (indexOver l n) (Vbndam.factorial n), Vbndam.factorial n / Nat.gcd (indexOver l n) (Vbndam.factorial n)])) → Q (.ref p) H'
def spProb : Sp := fun vs H Q _ => ∃ (ad : Addr) (l : List Nat) (a b : Nat), vs = [.ref ad, vI a, vI b] ∧ H ad = some (.lst (vN l)) ∧ 1 ≤ l.length ∧ l.length ≤ 9 ∧ (∀ k ∈ l, k ≤ 256) ∧ a ≤ b ∧ 1 ≤ b ∧ b ≤ 100 ∧
  ∀ p H', H p = none → Ex H H' → H' p = some (.lst (vN [contOver l a b / Nat.gcd (contOver l a b) (b ^ (l.length - 1)), b ^ (l.length - 1) / Nat.gcd (contOver l a b) (b ^ (l.length - 1))])) → Q (.ref p) H'
section
variable {H : Hp}
theorem sv_div {a b : Nat} : SpV spDivisor ([vI a, vI b] ++ []) H (vI (Nat.gcd a b)) := fun H1 e Q q _ => ⟨a, b, rfl, q⟩
theorem sv_pow {a k : Nat} (h1 : a ≤ 1000) (h2 : k ≤ 1000) : SpV spPower ([vI a, vI k] ++ []) H (vI (a ^ k)) := fun H1 e Q q _ => ⟨a, k, rfl, h1, h2, q⟩
theorem sv_fact {k : Nat} (h : k ≤ 1000) : SpV spFact ([vI k] ++ []) H (vI (Vbndam.factorial k)) := fun H1 e Q q _ => ⟨k, rfl, h, q⟩
theorem sl_low {a b : Nat} (h1 : 0 < b) (h2 : b < 2 ^ 64) : SpL spLowest ([vI a, vI b] ++ []) H (vN [a / Nat.gcd a b, b / Nat.gcd a b]) := fun H1 e Q q _ => ⟨a, b, rfl, h1, h2, q⟩
end
theorem fact_pos : ∀ k, 0 < Vbndam.factorial k
  | 0 => by decide
  | k + 1 => Nat.mul_pos (Nat.succ_pos k) (fact_pos k)
theorem fact_le : ∀ {k : Nat}, k ≤ 8 → Vbndam.factorial k ≤ 40320
  | 0, _ => by decide
  | 1, _ => by decide
  | 2, _ => by decide
  | 3, _ => by decide
  | 4, _ => by decide
  | 5, _ => by decide
  | 6, _ => by decide
  | 7, _ => by decide
  | 8, _ => by decide
theorem mul_small {i : Int} {n : Nat} (h : n < 2 ^ 64) : CMul i (n : Int) := .inr ⟨by omega, by omega⟩
theorem vI_mul (a b : Nat) : V.int ((a : Int) * (b : Int)) = vI (a * b) := congrArg V.int (Int.natCast_mul a b).symm
section
variable {P : Program} {w : World} {K : PySem.W.Frag} {mg : Str → Option Value} {base : Heap}
theorem ok_divisor (c : Top K mg) : FOk P w K mg base CX0 1 ("divisor", none) p_divisor spDivisor := by
  refine FOk.mk0 c.f_divisor sc_divisor (fun _ _ _ _ _ _ us hl => match us, hl with | [_, _], _ => rfl) (fun vs H Q E h => ?_) (fun cdv A outer s H vs Q E hr h => ?_)
  · obtain ⟨a, b, rfl, _⟩ := h
    rfl
  · obtain ⟨a, b, rfl, k⟩ := h
    have nd := sc_divisor.nd
    refine ⟨_, pss_cons (ps_while PassesOwn.never (pt_cmpR op_gt (pv 1) pe_int (nomark _))
        (pss_cons (ps_set (i := 2) nd rfl (.inl rfl) (pe_op op_mod (pv 0) (pv 1))) (pss_cons (ps_set (i := 0) nd rfl (.inl rfl) (pv 1)) (pss_one (ps_set (i := 1) nd rfl (.inl rfl) (pv 2))))))
      (pss_one (ps_ret (pv 0))), ?_⟩
    refine q_while (fun mm σ H1 => ∃ (x y : Nat) (v : Option V), σ = [some (vI x), some (vI y), v] ∧ Ex H H1 ∧ Nat.gcd x y = Nat.gcd a b ∧ mm = y) b ⟨a, b, none, rfl, Ex.refl _, rfl, rfl⟩ (fun mm σ H1 W => ?_)
    obtain ⟨x, y, v, rfl, e1, eg, rfl⟩ := W
    refine ⟨decide ((0 : Int) < (mm : Int)), et_test (ev_op (ev_var rfl) ev_c rv_I0), fun hb H2 e2 => ?_, fun hb H2 e2 => ?_⟩
    · have hy : 0 < mm := by have := of_decide_eq_true hb; omega
      refine ⟨fun σ' H' => ∃ m', m' < mm ∧ ∃ (x y : Nat) (v : Option V), σ' = [some (vI x), some (vI y), v] ∧ Ex H H' ∧ Nat.gcd x y = Nat.gcd a b ∧ m' = y, fun _ _ q => q, ?_⟩
      refine q_asg (v := vI (x % mm)) (ev_is (ev_op (ev_var rfl) (ev_var rfl) (rv_I (by show (0 : Int) < (mm : Int); omega))) (congrArg V.int (Int.natCast_emod x mm).symm)) fun H3 e3 => ?_
      refine q_asg (ev_var rfl) fun H4 e4 => ?_
      refine s_asg (ev_var rfl) fun H5 e5 => ?_
      refine ⟨x % mm, Nat.mod_lt _ hy, mm, x % mm, _, rfl, (((e1.trans e2).trans e3).trans e4).trans e5, ?_, rfl⟩
      rw [← eg, Nat.gcd_comm x mm, Nat.gcd_rec mm x, Nat.gcd_comm]
    · have hy : mm = 0 := by have := of_decide_eq_false hb; omega
      subst hy
      rw [Nat.gcd_zero_right] at eg
      subst eg
      exact ⟨_, rfl, k H2 (e1.trans e2)⟩
theorem ok_lowest (c : Top K mg) : FOk P w K mg base CX0 2 ("lowest", none) p_lowest spLowest := by
  refine FOk.mk0 c.f_lowest sc_lowest (fun _ _ _ _ _ _ us hl => match us, hl with | [_, _], _ => rfl) (fun vs H Q E h => ?_) (fun cdv A outer s H vs Q E hr h => ?_)
  · obtain ⟨a, b, rfl, _⟩ := h
    rfl
  · obtain ⟨a, b, rfl, h0, h64, k⟩ := h
    have nd := sc_lowest.nd
    refine ⟨_, pss_cons (ps_set (i := 2) nd rfl (.inl rfl) (pe_cf (ok_divisor c) hr c.glo_divisor pass0 (pa_cons (pv 0) (pa_cons (pv 1) pa_nil))))
      (pss_one (ps_ret (pe_lst (pa_cons (pe_op op_fdivW (pv 0) (pv 2)) (pa_cons (pe_op op_fdivW (pv 1) (pv 2)) pa_nil))))), ?_⟩
    have hg0 : 0 < Nat.gcd a b := Nat.gcd_pos_of_pos_right a h0
    have hgb : Nat.gcd a b ≤ b := Nat.gcd_le_right a h0
    have hc : ∀ i : Int, CDivW i ((Nat.gcd a b : Nat) : Int) := fun i => wide_div (b := 64) (by omega) (by rw [Int.natAbs_natCast]; omega) (by decide) (by decide)
    refine q_asg (ev_cf (ea_cons (ev_var rfl) (ea_cons (ev_var rfl) ea_nil)) sv_div) fun H1 e1 => ?_
    refine s_retL (el_lst (ea_cons (ev_op (ev_var rfl) (ev_var rfl) (rv_I (hc _))) (ea_cons (ev_op (ev_var rfl) (ev_var rfl) (rv_I (hc _))) ea_nil)) (by show 2 ≤ 100000; decide)) fun p H2 hp e2 hp2 => ?_
    exact k p H2 (fresh_back e1 hp) (e1.trans e2) hp2
theorem ok_power_of (c : Top K mg) : FOk P w K mg base CX0 1 ("power_of", none) p_power_of spPower := by
  refine FOk.mk0 c.f_power_of sc_power_of (fun _ _ _ _ _ _ us hl => match us, hl with | [_, _], _ => rfl) (fun vs H Q E h => ?_) (fun cdv A outer s H vs Q E hr h => ?_)
  · obtain ⟨a, b, rfl, _⟩ := h
    rfl
  · obtain ⟨a, n, rfl, h1, h2, k⟩ := h
    have nd := sc_power_of.nd
    refine ⟨_, pss_cons (ps_set (i := 2) nd rfl (.inl rfl) pe_int)
      (pss_cons (ps_for PassesOwn.never rfl (pi_range1 (by rfl) c.free_range (pa_cons (pv 1) pa_nil)) (pg_name (i := 3) nd rfl (.inl rfl)) (pss_one (ps_set (i := 2) nd rfl (.inl rfl) (pe_op op_mul (pv 2) (pv 0)))))
      (pss_one (ps_ret (pv 2)))), ?_⟩
    refine q_asg ev_c fun H1 e1 => ?_
    refine q_forR1 (n := (n : Int)) (ea_cons (ev_var rfl) ea_nil) (by omega) (fun i σ H2 => (∃ v, σ = [some (vI a), some (vI n), some (vI (a ^ i)), v]) ∧ Ex H H2) (fun H2 e2 => ⟨⟨none, rfl⟩, e1.trans e2⟩) (fun i σ H2 hi q => ?_) (fun σ H2 q => ?_)
    · obtain ⟨⟨v, rfl⟩, e2⟩ := q
      refine s_asg (v := vI (a ^ (i + 1))) (ev_is (ev_op (ev_var rfl) (ev_var rfl) (rv_I (mul_small (by omega)))) (by rw [vI_mul, Nat.pow_succ])) fun H3 e3 => ?_
      exact ⟨⟨_, rfl⟩, e2.trans e3⟩
    · obtain ⟨⟨v, rfl⟩, e2⟩ := q
      exact ⟨_, rfl, k H2 e2⟩
theorem ok_factorial (c : Top K mg) : FOk P w K mg base CX0 1 ("factorial", none) p_factorial spFact := by
  refine FOk.mk0 c.f_factorial sc_factorial (fun _ _ _ _ _ _ us hl => match us, hl with | [_], _ => rfl) (fun vs H Q E h => ?_) (fun cdv A outer s H vs Q E hr h => ?_)
  · obtain ⟨a, rfl, _⟩ := h
    rfl
  · obtain ⟨n, rfl, h1, k⟩ := h
    have nd := sc_factorial.nd
    refine ⟨_, pss_cons (ps_set (i := 1) nd rfl (.inl rfl) pe_int)
      (pss_cons (ps_for PassesOwn.never rfl (pi_range2 (by rfl) c.free_range (pa_cons pe_int (pa_cons (pe_op op_add (pv 0) pe_int) pa_nil))) (pg_name (i := 2) nd rfl (.inl rfl)) (pss_one (ps_set (i := 1) nd rfl (.inl rfl) (pe_op op_mul (pv 1) (pv 2)))))
      (pss_one (ps_ret (pv 1)))), ?_⟩
    refine q_asg ev_c fun H1 e1 => ?_
    refine q_forR2 (lo := 1) (n := (n : Int) + 1) (ea_cons ev_c (ea_cons (ev_op (ev_var rfl) ev_c rv_I0) ea_nil)) (by omega) (fun i σ H2 => (∃ v, σ = [some (vI n), some (vI (Vbndam.factorial i)), v]) ∧ Ex H H2) (fun H2 e2 => ⟨⟨none, rfl⟩, e1.trans e2⟩) (fun i σ H2 hi q => ?_) (fun σ H2 q => ?_)
    · obtain ⟨⟨v, rfl⟩, e2⟩ := q
      have ei : (1 : Int) + (i : Int) = ((i + 1 : Nat) : Int) := by omega
      rw [ei]
      refine s_asg (v := vI (Vbndam.factorial (i + 1))) (ev_is (ev_op (ev_var rfl) (ev_var rfl) (rv_I (mul_small (by omega)))) (by rw [vI_mul, Nat.mul_comm]; rfl)) fun H3 e3 => ?_
      exact ⟨⟨_, rfl⟩, e2.trans e3⟩
    · obtain ⟨⟨v, rfl⟩, e2⟩ := q
      have : ((n : Int) + 1 - 1).toNat = n := by omega
      rw [this]
      exact ⟨_, rfl, k H2 e2⟩
theorem ok_index_of (c : Top K mg) : FOk P w K mg base CX0 3 ("index_of", none) p_index_of spIndexOf := by
  refine FOk.mk0 c.f_index_of sc_index_of (fun _ _ _ _ _ _ us hl => match us, hl with | [_, _], _ => rfl) (fun vs H Q E h => ?_) (fun cdv A outer s H vs Q E hr h => ?_)
  · obtain ⟨a, l, n, rfl, _⟩ := h
    rfl
  · obtain ⟨a, l, n, rfl, hl, h256, n8, hk, k⟩ := h
    have nd := sc_index_of.nd
    refine ⟨_, pss_cons (ps_set (i := 2) nd rfl (.inl rfl) (pe_callB (cr_sum rfl) (by rfl) c.free_sum (by decide +kernel) (pa_cons (pe_lc (own := [("many", 3)]) (g := gName 3) rfl nd (pi_list (pv 0))
        (blkOk_by (N := n_index_of) (sc := defScope s_index_of) (by decide +kernel)) (fun _ _ _ _ _ => pg_name (i := 3) nd rfl (.inl rfl)) (fun _ _ _ _ _ => pts_nil)
        (fun _ _ _ _ _ => by exact (pe_op op_mul (pe_cf (ok_factorial c) (hr.mono (by decide)) c.glo_factorial pass0 (pa_cons (pv 3) pa_nil)) (pe_cf (ok_factorial c) (hr.mono (by decide)) c.glo_factorial pass0 (pa_cons (pe_op op_sub (pe_op op_sub (pv 1) pe_int) (pv 3)) pa_nil))))) pa_nil)))
      (pss_one (ps_ret (pe_cf (ok_lowest c) hr c.glo_lowest pass0 (pa_cons (pv 2) (pa_cons (pe_cf (ok_factorial c) (hr.mono (by decide)) c.glo_factorial pass0 (pa_cons (pv 1) pa_nil)) pa_nil))))), ?_⟩
    refine q_asg (ev_sumN (l := l.map fun k => Vbndam.factorial k * Vbndam.factorial (n - 1 - k)) ?_) fun H1 e1 => ?_
    · rw [← map_vI]
      have q := el_lcA (K := K) (tl := tVar 0) (σ := [some (.ref a), some (vI n), none, none]) (H := H) (vs := [3]) (a := a) (j := 3) (enc := vI) (l := l) (t := tYes) (te := tOp (rI CMul fun i j => .int (i * j)) (tCall spFact [] E0 (tCons (tVar 3) tNil)) (tCall spFact [] E0 (tCons (tOp (rI0 fun i j => .int (i - j)) (tOp (rI0 fun i j => .int (i - j)) (tVar 1) (tC (.int 1))) (tVar 3)) tNil)))
        (fun _ => true) (fun k => vI (Vbndam.factorial k * Vbndam.factorial (n - 1 - k))) (ev_var rfl) (sq_of hl) (by omega) (fun _ => rfl) (fun _ _ _ _ => et_yes) (fun x hx H1 e _ => ?_)
      · rw [filter_yes] at q
        exact q
      · have := hk x hx
        refine ev_is (ev_op (ev_cf (ea_cons (ev_var rfl) ea_nil) (sv_fact (by omega))) (ev_cf (ea_cons (ev_is (w := vI (n - 1 - x)) (ev_op (ev_op (ev_var rfl) ev_c rv_I0) (ev_var rfl) rv_I0) (congrArg V.int (by omega))) ea_nil) (sv_fact (by omega))) (rv_I (mul_small (Nat.lt_of_le_of_lt (fact_le (by omega)) (by decide))))) (vI_mul _ _)
    · refine s_retL (el_cf1 (ea_cons (ev_var rfl) (ea_cons (ev_cf (ea_cons (ev_var rfl) ea_nil) (sv_fact (by omega))) ea_nil)) (sl_low (fact_pos n) (Nat.lt_of_le_of_lt (fact_le n8) (by decide)))) fun p H2 hp e2 hp2 => ?_
      exact k p H2 (fresh_back e1 hp) (e1.trans e2) hp2
theorem pow_small {b n : Nat} (hb : b ≤ 100) (hn : n ≤ 8) : b ^ n < 2 ^ 64 := by
  refine Nat.lt_of_le_of_lt (Nat.pow_le_pow_left hb n) ?_
  refine Nat.lt_of_le_of_lt (Nat.pow_le_pow_right (by decide) hn) ?_
  decide
theorem ok_probability_of (c : Top K mg) : FOk P w K mg base CX0 3 ("probability_of", none) p_probability_of spProb := by
  refine FOk.mk0 c.f_probability_of sc_probability_of (fun _ _ _ _ _ _ us hl => match us, hl with | [_, _, _], _ => rfl) (fun vs H Q E h => ?_) (fun cdv A outer s H vs Q E hr h => ?_)
  · obtain ⟨ad, l, a, b, rfl, _⟩ := h
    rfl
  · obtain ⟨ad, l, a, b, rfl, hl, hl1, hl9, hk, hab, hb1, hb100, k⟩ := h
    have nd := sc_probability_of.nd
    refine ⟨_, pss_cons (ps_set (i := 3) nd rfl (.inl rfl) (pe_op op_sub (pe_callB call_len_seq (by rfl) c.free_len PySem.boot_len (pa_cons (pv 0) pa_nil)) pe_int))
      (pss_cons (ps_set (i := 4) nd rfl (.inl rfl) pe_int)
      (pss_cons (ps_for PassesOwn.never rfl (pi_enum (by rfl) c.free_enumerate (pa_cons (pv 0) pa_nil)) (pg_tup rfl (pgs_cons (pg_name (i := 5) nd rfl (.inl rfl)) (pgs_cons (pg_name (i := 6) nd rfl (.inl rfl)) pgs_nil)))
        (pss_one (ps_set (i := 4) nd rfl (.inl rfl) (pe_op op_add (pv 4) (pe_op op_mul (pe_op op_mul (pv 6) (pe_cf (ok_power_of c) (hr.mono (by decide)) c.glo_power_of pass0 (pa_cons (pv 1) (pa_cons (pv 5) pa_nil))))
          (pe_cf (ok_power_of c) (hr.mono (by decide)) c.glo_power_of pass0 (pa_cons (pe_op op_sub (pv 2) (pv 1)) (pa_cons (pe_op op_sub (pv 3) (pv 5)) pa_nil))))))))
      (pss_one (ps_ret (pe_cf (ok_lowest c) hr c.glo_lowest pass0 (pa_cons (pv 4) (pa_cons (pe_cf (ok_power_of c) (hr.mono (by decide)) c.glo_power_of pass0 (pa_cons (pv 2) (pa_cons (pv 3) pa_nil))) pa_nil))))))), ?_⟩
    refine q_asg (v := vI (l.length - 1)) (ev_is (ev_op (ev_len (ev_var rfl) (sq_of hl)) ev_c rv_I0) (by rw [vN_len]; exact congrArg V.int (by omega))) fun H1 e1 => ?_
    refine q_asg ev_c fun H2 e2 => ?_
    let term := fun k => l.getD k 0 * a ^ k * (b - a) ^ (l.length - 1 - k)
    refine q_forE (zs := l) (ea_cons (ev_var rfl) ea_nil) (e2 _ _ (e1 _ _ hl)) (vN_len l) (fun pre σ H3 => (∃ x y, σ = [some (.ref ad), some (vI a), some (vI b), some (vI (l.length - 1)), some (vI (((List.range pre.length).map term).sum)), x, y]) ∧ Ex H H3)
      (fun H3 e3 => ⟨⟨none, none, rfl⟩, (e1.trans e2).trans e3⟩) (fun i σ H3 _ q => sq_of (q.2 _ _ hl)) (fun i v x σ H3 H4 hv hx q e4 _ => ?_) (fun σ H3 q => ?_)
    · obtain ⟨⟨x1, y1, rfl⟩, e3⟩ := q
      have hi : i < l.length := (List.getElem?_eq_some_iff.mp hx).1
      have hlen : (l.take i).length = i := by rw [List.length_take]; omega
      rw [hlen]
      have hv0 : v = vI x := by
        obtain ⟨m, hm, rfl⟩ := vN_of hv
        rw [hx] at hm
        cases hm
        rfl
      subst hv0
      have hx256 := hk x (List.mem_of_getElem? hx)
      refine s_asg (v := vI (((List.range i).map term).sum + x * a ^ i * (b - a) ^ (l.length - 1 - i))) (ev_is (ev_op (ev_var rfl) (ev_is (w := vI (x * a ^ i * (b - a) ^ (l.length - 1 - i))) (ev_op (ev_is (w := vI (x * a ^ i)) (ev_op (ev_var rfl) (ev_cf (ea_cons (ev_var rfl) (ea_cons (ev_var rfl) ea_nil)) (sv_pow (by omega) (by omega))) (rv_I (mul_small (pow_small (by omega) (by omega))))) (vI_mul _ _))
          (ev_cf (ea_cons (ev_is (w := vI (b - a)) (ev_op (ev_var rfl) (ev_var rfl) rv_I0) (congrArg V.int (by omega))) (ea_cons (ev_is (w := vI (l.length - 1 - i)) (ev_op (ev_var rfl) (ev_var rfl) rv_I0) (congrArg V.int (by omega))) ea_nil)) (sv_pow (by omega) (by omega))) (rv_I (mul_small (pow_small (by omega) (by omega))))) (vI_mul _ _)) rv_I0) (congrArg V.int (by omega))) fun H5 e5 => ?_
      refine ⟨⟨some (vI i), some (vI x), ?_⟩, (e3.trans e4).trans e5⟩
      rw [List.length_append, hlen, List.length_singleton, List.range_succ, List.map_append, List.sum_append]
      have : ((List.map term [i]).sum) = x * a ^ i * (b - a) ^ (l.length - 1 - i) := by
        show term i + 0 = _
        show l.getD i 0 * a ^ i * (b - a) ^ (l.length - 1 - i) + 0 = _
        rw [getD_at hx, Nat.add_zero]
      rw [this]
      rfl
    · obtain ⟨⟨x1, y1, rfl⟩, e3⟩ := q
      refine s_retL (el_cf1 (ea_cons (ev_var rfl) (ea_cons (ev_cf (ea_cons (ev_var rfl) (ea_cons (ev_var rfl) ea_nil)) (sv_pow (by omega) (by omega))) ea_nil)) (sl_low (Nat.pow_pos (by omega)) (pow_small (by omega) (by omega)))) fun p H4 hp e4 hp4 => ?_
      exact k p H4 (fresh_back e3 hp) (e3.trans e4) hp4
end
end Gs

set_option Elab.async false
set_option linter.all false
set_option maxRecDepth 100000
set_option maxHeartbeats 4000000
/-! Walks: refusals. -/
namespace Gs
open PySem PySem.Spec PyProof.Rows L2 Evl
/-- what the written part says of an own error's class -/
structure OwnErr (K : PySem.W.Frag) (x : Str) : Prop where
  o : OexC K (He.ga K x)
  init : PySem.W.findIn K (.ref (He.ga K x)) "__init__" = some (some (.ref (He.ma K (He.ga K x) "__init__")))
  fn : PySem.W.typeIn K (.ref (He.ma K (He.ga K x) "__init__")) = some (.type "function")
  xf : XfC K (He.ga K x)
theorem cls_shape {K : PySem.W.Frag} {C : Addr} (h : (match K.lookup C with
  | some ⟨.type c, _, .cls cd, sl⟩ => (match cd.mro, sl.toList with
    | .ref D :: bm, [_, _, _, _, some (.builtin n), _] => decide (c = "type") && (decide (D = C) && (decide (n = "ValueError.__new__") && (!cd.hasDel && (cd.hasDict && PySem.HandSPX.refsVE bm))))
    | _, _ => false)
  | _ => false) = true) : ∃ nm q N bs bm sn sub ab col dd k0 k1 k2 k3 k5, K.lookup C = some (excClassObj nm q C N bs bm true sn sub ab col dd k0 k1 k2 k3 k5 "ValueError.__new__") ∧ PySem.HandSPX.refsVE bm = true := by
  split at h
  · rename_i c dd cd sl ho
    split at h
    · rename_i D bm k0 k1 k2 k3 n k5 hm hs
      simp only [Bool.and_eq_true, decide_eq_true_eq, Bool.not_eq_true'] at h
      obtain ⟨rfl, rfl, rfl, hdel, hdct, hv⟩ := h
      obtain ⟨nm, bs, mro, ns, qn, hd, sn, sub, ab, col, del⟩ := cd
      dsimp only at hm hdel hdct
      subst hm hdel hdct
      obtain ⟨l⟩ := sl
      dsimp only at hs
      subst hs
      exact ⟨nm, qn, ns, bs, bm, sn, sub, ab, col, dd, k0, k1, k2, k3, k5, ho, hv⟩
    · cases h
  · cases h
theorem oexB_ok {K : PySem.W.Frag} {x : Str} (h : oexB K x = true) : OwnErr K x := by
  unfold oexB at h
  obtain ⟨h1, h⟩ := He.ba h
  obtain ⟨h2, h⟩ := He.ba h
  obtain ⟨h3, h⟩ := He.ba h
  obtain ⟨h4, h⟩ := He.ba h
  obtain ⟨h5, h⟩ := He.ba h
  obtain ⟨h6, h⟩ := He.ba h
  obtain ⟨h7, h8⟩ := He.ba h
  exact ⟨⟨cls_shape h1, He.eqO_ok h2, of_decide_eq_true h3, of_decide_eq_true h4, h5⟩, He.eqO_ok h6, of_decide_eq_true h7, xfB_ok h8⟩
theorem Top.refused {K : PySem.W.Frag} {mg : Str → Option Value} (c : Top K mg) : OwnErr K "Refused" := oexB_ok c.ex0
theorem Top.badText {K : PySem.W.Frag} {mg : Str → Option Value} (c : Top K mg) : OwnErr K "BadText" := oexB_ok c.ex1
/-! ### promises -/
/-- refused with a code: all that is tracked stands as it was -/
def Fails (K : PySem.W.Frag) (E : XK) (H : Hp) (k : Int) : Prop := ∀ d H', Ex H H' → H' d = some (.xd [("code", .int k)]) → E (.ref (He.ga K "Refused")) (some d) H'
theorem Fails.mono {K : PySem.W.Frag} {E : XK} {H H' : Hp} {k : Int} (h : Fails K E H k) (e : Ex H H') : Fails K E H' k := fun d H2 e2 h2 => h d H2 (e.trans e2) h2
def spRefInit (K : PySem.W.Frag) : Sp := fun vs H Q _ => ∃ (a : Addr) (v : V), vs = [.ref a, v] ∧ H a = some (exo a (He.ga K "Refused") none) ∧
  ∀ d, H d = none → d ≠ a → Q .non (upd (upd H d (exd d [("code", v)])) a (exo a (He.ga K "Refused") (some d)))
def spNeed (K : PySem.W.Frag) : Sp := fun vs H Q E => ∃ (b : Bool) (k : Int), vs = [.bl b, .int k] ∧ (b = true → ∀ H', Ex H H' → Q .non H') ∧ (b = false → Fails K E H k)
def spBetween (K : PySem.W.Frag) : Sp := fun vs H Q E => ∃ n lo hi : Int, vs = [.int n, .int lo, .int hi] ∧ (lo ≤ n ∧ n ≤ hi → ∀ H', Ex H H' → Q .non H') ∧ (¬ (lo ≤ n ∧ n ≤ hi) → Fails K E H (-1))
def goodText (l : List Int) : Prop := l.length ≤ 2000 ∧ ∀ x ∈ l, 0 ≤ x ∧ x ≤ 255
def spNeedText (K : PySem.W.Frag) : Sp := fun vs H Q E => ∃ (a : Addr) (l : List Int), vs = [.ref a] ∧ H a = some (.lst (l.map V.int)) ∧ (goodText l → ∀ H', Ex H H' → Q .non H') ∧ (¬ goodText l → Fails K E H (-1))
def spNeedPairs (K : PySem.W.Frag) : Sp := fun vs H Q E => ∃ (a : Addr) (l : List Int), vs = [.ref a] ∧ H a = some (.lst (l.map V.int)) ∧ (l.length ≤ 40 ∧ l.length % 2 = 0 → ∀ H', Ex H H' → Q .non H') ∧ (¬ (l.length ≤ 40 ∧ l.length % 2 = 0) → Fails K E H (-1))
section
variable {P : Program} {w : World} {K : PySem.W.Frag} {mg : Str → Option Value} {base : Heap}
theorem ok_refused_init (c : Top K mg) : FOk P w K mg base CX0 1 ("Refused", some "__init__") p_Refused_init (spRefInit K) := by
  refine FOk.mk0 c.f_Refused_init sc_Refused_init (fun _ _ _ _ _ _ us hl => match us, hl with | [_, _], _ => rfl) (fun vs H Q E h => ?_) (fun cdv A outer s H vs Q E hr h => ?_)
  · obtain ⟨a, v, rfl, _⟩ := h
    rfl
  · obtain ⟨a, v, rfl, ha, k⟩ := h
    refine ⟨_, pss_one (ps_ost (pv 0) (pv 1)), ?_⟩
    exact ⟨_, rfl, _, rfl, a, _, rfl, c.refused.o, c.no_Refused_code, .inl ⟨ha, fun d hd hne => k d hd hne⟩⟩
theorem swap_del {H : Hp} {a d : Addr} {C : Addr} {o1 : HO} {fs : List (Str × V)} (ha : H a = none) (hd : upd H a (exo a C none) d = none) : upd (del (upd (upd (upd H a (exo a C none)) d o1) a (exo a C (some d))) a) d (.xd fs) = upd H d (.xd fs) := by
  have hne : d ≠ a := fun e => by
    rw [e, upd_same] at hd
    cases hd
  funext b
  by_cases hb : b = d
  · rw [hb, upd_same, upd_same]
  · rw [upd_ne hb, upd_ne hb]
    by_cases hba : b = a
    · rw [hba, del_same, ha]
    · rw [del_ne hba, upd_ne hba, upd_ne hb, upd_ne hba]
theorem ok_need (c : Top K mg) : FOk P w K mg base (L2.CX P w) 3 ("need", none) p_need (spNeed K) := by
  refine FOk.mk c.f_need sc_need (fun _ _ _ _ _ _ us hl => match us, hl with | [_, _], _ => rfl) (fun vs H Q E h => ?_) (fun cdv A outer s H vs Q E hr h => ?_)
  · obtain ⟨b, k, rfl, _⟩ := h
    rfl
  · obtain ⟨b, k, rfl, kT, kF⟩ := h
    obtain ⟨fd, bb, kp, G⟩ := ok_refused_init (P := P) (w := w) (base := base) c
    refine ⟨_, pss_one (ps_if (pt_not (pt_val (pv 0))) (pss_one (ps_raise rfl (takes_of rfl rfl rfl rfl) (by exact (pmk_oex c.refused.o c.refused.init c.refused.fn G (hr.mono (by decide)) bb .nil pass0 (by rfl) c.glo_Refused (pa_cons (pv 1) pa_nil))))) pss_nil), ?_⟩
    refine ⟨_, rfl, b, rfl, ?_⟩
    cases b with
    | true => exact iteF (kT rfl H (Ex.refl H))
    | false =>
      refine iteT ?_
      refine ⟨_, rfl, by show 1 ≤ 1000; decide, fun a ha => ⟨a, _, rfl, upd_same, fun d hd hne => ⟨rfl, d, [("code", .int k)], upd_same, ?_, ?_, ?_⟩⟩⟩
      · rw [upd_ne hne, upd_same]
      · rw [upd_ne hne] at hd
        exact hd
      · rw [swap_del ha hd]
        rw [upd_ne hne] at hd
        exact kF rfl d _ (Ex.new hd) upd_same
theorem ok_need_between (c : Top K mg) : FOk P w K mg base (L2.CX P w) 4 ("need_between", none) p_need_between (spBetween K) := by
  refine FOk.mk c.f_need_between sc_need_between (fun _ _ _ _ _ _ us hl => match us, hl with | [_, _, _], _ => rfl) (fun vs H Q E h => ?_) (fun cdv A outer s H vs Q E hr h => ?_)
  · obtain ⟨n, lo, hi, rfl, _⟩ := h
    rfl
  · obtain ⟨n, lo, hi, rfl, kT, kF⟩ := h
    refine ⟨_, pss_one (ps_expr (pe_cf (ok_need c) hr c.glo_need (passes_call (takes_of rfl rfl rfl rfl) (fun _ _ _ _ h => h)) (pa_cons (pe_chain op_le op_le (pv 1) (pv 0) (pv 2)) (pa_cons (pe_gi c.int_OUT_OF_RANGE) pa_nil)))), ?_⟩
    refine ⟨_, rfl, _, rfl, _, _, rfl, rfl, _, rfl, ?_⟩
    by_cases h1 : lo ≤ n
    · rw [decide_eq_true h1]
      refine iteT ⟨_, rfl, _, _, rfl, rfl, decide (n ≤ hi), -1, rfl, fun hb H' e => ?_, fun hb => ?_⟩
      · exact kT ⟨h1, of_decide_eq_true hb⟩ H' e
      · exact kF fun q => of_decide_eq_false hb q.2
    · rw [decide_eq_false h1]
      exact iteF ⟨false, -1, rfl, (fun hb => by cases hb), fun _ => kF fun q => h1 q.1⟩
theorem ok_need_text (c : Top K mg) : FOk P w K mg base (L2.CX P w) 5 ("need_text", none) p_need_text (spNeedText K) := by
  refine FOk.mk c.f_need_text sc_need_text (fun _ _ _ _ _ _ us hl => match us, hl with | [_], _ => rfl) (fun vs H Q E h => ?_) (fun cdv A outer s H vs Q E hr h => ?_)
  · obtain ⟨a, l, rfl, _⟩ := h
    rfl
  · obtain ⟨a, l, rfl, ha, kT, kF⟩ := h
    have nd := sc_need_text.nd
    refine ⟨_, pss_cons (ps_expr (pe_cf (ok_need c) (hr.mono (by decide)) c.glo_need (passes_call (takes_of rfl rfl rfl rfl) (fun _ _ _ _ h => h)) (pa_cons (pe_cmpR op_le (pe_callB call_len_seq (by rfl) c.free_len PySem.boot_len (pa_cons (pv 0) pa_nil)) (pe_gi c.int_MOST_BYTES) (nomark _)) (pa_cons (pe_gi c.int_OUT_OF_RANGE) pa_nil))))
      (pss_one (ps_for (passes_of rfl) rfl (pi_list (pv 0)) (pg_name (i := 1) nd rfl (.inl rfl)) (pss_one (ps_expr (pe_cf (ok_need_between c) hr c.glo_need_between (passes_call (takes_of rfl rfl rfl rfl) (fun _ _ _ _ h => h)) (pa_cons (pv 1) (pa_cons pe_int (pa_cons (pe_gi c.int_GREATEST_BYTE) pa_nil)))))))), ?_⟩
    refine ⟨_, rfl, a, _, rfl, .inl (sq_of ha), _, _, rfl, rfl, decide _, -1, rfl, fun hb H1 e1 => ?_, fun hb => kF fun g => of_decide_eq_false hb (by rw [List.length_map]; have := g.1; omega)⟩
    have hlen : l.length ≤ 2000 := by
      have := of_decide_eq_true hb
      rw [List.length_map] at this
      omega
    refine s_forA (xs := l.map V.int) (zs := l) (ev_var rfl) (sq_of (e1 _ _ ha)) (List.length_map _) (fun pre σ H2 => (∃ v, σ = [some (.ref a), v]) ∧ Ex H H2 ∧ ∀ x ∈ pre, 0 ≤ x ∧ x ≤ 255) (fun H2 e2 => ⟨⟨none, rfl⟩, e1.trans e2, fun _ h => by cases h⟩) (fun i σ H2 _ q => sq_of (q.2.1 _ _ ha)) (fun i v x σ H2 hv hx q => ?_) (fun σ H2 q => ?_)
    · obtain ⟨⟨v1, rfl⟩, e2, hall⟩ := q
      have hv0 : v = .int x := by
        rw [List.getElem?_map, hx] at hv
        exact (Option.some.inj hv).symm
      subst hv0
      refine ⟨_, rfl, x, 0, 255, rfl, fun hx2 H3 e3 => ?_, fun hx2 => (kF fun g => hx2 (g.2 x (List.mem_of_getElem? hx))).mono e2⟩
      refine ⟨⟨_, rfl⟩, e2.trans e3, fun y hy => ?_⟩
      rcases List.mem_append.mp hy with hy | hy
      · exact hall y hy
      · rw [List.mem_singleton.mp hy]
        exact hx2
    · obtain ⟨_, e2, hall⟩ := q
      exact kT ⟨hlen, hall⟩ H2 e2
theorem ok_need_pairs (c : Top K mg) : FOk P w K mg base (L2.CX P w) 4 ("need_pairs", none) p_need_pairs (spNeedPairs K) := by
  refine FOk.mk c.f_need_pairs sc_need_pairs (fun _ _ _ _ _ _ us hl => match us, hl with | [_], _ => rfl) (fun vs H Q E h => ?_) (fun cdv A outer s H vs Q E hr h => ?_)
  · obtain ⟨a, l, rfl, _⟩ := h
    rfl
  · obtain ⟨a, l, rfl, ha, kT, kF⟩ := h
    refine ⟨_, pss_one (ps_expr (pe_cf (ok_need c) hr c.glo_need (passes_call (takes_of rfl rfl rfl rfl) (fun _ _ _ _ h => h)) (pa_cons (pe_and (pe_cmpR op_le (pe_callB call_len_seq (by rfl) c.free_len PySem.boot_len (pa_cons (pv 0) pa_nil)) (pe_gi c.int_MOST_IN_LIST) (nomark _))
      (pe_one (pe_cmpR op_eq (pe_op op_mod (pe_callB call_len_seq (by rfl) c.free_len PySem.boot_len (pa_cons (pv 0) pa_nil)) pe_int) pe_int (nomark _)))) (pa_cons (pe_gi c.int_OUT_OF_RANGE) pa_nil)))), ?_⟩
    refine ⟨_, rfl, a, _, rfl, .inl (sq_of ha), _, _, rfl, rfl, _, rfl, ?_⟩
    rw [List.length_map]
    by_cases h40 : l.length ≤ 40
    · rw [decide_eq_true (show ((l.length : Nat) : Int) ≤ 40 by omega)]
      refine iteT ⟨_, rfl, a, _, rfl, .inl (sq_of ha), _, _, rfl, rfl, (by show (0 : Int) < 2; decide), rfl, decide (V.int (((l.map V.int).length : Int) % 2) = V.int 0), -1, rfl, fun hb H' e => ?_, fun hb => ?_⟩
      · refine kT ⟨h40, ?_⟩ H' e
        have := V.int.inj (of_decide_eq_true hb)
        rw [List.length_map] at this
        omega
      · refine kF fun g => of_decide_eq_false hb ?_
        rw [List.length_map]
        exact congrArg V.int (by have := g.2; omega)
    · rw [decide_eq_false (show ¬ ((l.length : Nat) : Int) ≤ 40 by omega)]
      exact iteF ⟨false, -1, rfl, (fun hb => by cases hb), fun _ => kF fun g => h40 g.1⟩
end
/-! ### lists as pairs, lists told -/
def PairIAt (H : Hp) (v : V) (p : Int × Int) : Prop := ∃ t, v = .ref t ∧ H t = some (.tup [.int p.1, .int p.2])
theorem PairIAt.ex {H H' : Hp} {v : V} {p : Int × Int} (h : PairIAt H v p) (e : Ex H H') : PairIAt H' v p := by
  obtain ⟨t, rfl, h1⟩ := h
  exact ⟨t, rfl, e _ _ h1⟩
def pairsI : List Int → List (Int × Int)
  | a :: b :: l => (a, b) :: pairsI l
  | _ => []
theorem pairsI_len : ∀ l : List Int, (pairsI l).length = l.length / 2
  | [] => rfl
  | [_] => by simp [pairsI]
  | a :: b :: l => by
    show (pairsI l).length + 1 = (l.length + 1 + 1) / 2
    rw [pairsI_len l]
    omega
theorem pairsI_at : ∀ (l : List Int) (i : Nat) (a b : Int), l[2 * i]? = some a → l[2 * i + 1]? = some b → (pairsI l)[i]? = some (a, b)
  | [], i, a, b, h, _ => by simp at h
  | [_], 0, a, b, _, h => by simp at h
  | [_], i + 1, a, b, h, _ => by
    rw [show 2 * (i + 1) = 2 * i + 1 + 1 by omega] at h
    simp at h
  | x :: y :: l, 0, a, b, h1, h2 => by
    cases h1
    cases h2
    rfl
  | x :: y :: l, i + 1, a, b, h1, h2 => by
    rw [show 2 * (i + 1) = 2 * i + 1 + 1 by omega] at h1
    rw [show 2 * (i + 1) + 1 = 2 * i + 1 + 1 + 1 by omega] at h2
    exact pairsI_at l i a b h1 h2
theorem el_cat {σ : L2.St} {H : Hp} {ta tb : TE} {xs zs : List V} {b : Addr} (h : EvL ta σ H xs) (hb : Ev tb σ H (.ref b)) (hz : H b = some (.lst zs)) (hl : xs.length + zs.length ≤ sizeLine) : EvL (tOp rCat ta tb) σ H (xs ++ zs) := fun H1 e Q q =>
  h H1 e _ fun p H2 _ e2 hp => hb H2 (e.trans e2) _ fun H3 e3 => ⟨p, b, xs, zs, rfl, rfl, e3 _ _ hp, e3 _ _ (e2 _ _ (e _ _ hz)), hl, fun r hr => q r _ (fresh_back (e2.trans e3) hr) ((e2.trans e3).trans (Ex.new hr)) upd_same⟩
theorem yes_go {σ : L2.St} {H : Hp} {A B : Hp → Prop} (h : A H) : tYes σ H (fun b H3 => if b = true then A H3 else B H3) := by
  show (if true = true then A H else B H)
  rw [if_pos rfl]
  exact h
theorem size_two {n : Nat} (h : n ≤ 1000000) : Builtin.Range.rangeSize 0 (n : Int) 2 = (((n + 1) / 2 : Nat) : Int) := by
  unfold Builtin.Range.rangeSize
  rw [if_pos (by decide)]
  split <;> omega
theorem fits_of {i : Int} (h1 : -1000000000 ≤ i) (h2 : i ≤ 1000000000) : Builtin.Range.rangeFitsLong i = true := by
  unfold Builtin.Range.rangeFitsLong
  rw [Bool.and_eq_true]
  exact ⟨decide_eq_true (by omega), decide_eq_true (by omega)⟩
theorem rgc_two {n : Nat} (h : n ≤ 1000000) : RgC 0 (n : Int) 2 ((n + 1) / 2) := by
  refine ⟨by decide, by decide, ?_, size_two h⟩
  unfold Builtin.Range.small
  rw [size_two h]
  show (Builtin.Range.rangeFitsLong 0 && Builtin.Range.rangeFitsLong (n : Int) && Builtin.Range.rangeFitsLong 2 && Builtin.Range.rangeFitsLong (((n + 1) / 2 : Nat) : Int) && ((((n + 1) / 2 : Nat) : Int) == 0 || (if (2 : Int) > 0 then Builtin.Range.rangeFitsLong ((n : Int) + (2 - 1)) else Builtin.Range.rangeFitsLong ((n : Int) + (2 + 1))))) = true
  rw [if_pos (by decide), fits_of (by omega) (by omega), fits_of (i := (n : Int)) (by omega) (by omega), fits_of (i := 2) (by omega) (by omega), fits_of (i := (((n + 1) / 2 : Nat) : Int)) (by omega) (by omega), fits_of (i := (n : Int) + (2 - 1)) (by omega) (by omega), Bool.or_true]
  rfl
def spPairsOf : Sp := fun vs H Q _ => ∃ (a : Addr) (l : List Int), vs = [.ref a] ∧ H a = some (.lst (l.map V.int)) ∧ l.length ≤ 40 ∧ l.length % 2 = 0 ∧ ∀ p H', H p = none → Ex H H' → (∃ xs, H' p = some (.lst xs) ∧ EachAt (PairIAt H') xs (pairsI l)) → Q (.ref p) H'
def spTold : Sp := fun vs H Q _ => ∃ (a : Addr) (xs : List V), vs = [.ref a] ∧ H a = some (.lst xs) ∧ xs.length ≤ 100000 ∧ ∀ p H', H p = none → Ex H H' → H' p = some (.lst (vI xs.length :: xs)) → Q (.ref p) H'
section
variable {P : Program} {w : World} {K : PySem.W.Frag} {mg : Str → Option Value} {base : Heap}
theorem ok_told (c : Top K mg) : FOk P w K mg base CX0 1 ("told", none) p_told spTold := by
  refine FOk.mk0 c.f_told sc_told (fun _ _ _ _ _ _ us hl => match us, hl with | [_], _ => rfl) (fun vs H Q E h => ?_) (fun cdv A outer s H vs Q E hr h => ?_)
  · obtain ⟨a, xs, rfl, _⟩ := h
    rfl
  · obtain ⟨a, xs, rfl, ha, hl, k⟩ := h
    refine ⟨_, pss_one (ps_ret (pe_op op_cat (pe_lst (pa_cons (pe_callB call_len_seq (by rfl) c.free_len PySem.boot_len (pa_cons (pv 0) pa_nil)) pa_nil)) (pv 0))), ?_⟩
    refine s_retL (el_cat (el_lst (ea_cons (ev_len (ev_var rfl) (sq_of ha)) ea_nil) (by show 1 ≤ 100000; decide)) (ev_var rfl) ha ?_) k
    show 1 + xs.length ≤ sizeLine
    rw [sizeLine_eq]
    omega
theorem ok_pairs_of (c : Top K mg) : FOk P w K mg base CX0 1 ("pairs_of", none) p_pairs_of spPairsOf := by
  refine FOk.mk0 c.f_pairs_of sc_pairs_of (fun _ _ _ _ _ _ us hl => match us, hl with | [_], _ => rfl) (fun vs H Q E h => ?_) (fun cdv A outer s H vs Q E hr h => ?_)
  · obtain ⟨a, l, rfl, _⟩ := h
    rfl
  · obtain ⟨a, l, rfl, ha, h40, hev, k⟩ := h
    have nd := sc_pairs_of.nd
    refine ⟨_, pss_one (ps_ret (pe_lc (own := [("at", 1)]) (g := gName 1) rfl nd (pi_range3 (by rfl) c.free_range (pa_cons pe_int (pa_cons (pe_callB call_len_seq (by rfl) c.free_len PySem.boot_len (pa_cons (pv 0) pa_nil)) (pa_cons pe_int pa_nil))))
      (blkOk_by (N := n_pairs_of) (sc := defScope s_pairs_of) (by decide +kernel)) (fun _ _ _ _ _ => pg_name (i := 1) nd rfl (.inl rfl)) (fun _ _ _ _ _ => pts_nil)
      (fun _ _ _ _ _ => by exact (pe_tup (pa_cons (pe_ix (ixl (K := K)) (pv 0) (pv 1) (fun _ _ => rfl)) (pa_cons (pe_ix (ixl (K := K)) (pv 0) (pe_op op_add (pv 1) pe_int) (fun _ _ => rfl)) pa_nil)))))), ?_⟩
    have hn : (l.map V.int).length = l.length := List.length_map _
    refine ⟨_, rfl, a, _, rfl, .inl (sq_of ha), 0, ((l.map V.int).length : Int), 2, l.length / 2, rfl, ?_, fun D hD => ?_⟩
    · rw [hn, show l.length / 2 = (l.length + 1) / 2 by omega]
      exact rgc_two (by omega)
    · refine lc_it (J := Itc 0 2 (l.length / 2)) (n := l.length / 2) (G := fun _ => True) walk_rangeC (fun i H' => Ex H H' ∧ ∃ xs, H' D = some (.lst xs) ∧ EachAt (PairIAt H') xs ((pairsI l).take i)) ⟨Ex.new hD, [], upd_same, EachAt.nil⟩ (fun _ _ _ _ => trivial) (fun i x Ha Hb hi p y => ?_) (fun H' p => ?_)
      · obtain ⟨e, xs, hxs, hE⟩ := p
        obtain ⟨rfl, rfl⟩ := y
        have i1 : 2 * i < l.length := by omega
        have i2 : 2 * i + 1 < l.length := by omega
        have g1 := List.getElem?_eq_getElem i1
        have g2 := List.getElem?_eq_getElem i2
        have gp := pairsI_at l i _ _ g1 g2
        refine ⟨rfl, yes_go ?_⟩
        have at1 : atI (l.map V.int) (0 + (i : Nat) * 2) = some (.int l[2 * i]) := by
          rw [show (0 : Int) + (i : Nat) * 2 = ((2 * i : Nat) : Int) by omega]
          refine atI_nat ?_
          rw [List.getElem?_map, g1]
          rfl
        have at2 : atI (l.map V.int) (0 + (i : Nat) * 2 + 1) = some (.int l[2 * i + 1]) := by
          rw [show (0 : Int) + (i : Nat) * 2 + 1 = ((2 * i + 1 : Nat) : Int) by omega]
          refine atI_nat ?_
          rw [List.getElem?_map, g2]
          rfl
        refine ⟨_, rfl, _, rfl, a, _, _, _, rfl, rfl, sq_of (e _ _ ha), at1, _, rfl, _, rfl, _, _, rfl, rfl, a, _, _, _, rfl, rfl, sq_of (e _ _ ha), at2, (by show 2 ≤ sizeLine; decide), fun t ht => ?_⟩
        have htD : D ≠ t := ne_of_none hxs ht
        refine ⟨xs, ?_, ?_, Ex.mut (e.trans (Ex.new ht)) hD, _, upd_same, ?_⟩
        · rw [upd_ne htD]
          exact hxs
        · rw [hE.1, List.length_take]
          exact Nat.lt_of_le_of_lt (Nat.min_le_left _ _) (Nat.lt_of_lt_of_le (show i < 100 by omega) (by decide))
        · rw [take_more gp]
          refine EachAt.app (hE.imp fun v q h => ?_) (EachAt.one ?_)
          · obtain ⟨t', rfl, h1⟩ := h
            refine ⟨t', rfl, ?_⟩
            have n1 : t' ≠ D := ne_of h1 hxs (by intro z; cases z)
            have n2 : t' ≠ t := ne_of_none h1 ht
            rw [upd_ne n1, upd_ne n2]
            exact h1
          · exact ⟨t, rfl, by rw [upd_ne htD.symm, upd_same]⟩
      · obtain ⟨e, xs, hxs, hE⟩ := p
        rw [List.take_of_length_le (by rw [pairsI_len]; exact Nat.le_refl _)] at hE
        exact k D H' hD e ⟨xs, hxs, hE⟩
end
end Gs

set_option Elab.async false
set_option linter.all false
set_option maxRecDepth 100000
set_option maxHeartbeats 4000000
/-! Walks: the desk: what it takes. -/
namespace Gs
open PySem PySem.Spec PyProof.Rows L2 Evl
def dkF (v : V) : List (Str × V) := [("room", v)]
theorem dkF_room (v : V) : (dkF v).lookup ("room" : Str) = some v := lookup_hit
theorem dkF_none (v : V) {m : Str} (h : (m == ("room" : Str)) = false) : (dkF v).lookup m = none := (lookup_miss h).trans rfl
def RoomV (K : PySem.W.Frag) (F : Addr → Prop) (H : Hp) (v : V) (st : Vbndam.State) : Prop := match st with
  | none => v = .non
  | some z => ∃ r, v = .ref r ∧ RoomAt K F H r z ∧ Wf z
structure DeskAt (K : PySem.W.Frag) (F : Addr → Prop) (H : Hp) (d : Addr) (st : Vbndam.State) : Prop where
  ob : ∃ dx v, H d = some (.ins (He.ga K "Desk") dx (dkF v)) ∧ RoomV K F H v st
  fd : F d
  ft : ∀ b, F b → H b ≠ none
def Keep (F : Addr → Prop) (H H' : Hp) : Prop := ∀ b o, H b = some o → ¬ F b → H' b = some o
def Does (K : PySem.W.Frag) (F : Addr → Prop) (H : Hp) (d : Addr) (st : Vbndam.State) (Q : VK) (E : XK) (o : Vbndam.State × List Int) : Prop :=
  (∀ l, o.2 = 0 :: l → ∀ (p : Addr) (H' : Hp) (F' : Addr → Prop), DeskAt K F' H' d o.1 → Keep F H H' → (∀ b, F' b → F b ∨ H b = none) → H p = none → H' p = some (.lst (l.map V.int)) → Q (.ref p) H') ∧
  (∀ k : Nat, o = Vbndam.fail st k → 1 ≤ k → Fails K E H (-(k : Int)))
section
variable {K : PySem.W.Frag} {F : Addr → Prop} {H H' : Hp} {d : Addr} {st : Vbndam.State} {Q : VK} {E : XK} {o : Vbndam.State × List Int}
theorem RoomV.ex {v : V} (h : RoomV K F H v st) (e : Ex H H') : RoomV K F H' v st := by
  cases st with
  | none => exact h
  | some z =>
    obtain ⟨r, rfl, h1, h2⟩ := h
    exact ⟨r, rfl, h1.ex e, h2⟩
theorem DeskAt.ex (h : DeskAt K F H d st) (e : Ex H H') : DeskAt K F H' d st where
  ob := by
    obtain ⟨dx, v, h1, h2⟩ := h.ob
    exact ⟨dx, v, e _ _ h1, h2.ex e⟩
  fd := h.fd
  ft := fun b hb hn => h.ft b hb (fresh_back e hn)
theorem Does.ro {l : List Int} (h : Does K F H d st Q E (st, 0 :: l)) (hd : DeskAt K F H d st) {p : Addr} (e : Ex H H') (hp : H p = none) (hl : H' p = some (.lst (l.map V.int))) : Q (.ref p) H' :=
  h.1 l rfl p H' F (hd.ex e) (fun b o q _ => e b o q) (fun b hb => .inl hb) hp hl
theorem Does.fail {k : Nat} (h : Does K F H d st Q E (Vbndam.fail st k)) (hk : 1 ≤ k) : Fails K E H (-(k : Int)) := h.2 k rfl hk
end
/-! ### what is refused ahead -/
def takeR (st : Vbndam.State) : Option Nat := match st with
  | none => some 2
  | some _ => none
def takeC (st : Vbndam.State) (n : Int) : Option Nat := if Vbndam.inRange n 0 255 = false then some 1 else match st with
  | none => some 2
  | some z => if Vbndam.everyone z < n.toNat then some 4 else none
def takeP (st : Vbndam.State) (n : Int) : Option Nat := if Vbndam.inRange n 0 7 = false then some 1 else match st with
  | none => some 2
  | some z => if (Vbndam.playerCount z : Int) ≤ n then some 4 else none
theorem inRange_iff {n lo hi : Int} : Vbndam.inRange n lo hi = true ↔ lo ≤ n ∧ n ≤ hi := by
  unfold Vbndam.inRange
  rw [Bool.and_eq_true, decide_eq_true_eq, decide_eq_true_eq]
theorem inRange_not {n lo hi : Int} : Vbndam.inRange n lo hi = false ↔ ¬ (lo ≤ n ∧ n ≤ hi) := by
  rw [← inRange_iff]
  cases Vbndam.inRange n lo hi <;> simp
theorem room_some {st : Vbndam.State} {k : Nat} (h : takeR st = some k) (f : Vbndam.Room → Vbndam.State × List Int) : Vbndam.withRoom st f = Vbndam.fail st k ∧ 1 ≤ k := by
  cases st with
  | none =>
    cases h
    exact ⟨rfl, by decide⟩
  | some z => cases h
theorem coal_some {st : Vbndam.State} {n : Int} {k : Nat} (h : takeC st n = some k) (f : Vbndam.Room → Nat → Vbndam.State × List Int) : Vbndam.withCoalition st n f = Vbndam.fail st k ∧ 1 ≤ k := by
  unfold takeC at h
  unfold Vbndam.withCoalition
  by_cases h1 : Vbndam.inRange n 0 255 = false
  · rw [if_pos h1] at h ⊢
    cases h
    exact ⟨rfl, by decide⟩
  · rw [if_neg h1] at h ⊢
    cases st with
    | none =>
      cases h
      exact ⟨rfl, by decide⟩
    | some z =>
      dsimp only at h
      unfold Vbndam.withRoom
      dsimp only
      by_cases h2 : Vbndam.everyone z < n.toNat
      · rw [if_pos h2] at h ⊢
        cases h
        exact ⟨rfl, by decide⟩
      · rw [if_neg h2] at h
        cases h
theorem coal_none {st : Vbndam.State} {n : Int} (h : takeC st n = none) (f : Vbndam.Room → Nat → Vbndam.State × List Int) : ∃ (z : Vbndam.Room) (m : Nat), st = some z ∧ n = (m : Int) ∧ m < 2 ^ z.players.length ∧ Vbndam.withCoalition st n f = f z m := by
  unfold takeC at h
  unfold Vbndam.withCoalition
  by_cases h1 : Vbndam.inRange n 0 255 = false
  · rw [if_pos h1] at h
    cases h
  · rw [if_neg h1] at h ⊢
    cases st with
    | none => cases h
    | some z =>
      dsimp only at h
      unfold Vbndam.withRoom
      dsimp only
      by_cases h2 : Vbndam.everyone z < n.toNat
      · rw [if_pos h2] at h
        cases h
      · rw [if_neg h2]
        have h3 := inRange_iff.mp (by simpa using h1)
        refine ⟨z, n.toNat, rfl, by omega, ?_, rfl⟩
        unfold Vbndam.everyone at h2
        have := many_pos z.players.length
        generalize 2 ^ z.players.length = N at *
        have h2' : ¬ (N - 1 < n.toNat) := h2
        omega
theorem play_some {st : Vbndam.State} {n : Int} {k : Nat} (h : takeP st n = some k) (f : Vbndam.Room → Nat → Vbndam.State × List Int) : Vbndam.withPlayer st n f = Vbndam.fail st k ∧ 1 ≤ k := by
  unfold takeP at h
  unfold Vbndam.withPlayer
  by_cases h1 : Vbndam.inRange n 0 7 = false
  · rw [if_pos h1] at h ⊢
    cases h
    exact ⟨rfl, by decide⟩
  · rw [if_neg h1] at h ⊢
    cases st with
    | none =>
      cases h
      exact ⟨rfl, by decide⟩
    | some z =>
      dsimp only at h
      unfold Vbndam.withRoom
      dsimp only
      by_cases h2 : (Vbndam.playerCount z : Int) ≤ n
      · rw [if_pos h2] at h ⊢
        cases h
        exact ⟨rfl, by decide⟩
      · rw [if_neg h2] at h
        cases h
theorem play_none {st : Vbndam.State} {n : Int} (h : takeP st n = none) (f : Vbndam.Room → Nat → Vbndam.State × List Int) : ∃ (z : Vbndam.Room) (m : Nat), st = some z ∧ n = (m : Int) ∧ m < z.players.length ∧ Vbndam.withPlayer st n f = f z m := by
  unfold takeP at h
  unfold Vbndam.withPlayer
  by_cases h1 : Vbndam.inRange n 0 7 = false
  · rw [if_pos h1] at h
    cases h
  · rw [if_neg h1] at h ⊢
    cases st with
    | none => cases h
    | some z =>
      dsimp only at h
      unfold Vbndam.withRoom
      dsimp only
      by_cases h2 : (Vbndam.playerCount z : Int) ≤ n
      · rw [if_pos h2] at h
        cases h
      · rw [if_neg h2]
        have h3 := inRange_iff.mp (by simpa using h1)
        refine ⟨z, n.toNat, rfl, by omega, ?_, rfl⟩
        unfold Vbndam.playerCount at h2
        omega
/-! ### promises -/
section
variable (K : PySem.W.Frag)
def spNeedRoom : Sp := fun vs H Q E => ∃ (F : Addr → Prop) (d : Addr) (st : Vbndam.State), vs = [.ref d] ∧ DeskAt K F H d st ∧ (∀ k, takeR st = some k → Fails K E H (-(k : Int))) ∧ (takeR st = none → ∀ H', Ex H H' → Q .non H')
def spTakeC : Sp := fun vs H Q E => ∃ (F : Addr → Prop) (d : Addr) (st : Vbndam.State) (n : Int), vs = [.ref d, .int n] ∧ DeskAt K F H d st ∧ (∀ k, takeC st n = some k → Fails K E H (-(k : Int))) ∧ (takeC st n = none → ∀ H', Ex H H' → Q .non H')
def spTakeP : Sp := fun vs H Q E => ∃ (F : Addr → Prop) (d : Addr) (st : Vbndam.State) (n : Int), vs = [.ref d, .int n] ∧ DeskAt K F H d st ∧ (∀ k, takeP st n = some k → Fails K E H (-(k : Int))) ∧ (takeP st n = none → ∀ H', Ex H H' → Q .non H')
/-- operations by what is handed in -/
def spOp0 (f : Vbndam.Call) : Sp := fun vs H Q E => ∃ (F : Addr → Prop) (d : Addr) (st : Vbndam.State), vs = [.ref d] ∧ DeskAt K F H d st ∧ Does K F H d st Q E (Vbndam.step st f)
def spOp1 (f : Int → Vbndam.Call) : Sp := fun vs H Q E => ∃ (F : Addr → Prop) (d : Addr) (st : Vbndam.State) (n : Int), vs = [.ref d, .int n] ∧ DeskAt K F H d st ∧ Does K F H d st Q E (Vbndam.step st (f n))
def spOp2 (f : Int → Int → Vbndam.Call) : Sp := fun vs H Q E => ∃ (F : Addr → Prop) (d : Addr) (st : Vbndam.State) (n m : Int), vs = [.ref d, .int n, .int m] ∧ DeskAt K F H d st ∧ Does K F H d st Q E (Vbndam.step st (f n m))
end
section
variable {P : Program} {w : World} {K : PySem.W.Frag} {mg : Str → Option Value} {base : Heap}
theorem ok_need_room (c : Top K mg) : FOk P w K mg base (L2.CX P w) 4 ("Desk", some "need_room") p_Desk_need_room (spNeedRoom K) := by
  refine FOk.mk c.f_Desk_need_room sc_Desk_need_room (fun _ _ _ _ _ _ us hl => match us, hl with | [_], _ => rfl) (fun vs H Q E h => ?_) (fun cdv A outer s H vs Q E hr h => ?_)
  · obtain ⟨F, d, st, rfl, _⟩ := h
    rfl
  · obtain ⟨F, d, st, rfl, hd, kF, kT⟩ := h
    obtain ⟨dx, v, h1, hv⟩ := hd.ob
    refine ⟨_, pss_one (ps_expr (pe_cf (ok_need c) hr c.glo_need (passes_call (takes_of rfl rfl rfl rfl) (fun _ _ _ _ h => h)) (pa_cons (pe_cmpR op_notN (pe_fld (pv 0) rfl) pe_non (nomark _)) (pa_cons (pe_gi c.int_NO_ROOM) pa_nil)))), ?_⟩
    refine ⟨_, rfl, d, _, dx, _, v, rfl, h1, c.cls_Desk, c.no_Desk_room, dkF_room v, rfl, !decide (v = .non), -2, rfl, fun hb H' e => ?_, fun hb => ?_⟩
    · cases st with
      | none =>
        have : v = .non := hv
        subst this
        cases hb
      | some z => exact kT rfl H' e
    · cases st with
      | none => exact kF 2 rfl
      | some z =>
        obtain ⟨r, rfl, _⟩ := hv
        cases hb
theorem ok_take_coalition (c : Top K mg) : FOk P w K mg base (L2.CX P w) 5 ("Desk", some "take_coalition") p_Desk_take_coalition (spTakeC K) := by
  refine FOk.mk c.f_Desk_take_coalition sc_Desk_take_coalition (fun _ _ _ _ _ _ us hl => match us, hl with | [_, _], _ => rfl) (fun vs H Q E h => ?_) (fun cdv A outer s H vs Q E hr h => ?_)
  · obtain ⟨F, d, st, n, rfl, _⟩ := h
    rfl
  · obtain ⟨F, d, st, n, rfl, hd, kF, kT⟩ := h
    obtain ⟨dx, v, h1, hv⟩ := hd.ob
    refine ⟨_, pss_cons (ps_expr (pe_cf (ok_need_between c) hr c.glo_need_between (passes_call (takes_of rfl rfl rfl rfl) (fun _ _ _ _ h => h)) (pa_cons (pv 1) (pa_cons pe_int (pa_cons (pe_gi c.int_GREATEST_COALITION) pa_nil)))))
      (pss_cons (ps_expr (pe_mf0 (ok_need_room c) hr c.cls_Desk c.me_Desk_need_room (passes_call (takes_of rfl rfl rfl rfl) (fun _ _ _ _ h => h)) (pv 0)))
      (pss_one (ps_expr (pe_cf (ok_need c) (hr.mono (by decide)) c.glo_need (passes_call (takes_of rfl rfl rfl rfl) (fun _ _ _ _ h => h)) (pa_cons (pe_cmpR op_lt (pv 1) (pe_mf0 (ok_many c) (hr.mono (by decide)) c.cls_Room c.me_Room_many pass0 (pe_fld (pv 0) rfl)) (nomark _)) (pa_cons (pe_gi c.int_NOT_THERE) pa_nil)))))), ?_⟩
    refine ⟨_, rfl, n, 0, 255, rfl, fun hin H1 e1 => ?_, fun hin => kF 1 ?_⟩
    · have hin' := inRange_iff.mpr hin
      refine ⟨_, rfl, d, dx, _, rfl, e1 _ _ h1, dkF_none v (by decide +kernel), F, d, st, rfl, hd.ex e1, fun k hk => ?_, fun hk H2 e2 => ?_⟩
      · refine (kF k ?_).mono e1
        unfold takeC
        rw [if_neg (by rw [hin']; decide)]
        cases st with
        | none => exact hk
        | some z => cases hk
      · cases st with
        | none => cases hk
        | some z =>
          obtain ⟨r, rfl, hroom, wf⟩ := hv
          have e12 := e1.trans e2
          obtain ⟨rdx, ap, ar, k1, k2, k3⟩ := (hroom.ex e12)
          refine ⟨_, rfl, _, rfl, d, _, dx, _, _, rfl, e12 _ _ h1, c.cls_Desk, c.no_Desk_room, dkF_room _, r, rdx, _, rfl, k1, rmF_none _ _ (by decide +kernel) (by decide +kernel), F, r, z, rfl, hroom.ex e12, wf.n8, fun H3 e3 => ?_⟩
          have hev : Vbndam.everyone z = 2 ^ z.players.length - 1 := rfl
          have hpos := many_pos z.players.length
          refine ⟨n, _, rfl, rfl, decide (n < ((2 ^ z.players.length : Nat) : Int)), -4, rfl, fun hb H4 e4 => ?_, fun hb => (kF 4 ?_).mono (e12.trans e3)⟩
          · refine kT ?_ H4 ((e12.trans e3).trans e4)
            unfold takeC
            rw [if_neg (by rw [hin']; decide)]
            show (if _ then _ else _) = _
            refine if_neg ?_
            rw [hev]
            have := of_decide_eq_true hb
            show ¬ (2 ^ z.players.length - 1 < n.toNat)
            omega
          · unfold takeC
            rw [if_neg (by rw [hin']; decide)]
            show (if _ then _ else _) = _
            refine if_pos ?_
            rw [hev]
            have := of_decide_eq_false hb
            show 2 ^ z.players.length - 1 < n.toNat
            omega
    · unfold takeC
      rw [if_pos (inRange_not.mpr hin)]
theorem ok_take_player (c : Top K mg) : FOk P w K mg base (L2.CX P w) 5 ("Desk", some "take_player") p_Desk_take_player (spTakeP K) := by
  refine FOk.mk c.f_Desk_take_player sc_Desk_take_player (fun _ _ _ _ _ _ us hl => match us, hl with | [_, _], _ => rfl) (fun vs H Q E h => ?_) (fun cdv A outer s H vs Q E hr h => ?_)
  · obtain ⟨F, d, st, n, rfl, _⟩ := h
    rfl
  · obtain ⟨F, d, st, n, rfl, hd, kF, kT⟩ := h
    obtain ⟨dx, v, h1, hv⟩ := hd.ob
    refine ⟨_, pss_cons (ps_expr (pe_cf (ok_need_between c) hr c.glo_need_between (passes_call (takes_of rfl rfl rfl rfl) (fun _ _ _ _ h => h)) (pa_cons (pv 1) (pa_cons pe_int (pa_cons (pe_op op_sub (pe_gi c.int_MOST_PLAYERS) pe_int) pa_nil)))))
      (pss_cons (ps_expr (pe_mf0 (ok_need_room c) hr c.cls_Desk c.me_Desk_need_room (passes_call (takes_of rfl rfl rfl rfl) (fun _ _ _ _ h => h)) (pv 0)))
      (pss_one (ps_expr (pe_cf (ok_need c) (hr.mono (by decide)) c.glo_need (passes_call (takes_of rfl rfl rfl rfl) (fun _ _ _ _ h => h)) (pa_cons (pe_cmpR op_lt (pv 1) (pe_callB call_len_seq (by rfl) c.free_len PySem.boot_len (pa_cons (pe_fld (pe_fld (pv 0) rfl) rfl) pa_nil)) (nomark _)) (pa_cons (pe_gi c.int_NOT_THERE) pa_nil)))))), ?_⟩
    refine ⟨_, rfl, _, _, rfl, rfl, n, 0, 7, rfl, fun hin H1 e1 => ?_, fun hin => kF 1 ?_⟩
    · have hin' := inRange_iff.mpr hin
      refine ⟨_, rfl, d, dx, _, rfl, e1 _ _ h1, dkF_none v (by decide +kernel), F, d, st, rfl, hd.ex e1, fun k hk => ?_, fun hk H2 e2 => ?_⟩
      · refine (kF k ?_).mono e1
        unfold takeP
        rw [if_neg (by rw [hin']; decide)]
        cases st with
        | none => exact hk
        | some z => cases hk
      · cases st with
        | none => cases hk
        | some z =>
          obtain ⟨r, rfl, hroom, wf⟩ := hv
          have e12 := e1.trans e2
          obtain ⟨rdx, ap, ar, k1, k2, L⟩ := (hroom.ex e12)
          obtain ⟨ps, hps, ea, _⟩ := L.pl
          refine ⟨_, rfl, _, rfl, d, _, dx, _, _, rfl, e12 _ _ h1, c.cls_Desk, c.no_Desk_room, dkF_room _, r, _, rdx, _, _, rfl, k1, c.cls_Room, c.no_Room_players, rmF_players _ _, ap, ps, rfl, .inl (sq_of hps), n, _, rfl, rfl, decide (n < ((ps.length : Nat) : Int)), -4, rfl, fun hb H4 e4 => ?_, fun hb => (kF 4 ?_).mono e12⟩
          · refine kT ?_ H4 (e12.trans e4)
            unfold takeP
            rw [if_neg (by rw [hin']; decide)]
            show (if _ then _ else _) = _
            refine if_neg ?_
            have := of_decide_eq_true hb
            rw [ea.1] at this
            show ¬ ((z.players.length : Int) ≤ n)
            omega
          · unfold takeP
            rw [if_neg (by rw [hin']; decide)]
            show (if _ then _ else _) = _
            refine if_pos ?_
            have := of_decide_eq_false hb
            rw [ea.1] at this
            show (z.players.length : Int) ≤ n
            omega
    · unfold takeP
      rw [if_pos (inRange_not.mpr hin)]
end
end Gs

set_option Elab.async false
set_option linter.all false
set_option maxRecDepth 100000
set_option maxHeartbeats 4000000
/-! Walks: the desk: what it tells. -/
namespace Gs
open PySem PySem.Spec PyProof.Rows L2 Evl
section
variable {K : PySem.W.Frag} {F : Addr → Prop} {H : Hp} {d : Addr} {st : Vbndam.State} {Q : VK} {E : XK} {tz : TS} {D : Ends} {σ : L2.St} {n : Int}
theorem q_takeC {f : Vbndam.Room → Nat → Vbndam.State × List Int} (h0 : σ[0]? = some (some (.ref d))) (h1 : σ[1]? = some (some (.int n))) (hd : DeskAt K F H d st) (hD : Does K F H d st Q E (Vbndam.withCoalition st n f))
    (k : ∀ (z : Vbndam.Room) (m : Nat) (r dx : Addr) (H' : Hp), st = some z → n = (m : Int) → m < 2 ^ z.players.length → Wf z → Ex H H' → H' d = some (.ins (He.ga K "Desk") dx (dkF (.ref r))) → RoomAt K F H' r z → Does K F H d st Q E (f z m) → tz D σ H') :
    tSeq (tDrop (tMeth (He.ga K "Desk") "take_coalition" (spTakeC K) [] E (tVar 0) (tCons (tVar 1) tNil))) tz D σ H := by
  obtain ⟨dx, v, ho, hv⟩ := id hd.ob
  refine ⟨_, h0, d, dx, _, rfl, ho, dkF_none v (by decide +kernel), _, h1, F, d, st, n, rfl, hd, fun j hj => ?_, fun hn H' e => ?_⟩
  · obtain ⟨e, h⟩ := coal_some hj f
    exact hD.2 j e h
  · obtain ⟨z, m, hst, hnm, hm, e2⟩ := coal_none hn f
    subst hst
    obtain ⟨r, rfl, hroom, wf⟩ := hv
    rw [e2] at hD
    exact k z m r dx H' rfl hnm hm wf e (e _ _ ho) (hroom.ex e) hD
theorem q_takeP {f : Vbndam.Room → Nat → Vbndam.State × List Int} (h0 : σ[0]? = some (some (.ref d))) (h1 : σ[1]? = some (some (.int n))) (hd : DeskAt K F H d st) (hD : Does K F H d st Q E (Vbndam.withPlayer st n f))
    (k : ∀ (z : Vbndam.Room) (m : Nat) (r dx : Addr) (H' : Hp), st = some z → n = (m : Int) → m < z.players.length → Wf z → Ex H H' → H' d = some (.ins (He.ga K "Desk") dx (dkF (.ref r))) → RoomAt K F H' r z → Does K F H d st Q E (f z m) → tz D σ H') :
    tSeq (tDrop (tMeth (He.ga K "Desk") "take_player" (spTakeP K) [] E (tVar 0) (tCons (tVar 1) tNil))) tz D σ H := by
  obtain ⟨dx, v, ho, hv⟩ := id hd.ob
  refine ⟨_, h0, d, dx, _, rfl, ho, dkF_none v (by decide +kernel), _, h1, F, d, st, n, rfl, hd, fun j hj => ?_, fun hn H' e => ?_⟩
  · obtain ⟨e, h⟩ := play_some hj f
    exact hD.2 j e h
  · obtain ⟨z, m, hst, hnm, hm, e2⟩ := play_none hn f
    subst hst
    obtain ⟨r, rfl, hroom, wf⟩ := hv
    rw [e2] at hD
    exact k z m r dx H' rfl hnm hm wf e (e _ _ ho) (hroom.ex e) hD
theorem q_takeR {f : Vbndam.Room → Vbndam.State × List Int} (h0 : σ[0]? = some (some (.ref d))) (hd : DeskAt K F H d st) (hD : Does K F H d st Q E (Vbndam.withRoom st f))
    (k : ∀ (z : Vbndam.Room) (r dx : Addr) (H' : Hp), st = some z → Wf z → Ex H H' → H' d = some (.ins (He.ga K "Desk") dx (dkF (.ref r))) → RoomAt K F H' r z → Does K F H d st Q E (f z) → tz D σ H') :
    tSeq (tDrop (tMeth (He.ga K "Desk") "need_room" (spNeedRoom K) [] E (tVar 0) tNil)) tz D σ H := by
  obtain ⟨dx, v, ho, hv⟩ := id hd.ob
  refine ⟨_, h0, d, dx, _, rfl, ho, dkF_none v (by decide +kernel), F, d, st, rfl, hd, fun j hj => ?_, fun hn H' e => ?_⟩
  · obtain ⟨e, h⟩ := room_some hj f
    exact hD.2 j e h
  · cases st with
    | none => cases hn
    | some z =>
      obtain ⟨r, rfl, hroom, wf⟩ := hv
      exact k z r dx H' rfl wf e (e _ _ ho) (hroom.ex e) hD
theorem ev_int1 {te : TE} {b : Bool} (h : Ev te σ H (.bl b)) : Ev (tCB (fun xs H Q => (∃ i, xs = [.int i] ∧ Q (.int i) H) ∨ ∃ k, xs = [.bl k] ∧ Q (.int (if k then 1 else 0)) H) (tCons te tNil)) σ H (.int (Vbndam.flag b)) := fun H1 e Q q =>
  h H1 e _ fun H2 e2 => .inr ⟨b, rfl, q H2 e2⟩
theorem ints_nat (l : List Nat) : (Vbndam.toInts l).map V.int = vN l := by
  unfold Vbndam.toInts vN
  rw [List.map_map]
  rfl
theorem ints_len (l : List Nat) : (Vbndam.withLength l).map V.int = vI (vN l).length :: vN l := by
  unfold Vbndam.withLength
  rw [List.map_cons, ints_nat, vN_len]
theorem sl_told {a : Addr} {l : List Nat} (h : H a = some (.lst (vN l))) (hl : l.length ≤ 100000) : SpL spTold ([.ref a] ++ []) H ((Vbndam.withLength l).map V.int) := fun H1 e Q q _ => ⟨a, vN l, rfl, e _ _ h, by rw [vN_len]; exact hl, fun p H2 hp e2 h2 => q p H2 hp e2 (by rw [ints_len]; exact h2)⟩
theorem el_told {te : TE} {l : List Nat} (h : EvL te σ H (vN l)) (hl : l.length ≤ 100000) : EvL (tCall spTold [] E (tCons te tNil)) σ H ((Vbndam.withLength l).map V.int) := el_callL h fun p H1 e h1 => sl_told h1 hl
theorem sl_min {a : Addr} {t : List Bool} (h : H a = some (.lst (vB t))) (hl : t.length ≤ 256) : SpL spMinimal ([.ref a] ++ []) H (vN (minimalOnes t)) := fun H1 e Q q _ => ⟨a, t, rfl, e _ _ h, hl, q⟩
theorem sl_block {a : Addr} {t : List Bool} (h : H a = some (.lst (vB t))) (hl : t.length ≤ 256) : SpL spBlocking ([.ref a] ++ []) H (vB (blockTable t)) := fun H1 e Q q _ => ⟨a, t, rfl, e _ _ h, hl, q⟩
theorem min_len (t : List Bool) : (minimalOnes t).length ≤ t.length := by
  unfold minimalOnes
  have := List.length_filter_le (fun c => tb t c && !((members8 c).any fun p => tb t (c - 2 ^ p))) (List.range t.length)
  rw [List.length_range] at this
  exact this
theorem swings_len (t : List Bool) (p : Nat) : (swingsOf t p).length ≤ t.length := by
  unfold swingsOf
  have := List.length_filter_le (fun c => !Vbndam.isMember c p && (!tb t c && tb t (c + 2 ^ p))) (List.range t.length)
  rw [List.length_range] at this
  exact this
/-- a method of the room that stands behind the desk -/
theorem ev_rm {mg : Str → Option Value} {z : Vbndam.Room} {r dx : Addr} {m : Str} {sp : Sp} {t : TA} {vs : List V} {v : V} (c : Top K mg) (h0 : σ[0]? = some (some (.ref d))) (hdk : H d = some (.ins (He.ga K "Desk") dx (dkF (.ref r)))) (hroom : RoomAt K F H r z)
    (h1 : (m == ("players" : Str)) = false) (h2 : (m == ("rules" : Str)) = false) (ha : EvA t σ H vs) (hs : SpV sp (.ref r :: (vs ++ [])) H v) : Ev (tMeth (He.ga K "Room") m sp [] E (tFld K (tVar 0) "room") t) σ H v := by
  obtain ⟨rdx, ap, ar, k1, _, L⟩ := hroom
  exact ev_meth (ev_fld (ev_var h0) hdk c.cls_Desk c.no_Desk_room (dkF_room _)) k1 (rmF_none _ _ h1 h2) ha hs
theorem el_rm {mg : Str → Option Value} {z : Vbndam.Room} {r dx : Addr} {m : Str} {sp : Sp} {t : TA} {vs xs : List V} (c : Top K mg) (h0 : σ[0]? = some (some (.ref d))) (hdk : H d = some (.ins (He.ga K "Desk") dx (dkF (.ref r)))) (hroom : RoomAt K F H r z)
    (h1 : (m == ("players" : Str)) = false) (h2 : (m == ("rules" : Str)) = false) (ha : EvA t σ H vs) (hs : SpL sp (.ref r :: (vs ++ [])) H xs) : EvL (tMeth (He.ga K "Room") m sp [] E (tFld K (tVar 0) "room") t) σ H xs := by
  obtain ⟨rdx, ap, ar, k1, _, L⟩ := hroom
  exact el_meth (ev_fld (ev_var h0) hdk c.cls_Desk c.no_Desk_room (dkF_room _)) k1 (rmF_none _ _ h1 h2) ha hs
theorem em_rm {mg : Str → Option Value} {z : Vbndam.Room} {r dx : Addr} {m : Str} {sp : Sp} {t : TA} {vs : List V} {P : Addr → Hp → Prop} (c : Top K mg) (h0 : σ[0]? = some (some (.ref d))) (hdk : H d = some (.ins (He.ga K "Desk") dx (dkF (.ref r)))) (hroom : RoomAt K F H r z)
    (h1 : (m == ("players" : Str)) = false) (h2 : (m == ("rules" : Str)) = false) (ha : EvA t σ H vs) (hs : SpM sp (.ref r :: (vs ++ [])) H P) : EvM (tMeth (He.ga K "Room") m sp [] E (tFld K (tVar 0) "room") t) σ H P := by
  obtain ⟨rdx, ap, ar, k1, _, L⟩ := hroom
  exact em_meth (ev_fld (ev_var h0) hdk c.cls_Desk c.no_Desk_room (dkF_room _)) k1 (rmF_none _ _ h1 h2) ha hs
/-- its players, its rules -/
theorem ev_pls {mg : Str → Option Value} {z : Vbndam.Room} {r dx : Addr} (c : Top K mg) (h0 : σ[0]? = some (some (.ref d))) (hdk : H d = some (.ins (He.ga K "Desk") dx (dkF (.ref r)))) (hroom : RoomAt K F H r z) :
    ∃ ap ps, Ev (tFld K (tFld K (tVar 0) "room") "players") σ H (.ref ap) ∧ H ap = some (.lst ps) ∧ EachAt (PlayerAt K F H) ps z.players := by
  obtain ⟨rdx, ap, ar, k1, _, L⟩ := hroom
  obtain ⟨ps, h1, h2, _⟩ := L.pl
  exact ⟨ap, ps, ev_fld (ev_fld (ev_var h0) hdk c.cls_Desk c.no_Desk_room (dkF_room _)) k1 c.cls_Room c.no_Room_players (rmF_players _ _), h1, h2⟩
theorem ev_rls {mg : Str → Option Value} {z : Vbndam.Room} {r dx : Addr} (c : Top K mg) (h0 : σ[0]? = some (some (.ref d))) (hdk : H d = some (.ins (He.ga K "Desk") dx (dkF (.ref r)))) (hroom : RoomAt K F H r z) :
    ∃ ar rs, Ev (tFld K (tFld K (tVar 0) "room") "rules") σ H (.ref ar) ∧ H ar = some (.lst rs) ∧ EachAt (RuleAt K F H) rs z.rules := by
  obtain ⟨rdx, ap, ar, k1, _, L⟩ := hroom
  obtain ⟨rs, h1, h2⟩ := L.ru
  exact ⟨ar, rs, ev_fld (ev_fld (ev_var h0) hdk c.cls_Desk c.no_Desk_room (dkF_room _)) k1 c.cls_Room c.no_Room_rules (rmF_rules _ _), h1, h2⟩
theorem suff256 {z : Vbndam.Room} (wf : Wf z) : (suffTable z).length ≤ 256 := by
  rw [suff_len]
  exact pow_le_256 wf.n8
end
section
variable {P : Program} {w : World} {K : PySem.W.Frag} {mg : Str → Option Value} {base : Heap}
theorem ok_tell_sufficient (c : Top K mg) : FOk P w K mg base (L2.CX P w) 9 ("Desk", some "tell_sufficient") p_Desk_tell_sufficient (spOp1 K Vbndam.Call.isSufficient) := by
  refine FOk.mk c.f_Desk_tell_sufficient sc_Desk_tell_sufficient (fun _ _ _ _ _ _ us hl => match us, hl with | [_, _], _ => rfl) (fun vs H Q E h => ?_) (fun cdv A outer s H vs Q E hr h => ?_)
  · obtain ⟨F, d, st, n, rfl, _⟩ := h
    rfl
  · obtain ⟨F, d, st, n, rfl, hd, hD0⟩ := h
    refine ⟨_, (pss_cons (ps_expr (pe_mf (ok_take_coalition c) (hr.mono (by decide)) c.cls_Desk c.me_Desk_take_coalition (passes_call (takes_of rfl rfl rfl rfl) (fun _ _ _ _ h => h)) (pv 0) (pa_cons (pv 1) pa_nil)))
      (pss_one (ps_ret (pe_lst (pa_cons (pe_callTy call_int1 (by rfl) c.free_int (by decide +kernel) (pa_cons (pe_mf (ok_is_sufficient c) (hr.mono (by decide)) c.cls_Room c.me_Room_is_sufficient pass0 (pe_fld (pv 0) rfl) (pa_cons (pv 1) pa_nil)) pa_nil)) pa_nil))))), ?_⟩
    refine q_takeC rfl rfl hd hD0 fun z m r dx H1 hst hn hm wf e1 hdk hroom hD => ?_
    subst hn
    refine s_retL (el_lst (ea_cons (ev_int1 (ev_rm c rfl hdk hroom (by decide +kernel) (by decide +kernel) (ea_cons (ev_var rfl) ea_nil) (sv_suff hroom wf hm))) ea_nil) (by show 1 ≤ 100000; decide)) fun p H2 hp e2 hp2 => ?_
    exact hD.ro hd (e1.trans e2) (fresh_back e1 hp) hp2
theorem ok_tell_blocking (c : Top K mg) : FOk P w K mg base (L2.CX P w) 9 ("Desk", some "tell_blocking") p_Desk_tell_blocking (spOp1 K Vbndam.Call.isBlocking) := by
  refine FOk.mk c.f_Desk_tell_blocking sc_Desk_tell_blocking (fun _ _ _ _ _ _ us hl => match us, hl with | [_, _], _ => rfl) (fun vs H Q E h => ?_) (fun cdv A outer s H vs Q E hr h => ?_)
  · obtain ⟨F, d, st, n, rfl, _⟩ := h
    rfl
  · obtain ⟨F, d, st, n, rfl, hd, hD0⟩ := h
    refine ⟨_, (pss_cons (ps_expr (pe_mf (ok_take_coalition c) (hr.mono (by decide)) c.cls_Desk c.me_Desk_take_coalition (passes_call (takes_of rfl rfl rfl rfl) (fun _ _ _ _ h => h)) (pv 0) (pa_cons (pv 1) pa_nil)))
      (pss_one (ps_ret (pe_lst (pa_cons (pe_callTy call_int1 (by rfl) c.free_int (by decide +kernel) (pa_cons (pe_mf (ok_is_blocking c) (hr.mono (by decide)) c.cls_Room c.me_Room_is_blocking pass0 (pe_fld (pv 0) rfl) (pa_cons (pv 1) pa_nil)) pa_nil)) pa_nil))))), ?_⟩
    refine q_takeC rfl rfl hd hD0 fun z m r dx H1 hst hn hm wf e1 hdk hroom hD => ?_
    subst hn
    refine s_retL (el_lst (ea_cons (ev_int1 (ev_rm c rfl hdk hroom (by decide +kernel) (by decide +kernel) (ea_cons (ev_var rfl) ea_nil) (sv_block hroom wf hm))) ea_nil) (by show 1 ≤ 100000; decide)) fun p H2 hp e2 hp2 => ?_
    exact hD.ro hd (e1.trans e2) (fresh_back e1 hp) hp2
theorem ok_minimal_sufficient (c : Top K mg) : FOk P w K mg base (L2.CX P w) 9 ("Desk", some "minimal_sufficient") p_Desk_minimal_sufficient (spOp0 K Vbndam.Call.minimalSufficient) := by
  refine FOk.mk c.f_Desk_minimal_sufficient sc_Desk_minimal_sufficient (fun _ _ _ _ _ _ us hl => match us, hl with | [_], _ => rfl) (fun vs H Q E h => ?_) (fun cdv A outer s H vs Q E hr h => ?_)
  · obtain ⟨F, d, st, rfl, _⟩ := h
    rfl
  · obtain ⟨F, d, st, rfl, hd, hD0⟩ := h
    refine ⟨_, (pss_cons (ps_expr (pe_mf0 (ok_need_room c) (hr.mono (by decide)) c.cls_Desk c.me_Desk_need_room (passes_call (takes_of rfl rfl rfl rfl) (fun _ _ _ _ h => h)) (pv 0)))
      (pss_one (ps_ret (pe_cf (ok_told c) (hr.mono (by decide)) c.glo_told pass0 (pa_cons (pe_cf (ok_minimal_ones c) (hr.mono (by decide)) c.glo_minimal_ones pass0 (pa_cons (pe_mf0 (ok_table c) (hr.mono (by decide)) c.cls_Room c.me_Room_sufficient_table pass0 (pe_fld (pv 0) rfl)) pa_nil)) pa_nil))))), ?_⟩
    refine q_takeR rfl hd hD0 fun z r dx H1 hst wf e1 hdk hroom hD => ?_
    have h256 := suff256 wf
    have hml := min_len (suffTable z)
    refine s_retL (el_told (el_callL (el_rm c rfl hdk hroom (by decide +kernel) (by decide +kernel) ea_nil (sl_table hroom wf)) fun p H2 e2 h2 => sl_min h2 h256) (by omega)) fun p H2 hp e2 hp2 => ?_
    rw [minSuff_is wf.n8] at hp2
    exact hD.ro hd (e1.trans e2) (fresh_back e1 hp) hp2
theorem ok_minimal_blocking (c : Top K mg) : FOk P w K mg base (L2.CX P w) 9 ("Desk", some "minimal_blocking") p_Desk_minimal_blocking (spOp0 K Vbndam.Call.minimalBlocking) := by
  refine FOk.mk c.f_Desk_minimal_blocking sc_Desk_minimal_blocking (fun _ _ _ _ _ _ us hl => match us, hl with | [_], _ => rfl) (fun vs H Q E h => ?_) (fun cdv A outer s H vs Q E hr h => ?_)
  · obtain ⟨F, d, st, rfl, _⟩ := h
    rfl
  · obtain ⟨F, d, st, rfl, hd, hD0⟩ := h
    refine ⟨_, (pss_cons (ps_expr (pe_mf0 (ok_need_room c) (hr.mono (by decide)) c.cls_Desk c.me_Desk_need_room (passes_call (takes_of rfl rfl rfl rfl) (fun _ _ _ _ h => h)) (pv 0)))
      (pss_one (ps_ret (pe_cf (ok_told c) (hr.mono (by decide)) c.glo_told pass0 (pa_cons (pe_cf (ok_minimal_ones c) (hr.mono (by decide)) c.glo_minimal_ones pass0 (pa_cons (pe_cf (ok_blocking_table c) (hr.mono (by decide)) c.glo_blocking_table pass0 (pa_cons (pe_mf0 (ok_table c) (hr.mono (by decide)) c.cls_Room c.me_Room_sufficient_table pass0 (pe_fld (pv 0) rfl)) pa_nil)) pa_nil)) pa_nil))))), ?_⟩
    refine q_takeR rfl hd hD0 fun z r dx H1 hst wf e1 hdk hroom hD => ?_
    have h256 := suff256 wf
    have hml := min_len (blockTable (suffTable z))
    have hbl := block_len (suffTable z)
    refine s_retL (el_told (el_callL (el_callL (el_rm c rfl hdk hroom (by decide +kernel) (by decide +kernel) ea_nil (sl_table hroom wf)) fun p H2 e2 h2 => sl_block h2 h256) fun p H2 e2 h2 => sl_min h2 (by omega)) (by omega)) fun p H2 hp e2 hp2 => ?_
    rw [minBlock_is wf.n8] at hp2
    exact hD.ro hd (e1.trans e2) (fresh_back e1 hp) hp2
theorem ok_minimal_returns (c : Top K mg) : FOk P w K mg base (L2.CX P w) 9 ("Desk", some "minimal_returns") p_Desk_minimal_returns (spOp1 K Vbndam.Call.minimalReturns) := by
  refine FOk.mk c.f_Desk_minimal_returns sc_Desk_minimal_returns (fun _ _ _ _ _ _ us hl => match us, hl with | [_, _], _ => rfl) (fun vs H Q E h => ?_) (fun cdv A outer s H vs Q E hr h => ?_)
  · obtain ⟨F, d, st, n, rfl, _⟩ := h
    rfl
  · obtain ⟨F, d, st, n, rfl, hd, hD0⟩ := h
    refine ⟨_, (pss_cons (ps_expr (pe_mf (ok_take_coalition c) (hr.mono (by decide)) c.cls_Desk c.me_Desk_take_coalition (passes_call (takes_of rfl rfl rfl rfl) (fun _ _ _ _ h => h)) (pv 0) (pa_cons (pv 1) pa_nil)))
      (pss_one (ps_ret (pe_cf (ok_told c) (hr.mono (by decide)) c.glo_told pass0 (pa_cons (pe_cf (ok_minimal_ones c) (hr.mono (by decide)) c.glo_minimal_ones pass0 (pa_cons (pe_cf (ok_returns_table c) (hr.mono (by decide)) c.glo_returns_table pass0 (pa_cons (pe_mf0 (ok_table c) (hr.mono (by decide)) c.cls_Room c.me_Room_sufficient_table pass0 (pe_fld (pv 0) rfl)) (pa_cons (pv 1) pa_nil))) pa_nil)) pa_nil))))), ?_⟩
    refine q_takeC rfl rfl hd hD0 fun z m r dx H1 hst hn hm wf e1 hdk hroom hD => ?_
    subst hn
    have h256 := suff256 wf
    have hsl := suff_len z
    have hml := min_len (returnsTable (suffTable z) m)
    have hbl := ret_len (suffTable z) m
    refine s_retL (el_told (l := minimalOnes (returnsTable (suffTable z) m)) (el_callL (xs := vB (returnsTable (suffTable z) m)) (el_callL2 (el_rm c rfl hdk hroom (by decide +kernel) (by decide +kernel) ea_nil (sl_table hroom wf)) (ev_var rfl) fun p H2 e2 h2 => ?_) fun p H2 e2 h2 => sl_min h2 (by omega)) (by omega)) fun p H2 hp e2 hp2 => ?_
    · exact fun H3 e3 Q' q' _ => ⟨p, suffTable z, m, rfl, e3 _ _ h2, h256, fun o ho ha => by
        rw [hsl] at ho ⊢
        exact apart_lt wf.n8 hm ho ha, q'⟩
    · rw [returns_is wf.n8 hm] at hp2
      exact hD.ro hd (e1.trans e2) (fresh_back e1 hp) hp2
theorem ok_swing_count (c : Top K mg) : FOk P w K mg base (L2.CX P w) 9 ("Desk", some "swing_count") p_Desk_swing_count (spOp1 K Vbndam.Call.swingCount) := by
  refine FOk.mk c.f_Desk_swing_count sc_Desk_swing_count (fun _ _ _ _ _ _ us hl => match us, hl with | [_, _], _ => rfl) (fun vs H Q E h => ?_) (fun cdv A outer s H vs Q E hr h => ?_)
  · obtain ⟨F, d, st, n, rfl, _⟩ := h
    rfl
  · obtain ⟨F, d, st, n, rfl, hd, hD0⟩ := h
    refine ⟨_, (pss_cons (ps_expr (pe_mf (ok_take_player c) (hr.mono (by decide)) c.cls_Desk c.me_Desk_take_player (passes_call (takes_of rfl rfl rfl rfl) (fun _ _ _ _ h => h)) (pv 0) (pa_cons (pv 1) pa_nil)))
      (pss_one (ps_ret (pe_lst (pa_cons (pe_callB call_len_seq (by rfl) c.free_len PySem.boot_len (pa_cons (pe_cf (ok_swings_of c) (hr.mono (by decide)) c.glo_swings_of pass0 (pa_cons (pe_mf0 (ok_table c) (hr.mono (by decide)) c.cls_Room c.me_Room_sufficient_table pass0 (pe_fld (pv 0) rfl)) (pa_cons (pv 1) pa_nil))) pa_nil)) pa_nil))))), ?_⟩
    refine q_takeP rfl rfl hd hD0 fun z m r dx H1 hst hn hm wf e1 hdk hroom hD => ?_
    subst hn
    have h256 := suff256 wf
    have hsl := suff_len z
    have n8 := wf.n8
    refine s_retL (el_lst (ea_cons (ev_lenN (xs := vN (swingsOf (suffTable z) m)) (el_callL2 (el_rm c rfl hdk hroom (by decide +kernel) (by decide +kernel) ea_nil (sl_table hroom wf)) (ev_var rfl) fun p H2 e2 h2 => ?_)) ea_nil) (by show 1 ≤ 100000; decide)) fun p H2 hp e2 hp2 => ?_
    · exact fun H3 e3 Q' q' _ => ⟨p, suffTable z, m, rfl, e3 _ _ h2, h256, by omega, fun o ho ha => by
        rw [hsl] at ho ⊢
        exact add_lt_bit ho hm ha, q'⟩
    · rw [vN_len, swings_is hm] at hp2
      exact hD.ro hd (e1.trans e2) (fresh_back e1 hp) hp2
theorem ok_sufficient_counts (c : Top K mg) : FOk P w K mg base (L2.CX P w) 9 ("Desk", some "sufficient_counts") p_Desk_sufficient_counts (spOp0 K Vbndam.Call.sufficientCounts) := by
  refine FOk.mk c.f_Desk_sufficient_counts sc_Desk_sufficient_counts (fun _ _ _ _ _ _ us hl => match us, hl with | [_], _ => rfl) (fun vs H Q E h => ?_) (fun cdv A outer s H vs Q E hr h => ?_)
  · obtain ⟨F, d, st, rfl, _⟩ := h
    rfl
  · obtain ⟨F, d, st, rfl, hd, hD0⟩ := h
    refine ⟨_, (pss_cons (ps_expr (pe_mf0 (ok_need_room c) (hr.mono (by decide)) c.cls_Desk c.me_Desk_need_room (passes_call (takes_of rfl rfl rfl rfl) (fun _ _ _ _ h => h)) (pv 0)))
      (pss_one (ps_ret (pe_cf (ok_told c) (hr.mono (by decide)) c.glo_told pass0 (pa_cons (pe_cf (ok_counts_by_members c) (hr.mono (by decide)) c.glo_counts_by_members pass0 (pa_cons (pe_mf0 (ok_table c) (hr.mono (by decide)) c.cls_Room c.me_Room_sufficient_table pass0 (pe_fld (pv 0) rfl)) (pa_cons (pe_callB call_len_seq (by rfl) c.free_len PySem.boot_len (pa_cons (pe_fld (pe_fld (pv 0) rfl) rfl) pa_nil)) pa_nil))) pa_nil))))), ?_⟩
    refine q_takeR rfl hd hD0 fun z r dx H1 hst wf e1 hdk hroom hD => ?_
    have h256 := suff256 wf
    have hsl := suff_len z
    have n8 := wf.n8
    obtain ⟨ap, ps, hap, hps, hea⟩ := ev_pls (σ := [some (.ref d)]) c rfl hdk hroom
    refine s_retL (el_told (l := countsBy (suffTable z) z.players.length) (el_callL2 (v := vI z.players.length) (el_rm c rfl hdk hroom (by decide +kernel) (by decide +kernel) ea_nil (sl_table hroom wf)) (ev_is (ev_len hap (sq_of hps)) (by rw [hea.1])) fun p H2 e2 h2 => ?_) ?_) fun p H2 hp e2 hp2 => ?_
    · exact fun H3 e3 Q' q' _ => ⟨p, suffTable z, z.players.length, rfl, e3 _ _ h2, h256, n8, fun o ho => by
        rw [hsl] at ho
        exact members_len n8 ho, q'⟩
    · unfold countsBy
      rw [List.length_map, List.length_range]
      omega
    · rw [counts_is n8] at hp2
      exact hD.ro hd (e1.trans e2) (fresh_back e1 hp) hp2
end
end Gs

set_option Elab.async false
set_option linter.all false
set_option maxRecDepth 100000
set_option maxHeartbeats 4000000
/-! Walks: the desk: further tellings. -/
namespace Gs
open PySem PySem.Spec PyProof.Rows L2 Evl
section
variable {K : PySem.W.Frag} {F : Addr → Prop} {H : Hp} {Q : VK} {E : XK} {tz : TS} {D : Ends} {σ : L2.St} {ta : TA} {te tl : TE}
theorem s_ext {l : Addr} {xs ys : List V} (hl : H l = some (.lst xs)) (ha : Ev tl σ H (.ref l)) (h : EvL te σ H ys) (hz : xs.length + ys.length ≤ 100000) (k : ∀ p H1, H p = none → Ex H H1 → D.nx σ (upd H1 l (.lst (xs ++ ys)))) :
    tDrop (tBM K "list" rExtend tl (tCons te tNil)) D σ H := ha H (Ex.refl H) _ fun H1 e1 =>
  ⟨Or.inl ⟨rfl, xs, sq_of (e1 l _ hl)⟩, h H1 e1 _ fun p H2 hp e2 h2 => ⟨l, p, xs, ys, rfl, rfl, e2 l _ (e1 l _ hl), h2, sz_of hz, k p H2 (fresh_back e1 hp) (e1.trans e2)⟩⟩
theorem q_btw {n lo hi : Int} (h : EvA ta σ H [.int n, .int lo, .int hi]) (kT : lo ≤ n ∧ n ≤ hi → ∀ H', Ex H H' → tz D σ H') (kF : ¬ (lo ≤ n ∧ n ≤ hi) → Fails K E H (-1)) : tSeq (tDrop (tCall (spBetween K) [] E ta)) tz D σ H :=
  h H (Ex.refl H) _ fun H1 e1 => ⟨n, lo, hi, rfl, fun a H' e => kT a H' (e1.trans e), fun a => (kF a).mono e1⟩
theorem s_btw {n lo hi : Int} (h : EvA ta σ H [.int n, .int lo, .int hi]) (kT : lo ≤ n ∧ n ≤ hi → ∀ H', Ex H H' → D.nx σ H') (kF : ¬ (lo ≤ n ∧ n ≤ hi) → Fails K E H (-1)) : tDrop (tCall (spBetween K) [] E ta) D σ H :=
  h H (Ex.refl H) _ fun H1 e1 => ⟨n, lo, hi, rfl, fun a H' e => kT a H' (e1.trans e), fun a => (kF a).mono e1⟩
theorem q_need {b : Bool} {k : Int} (h : EvA ta σ H [.bl b, .int k]) (kT : b = true → ∀ H', Ex H H' → tz D σ H') (kF : b = false → Fails K E H k) : tSeq (tDrop (tCall (spNeed K) [] E ta)) tz D σ H :=
  h H (Ex.refl H) _ fun H1 e1 => ⟨b, k, rfl, fun a H' e => kT a H' (e1.trans e), fun a => (kF a).mono e1⟩
theorem q_pairs {a : Addr} {l : List Int} (h : EvA ta σ H [.ref a]) (hl : H a = some (.lst (l.map V.int))) (kT : l.length ≤ 40 ∧ l.length % 2 = 0 → ∀ H', Ex H H' → tz D σ H') (kF : ¬ (l.length ≤ 40 ∧ l.length % 2 = 0) → Fails K E H (-1)) : tSeq (tDrop (tCall (spNeedPairs K) [] E ta)) tz D σ H :=
  h H (Ex.refl H) _ fun H1 e1 => ⟨a, l, rfl, e1 _ _ hl, fun a H' e => kT a H' (e1.trans e), fun a => (kF a).mono e1⟩
theorem em_pairsOf {a : Addr} {l : List Int} (h : EvA ta σ H [.ref a]) (hl : H a = some (.lst (l.map V.int))) (h1 : l.length ≤ 40) (h2 : l.length % 2 = 0) : EvM (tCall spPairsOf [] E ta) σ H (fun p H' => ∃ xs, H' p = some (.lst xs) ∧ EachAt (PairIAt H') xs (pairsI l)) :=
  em_cf h fun H1 e Q q _ => ⟨a, l, rfl, e _ _ hl, h1, h2, q⟩
theorem ev_eqNilM {ps : List (Nat × Nat)} (h : EvM te σ H (fun p H => PairsAt H p ps)) : Ev (tOp (rEqNil K) te (tLst tNil)) σ H (.bl ps.isEmpty) := fun H1 e Q q =>
  h H1 e _ fun p H2 hp e2 hP => by
    obtain ⟨xs, hx, he⟩ := hP
    refine el_lst ea_nil (by decide) H2 (e.trans e2) _ fun p' H3 hp' e3 h3 => ⟨p, p', xs, rfl, rfl, sq_of (e3 _ _ hx), sq_of h3, ?_⟩
    have : xs.isEmpty = ps.isEmpty := by
      have := he.1
      cases xs <;> cases ps
      · rfl
      · simp at this
      · simp at this
      · rfl
    rw [this]
    exact q H3 (e2.trans e3)
/-- [e for x in objects if t] -/
theorem el_lcO {α : Type} [Inhabited α] {R : Hp → V → α → Prop} {xs : List V} {l : List α} {a : Addr} {j : Nat} {t : TT} {vs : List Nat} (f : α → Bool) (v : α → V) (h : Ev tl σ H (.ref a)) (hx : SqL K H a xs) (hE : EachAt (R H) xs l) (hz : l.length ≤ 40000) (hw : ∀ x, wipe ((wipe σ vs).set j (some x)) vs = wipe σ vs)
    (ht : ∀ y x, x ∈ l → R H y x → ∀ H1, Ex H H1 → EvT t ((wipe σ vs).set j (some y)) H1 (f x)) (he : ∀ y x, x ∈ l → R H y x → ∀ H1, Ex H H1 → f x = true → Ev te ((wipe σ vs).set j (some y)) H1 (v x)) :
    EvL (tLc (iList K tl) (gName j) t te vs) σ H ((l.filter f).map v) := by
  rw [← given_get l default, ← hE.1]
  refine el_lcL _ _ h hx (by rw [hE.1]; exact hz) hw (fun i x H1 e1 hi => ?_) (fun i x H1 e1 hi hf => ?_)
  · obtain ⟨y, hy, hR⟩ := hE.of hi
    rw [getD_at hy]
    exact ht x y (List.mem_of_getElem? hy) hR H1 e1
  · obtain ⟨y, hy, hR⟩ := hE.of hi
    rw [getD_at hy] at hf ⊢
    exact he x y (List.mem_of_getElem? hy) hR H1 e1 hf
end
theorem Does.ex {K : PySem.W.Frag} {F : Addr → Prop} {H H' : Hp} {d : Addr} {st : Vbndam.State} {Q : VK} {E : XK} {o : Vbndam.State × List Int} (h : Does K F H d st Q E o) (e : Ex H H') : Does K F H' d st Q E o :=
  ⟨fun l hl p H2 F' h1 h2 h3 h4 h5 => h.1 l hl p H2 F' h1 (fun b o hb hF => h2 b o (e _ _ hb) hF) (fun b hb => (h3 b hb).imp id (fun q => fresh_back e q)) (fresh_back e h4) h5, fun k hk h1 => (h.2 k hk h1).mono e⟩
def flat2 (l : List (Nat × Nat)) : List Nat := l.flatMap fun x => [x.1, x.2]
theorem flat2_app (l m : List (Nat × Nat)) : flat2 (l ++ m) = flat2 l ++ flat2 m := List.flatMap_append
theorem flat2_len : ∀ l : List (Nat × Nat), (flat2 l).length = 2 * l.length
  | [] => rfl
  | x :: l => by
    show (flat2 l).length + 1 + 1 = 2 * (l.length + 1)
    rw [flat2_len l]
    omega
theorem flat2_up : ∀ l : List (Nat × Nat), (l.flatMap fun x => Vbndam.toInts [x.1, x.2 + 1]).map V.int = vN (flat2 (l.map up))
  | [] => rfl
  | x :: l => by
    show V.int _ :: V.int _ :: (l.flatMap fun x => Vbndam.toInts [x.1, x.2 + 1]).map V.int = vI _ :: vI _ :: vN (flat2 (l.map up))
    rw [flat2_up l]
    rfl
theorem closed_is {z : Vbndam.Room} {m : Nat} (hm : m < 2 ^ z.players.length) : (roundSteps z m).isEmpty = Vbndam.isClosed z m := by
  unfold Vbndam.isClosed
  cases h : (roundSteps z m) with
  | nil =>
    rw [nil_next hm h]
    simp
  | cons x l =>
    have hne : roundSteps z m ≠ [] := by
      rw [h]
      exact List.cons_ne_nil _ _
    have := nonmem_lt hm hne
    have : Vbndam.nextRound z m ≠ m := fun e => by
      rw [e] at this
      omega
    exact (beq_eq_false_iff_ne.mpr this).symm
theorem fact_small : ∀ k, k ≤ 8 → Vbndam.factorial k ≤ 40320 := by decide +kernel
section
variable {P : Program} {w : World} {K : PySem.W.Frag} {mg : Str → Option Value} {base : Heap}
theorem ok_acting_coalition (c : Top K mg) : FOk P w K mg base (L2.CX P w) 9 ("Desk", some "acting_coalition") p_Desk_acting_coalition (spOp1 K Vbndam.Call.actingCoalition) := by
  refine FOk.mk c.f_Desk_acting_coalition sc_Desk_acting_coalition (fun _ _ _ _ _ _ us hl => match us, hl with | [_, _], _ => rfl) (fun vs H Q E h => ?_) (fun cdv A outer s H vs Q E hr h => ?_)
  · obtain ⟨F, d, st, n, rfl, _⟩ := h
    rfl
  · obtain ⟨F, d, st, n, rfl, hd, hD0⟩ := h
    have nd := sc_Desk_acting_coalition.nd
    refine ⟨_, (pss_cons (ps_expr (pe_mf (ok_take_coalition c) (hr.mono (by decide)) c.cls_Desk c.me_Desk_take_coalition (passes_call (takes_of rfl rfl rfl rfl) (fun _ _ _ _ h => h)) (pv 0) (pa_cons (pv 1) pa_nil)))
      (pss_cons (ps_set (i := 2) nd rfl (.inl rfl) (pe_mf (ok_steps c) (hr.mono (by decide)) c.cls_Room c.me_Room_steps pass0 (pe_fld (pv 0) rfl) (pa_cons (pv 1) pa_nil)))
      (pss_cons (ps_set (i := 3) nd rfl (.inl rfl) (pe_lst (pa_cons (pe_mf (ok_acting c) (hr.mono (by decide)) c.cls_Room c.me_Room_acting pass0 (pe_fld (pv 0) rfl) (pa_cons (pv 1) pa_nil)) (pa_cons (pe_callB call_len_seq (by rfl) c.free_len PySem.boot_len (pa_cons (pv 2) pa_nil)) pa_nil))))
      (pss_cons (ps_for (passes_of rfl) rfl (pi_list (pv 2)) (pg_tup rfl (pgs_cons (pg_name (i := 4) nd rfl (.inl rfl)) (pgs_cons (pg_name (i := 5) nd rfl (.inl rfl)) pgs_nil))) (pss_one (ps_expr (pe_bm PySem.F.plainAttrs_list PySem.F.slot_list_extend PySem.F.type_list_extend mt_extend (pv 3) (pa_cons (pe_lst (pa_cons (pv 4) (pa_cons (pv 5) pa_nil))) pa_nil)))))
      (pss_one (ps_ret (pv 3))))))), ?_⟩
    refine q_takeC rfl rfl hd hD0 fun z m r dx H1 hst hn hm wf e1 hdk hroom hD => ?_
    subst hn
    have n8 := wf.n8
    refine q_asgM (P := fun p H => PairsAt H p (steps z m)) (em_rm c rfl hdk hroom (by decide +kernel) (by decide +kernel) (ea_cons (ev_var rfl) ea_nil) (sm_steps hroom wf hm)) fun a H2 ha e2 hP => ?_
    obtain ⟨xs, hxs, hE⟩ := id hP
    have hfew := steps_few n8 m
    refine q_asgL (el_lst (ea_cons (ev_rm c rfl (e2 _ _ hdk) (hroom.ex e2) (by decide +kernel) (by decide +kernel) (ea_cons (ev_var rfl) ea_nil) (sv_acting (hroom.ex e2) wf hm)) (ea_cons (ev_len (ev_var rfl) (sq_of hxs)) ea_nil)) (by show 2 ≤ 100000; decide)) fun f H3 hf e3 hf3 => ?_
    rw [hE.1] at hf3
    have hfH : H f = none := fresh_back (e1.trans e2) hf
    refine q_forA (ev_var rfl) (sq_of (e3 _ _ hxs)) hE.1 (fun pre σ H4 => (∃ x y, σ = [some (.ref d), some (vI m), some (.ref a), some (.ref f), x, y]) ∧ Ex H2 H4 ∧ H4 f = some (.lst (vI (Vbndam.actingCoalition z m) :: vI (steps z m).length :: vN (flat2 pre))))
      (fun H4 e4 => ⟨⟨none, none, rfl⟩, e3.trans e4, e4 _ _ hf3⟩) (fun i σ H4 _ q => sq_of (q.2.1 _ _ hxs)) (fun i v u σ H4 hv hu q => ?_) (fun σ H4 q => ?_)
    · obtain ⟨⟨x1, y1, rfl⟩, e4, hf4⟩ := q
      refine g_pairAt ((hE.2 i v u hv hu).ex e4) ?_
      have hi : i < (steps z m).length := (List.getElem?_eq_some_iff.mp hu).1
      refine s_ext hf4 (ev_var rfl) (el_lst (ea_cons (ev_var rfl) (ea_cons (ev_var rfl) ea_nil)) (by show 2 ≤ 100000; decide)) ?_ fun p H5 hp e5 => ⟨⟨_, _, rfl⟩, Ex.mut (e4.trans e5) hf, ?_⟩
      · show (vN (flat2 _)).length + 1 + 1 + 2 ≤ 100000
        rw [vN_len, flat2_len, List.length_take]
        omega
      · rw [upd_same, flat2_app, vN_app]
        rfl
    · obtain ⟨⟨x1, y1, rfl⟩, e4, hf4⟩ := q
      refine ⟨_, rfl, ?_⟩
      refine hD.ro hd ((e1.trans e2).trans e4) hfH ?_
      rw [hf4, List.map_cons, List.map_cons, flat2_up]
      unfold steps
      rw [List.length_map]
theorem ok_is_closed (c : Top K mg) : FOk P w K mg base (L2.CX P w) 9 ("Desk", some "is_closed") p_Desk_is_closed (spOp1 K Vbndam.Call.isClosed) := by
  refine FOk.mk c.f_Desk_is_closed sc_Desk_is_closed (fun _ _ _ _ _ _ us hl => match us, hl with | [_, _], _ => rfl) (fun vs H Q E h => ?_) (fun cdv A outer s H vs Q E hr h => ?_)
  · obtain ⟨F, d, st, n, rfl, _⟩ := h
    rfl
  · obtain ⟨F, d, st, n, rfl, hd, hD0⟩ := h
    have hu := hu_of hr
    refine ⟨_, (pss_cons (ps_expr (pe_mf (ok_take_coalition c) (hr.mono (by decide)) c.cls_Desk c.me_Desk_take_coalition (passes_call (takes_of rfl rfl rfl rfl) (fun _ _ _ _ h => h)) (pv 0) (pa_cons (pv 1) pa_nil)))
      (pss_one (ps_ret (pe_lst (pa_cons (pe_callTy call_int1 (by rfl) c.free_int (by decide +kernel) (pa_cons (pe_cmpR (op_eqNil (by exact Nat.lt_of_succ_lt hu)) (pe_mf (ok_round_steps c) (hr.mono (by decide)) c.cls_Room c.me_Room_round_steps pass0 (pe_fld (pv 0) rfl) (pa_cons (pv 1) pa_nil)) (pe_lst pa_nil) (nomark _)) pa_nil)) pa_nil))))), ?_⟩
    refine q_takeC rfl rfl hd hD0 fun z m r dx H1 hst hn hm wf e1 hdk hroom hD => ?_
    subst hn
    refine s_retL (el_lst (ea_cons (ev_int1 (ev_eqNilM (em_rm c rfl hdk hroom (by decide +kernel) (by decide +kernel) (ea_cons (ev_var rfl) ea_nil) (sm_round hroom wf)))) ea_nil) (by show 1 ≤ 100000; decide)) fun p H2 hp e2 hp2 => ?_
    rw [closed_is hm] at hp2
    exact hD.ro hd (e1.trans e2) (fresh_back e1 hp) hp2
theorem ok_power_index (c : Top K mg) : FOk P w K mg base (L2.CX P w) 9 ("Desk", some "power_index") p_Desk_power_index (spOp1 K Vbndam.Call.powerIndex) := by
  refine FOk.mk c.f_Desk_power_index sc_Desk_power_index (fun _ _ _ _ _ _ us hl => match us, hl with | [_, _], _ => rfl) (fun vs H Q E h => ?_) (fun cdv A outer s H vs Q E hr h => ?_)
  · obtain ⟨F, d, st, n, rfl, _⟩ := h
    rfl
  · obtain ⟨F, d, st, n, rfl, hd, hD0⟩ := h
    have nd := sc_Desk_power_index.nd
    refine ⟨_, (pss_cons (ps_expr (pe_mf (ok_take_player c) (hr.mono (by decide)) c.cls_Desk c.me_Desk_take_player (passes_call (takes_of rfl rfl rfl rfl) (fun _ _ _ _ h => h)) (pv 0) (pa_cons (pv 1) pa_nil)))
      (pss_cons (ps_setLc (i := 2) (own := [("one", 3)]) (g := gName 3) rfl nd rfl rfl (sw_true rfl rfl rfl (by decide +kernel)) (pi_list (pe_cf (ok_swings_of c) (hr.mono (by decide)) c.glo_swings_of pass0 (pa_cons (pe_mf0 (ok_table c) (hr.mono (by decide)) c.cls_Room c.me_Room_sufficient_table pass0 (pe_fld (pv 0) rfl)) (pa_cons (pv 1) pa_nil))))
          (blkOk_by (N := n_Desk_power_index) (sc := defScope s_Desk_power_index) (by decide +kernel)) (fun _ _ _ _ _ => (pg_name (i := 3) nd rfl (.inl rfl))) (fun _ _ _ _ _ => pts_nil) (fun _ _ _ _ _ => by exact (pe_callB (call_lenK (K := K)) (by rfl) c.free_len PySem.boot_len (pa_cons (pe_cf (ok_members_of c) (hr.mono (by decide)) c.glo_members_of pass0 (pa_cons (pv 3) pa_nil)) pa_nil))))
      (pss_one (ps_ret (pe_cf (ok_index_of c) (hr.mono (by decide)) c.glo_index_of pass0 (pa_cons (pv 2) (pa_cons (pe_callB call_len_seq (by rfl) c.free_len PySem.boot_len (pa_cons (pe_fld (pe_fld (pv 0) rfl) rfl) pa_nil)) pa_nil))))))), ?_⟩
    refine q_takeP rfl rfl hd hD0 fun z m r dx H1 hst hn hm wf e1 hdk hroom hD => ?_
    subst hn
    have h256 := suff256 wf
    have hsl := suff_len z
    have n8 := wf.n8
    have hsw := swings_len (suffTable z) m
    refine q_asgL (el_lcAN (l := swingsOf (suffTable z) m) (enc := vI) (fun _ => true) (fun s => vI (members8 s).length) (el_callL2 (el_rm c rfl hdk hroom (by decide +kernel) (by decide +kernel) ea_nil (sl_table hroom wf)) (ev_var rfl) fun p H2 e2 h2 => ?_) (by omega) (fun _ => rfl) (fun _ _ _ _ => et_yes)
      (fun s hs H2 e2 _ => ev_is (ev_lenN (xs := vN (members8 s)) (el_cf1 (ea_cons (ev_var rfl) ea_nil) sl_members)) (by rw [vN_len]))) fun f H2 hf e2 hf2 => ?_
    · exact fun H3 e3 Q' q' _ => ⟨p, suffTable z, m, rfl, e3 _ _ h2, h256, by omega, fun o ho ha => by
        rw [hsl] at ho ⊢
        exact add_lt_bit ho hm ha, q'⟩
    · rw [filter_yes, map_vI] at hf2
      obtain ⟨ap, ps, hap, hps, hea⟩ := ev_pls (σ := [some (.ref d), some (vI m), some (.ref f), none]) c rfl (e2 _ _ hdk) (hroom.ex e2)
      refine s_retL (xs := vN [_, _]) (el_cf1 (ea_cons (ev_var rfl) (ea_cons (ev_is (w := vI z.players.length) (ev_len hap (sq_of hps)) (by rw [hea.1])) ea_nil)) fun H3 e3 Q' q' _ => ⟨f, _, z.players.length, rfl, e3 _ _ hf2, by rw [List.length_map]; omega, n8, fun k hk => ?_, q'⟩) fun p H3 hp e3 hp3 => ?_
      · obtain ⟨s, hs, rfl⟩ := List.mem_map.mp hk
        rw [swings_is hm] at hs
        exact swing_size n8 hm hs
      · rw [← pivotal_is n8 hm] at hp3
        exact hD.ro hd ((e1.trans e2).trans e3) (fresh_back (e1.trans e2) hp) hp3
theorem ok_continuation (c : Top K mg) : FOk P w K mg base (L2.CX P w) 9 ("Desk", some "continuation") p_Desk_continuation (spOp2 K Vbndam.Call.continuationProbability) := by
  refine FOk.mk c.f_Desk_continuation sc_Desk_continuation (fun _ _ _ _ _ _ us hl => match us, hl with | [_, _, _], _ => rfl) (fun vs H Q E h => ?_) (fun cdv A outer s H vs Q E hr h => ?_)
  · obtain ⟨F, d, st, n, m, rfl, _⟩ := h
    rfl
  · obtain ⟨F, d, st, a, b, rfl, hd, hD0⟩ := h
    have nd := sc_Desk_continuation.nd
    refine ⟨_, (pss_cons (ps_expr (pe_cf (ok_need_between c) (hr.mono (by decide)) c.glo_need_between (passes_call (takes_of rfl rfl rfl rfl) (fun _ _ _ _ h => h)) (pa_cons (pv 2) (pa_cons pe_int (pa_cons (pe_gi c.int_MOST_PARTS) pa_nil)))))
      (pss_cons (ps_expr (pe_cf (ok_need_between c) (hr.mono (by decide)) c.glo_need_between (passes_call (takes_of rfl rfl rfl rfl) (fun _ _ _ _ h => h)) (pa_cons (pv 1) (pa_cons pe_int (pa_cons (pv 2) pa_nil)))))
      (pss_cons (ps_expr (pe_mf0 (ok_need_room c) (hr.mono (by decide)) c.cls_Desk c.me_Desk_need_room (passes_call (takes_of rfl rfl rfl rfl) (fun _ _ _ _ h => h)) (pv 0)))
      (pss_cons (ps_set (i := 3) nd rfl (.inl rfl) (pe_cf (ok_counts_by_members c) (hr.mono (by decide)) c.glo_counts_by_members pass0 (pa_cons (pe_mf0 (ok_table c) (hr.mono (by decide)) c.cls_Room c.me_Room_sufficient_table pass0 (pe_fld (pv 0) rfl)) (pa_cons (pe_callB call_len_seq (by rfl) c.free_len PySem.boot_len (pa_cons (pe_fld (pe_fld (pv 0) rfl) rfl) pa_nil)) pa_nil))))
      (pss_one (ps_ret (pe_cf (ok_probability_of c) (hr.mono (by decide)) c.glo_probability_of pass0 (pa_cons (pv 3) (pa_cons (pv 1) (pa_cons (pv 2) pa_nil)))))))))), ?_⟩
    have hD1 : Does K F H d st Q E (if (Vbndam.inRange b 1 100 && Vbndam.inRange a 0 b) = false then Vbndam.fail st 1 else Vbndam.withRoom st fun z => Vbndam.succeed st (Vbndam.toInts [(Vbndam.reducedFraction (Vbndam.continuationWeight z a.toNat b.toNat) (b.toNat ^ Vbndam.playerCount z)).1, (Vbndam.reducedFraction (Vbndam.continuationWeight z a.toNat b.toNat) (b.toNat ^ Vbndam.playerCount z)).2])) := hD0
    have bad : (Vbndam.inRange b 1 100 && Vbndam.inRange a 0 b) = false → Fails K E H (-1) := fun hb => by
      rw [if_pos hb] at hD1
      exact hD1.fail (by decide)
    refine q_btw (ea_cons (ev_var rfl) (ea_cons ev_c (ea_cons ev_c ea_nil))) (fun hb H1 e1 => ?_) (fun hb => bad (by rw [inRange_not.mpr hb, Bool.false_and]))
    have hb1 := inRange_iff.mpr hb
    refine q_btw (ea_cons (ev_var rfl) (ea_cons ev_c (ea_cons (ev_var rfl) ea_nil))) (fun ha H2 e2 => ?_) (fun ha => (bad (by rw [hb1, inRange_not.mpr ha]; rfl)).mono e1)
    have ha1 := inRange_iff.mpr ha
    rw [hb1, ha1, if_neg (by decide)] at hD1
    have hdX := hd.ex (e1.trans e2)
    refine q_takeR (F := F) (st := st) (f := fun z => Vbndam.succeed st (Vbndam.toInts [(Vbndam.reducedFraction (Vbndam.continuationWeight z a.toNat b.toNat) (b.toNat ^ Vbndam.playerCount z)).1, (Vbndam.reducedFraction (Vbndam.continuationWeight z a.toNat b.toNat) (b.toNat ^ Vbndam.playerCount z)).2])) (Q := Q) rfl hdX ?_ fun z r dx H3 hst wf e3 hdk hroom hD => ?_
    · exact hD1.ex (e1.trans e2)
    obtain ⟨an, rfl⟩ := Int.eq_ofNat_of_zero_le ha.1
    obtain ⟨bn, rfl⟩ := Int.eq_ofNat_of_zero_le (show 0 ≤ b by omega)
    have h256 := suff256 wf
    have hsl := suff_len z
    have n8 := wf.n8
    obtain ⟨ap, ps, hap, hps, hea⟩ := ev_pls (σ := [some (.ref d), some (vI an), some (vI bn), none]) c rfl hdk hroom
    refine q_asgL (el_callL2 (xs := vB (suffTable z)) (ys := vN (countsBy (suffTable z) z.players.length)) (v := vI z.players.length) (el_rm c rfl hdk hroom (by decide +kernel) (by decide +kernel) ea_nil (sl_table hroom wf)) (ev_is (ev_len hap (sq_of hps)) (by rw [hea.1])) fun p H2 e2 h2 => ?_) fun f H4 hf e4 hf4 => ?_
    · exact fun H3 e3 Q' q' _ => ⟨p, suffTable z, z.players.length, rfl, e3 _ _ h2, h256, n8, fun o ho => by
        rw [hsl] at ho
        exact members_len n8 ho, q'⟩
    · have hcl : (countsBy (suffTable z) z.players.length).length = z.players.length + 1 := by
        unfold countsBy
        rw [List.length_map, List.length_range]
      refine s_retL (xs := vN [_, _]) (el_cf1 (ea_cons (ev_var rfl) (ea_cons (ev_var rfl) (ea_cons (ev_var rfl) ea_nil))) fun H5 e5 Q' q' _ => ⟨f, _, an, bn, rfl, e5 _ _ hf4, by omega, by omega, fun k hk => ?_, by omega, by omega, by omega, q'⟩) fun p H5 hp e5 hp5 => ?_
      · obtain ⟨j, _, rfl⟩ := List.mem_map.mp hk
        unfold countOf
        have := List.length_filter_le (fun c => (members8 c).length == j && tb (suffTable z) c) (List.range (suffTable z).length)
        rw [List.length_range] at this
        omega
      · rw [← cont_is n8, hcl, Nat.add_sub_cancel] at hp5
        exact hD.ro hdX (e3.trans (e4.trans e5)) (fresh_back (e3.trans e4) hp) hp5
end
end Gs

set_option Elab.async false
set_option linter.all false
set_option maxRecDepth 100000
set_option maxHeartbeats 4000000
/-! Walks: the desk: cheapest, summary, steps checked, packings. -/
namespace Gs
open PySem PySem.Spec PyProof.Rows L2 Evl
/-! ### numbers in pairs -/
def natPairs (l : List Int) : List (Nat × Nat) := Vbndam.toPairs (Vbndam.toNats l)
theorem natPairs_cons (a b : Int) (l : List Int) : natPairs (a :: b :: l) = (a.toNat, b.toNat) :: natPairs l := rfl
theorem pairsI_nat : ∀ (l : List Int), (∀ p ∈ pairsI l, 0 ≤ p.1 ∧ 0 ≤ p.2) → pairsI l = (natPairs l).map fun p => ((p.1 : Int), (p.2 : Int))
  | [], _ => rfl
  | [_], _ => rfl
  | a :: b :: l, h => by
    rw [natPairs_cons]
    show (a, b) :: pairsI l = _
    have h0 := h (a, b) (List.mem_cons_self ..)
    have h1 : (a, b).1 = a := rfl
    have h2 : (a, b).2 = b := rfl
    rw [pairsI_nat l fun p hp => h p (List.mem_cons_of_mem _ hp), List.map_cons]
    rw [h1, h2] at h0
    congr 1
    refine Prod.ext ?_ ?_
    · show a = (a.toNat : Int)
      omega
    · show b = (b.toNat : Int)
      omega
theorem pairs_nat {H : Hp} {xs : List V} {l : List Int} (h : EachAt (PairIAt H) xs (pairsI l)) (h0 : ∀ p ∈ pairsI l, 0 ≤ p.1 ∧ 0 ≤ p.2) : EachAt (PairAt H) xs (natPairs l) := by
  rw [pairsI_nat l h0] at h
  refine ⟨by rw [h.1, List.length_map], fun i v x hv hx => ?_⟩
  have := h.2 i v ((x.1 : Int), (x.2 : Int)) hv (by rw [List.getElem?_map, hx]; rfl)
  exact this
theorem steps_cond : ∀ (l : List Int), l.length % 2 = 0 → ((((natPairs l).all fun x => decide (x.1 ≤ 7 ∧ 1 ≤ x.2 ∧ x.2 ≤ Vbndam.maxRules)) = true ∧ (l.all fun n => decide (0 ≤ n)) = true) ↔ ∀ p ∈ pairsI l, (0 ≤ p.1 ∧ p.1 ≤ 7) ∧ (1 ≤ p.2 ∧ p.2 ≤ 20))
  | [], _ => by simp [natPairs, Vbndam.toNats, Vbndam.toPairs, pairsI]
  | [_], h => by simp at h
  | a :: b :: l, h => by
    have ih := steps_cond l (by
      have : (a :: b :: l).length = l.length + 2 := rfl
      omega)
    rw [natPairs_cons, List.all_cons, List.all_cons, List.all_cons, Bool.and_eq_true, Bool.and_eq_true, Bool.and_eq_true, decide_eq_true_eq, decide_eq_true_eq, decide_eq_true_eq]
    have h20 : Vbndam.maxRules = 20 := rfl
    have e1 : ((a.toNat, b.toNat) : Nat × Nat).1 = a.toNat := rfl
    have e2 : ((a.toNat, b.toNat) : Nat × Nat).2 = b.toNat := rfl
    constructor
    · intro q p hp
      have hp : p ∈ (a, b) :: pairsI l := hp
      rcases List.mem_cons.mp hp with rfl | hp
      · obtain ⟨⟨q1, _⟩, q2, q3, _⟩ := q
        rw [e1, e2, h20] at q1
        show (0 ≤ a ∧ a ≤ 7) ∧ (1 ≤ b ∧ b ≤ 20)
        omega
      · exact ih.mp ⟨q.1.2, q.2.2.2⟩ p hp
    · intro q
      have q0 : (0 ≤ a ∧ a ≤ 7) ∧ (1 ≤ b ∧ b ≤ 20) := q (a, b) (List.mem_cons_self ..)
      have q1 := ih.mpr fun p hp => q p (List.mem_cons_of_mem _ hp)
      refine ⟨⟨?_, q1.1⟩, by omega, by omega, q1.2⟩
      rw [e1, e2, h20]
      omega
theorem mem_pairsI : ∀ (l : List Int) (p : Int × Int), p ∈ pairsI l → p.1 ∈ l ∧ p.2 ∈ l
  | [], p, h => by cases h
  | [_], p, h => by cases h
  | a :: b :: l, p, h => by
    have h : p ∈ (a, b) :: pairsI l := h
    rcases List.mem_cons.mp h with rfl | h
    · exact ⟨List.mem_cons_self .., List.mem_cons_of_mem _ (List.mem_cons_self ..)⟩
    · have := mem_pairsI l p h
      exact ⟨List.mem_cons_of_mem _ (List.mem_cons_of_mem _ this.1), List.mem_cons_of_mem _ (List.mem_cons_of_mem _ this.2)⟩
theorem g_pairI {K : PySem.W.Frag} {H : Hp} {v : V} {p : Int × Int} {i j : Nat} {σ0 : L2.St} {R : L2.St → Hp → Prop} (h : PairIAt H v p) (q : R ((σ0.set i (some (.int p.1))).set j (some (.int p.2))) H) : gTup K 2 (gCons (gName i) (gCons (gName j) gNil)) v σ0 H R := by
  obtain ⟨t, rfl, h1⟩ := h
  exact g_pair (st_of h1) q
/-! ### operations with a row -/
section
variable (K : PySem.W.Frag)
def spOpRow (f : List Int → Vbndam.Call) : Sp := fun vs H Q E => ∃ (F : Addr → Prop) (d a : Addr) (st : Vbndam.State) (l : List Int), vs = [.ref d, .ref a] ∧ H a = some (.lst (l.map V.int)) ∧ DeskAt K F H d st ∧ Does K F H d st Q E (Vbndam.step st (f l))
def spOpSteps : Sp := fun vs H Q E => ∃ (F : Addr → Prop) (d a : Addr) (st : Vbndam.State) (n : Int) (l : List Int), vs = [.ref d, .int n, .ref a] ∧ H a = some (.lst (l.map V.int)) ∧ DeskAt K F H d st ∧ Does K F H d st Q E (Vbndam.step st (.checkSteps n l))
end
section
variable {P : Program} {w : World} {K : PySem.W.Frag} {mg : Str → Option Value} {base : Heap}
theorem ok_summary (c : Top K mg) : FOk P w K mg base (L2.CX P w) 9 ("Desk", some "summary") p_Desk_summary (spOp0 K Vbndam.Call.summary) := by
  refine FOk.mk c.f_Desk_summary sc_Desk_summary (fun _ _ _ _ _ _ us hl => match us, hl with | [_], _ => rfl) (fun vs H Q E h => ?_) (fun cdv A outer s H vs Q E hr h => ?_)
  · obtain ⟨F, d, st, rfl, _⟩ := h
    rfl
  · obtain ⟨F, d, st, rfl, hd, hD0⟩ := h
    have nd := sc_Desk_summary.nd
    refine ⟨_, (pss_cons (ps_expr (pe_mf0 (ok_need_room c) (hr.mono (by decide)) c.cls_Desk c.me_Desk_need_room (passes_call (takes_of rfl rfl rfl rfl) (fun _ _ _ _ h => h)) (pv 0)))
      (pss_one (ps_ret (pe_lst (pa_cons (pe_callB call_len_seq (by rfl) c.free_len PySem.boot_len (pa_cons (pe_fld (pe_fld (pv 0) rfl) rfl) pa_nil)) (pa_cons (pe_callB call_len_seq (by rfl) c.free_len PySem.boot_len (pa_cons (pe_fld (pe_fld (pv 0) rfl) rfl) pa_nil)) (pa_cons (pe_callB (cr_sum rfl) (by rfl) c.free_sum (by decide +kernel) (pa_cons (pe_lc (own := [("player", 1)]) (g := (gName 1)) rfl nd (pi_list (pe_fld (pe_fld (pv 0) rfl) rfl)) (blkOk_by (N := n_Desk_summary) (sc := defScope s_Desk_summary) (by decide +kernel)) (fun _ _ _ _ _ => by exact ((pg_name (i := 1) nd rfl (.inl rfl)))) (fun _ _ _ _ _ => pts_nil) (fun _ _ _ _ _ => by exact (pe_fldK (K := K) (pv 1)))) pa_nil)) pa_nil))))))), ?_⟩
    refine q_takeR rfl hd hD0 fun z r dx H1 hst wf e1 hdk hroom hD => ?_
    obtain ⟨ap, ps, hap, hps, hea⟩ := ev_pls (σ := [some (.ref d), none]) c rfl hdk hroom
    obtain ⟨ar, rs, har, hrs, her⟩ := ev_rls (σ := [some (.ref d), none]) c rfl hdk hroom
    have n8 := wf.n8
    refine s_retL (xs := vN [z.players.length, z.rules.length, Vbndam.coalitionWeight z (Vbndam.everyone z)]) (el_lst (ea_cons (ev_is (ev_len hap (sq_of hps)) (by rw [hea.1])) (ea_cons (ev_is (ev_len har (sq_of hrs)) (by rw [her.1])) (ea_cons ?_ ea_nil))) (by show 3 ≤ 100000; decide)) fun p H2 hp e2 hp2 => ?_
    · rw [total_is]
      refine ev_sumN ?_
      have eq : vN (z.players.map fun x => x.weight) = (z.players.filter fun _ => true).map fun x => vI x.weight := by
        rw [List.filter_eq_self.mpr (fun _ _ => rfl)]
        unfold vN
        rw [List.map_map]
        rfl
      rw [eq]
      haveI : Inhabited Vbndam.Player := ⟨⟨[], 0⟩⟩
      exact el_lcO (R := PlayerAt K F) (fun _ => true) (fun x => vI x.weight) hap (sq_of hps) hea (by omega) (fun _ => rfl) (fun _ _ _ _ _ _ => et_yes) fun y x hx hR H2 e2 _ => by
        obtain ⟨pa, pdx, pn, rfl, q1, q2, _⟩ := hR
        exact ev_fld (ev_var rfl) (e2 _ _ q1) c.cls_Player c.no_Player_weight (plF_weight _ _)
    · rw [← ints_nat] at hp2
      exact hD.ro hd (e1.trans e2) (fresh_back e1 hp) hp2
theorem ok_check_steps (c : Top K mg) : FOk P w K mg base (L2.CX P w) 9 ("Desk", some "check_steps") p_Desk_check_steps (spOpSteps K) := by
  refine FOk.mk c.f_Desk_check_steps sc_Desk_check_steps (fun _ _ _ _ _ _ us hl => match us, hl with | [_, _, _], _ => rfl) (fun vs H Q E h => ?_) (fun cdv A outer s H vs Q E hr h => ?_)
  · obtain ⟨F, d, a, st, n, l, rfl, _⟩ := h
    rfl
  · obtain ⟨F, d, a, st, n, l, rfl, hl, hd, hD0⟩ := h
    have nd := sc_Desk_check_steps.nd
    refine ⟨_, (pss_cons (ps_expr (pe_cf (ok_need_pairs c) (hr.mono (by decide)) c.glo_need_pairs (passes_call (takes_of rfl rfl rfl rfl) (fun _ _ _ _ h => h)) (pa_cons (pv 2) pa_nil)))
      (pss_cons (ps_set (i := 3) nd rfl (.inl rfl) (pe_cf (ok_pairs_of c) (hr.mono (by decide)) c.glo_pairs_of pass0 (pa_cons (pv 2) pa_nil)))
      (pss_cons (ps_for (passes_of rfl) rfl (pi_list (pv 3)) (pg_tup rfl (pgs_cons (pg_name (i := 4) nd rfl (.inl rfl)) (pgs_cons (pg_name (i := 5) nd rfl (.inl rfl)) pgs_nil))) (pss_cons (ps_expr (pe_cf (ok_need_between c) (hr.mono (by decide)) c.glo_need_between (passes_call (takes_of rfl rfl rfl rfl) (fun _ _ _ _ h => h)) (pa_cons (pv 4) (pa_cons pe_int (pa_cons (pe_op op_sub (pe_gi c.int_MOST_PLAYERS) pe_int) pa_nil)))))
      (pss_one (ps_expr (pe_cf (ok_need_between c) (hr.mono (by decide)) c.glo_need_between (passes_call (takes_of rfl rfl rfl rfl) (fun _ _ _ _ h => h)) (pa_cons (pv 5) (pa_cons pe_int (pa_cons (pe_gi c.int_MOST_RULES) pa_nil))))))))
      (pss_cons (ps_expr (pe_mf (ok_take_coalition c) (hr.mono (by decide)) c.cls_Desk c.me_Desk_take_coalition (passes_call (takes_of rfl rfl rfl rfl) (fun _ _ _ _ h => h)) (pv 0) (pa_cons (pv 1) pa_nil)))
      (pss_one (ps_ret (pe_lst (pa_cons (pe_callTy call_int1 (by rfl) c.free_int (by decide +kernel) (pa_cons (pe_mf (ok_are_valid c) (hr.mono (by decide)) c.cls_Room c.me_Room_are_valid pass0 (pe_fld (pv 0) rfl) (pa_cons (pv 1) (pa_cons (pv 3) pa_nil))) pa_nil)) pa_nil)))))))), ?_⟩
    have hD1 : Does K F H d st Q E (if (decide (l.length ≤ 40) && (decide (l.length % 2 = 0) && (natPairs l).all fun x => decide (x.1 ≤ 7 ∧ 1 ≤ x.2 ∧ x.2 ≤ Vbndam.maxRules)) && l.all fun n => decide (0 ≤ n)) = false then Vbndam.fail st 1 else Vbndam.withCoalition st n fun z u => Vbndam.succeed st [Vbndam.flag (Vbndam.areStepsValid z u ((natPairs l).map dn))]) := hD0
    have bad : ¬ (l.length ≤ 40 ∧ l.length % 2 = 0 ∧ ∀ p ∈ pairsI l, (0 ≤ p.1 ∧ p.1 ≤ 7) ∧ (1 ≤ p.2 ∧ p.2 ≤ 20)) → Fails K E H (-1) := fun hb => by
      rw [if_pos ?_] at hD1
      · exact hD1.fail (by decide)
      · refine Bool.eq_false_iff.mpr fun h1 => hb ?_
        rw [Bool.and_eq_true, Bool.and_eq_true, Bool.and_eq_true, decide_eq_true_eq, decide_eq_true_eq] at h1
        exact ⟨h1.1.1, h1.1.2.1, (steps_cond l h1.1.2.1).mp ⟨h1.1.2.2, h1.2⟩⟩
    refine q_pairs (ea_cons (ev_var rfl) ea_nil) hl (fun hb H1 e1 => ?_) (fun hb => bad fun h => hb ⟨h.1, h.2.1⟩)
    refine q_asgM (em_pairsOf (ea_cons (ev_var rfl) ea_nil) (e1 _ _ hl) hb.1 hb.2) fun f H2 hf e2 hP => ?_
    obtain ⟨xs, hxs, hE⟩ := hP
    refine q_forA (ev_var rfl) (sq_of hxs) hE.1 (fun pre σ H4 => (∃ x y, σ = [some (.ref d), some (.int n), some (.ref a), some (.ref f), x, y]) ∧ Ex H2 H4 ∧ ∀ p ∈ pre, (0 ≤ p.1 ∧ p.1 ≤ 7) ∧ (1 ≤ p.2 ∧ p.2 ≤ 20))
      (fun H4 e4 => ⟨⟨none, none, rfl⟩, e4, fun _ h => by cases h⟩) (fun i σ H4 _ q => sq_of (q.2.1 _ _ hxs)) (fun i v u σ H4 hv hu q => ?_) (fun σ H4 q => ?_)
    · obtain ⟨⟨x1, y1, rfl⟩, e4, hall⟩ := q
      refine g_pairI ((hE.2 i v u hv hu).ex e4) ?_
      have um := List.mem_of_getElem? hu
      refine q_btw (K := K) (ea_cons (ev_var rfl) (ea_cons ev_c (ea_cons (ev_op ev_c ev_c rv_I0) ea_nil))) (fun h1 H5 e5 => ?_) (fun h1 => (bad fun h => h1 (h.2.2 u um).1).mono ((e1.trans e2).trans e4))
      refine s_btw (K := K) (ea_cons (ev_var rfl) (ea_cons ev_c (ea_cons ev_c ea_nil))) (fun h2 H6 e6 => ?_) (fun h1 => (bad fun h => h1 (h.2.2 u um).2).mono (((e1.trans e2).trans e4).trans e5))
      refine ⟨⟨_, _, rfl⟩, (e4.trans e5).trans e6, fun p hp => ?_⟩
      rcases List.mem_append.mp hp with hp | hp
      · exact hall p hp
      · rw [List.mem_singleton.mp hp]
        exact ⟨h1, h2⟩
    · obtain ⟨⟨x1, y1, rfl⟩, e4, hall⟩ := q
      have ee := (e1.trans e2).trans e4
      have sc := (steps_cond l hb.2).mpr hall
      rw [if_neg (by rw [decide_eq_true hb.1, decide_eq_true hb.2, sc.1, sc.2]; decide)] at hD1
      refine q_takeC rfl rfl (hd.ex ee) (hD1.ex ee) fun z m r dx H5 hst hn hm wf e5 hdk hroom hD => ?_
      subst hn
      have hPn : PairsAt H5 f (natPairs l) := ⟨xs, e5 _ _ (e4 _ _ hxs), (pairs_nat hE fun p hp => ⟨(hall p hp).1.1, by have := (hall p hp).2.1; omega⟩).imp fun _ _ q => q.ex (e4.trans e5)⟩
      have hnp : ∀ x ∈ natPairs l, x.1 ≤ 7 ∧ 1 ≤ x.2 := fun x hx => by
        have := of_decide_eq_true (List.all_eq_true.mp sc.1 x hx)
        exact ⟨this.1, this.2.1⟩
      refine s_retL (el_lst (ea_cons (ev_int1 (ev_rm c rfl hdk hroom (by decide +kernel) (by decide +kernel) (ea_cons (ev_var rfl) (ea_cons (ev_var rfl) ea_nil)) (fun H6 e6 Q' q' _ => ⟨F, r, f, z, m, natPairs l, rfl, hroom.ex e6, wf, hPn.ex e6, hnp, q'⟩))) ea_nil) (by show 1 ≤ 100000; decide)) fun p H6 hp e6 hp6 => ?_
      exact hD.ro (hd.ex ee) (e5.trans e6) (fresh_back e5 hp) hp6
end
end Gs

set_option Elab.async false
set_option linter.all false
set_option maxRecDepth 100000
set_option maxHeartbeats 4000000
/-! Walks: the desk: cheapest, packings. -/
namespace Gs
open PySem PySem.Spec PyProof.Rows L2 Evl
section
variable {K : PySem.W.Frag} {t : TT} {te : TE} {ta : TA} {σ : L2.St} {H : Hp} {vs : List Nat} {a : Addr} {j1 j2 : Nat}
theorem em_lcE {b : List Bool} (f : Nat → Bool) (v : Nat → Nat × Nat) (h : EvA ta σ H [.ref a]) (hx : H a = some (.lst (vB b))) (hz : b.length ≤ 40000) (hw : ∀ x y, wipe (((wipe σ vs).set j1 (some x)).set j2 (some y)) vs = wipe σ vs)
    (ht : ∀ i H1, i < b.length → Ex H H1 → EvT t (((wipe σ vs).set j1 (some (vI i))).set j2 (some (.bl (tb b i)))) H1 (f i)) (he : ∀ i H1, i < b.length → Ex H H1 → f i = true → EvU te (((wipe σ vs).set j1 (some (vI i))).set j2 (some (.bl (tb b i)))) H1 [vI (v i).1, vI (v i).2]) :
    EvM (tLc (iEnum K ta) (gTup K 2 (gCons (gName j1) (gCons (gName j2) gNil))) t te vs) σ H (fun p H' => PairsAt H' p (((List.range b.length).filter f).map v)) := fun H0 e Q q => h H0 e _ fun H1 e1 => ⟨a, vB b, rfl, sq_of (e1 _ _ (e _ _ hx)), fun D hD => by
  refine lc_it (J := Ite K a) (n := (vB b).length) (G := fun H => SqL K H a (vB b)) walk_enum (fun i H' => H1 D = none ∧ Ex H1 H' ∧ PairsAt H' D (((List.range i).filter f).map v)) ⟨hD, Ex.new hD, [], upd_same, EachAt.nil⟩ (fun i H' _ p => sq_of (p.2.1 _ _ (e1 _ _ (e _ _ hx)))) (fun i x Ha Hb hi p y => ?_) (fun H' p => ?_)
  · obtain ⟨_, e2, hP⟩ := p
    obtain ⟨T, x1, y1, rfl, hT, rfl, h1, h2⟩ := y
    cases h1
    rw [vB_len] at hi
    obtain ⟨bb, hb, rfl⟩ := vB_of h2
    have ebb := tb_at hb
    subst ebb
    refine g_pair (st_of upd_same) ⟨hw _ _, ?_⟩
    have e3 : Ex H1 (upd Ha T (.tup [vI i, .bl (tb b i)])) := e2.trans (Ex.new hT)
    have hP3 := hP.ex (H' := upd Ha T (.tup [vI i, .bl (tb b i)])) (Ex.new hT)
    refine ht i _ hi ((e.trans e1).trans e3) _ (Ex.refl _) _ fun H3 e4 => ?_
    cases hf : f i with
    | false =>
      rw [if_neg Bool.false_ne_true]
      refine ⟨hD, e3.trans e4, ?_⟩
      rw [List.range_succ, List.filter_append, List.filter_cons, if_neg (by rw [hf]; exact Bool.false_ne_true)]
      show PairsAt H3 D (((_ ++ []) : List Nat).map v)
      rw [List.append_nil]
      exact hP3.ex e4
    | true =>
      rw [if_pos rfl]
      refine he i _ hi ((e.trans e1).trans (e3.trans e4)) hf _ (Ex.refl _) _ fun p H4 hp e5 h5 => ?_
      obtain ⟨xs, hxs, hE⟩ := (hP3.ex e4).ex e5
      refine ⟨xs, hxs, ?_, hD, Ex.mut ((e3.trans e4).trans e5) hD, ?_⟩
      · rw [hE.1, List.length_map]
        refine Nat.lt_of_le_of_lt (List.length_filter_le _ _) ?_
        rw [List.length_range]
        exact sz_lt (by omega)
      · rw [List.range_succ, List.filter_append, List.filter_cons, if_pos hf, List.map_append]
        exact pairs_app hxs hE h5
  · rw [vB_len] at p
    exact q D H' (fresh_back e1 p.1) (e1.trans p.2.1) p.2.2⟩
theorem el_listMin {tl : TE} {ps : List (Nat × Nat)} {p : Nat × Nat} (h : Ev tl σ H (.ref a)) (hP : PairsAt H a (p :: ps)) :
    EvL (tCB (fun xs H Q => ∃ p ys, xs = [.ref p] ∧ (SqL K H p ys ∨ SqT K H p ys) ∧ ∀ l, H l = none → Q (.ref l) (upd H l (.lst ys))) (tCons (tCB (rMinP K) (tCons tl tNil)) tNil)) σ H (vN [(ps.foldl (fun b y => if lexLt y b = true then y else b) p).1, (ps.foldl (fun b y => if lexLt y b = true then y else b) p).2]) := fun H1 e Q q =>
  h H1 e _ fun H2 e2 => ⟨a, p, ps, rfl, hP.ex (e.trans e2), fun t ht => ⟨t, _, rfl, .inr (st_of ht), fun l hl => q l _ (fresh_back e2 hl) (e2.trans (Ex.new hl)) upd_same⟩⟩
end
theorem suffs_tab (z : Vbndam.Room) : (List.range (suffTable z).length).filter (tb (suffTable z)) = suffs z := by
  unfold suffs Vbndam.allCoalitions Vbndam.playerCount
  rw [suff_len]
  refine List.filter_congr fun c hc => ?_
  exact tb_suff (List.mem_range.mp hc)
theorem all_map_bl {α : Type} (l : List α) (f : α → Bool) : (l.filter fun _ => true).map (fun i => V.bl (f i)) = vB (l.map f) := by
  rw [List.filter_eq_self.mpr (fun _ _ => rfl)]
  unfold vB
  rw [List.map_map]
  rfl
theorem all_map_vI {α : Type} (l : List α) (g : α → Bool) (f : α → Nat) : (l.filter g).map (fun i => vI (f i)) = vN ((l.filter g).map f) := by
  unfold vN
  rw [List.map_map]
  rfl
theorem anyAll (z : Vbndam.Room) (l : List (Nat × Nat)) : l.any (fun x => decide (Vbndam.everyone z < x.1)) = !(l.all fun x => decide (x.1 < 2 ^ z.players.length)) := by
  induction l with
  | nil => rfl
  | cons x l ih =>
    rw [List.any_cons, List.all_cons, ih, Bool.not_and]
    congr 1
    have hp := many_pos z.players.length
    have he : Vbndam.everyone z = (2 ^ z.players.length - 1 : Nat) := rfl
    rw [he]
    by_cases h : x.1 < 2 ^ z.players.length
    · rw [decide_eq_true h, decide_eq_false (show ¬ ((2 ^ z.players.length - 1 : Nat) < x.1) by omega)]
      rfl
    · rw [decide_eq_false h, decide_eq_true (show ((2 ^ z.players.length - 1 : Nat) < x.1) by omega)]
      rfl
theorem all_id {α : Type} (l : List α) (f : α → Bool) : (l.map f).all id = l.all f := by
  rw [List.all_map]
  rfl
section
variable {P : Program} {w : World} {K : PySem.W.Frag} {mg : Str → Option Value} {base : Heap}
theorem ok_cheapest (c : Top K mg) : FOk P w K mg base (L2.CX P w) 9 ("Desk", some "cheapest") p_Desk_cheapest (spOp0 K Vbndam.Call.cheapestSufficient) := by
  refine FOk.mk c.f_Desk_cheapest sc_Desk_cheapest (fun _ _ _ _ _ _ us hl => match us, hl with | [_], _ => rfl) (fun vs H Q E h => ?_) (fun cdv A outer s H vs Q E hr h => ?_)
  · obtain ⟨F, d, st, rfl, _⟩ := h
    rfl
  · obtain ⟨F, d, st, rfl, hd, hD0⟩ := h
    have nd := sc_Desk_cheapest.nd
    refine ⟨_, (pss_cons (ps_expr (pe_mf0 (ok_need_room c) (hr.mono (by decide)) c.cls_Desk c.me_Desk_need_room (passes_call (takes_of rfl rfl rfl rfl) (fun _ _ _ _ h => h)) (pv 0)))
      (pss_cons (ps_set (i := 1) nd rfl (.inl rfl) (pe_mf0 (ok_table c) (hr.mono (by decide)) c.cls_Room c.me_Room_sufficient_table pass0 (pe_fld (pv 0) rfl)))
      (pss_cons (ps_setLc (i := 2) (own := [("one", 3), ("has_it", 4)]) (g := gTup K 2 (gCons (gName 3) (gCons (gName 4) gNil))) rfl nd rfl rfl (sw_true rfl rfl rfl (by decide +kernel)) (pi_enum (by rfl) c.free_enumerate (pa_cons (pv 1) pa_nil))
          (blkOk_by (N := n_Desk_cheapest) (sc := defScope s_Desk_cheapest) (by decide +kernel)) (fun _ _ _ _ _ => by exact (pg_tup rfl (pgs_cons (pg_name (i := 3) nd rfl (.inl rfl)) (pgs_cons (pg_name (i := 4) nd rfl (.inl rfl)) pgs_nil)))) (fun _ _ _ _ _ => by exact (pts_one (pt_val (pv 4)))) (fun _ _ _ _ _ => by exact (pe_tup (pa_cons (pe_mf (ok_weight_of c) (hr.mono (by decide)) c.cls_Room c.me_Room_weight_of pass0 (pe_fldK (K := K) (pv 0)) (pa_cons (pv 3) pa_nil)) (pa_cons (pv 3) pa_nil)))))
      (pss_one (ps_ret (pe_callTy call_list_of (by rfl) c.free_list (by decide +kernel) (pa_cons (pe_callB (cr_minP rfl (by exact (Nat.lt_of_le_of_lt (Nat.add_le_add_left (by decide : 10 ≤ 64) _) hr.units))) (by rfl) c.free_min (by decide +kernel) (pa_cons (pv 2) pa_nil)) pa_nil))))))), ?_⟩
    refine q_takeR rfl hd hD0 fun z r dx H1 hst wf e1 hdk hroom hD => ?_
    have n8 := wf.n8
    have h256 := suff256 wf
    refine q_asgL (el_rm c rfl hdk hroom (by decide +kernel) (by decide +kernel) ea_nil (sl_table hroom wf)) fun f H2 hf e2 hf2 => ?_
    refine q_asgM (em_lcE (b := suffTable z) (tb (suffTable z)) (fun s => (Vbndam.coalitionWeight z s, s)) (ea_cons (ev_var rfl) ea_nil) hf2 (by omega) (fun _ _ => rfl) (fun i H3 hi e3 => et_B (ev_var rfl)) (fun i H3 hi e3 _ => eu_tup (ea_cons (ev_rm c rfl (e3 _ _ (e2 _ _ hdk)) (hroom.ex (e2.trans e3)) (by decide +kernel) (by decide +kernel) (ea_cons (ev_var rfl) ea_nil) (fun H4 e4 Q' q' _ => ⟨F, r, z, i, rfl, (hroom.ex (e2.trans e3)).ex e4, wf, q'⟩)) (ea_cons (ev_var rfl) ea_nil)) (by show 2 ≤ 100000; decide))) fun g H3 hg e3 hP => ?_
    rw [suffs_tab] at hP
    have hs := suffs_sorted z
    cases hsu : suffs z with
    | nil => exact absurd hsu (suffs_ne z)
    | cons s0 rest =>
      rw [hsu] at hP hs
      refine s_retL (el_listMin (ev_var rfl) hP) fun p H4 hp e4 hp4 => ?_
      rw [least_lex (Vbndam.coalitionWeight z) rest s0 hs, ← cheapest_is hsu] at hp4
      refine hD.ro hd ((e1.trans e2).trans (e3.trans e4)) (fresh_back ((e1.trans e2).trans e3) hp) ?_
      rw [ints_nat]
      exact hp4
theorem ok_verify_packing (c : Top K mg) : FOk P w K mg base (L2.CX P w) 9 ("Desk", some "verify_packing") p_Desk_verify_packing (spOpRow K Vbndam.Call.verifyPacking) := by
  refine FOk.mk c.f_Desk_verify_packing sc_Desk_verify_packing (fun _ _ _ _ _ _ us hl => match us, hl with | [_, _], _ => rfl) (fun vs H Q E h => ?_) (fun cdv A outer s H vs Q E hr h => ?_)
  · obtain ⟨F, d, a, st, l, rfl, _⟩ := h
    rfl
  · obtain ⟨F, d, a, st, l, rfl, hl, hd, hD0⟩ := h
    have nd := sc_Desk_verify_packing.nd
    refine ⟨_, (pss_cons (ps_expr (pe_cf (ok_need_pairs c) (hr.mono (by decide)) c.glo_need_pairs (passes_call (takes_of rfl rfl rfl rfl) (fun _ _ _ _ h => h)) (pa_cons (pv 1) pa_nil)))
      (pss_cons (ps_for (passes_of rfl) rfl (pi_list (pv 1)) (pg_name (i := 2) nd rfl (.inl rfl)) (pss_one (ps_expr (pe_cf (ok_need_between c) (hr.mono (by decide)) c.glo_need_between (passes_call (takes_of rfl rfl rfl rfl) (fun _ _ _ _ h => h)) (pa_cons (pv 2) (pa_cons pe_int (pa_cons (pe_gi c.int_GREATEST_IN_PACKING) pa_nil)))))))
      (pss_cons (ps_expr (pe_mf0 (ok_need_room c) (hr.mono (by decide)) c.cls_Desk c.me_Desk_need_room (passes_call (takes_of rfl rfl rfl rfl) (fun _ _ _ _ h => h)) (pv 0)))
      (pss_cons (ps_set (i := 3) nd rfl (.inl rfl) (pe_cf (ok_pairs_of c) (hr.mono (by decide)) c.glo_pairs_of pass0 (pa_cons (pv 1) pa_nil)))
      (pss_cons (ps_expr (pe_cf (ok_need c) (hr.mono (by decide)) c.glo_need (passes_call (takes_of rfl rfl rfl rfl) (fun _ _ _ _ h => h)) (pa_cons (pe_callB (cr_all rfl) (by rfl) c.free_all (by decide +kernel) (pa_cons (pe_lc (own := [("coalition", 6), ("number", 2)]) (g := (gTup K 2 (gCons (gName 6) (gCons (gName 2) gNil)))) rfl nd (pi_list (pv 3)) (blkOk_by (N := n_Desk_verify_packing) (sc := defScope s_Desk_verify_packing) (by decide +kernel)) (fun _ _ _ _ _ => by exact ((pg_tup rfl (pgs_cons (pg_name (i := 6) nd rfl (.inl rfl)) (pgs_cons (pg_name (i := 2) nd rfl (.inl rfl)) pgs_nil))))) (fun _ _ _ _ _ => pts_nil) (fun _ _ _ _ _ => by exact ((pe_cmpR op_lt (pv 6) (pe_mf0 (ok_many c) (hr.mono (by decide)) c.cls_Room c.me_Room_many pass0 (pe_fldK (K := K) (pv 0))) (nomark _))))) pa_nil)) (pa_cons (pe_gi c.int_NOT_THERE) pa_nil))))
      (pss_cons (ps_if (pt_not (pt_val (pe_callB (cr_all rfl) (by rfl) c.free_all (by decide +kernel) (pa_cons (pe_lc (own := [("coalition", 6), ("number", 2)]) (g := (gTup K 2 (gCons (gName 6) (gCons (gName 2) gNil)))) rfl nd (pi_list (pv 3)) (blkOk_by (N := n_Desk_verify_packing) (sc := defScope s_Desk_verify_packing) (by decide +kernel)) (fun _ _ _ _ _ => by exact ((pg_tup rfl (pgs_cons (pg_name (i := 6) nd rfl (.inl rfl)) (pgs_cons (pg_name (i := 2) nd rfl (.inl rfl)) pgs_nil))))) (fun _ _ _ _ _ => pts_nil) (fun _ _ _ _ _ => by exact ((pe_mf (ok_is_blocking c) (hr.mono (by decide)) c.cls_Room c.me_Room_is_blocking pass0 (pe_fldK (K := K) (pv 0)) (pa_cons (pv 6) pa_nil))))) pa_nil)))) (pss_one (ps_ret (pe_lst (pa_cons pe_int pa_nil)))) pss_nil)
      (pss_cons (ps_for (passes_of rfl) rfl (pi_enum (by rfl) c.free_enumerate (pa_cons (pe_fld (pe_fld (pv 0) rfl) rfl) pa_nil)) (pg_tup rfl (pgs_cons (pg_name (i := 4) nd rfl (.inr rfl)) (pgs_cons (pg_name (i := 5) nd rfl (.inl rfl)) pgs_nil)))
        (pss_one (ps_if (pt_cmpR op_gt (pe_callB (cr_sum rfl) (by rfl) c.free_sum (by decide +kernel) (pa_cons (pe_lc (own := [("coalition", 6), ("number", 2)]) (g := (gTup K 2 (gCons (gName 6) (gCons (gName 2) gNil)))) rfl nd (pi_list (pv 3)) (blkOk_by (N := n_Desk_verify_packing) (sc := defScope s_Desk_verify_packing) (by decide +kernel)) (fun _ _ _ _ _ => by exact ((pg_tup rfl (pgs_cons (pg_name (i := 6) nd rfl (.inl rfl)) (pgs_cons (pg_name (i := 2) nd rfl (.inl rfl)) pgs_nil))))) (fun _ _ _ _ _ => by exact (pts_one (pt_val (pe_cf (ok_is_member c) (hr.mono (by decide)) c.glo_is_member pass0 (pa_cons (pv 6) (pa_cons (pv 4) pa_nil)))))) (fun _ _ _ _ _ => by exact ((pv 2)))) pa_nil)) (pe_fld (pv 5) rfl) (nomark _)) (pss_one (ps_ret (pe_lst (pa_cons pe_int pa_nil)))) pss_nil)))
      (pss_one (ps_ret (pe_lst (pa_cons pe_int (pa_cons (pe_callB (cr_sum rfl) (by rfl) c.free_sum (by decide +kernel) (pa_cons (pe_lc (own := [("coalition", 6), ("number", 2)]) (g := (gTup K 2 (gCons (gName 6) (gCons (gName 2) gNil)))) rfl nd (pi_list (pv 3)) (blkOk_by (N := n_Desk_verify_packing) (sc := defScope s_Desk_verify_packing) (by decide +kernel)) (fun _ _ _ _ _ => by exact ((pg_tup rfl (pgs_cons (pg_name (i := 6) nd rfl (.inl rfl)) (pgs_cons (pg_name (i := 2) nd rfl (.inl rfl)) pgs_nil))))) (fun _ _ _ _ _ => pts_nil) (fun _ _ _ _ _ => by exact ((pv 2)))) pa_nil)) pa_nil)))))))))))), ?_⟩
    have hD1 : Does K F H d st Q E (if (decide (l.length ≤ 40) && (decide (l.length % 2 = 0) && l.all fun n => Vbndam.inRange n 0 1000000)) = false then Vbndam.fail st 1 else Vbndam.withRoom st fun z => if (natPairs l).any (fun x => decide (Vbndam.everyone z < x.1)) = true then Vbndam.fail st 4 else Vbndam.succeed st (if Vbndam.isPackingValid z (natPairs l) = true then Vbndam.toInts [1, Vbndam.packingBound (natPairs l)] else [0])) := hD0
    have bad : ¬ (l.length ≤ 40 ∧ l.length % 2 = 0 ∧ ∀ p ∈ l, 0 ≤ p ∧ p ≤ 1000000) → Fails K E H (-1) := fun hb => by
      rw [if_pos ?_] at hD1
      · exact hD1.fail (by decide)
      · refine Bool.eq_false_iff.mpr fun h1 => hb ?_
        rw [Bool.and_eq_true, Bool.and_eq_true, decide_eq_true_eq, decide_eq_true_eq] at h1
        exact ⟨h1.1, h1.2.1, fun p hp => inRange_iff.mp (List.all_eq_true.mp h1.2.2 p hp)⟩
    refine q_pairs (ea_cons (ev_var rfl) ea_nil) hl (fun hb H1 e1 => ?_) (fun hb => bad fun h => hb ⟨h.1, h.2.1⟩)
    refine q_forA (zs := l) (ev_var rfl) (sq_of (e1 _ _ hl)) (List.length_map _) (fun pre σ H4 => (∃ x, σ = [some (.ref d), some (.ref a), x, none, none, none, none]) ∧ Ex H H4 ∧ ∀ p ∈ pre, 0 ≤ p ∧ p ≤ 1000000)
      (fun H4 e4 => ⟨⟨none, rfl⟩, e1.trans e4, fun _ h => by cases h⟩) (fun i σ H4 _ q => sq_of (q.2.1 _ _ hl)) (fun i v u σ H4 hv hu q => ?_) (fun σ H4 q => ?_)
    · obtain ⟨⟨x1, rfl⟩, e4, hall⟩ := q
      have hv0 : v = .int u := by
        rw [List.getElem?_map, hu] at hv
        exact (Option.some.inj hv).symm
      subst hv0
      have um := List.mem_of_getElem? hu
      refine s_btw (K := K) (ea_cons (ev_var rfl) (ea_cons ev_c (ea_cons ev_c ea_nil))) (fun h2 H6 e6 => ?_) (fun h1 => (bad fun h => h1 (h.2.2 u um)).mono e4)
      refine ⟨⟨_, rfl⟩, e4.trans e6, fun p hp => ?_⟩
      rcases List.mem_append.mp hp with hp | hp
      · exact hall p hp
      · rw [List.mem_singleton.mp hp]
        exact h2
    · obtain ⟨⟨x1, rfl⟩, e4, hall⟩ := q
      have hrg : (l.all fun n => Vbndam.inRange n 0 1000000) = true := List.all_eq_true.mpr fun p hp => inRange_iff.mpr (hall p hp)
      rw [if_neg (by rw [decide_eq_true hb.1, decide_eq_true hb.2, hrg]; decide)] at hD1
      have hp0 : ∀ p ∈ pairsI l, 0 ≤ p.1 ∧ 0 ≤ p.2 := fun p hp => ⟨(hall _ (mem_pairsI l p hp).1).1, (hall _ (mem_pairsI l p hp).2).1⟩
      refine q_takeR (f := fun z => if (natPairs l).any (fun x => decide (Vbndam.everyone z < x.1)) = true then Vbndam.fail st 4 else Vbndam.succeed st (if Vbndam.isPackingValid z (natPairs l) = true then Vbndam.toInts [1, Vbndam.packingBound (natPairs l)] else [0])) rfl (hd.ex e4) (hD1.ex e4) fun z r dx H5 hst wf e5 hdk hroom hD => ?_
      have n8 := wf.n8
      refine q_asgM (em_pairsOf (ea_cons (ev_var rfl) ea_nil) (e5 _ _ (e4 _ _ hl)) hb.1 hb.2) fun f H6 hf e6 hP => ?_
      obtain ⟨xs, hxs, hE⟩ := hP
      have hPn : PairsAt H6 f (natPairs l) := ⟨xs, hxs, pairs_nat hE hp0⟩
      have hlen : (natPairs l).length ≤ 40 := by
        have e1 := hPn.choose_spec.2.1
        have e2 := hE.1
        rw [pairsI_len] at e2
        obtain ⟨ys, hys, hEy⟩ := hPn
        rw [hxs] at hys
        cases hys
        have := hEy.1
        omega
      have hdk6 := e6 _ _ hdk
      have hroom6 := hroom.ex e6
      refine q_need (b := (natPairs l).all fun x => decide (x.1 < 2 ^ z.players.length)) (ea_cons (ev_is (ev_allN (l := (natPairs l).map fun x => decide (x.1 < 2 ^ z.players.length)) ?_) (by rw [all_id])) (ea_cons ev_c ea_nil)) (fun hb2 H7 e7 => ?_) (fun hb2 => ?_)
      · rw [← all_map_bl]
        refine el_lcP (ps := natPairs l) (fun _ => true) _ (ev_var rfl) hPn (by omega) (fun _ _ => rfl) (fun _ _ _ _ => et_yes) fun p hp H7 e7 _ => ?_
        refine ev_is (ev_op (ev_var rfl) (ev_rm c rfl (e7 _ _ hdk6) (hroom6.ex e7) (by decide +kernel) (by decide +kernel) ea_nil (sv_many (hroom6.ex e7) n8)) rv_I0) ?_
        exact congrArg V.bl (decide_eq_decide.mpr (by omega))
      · have hlt : ∀ x ∈ natPairs l, x.1 < 2 ^ z.players.length := fun x hx => of_decide_eq_true (List.all_eq_true.mp hb2 x hx)
        rw [anyAll, hb2, if_neg (by decide)] at hD
        have hPn7 := hPn.ex e7
        have hdk7 := e7 _ _ hdk6
        have hroom7 := hroom6.ex e7
        have fin0 : Vbndam.isPackingValid z (natPairs l) = false → ∀ p H', H7 p = none → Ex H7 H' → H' p = some (.lst [.int 0]) → Q (.ref p) H' := fun hv p H' hp e hp' => by
          rw [hv, if_neg Bool.false_ne_true] at hD
          exact hD.ro (hd.ex e4) (((e5.trans e6).trans e7).trans e) (fresh_back ((e5.trans e6).trans e7) hp) hp'
        refine q_when (b := !((natPairs l).all fun x => Vbndam.isBlocking z x.1)) (et_not (et_B (ev_is (ev_allN (l := (natPairs l).map fun x => Vbndam.isBlocking z x.1) ?_) (by rw [all_id])))) (fun hb3 H8 e8 => ?_) (fun hb3 H8 e8 => ?_)
        · rw [← all_map_bl]
          refine el_lcP (ps := natPairs l) (fun _ => true) _ (ev_var rfl) hPn7 (by omega) (fun _ _ => rfl) (fun _ _ _ _ => et_yes) fun p hp H8 e8 _ => ?_
          exact ev_rm c rfl (e8 _ _ hdk7) (hroom7.ex e8) (by decide +kernel) (by decide +kernel) (ea_cons (ev_var rfl) ea_nil) (sv_block (hroom7.ex e8) wf (hlt p hp))
        · refine s_retL (el_lst (ea_cons ev_c ea_nil) (by show 1 ≤ 100000; decide)) fun p H9 hp e9 hp9 => ?_
          refine fin0 ?_ p H9 (fresh_back e8 hp) (e8.trans e9) hp9
          refine Bool.eq_false_iff.mpr fun hv => ?_
          rw [Bool.not_eq_true', Bool.eq_false_iff] at hb3
          exact hb3 (List.all_eq_true.mpr ((packing_is z _).mp hv).1)
        · have hall3 : ∀ x ∈ natPairs l, Vbndam.isBlocking z x.1 = true := by
            rw [Bool.not_eq_false'] at hb3
            exact List.all_eq_true.mp hb3
          obtain ⟨ap, ps, hap, hps, hea⟩ := ev_pls (σ := [some (.ref d), some (.ref a), x1, some (.ref f), none, none, none]) c rfl (e8 _ _ hdk7) (hroom7.ex e8)
          refine q_forE (zs := z.players) (ea_cons hap ea_nil) hps hea.1 (fun pre σ H9 => (∃ x y, σ = [some (.ref d), some (.ref a), x1, some (.ref f), x, y, none]) ∧ Ex H8 H9 ∧ ∀ i x, pre[i]? = some x → packed (natPairs l) i ≤ x.weight)
            (fun H9 e9 => ⟨⟨none, none, rfl⟩, e9, fun i x h => by simp at h⟩) (fun i σ H9 _ q => sq_of (q.2.1 _ _ hps)) (fun i v u σ H9 H10 hv hu q e10 _ => ?_) (fun σ H9 q => ?_)
          · obtain ⟨⟨x2, y2, rfl⟩, e9, hpk⟩ := q
            obtain ⟨pa, pdx, pn, rfl, q1, q2, _⟩ := hea.2 i v u hv hu
            have hi : i < z.players.length := (List.getElem?_eq_some_iff.mp hu).1
            have hilen : (z.players.take i).length = i := by rw [List.length_take]; omega
            refine s_when (b := decide (u.weight < packed (natPairs l) i)) (et_is (et_test (ev_op (ev_sumN (l := ((natPairs l).filter fun x => Vbndam.isMember x.1 i).map fun x => x.2) ?_) (ev_fld (ev_var rfl) (e10 _ _ (e9 _ _ q1)) c.cls_Player c.no_Player_weight (plF_weight _ _)) rv_I0)) (decide_eq_decide.mpr (by unfold packed; omega))) (fun hb4 H11 e11 => ?_) (fun hb4 H11 e11 => ?_)
            · rw [← all_map_vI]
              exact el_lcP (ps := natPairs l) (fun x => Vbndam.isMember x.1 i) (fun x => vI x.2) (ev_var rfl) (hPn7.ex ((e8.trans e9).trans e10)) (by omega) (fun _ _ => rfl) (fun p hp H11 e11 => et_B (ev_cf (ea_cons (ev_var rfl) (ea_cons (ev_var rfl) ea_nil)) (sv_member (show i < 9 by omega)))) fun p hp H11 e11 _ => ev_var rfl
            · have hgt := of_decide_eq_true hb4
              refine s_retL (el_lst (ea_cons ev_c ea_nil) (by show 1 ≤ 100000; decide)) fun p H12 hp e12 hp12 => ?_
              have ee := ((e8.trans e9).trans e10).trans e11
              refine fin0 ?_ p H12 (fresh_back ee hp) (ee.trans e12) hp12
              refine Bool.eq_false_iff.mpr fun hv => ?_
              have := ((packing_is z _).mp hv).2 i u hu
              omega
            · have hle := of_decide_eq_false hb4
              refine ⟨⟨_, _, rfl⟩, (e9.trans e10).trans e11, fun j x hj => ?_⟩
              by_cases hji : j < i
              · rw [List.getElem?_append_left (by rw [hilen]; exact hji)] at hj
                exact hpk j x hj
              · rw [List.getElem?_append_right (by rw [hilen]; omega), hilen] at hj
                have hj0 : j - i = 0 := by
                  have := (List.getElem?_eq_some_iff.mp hj).1
                  rw [List.length_singleton] at this
                  omega
                rw [hj0] at hj
                cases hj
                have : j = i := by omega
                subst this
                omega
          · obtain ⟨⟨x2, y2, rfl⟩, e9, hpk⟩ := q
            have hvalid := (packing_is z (natPairs l)).mpr ⟨hall3, hpk⟩
            rw [hvalid, if_pos rfl] at hD
            have ee := ((e5.trans e6).trans e7).trans (e8.trans e9)
            refine s_retL (xs := vN [1, Vbndam.packingBound (natPairs l)]) (el_lst (ea_cons ev_c (ea_cons (ev_is (w := vI (Vbndam.packingBound (natPairs l))) (ev_sumN (l := (natPairs l).map fun x => x.2) ?_) (by rw [bound_is])) ea_nil)) (by show 2 ≤ 100000; decide)) fun p H10 hp e10 hp10 => ?_
            · have := all_map_vI (natPairs l) (fun _ => true) (fun x => x.2)
              rw [List.filter_eq_self.mpr (fun _ _ => rfl)] at this
              rw [← this]
              have q := el_lcP (K := K) (t := tYes) (te := tVar 2) (tl := tVar 3) (vs := [6, 2]) (j1 := 6) (j2 := 2) (σ := [some (.ref d), some (.ref a), x1, some (.ref f), x2, y2, none]) (ps := natPairs l) (fun _ => true) (fun x => vI x.2) (ev_var rfl) (hPn7.ex (e8.trans e9)) (by omega) (fun _ _ => rfl) (fun p hp H11 e11 => et_yes) fun p hp H11 e11 _ => ev_var rfl
              rw [List.filter_eq_self.mpr (fun _ _ => rfl)] at q
              exact q
            · rw [← ints_nat] at hp10
              exact hD.ro (hd.ex e4) (ee.trans e10) (fresh_back ee hp) hp10
      · rw [anyAll, hb2, if_pos (by decide)] at hD
        exact (hD.fail (by decide)).mono (e5.trans e6)
end
end Gs

set_option Elab.async false
set_option linter.all false
set_option maxRecDepth 100000
set_option maxHeartbeats 4000000
/-! Walks: the desk: what changes the room. -/
namespace Gs
open PySem PySem.Spec PyProof.Rows L2 Evl
section
variable {K : PySem.W.Frag} {F : Addr → Prop} {H : Hp} {d r ap ar : Addr} {z : Vbndam.Room}
theorem upd_keep {H : Hp} {a b : Addr} {o o' o2 : HO} (h : H b = some o) (ha : H a = some o') (hne : o ≠ o') : upd H a o2 b = some o := by
  rw [upd_ne (fun e => hne (by rw [e, ha] at h; exact (Option.some.inj h).symm))]
  exact h
theorem upd_out {H : Hp} {a b : Addr} {o o2 : HO} (h : H b = some o) (hb : ¬ F b) (ha : F a) : upd H a o2 b = some o := by
  rw [upd_ne (fun e => hb (by rw [e]; exact ha))]
  exact h
theorem PlayerAt.set {v : V} {p : Vbndam.Player} {a : Addr} {o o2 : HO} (h : PlayerAt K F H v p) (ha : H a = some o) (hF : F a) (hv : v ≠ .ref a) : PlayerAt K F (upd H a o2) v p := by
  obtain ⟨b, dx, n, rfl, h1, h2, h3, h4⟩ := h
  exact ⟨b, dx, n, rfl, by rw [upd_ne (fun e => hv (by rw [e]))]; exact h1, upd_out h2 h4 hF, h3, h4⟩
theorem RuleAt.set {v : V} {u : Vbndam.Rule} {a : Addr} {o2 : HO} (h : RuleAt K F H v u) (hF : F a) : RuleAt K F (upd H a o2) v u := by
  obtain ⟨b, dx, n, rfl, h1, h2, h3, h4⟩ := h
  exact ⟨b, dx, n, rfl, upd_out h1 h3 hF, upd_out h2 h4 hF, h3, h4⟩
theorem PlayerAt.ref {v : V} {p : Vbndam.Player} (h : PlayerAt K F H v p) : ∃ a C dx fs, v = .ref a ∧ H a = some (.ins C dx fs) := by
  obtain ⟨b, dx, n, rfl, h1, _⟩ := h
  exact ⟨b, _, dx, _, rfl, h1⟩
theorem EachAt.erase {α : Type} {R : V → α → Prop} {vs : List V} {xs : List α} (h : EachAt R vs xs) (k : Nat) : EachAt R (vs.eraseIdx k) (xs.eraseIdx k) := by
  refine ⟨by rw [List.length_eraseIdx, List.length_eraseIdx, h.1], fun i v x a b => ?_⟩
  rw [List.getElem?_eraseIdx] at a b
  by_cases hi : i < k
  · rw [if_pos hi] at a b
    exact h.2 i v x a b
  · rw [if_neg hi] at a b
    exact h.2 _ v x a b
/-- a rule away -/
theorem RoomAt.pop {dx : Addr} {rs : List V} (h : H r = some (.ins (He.ga K "Room") dx (rmF ap ar))) (hr : F r) (L : ListsAt K F H ap ar z) (hrs : H ar = some (.lst rs)) (k : Nat) : RoomAt K F (upd H ar (.lst (rs.eraseIdx k))) r { z with rules := z.rules.eraseIdx k } := by
  refine ⟨dx, ap, ar, upd_keep h hrs (fun e => by cases e), hr, ?_⟩
  obtain ⟨ps, p1, p2, p3⟩ := L.pl
  obtain ⟨rs', q1, q2⟩ := L.ru
  rw [hrs] at q1
  cases q1
  exact { pl := ⟨ps, by rw [upd_ne L.ne]; exact p1, p2.imp fun v p hp => hp.set hrs L.fr (by
            obtain ⟨a, C, dx, fs, rfl, h2⟩ := hp.ref
            intro e
            cases e
            rw [hrs] at h2
            cases h2), p3⟩
          ru := ⟨_, upd_same, (q2.erase k).imp fun v u hu => hu.set L.fr⟩
          ne := L.ne
          fp := L.fp
          fr := L.fr }
theorem putF_weight (n : Addr) (w w2 : Nat) : putF "weight" (vI w2) (plF n w) = plF n w2 := by
  unfold plF
  simp only [putF]
  rw [if_neg (by decide +kernel), if_pos trivial]
/-- another weight -/
theorem RoomAt.setw {dx : Addr} {ps : List V} {a : Addr} {i w : Nat} (h : H r = some (.ins (He.ga K "Room") dx (rmF ap ar))) (hr : F r) (L : ListsAt K F H ap ar z) (hps : H ap = some (.lst ps)) (hi : ps[i]? = some (.ref a)) {x : Vbndam.Player} (hx : z.players[i]? = some x)
    {pdx n : Addr} (h1 : H a = some (.ins (He.ga K "Player") pdx (plF n x.weight))) (h2 : H n = some (.lst (vN x.name))) (h3 : F a) (h4 : ¬ F n) (hne : a ≠ r) :
    RoomAt K F (upd H a (.ins (He.ga K "Player") pdx (plF n w))) r { z with players := z.players.modify i fun x => { x with weight := w } } := by
  refine ⟨dx, ap, ar, by rw [upd_ne hne.symm]; exact h, hr, ?_⟩
  obtain ⟨ps', p1, p2, p3⟩ := L.pl
  rw [hps] at p1
  cases p1
  obtain ⟨rs, q1, q2⟩ := L.ru
  refine { pl := ⟨ps, upd_keep hps h1 (fun e => by cases e), ⟨by rw [p2.1]; exact (List.length_modify ..).symm, fun j v y hv hy => ?_⟩, p3⟩
           ru := ⟨rs, upd_keep q1 h1 (fun e => by cases e), q2.imp fun v u hu => hu.set h3⟩
           ne := L.ne
           fp := L.fp
           fr := L.fr }
  have hy : (z.players.modify i fun x => { x with weight := w })[j]? = some y := hy
  rw [List.getElem?_modify] at hy
  by_cases hij : i = j
  · subst hij
    rw [hi] at hv
    cases hv
    rw [hx] at hy
    have hy : some { x with weight := w } = some y := by simpa using hy
    cases hy
    exact ⟨a, pdx, n, rfl, upd_same, upd_out h2 h4 h3, h3, h4⟩
  · have hy2 : z.players[j]? = some y := by
      cases hz : z.players[j]? with
      | none =>
        rw [hz] at hy
        cases hy
      | some y' =>
        rw [hz] at hy
        simpa [hij] using hy
    refine (p2.2 j v y hv hy2).set h1 h3 fun e => hij ?_
    rw [e] at hv
    have li := (List.getElem?_eq_some_iff.mp hi).1
    have e2 := (List.getElem?_inj li p3).mp (hi.trans hv.symm)
    exact e2
theorem DeskAt.keep {st st' : Vbndam.State} {H' : Hp} (hd : DeskAt K F H d st) (h : ∃ dx v, H' d = some (.ins (He.ga K "Desk") dx (dkF v)) ∧ RoomV K F H' v st') (hF : ∀ b, H b ≠ none → H' b ≠ none) : DeskAt K F H' d st' := ⟨h, hd.fd, fun b hb => hF b (hd.ft b hb)⟩
theorem q_popAt {tl : TE} {ta : TA} {l : Addr} {xs : List V} {i : Int} {k : Nat} {y : V} {σ : L2.St} {tz : TS} {D : Ends} (ha : Ev tl σ H (.ref l)) (h : EvA ta σ H [.int i]) (hl : H l = some (.lst xs)) (h1 : -(2 ^ 63) ≤ i) (h2 : i < 2 ^ 63) (hk : seqIndex? i xs.length = some k) (hy : xs[k]? = some y) (q : ∀ H1, Ex H H1 → tz D σ (upd H1 l (.lst (xs.eraseIdx k)))) :
    tSeq (tDrop (tBM K "list" rPopAt tl ta)) tz D σ H := ha H (Ex.refl H) _ fun H1 e1 =>
  ⟨Or.inl ⟨rfl, xs, sq_of (e1 l _ hl)⟩, h H1 e1 _ fun H2 e2 => ⟨l, xs, i, k, y, rfl, rfl, e2 l _ (e1 l _ hl), h1, h2, hk, hy, q H2 (e1.trans e2)⟩⟩
theorem Ex.alive {H H' : Hp} (e : Ex H H') {b : Addr} (h : H b ≠ none) : H' b ≠ none := fun hn => h (fresh_back e hn)
theorem upd_alive {H : Hp} {a b : Addr} {o : HO} (h : H b ≠ none) : upd H a o b ≠ none := by
  by_cases e : b = a
  · rw [e, upd_same]
    exact fun z => by cases z
  · rw [upd_ne e]
    exact h
end
section
variable {P : Program} {w : World} {K : PySem.W.Frag} {mg : Str → Option Value} {base : Heap}
theorem ok_remove_rule (c : Top K mg) : FOk P w K mg base (L2.CX P w) 9 ("Desk", some "remove_rule") p_Desk_remove_rule (spOp1 K Vbndam.Call.removeRule) := by
  refine FOk.mk c.f_Desk_remove_rule sc_Desk_remove_rule (fun _ _ _ _ _ _ us hl => match us, hl with | [_, _], _ => rfl) (fun vs H Q E h => ?_) (fun cdv A outer s H vs Q E hr h => ?_)
  · obtain ⟨F, d, st, n, rfl, _⟩ := h
    rfl
  · obtain ⟨F, d, st, n, rfl, hd, hD0⟩ := h
    refine ⟨_, (pss_cons (ps_expr (pe_cf (ok_need_between c) (hr.mono (by decide)) c.glo_need_between (passes_call (takes_of rfl rfl rfl rfl) (fun _ _ _ _ h => h)) (pa_cons (pv 1) (pa_cons pe_int (pa_cons (pe_gi c.int_MOST_RULES) pa_nil)))))
      (pss_cons (ps_expr (pe_mf0 (ok_need_room c) (hr.mono (by decide)) c.cls_Desk c.me_Desk_need_room (passes_call (takes_of rfl rfl rfl rfl) (fun _ _ _ _ h => h)) (pv 0)))
      (pss_cons (ps_expr (pe_cf (ok_need c) (hr.mono (by decide)) c.glo_need (passes_call (takes_of rfl rfl rfl rfl) (fun _ _ _ _ h => h)) (pa_cons (pe_cmpR op_le (pv 1) (pe_callB call_len_seq (by rfl) c.free_len PySem.boot_len (pa_cons (pe_fld (pe_fld (pv 0) rfl) rfl) pa_nil)) (nomark _)) (pa_cons (pe_gi c.int_NOT_THERE) pa_nil))))
      (pss_cons (ps_expr (pe_bm PySem.F.plainAttrs_list PySem.F.slot_list_pop PySem.F.type_list_pop mt_popAt (pe_fld (pe_fld (pv 0) rfl) rfl) (pa_cons (pe_op op_sub (pv 1) pe_int) pa_nil)))
      (pss_one (ps_ret (pe_lst (pa_cons (pe_callB call_len_seq (by rfl) c.free_len PySem.boot_len (pa_cons (pe_fld (pe_fld (pv 0) rfl) rfl) pa_nil)) pa_nil)))))))), ?_⟩
    have hD1 : Does K F H d st Q E (if Vbndam.inRange n 1 20 = false then Vbndam.fail st 1 else Vbndam.withRoom st fun z => if (z.rules.length : Int) < n then Vbndam.fail st 4 else (some { z with rules := z.rules.eraseIdx (n.toNat - 1) }, [0, (z.rules.length : Int) - 1])) := hD0
    refine q_btw (ea_cons (ev_var rfl) (ea_cons ev_c (ea_cons ev_c ea_nil))) (fun hb H1 e1 => ?_) (fun hb => ?_)
    · rw [if_neg (by rw [inRange_iff.mpr hb]; decide)] at hD1
      refine q_takeR rfl (hd.ex e1) (hD1.ex e1) fun z r dx H2 hst wf e2 hdk hroom hD => ?_
      obtain ⟨rdx, ap, ar, k1, k2, L⟩ := hroom
      obtain ⟨rs, hrs, her⟩ := L.ru
      have hfld : ∀ H', Ex H2 H' → Ev (tFld K (tFld K (tVar 0) "room") "rules") [some (.ref d), some (.int n)] H' (.ref ar) := fun H' e => ev_fld (ev_fld (ev_var rfl) (e _ _ hdk) c.cls_Desk c.no_Desk_room (dkF_room _)) (e _ _ k1) c.cls_Room c.no_Room_rules (rmF_rules _ _)
      refine q_need (K := K) (b := decide (n ≤ (z.rules.length : Int))) (ea_cons (ev_is (ev_op (ev_var rfl) (ev_len (hfld _ (Ex.refl _)) (sq_of hrs)) rv_I0) (by rw [her.1])) (ea_cons ev_c ea_nil)) (fun hb2 H3 e3 => ?_) (fun hb2 => ?_)
      · have hle := of_decide_eq_true hb2
        rw [if_neg (by omega)] at hD
        have hrs3 := e3 _ _ hrs
        have hk : n.toNat - 1 < rs.length := by
          rw [her.1]
          omega
        have hy := List.getElem?_eq_getElem hk
        have hsi : seqIndex? (n - 1) rs.length = some (n.toNat - 1) := by
          unfold seqIndex?
          simp only []
          rw [if_neg (show ¬ (n - 1 < 0) by omega), if_pos (by rw [Bool.and_eq_true, decide_eq_true_eq, decide_eq_true_eq]; omega)]
          congr 1
          omega
        refine q_popAt (hfld _ e3) (ea_cons (ev_op (ev_var rfl) ev_c rv_I0) ea_nil) hrs3 (by omega) (by omega) hsi hy fun H4 e4 => ?_
        have ee := e3.trans e4
        have hrs4 := ee _ _ hrs
        have hpop := RoomAt.pop (ee _ _ k1) k2 (L.ex ee) hrs4 (n.toNat - 1)
        have hdk5 : upd H4 ar (.lst (rs.eraseIdx (n.toNat - 1))) d = some (.ins (He.ga K "Desk") dx (dkF (.ref r))) := upd_keep (ee _ _ hdk) hrs4 (fun e => by cases e)
        have k5 : upd H4 ar (.lst (rs.eraseIdx (n.toNat - 1))) r = some (.ins (He.ga K "Room") rdx (rmF ap ar)) := upd_keep (ee _ _ k1) hrs4 (fun e => by cases e)
        refine s_retL (el_lst (ea_cons (ev_len (ev_fld (ev_fld (ev_var rfl) hdk5 c.cls_Desk c.no_Desk_room (dkF_room _)) k5 c.cls_Room c.no_Room_rules (rmF_rules _ _)) (sq_of upd_same)) ea_nil) (by show 1 ≤ 100000; decide)) fun p H6 hp e6 hp6 => ?_
        have hlen : (rs.eraseIdx (n.toNat - 1)).length = rs.length - 1 := by
          rw [List.length_eraseIdx, if_pos hk]
        have alive : ∀ b, H b ≠ none → H6 b ≠ none := fun b hb => Ex.alive e6 (upd_alive (Ex.alive ((e1.trans e2).trans ee) hb))
        refine hD.1 _ rfl p H6 F (hd.keep ⟨dx, _, e6 _ _ hdk5, r, rfl, hpop.ex e6, wf.erase _⟩ alive) (fun b o q hF => e6 _ _ (upd_out ((e2.trans ee) _ _ q) hF L.fr)) (fun b hb => .inl hb) ?_ ?_
        · refine fresh_back (e2.trans ee) ?_
          by_cases e : p = ar
          · rw [e, upd_same] at hp
            cases hp
          · rw [upd_ne e] at hp
            exact hp
        · rw [hp6, hlen, her.1]
          show some (HO.lst [V.int ((z.rules.length - 1 : Nat) : Int)]) = some (HO.lst [V.int ((z.rules.length : Int) - 1)])
          congr 4
          omega
      · have hgt := of_decide_eq_false hb2
        rw [if_pos (by omega)] at hD
        exact (hD.fail (by decide)).mono e2
    · rw [if_pos (inRange_not.mpr hb)] at hD1
      exact hD1.fail (by decide)
theorem ok_set_weight (c : Top K mg) : FOk P w K mg base (L2.CX P w) 9 ("Desk", some "set_weight") p_Desk_set_weight (spOp2 K Vbndam.Call.setWeight) := by
  refine FOk.mk c.f_Desk_set_weight sc_Desk_set_weight (fun _ _ _ _ _ _ us hl => match us, hl with | [_, _, _], _ => rfl) (fun vs H Q E h => ?_) (fun cdv A outer s H vs Q E hr h => ?_)
  · obtain ⟨F, d, st, n, m, rfl, _⟩ := h
    rfl
  · obtain ⟨F, d, st, n, wt, rfl, hd, hD0⟩ := h
    refine ⟨_, (pss_cons (ps_expr (pe_cf (ok_need_between c) (hr.mono (by decide)) c.glo_need_between (passes_call (takes_of rfl rfl rfl rfl) (fun _ _ _ _ h => h)) (pa_cons (pv 2) (pa_cons pe_int (pa_cons (pe_gi c.int_GREATEST_WEIGHT) pa_nil)))))
      (pss_cons (ps_expr (pe_mf (ok_take_player c) (hr.mono (by decide)) c.cls_Desk c.me_Desk_take_player (passes_call (takes_of rfl rfl rfl rfl) (fun _ _ _ _ h => h)) (pv 0) (pa_cons (pv 1) pa_nil)))
      (pss_cons (ps_fld (pe_ix ix_list (pe_fld (pe_fld (pv 0) rfl) rfl) (pv 1) (fun _ _ => rfl)) (pv 2) rfl)
      (pss_one (ps_ret (pe_lst pa_nil)))))), ?_⟩
    have hD1 : Does K F H d st Q E (if Vbndam.inRange wt 0 1000 = false then Vbndam.fail st 1 else Vbndam.withPlayer st n fun z i => (some { z with players := z.players.modify i fun x => { x with weight := wt.toNat } }, [0])) := hD0
    refine q_btw (ea_cons (ev_var rfl) (ea_cons ev_c (ea_cons ev_c ea_nil))) (fun hb H1 e1 => ?_) (fun hb => ?_)
    · rw [if_neg (by rw [inRange_iff.mpr hb]; decide)] at hD1
      refine q_takeP rfl rfl (hd.ex e1) (hD1.ex e1) fun z i r dx H2 hst hn hi wf e2 hdk hroom hD => ?_
      subst hn
      obtain ⟨wn, rfl⟩ := Int.eq_ofNat_of_zero_le hb.1
      obtain ⟨rdx, ap, ar, k1, k2, L⟩ := hroom
      obtain ⟨ps, hps, hea, hnd⟩ := L.pl
      have hx := List.getElem?_eq_getElem hi
      obtain ⟨v, hv, a, pdx, pn, rfl, h1, h2, h3, h4⟩ := hea.get hx
      refine ⟨_, rfl, ?_⟩
      refine ev_op (ev_fld (ev_fld (ev_var rfl) hdk c.cls_Desk c.no_Desk_room (dkF_room _)) k1 c.cls_Room c.no_Room_players (rmF_players _ _)) (ev_var rfl) (rv_ixL (sq_of hps) (atI_nat hv)) H2 (Ex.refl _) _ fun H3 e3 => ⟨a, _, pdx, _, rfl, e3 _ _ h1, c.cls_Player, c.no_Player_weight, by show 2 < 1000; decide, ?_⟩
      rw [putF_weight]
      have hne : a ≠ r := fun e => by
        rw [e, k1] at h1
        have := (HO.ins.inj (Option.some.inj h1)).2.2
        unfold rmF plF at this
        have q : (["players", "rules"] : List Str) = (["name", "weight"] : List Str) := congrArg (fun l : List (Str × V) => l.map Prod.fst) this
        exact absurd q (by decide +kernel)
      have hned : d ≠ a := fun e => by
        rw [← e, hdk] at h1
        have := (HO.ins.inj (Option.some.inj h1)).2.2
        unfold dkF plF at this
        have q : 1 = 2 := congrArg (fun l : List (Str × V) => l.length) this
        exact absurd q (by decide)
      have hset := RoomAt.setw (w := wn) (e3 _ _ k1) k2 (L.ex e3) (e3 _ _ hps) hv hx (e3 _ _ h1) (e3 _ _ h2) h3 h4 hne
      refine s_retL (σ := [some (.ref d), some (vI i), some (vI wn)]) (el_lst ea_nil (by decide)) fun p H4 hp e4 hp4 => ?_
      have ee := (e1.trans e2).trans e3
      have alive : ∀ b, H b ≠ none → H4 b ≠ none := fun b hb => Ex.alive e4 (upd_alive (Ex.alive ee hb))
      refine hD.1 [] rfl p H4 F (hd.keep ⟨dx, _, e4 _ _ (by rw [upd_ne hned]; exact e3 _ _ hdk), r, rfl, hset.ex e4, wf.setw i (by omega)⟩ alive) (fun b o q hF => e4 _ _ (upd_out ((e2.trans e3) _ _ q) hF h3)) (fun b hb => .inl hb) ?_ hp4
      refine fresh_back (e2.trans e3) ?_
      by_cases e : p = a
      · rw [e, upd_same] at hp
        cases hp
      · rw [upd_ne e] at hp
        exact hp
    · rw [if_pos (inRange_not.mpr hb)] at hD1
      exact hD1.fail (by decide)
end
end Gs

set_option Elab.async false
set_option linter.all false
set_option maxRecDepth 100000
set_option maxHeartbeats 4000000
/-! Walks: what is written. -/
namespace Gs
open PySem PySem.Spec PyProof.Rows L2 Evl
open Vbndaa (toBytes decimalBytes joinWithSpaces)
/-! ### words -/
def WordAt (H : Hp) (v : V) (w : List Nat) : Prop := ∃ p, v = .ref p ∧ H p = some (.lst (vN w))
theorem WordAt.ex {H H' : Hp} {v : V} {w : List Nat} (h : WordAt H v w) (e : Ex H H') : WordAt H' v w := by
  obtain ⟨p, rfl, h1⟩ := h
  exact ⟨p, rfl, e _ _ h1⟩
def WordsAt (H : Hp) (a : Addr) (ws : List (List Nat)) : Prop := ∃ xs, H a = some (.lst xs) ∧ EachAt (WordAt H) xs ws
theorem WordsAt.ex {H H' : Hp} {a : Addr} {ws : List (List Nat)} (h : WordsAt H a ws) (e : Ex H H') : WordsAt H' a ws := by
  obtain ⟨xs, h1, h2⟩ := h
  exact ⟨xs, e _ _ h1, h2.imp fun _ _ q => q.ex e⟩
def EvW (ta : TA) (σ : L2.St) (H : Hp) (ws : List (List Nat)) : Prop := ∀ H1, Ex H H1 → ∀ Q : List V → Hp → Prop, (∀ vs H2, Ex H1 H2 → EachAt (WordAt H2) vs ws → Q vs H2) → ta σ H1 Q
section
variable {K : PySem.W.Frag} {te tb : TE} {ta : TA} {σ : L2.St} {H : Hp} {ws us : List (List Nat)} {w : List Nat} {p : Addr}
theorem ew_nil : EvW tNil σ H [] := fun H1 _ _ q => q [] H1 (Ex.refl H1) EachAt.nil
theorem EachAt.cons {α : Type} {R : V → α → Prop} {v : V} {x : α} {vs : List V} {xs : List α} (h : R v x) (hs : EachAt R vs xs) : EachAt R (v :: vs) (x :: xs) := EachAt.app (EachAt.one h) hs
theorem ew_L (h : EvL te σ H (vN w)) (hr : EvW ta σ H ws) : EvW (tCons te ta) σ H (w :: ws) := fun H1 e Q q =>
  h H1 e _ fun p H2 hp e2 h2 => hr H2 (e.trans e2) _ fun vs H3 e3 h3 => q _ H3 (e2.trans e3) (EachAt.cons ⟨p, rfl, e3 _ _ h2⟩ h3)
theorem ew_V (h : Ev te σ H (.ref p)) (hp : H p = some (.lst (vN w))) (hr : EvW ta σ H ws) : EvW (tCons te ta) σ H (w :: ws) := fun H1 e Q q =>
  h H1 e _ fun H2 e2 => hr H2 (e.trans e2) _ fun vs H3 e3 h3 => q _ H3 (e2.trans e3) (EachAt.cons ⟨p, rfl, e3 _ _ (e2 _ _ (e _ _ hp))⟩ h3)
theorem em_words (h : EvW ta σ H ws) (hl : ws.length ≤ 100000) : EvM (tLst ta) σ H (fun p H => WordsAt H p ws) := fun H1 e Q q =>
  h H1 e _ fun vs H2 e2 h2 => ⟨by rw [h2.1]; exact sz_of hl, fun p hp => q p _ (fresh_back e2 hp) (e2.trans (Ex.new hp)) ⟨vs, upd_same, h2.imp fun _ _ q => q.ex (Ex.new hp)⟩⟩
theorem em_catW (h1 : EvM te σ H (fun p H => WordsAt H p ws)) (h2 : EvM tb σ H (fun p H => WordsAt H p us)) (hl : ws.length + us.length ≤ 100000) : EvM (tOp rCat te tb) σ H (fun p H => WordsAt H p (ws ++ us)) := fun H1 e Q q =>
  h1 H1 e _ fun p H2 hp e2 hP => h2 H2 (e.trans e2) _ fun p' H3 hp' e3 hP' => by
    obtain ⟨xs, a1, a2⟩ := hP
    obtain ⟨ys, b1, b2⟩ := hP'
    refine ⟨p, p', xs, ys, rfl, rfl, e3 _ _ a1, b1, by rw [a2.1, b2.1]; exact sz_of hl, fun r hr => q r _ (fresh_back (e2.trans e3) hr) ((e2.trans e3).trans (Ex.new hr)) ⟨_, upd_same, ?_⟩⟩
    exact EachAt.app (a2.imp fun _ _ q => q.ex (e3.trans (Ex.new hr))) (b2.imp fun _ _ q => q.ex (Ex.new hr))
theorem em_varW (h : Ev te σ H (.ref p)) (hP : WordsAt H p ws) : ∀ H1, Ex H H1 → ∀ Q : VK, (∀ H2, Ex H1 H2 → WordsAt H2 p ws → Q (.ref p) H2) → te σ H1 Q := fun H1 e Q q => h H1 e Q fun H2 e2 => q H2 e2 (hP.ex (e.trans e2))
theorem em_catWV (h1 : Ev te σ H (.ref p)) (hP : WordsAt H p ws) (h2 : EvM tb σ H (fun p H => WordsAt H p us)) (hl : ws.length + us.length ≤ 100000) : EvM (tOp rCat te tb) σ H (fun p H => WordsAt H p (ws ++ us)) := fun H1 e Q q =>
  h1 H1 e _ fun H2 e2 => h2 H2 (e.trans e2) _ fun p' H3 hp' e3 hP' => by
    obtain ⟨xs, a1, a2⟩ := hP.ex ((e.trans e2).trans e3)
    obtain ⟨ys, b1, b2⟩ := hP'
    refine ⟨p, p', xs, ys, rfl, rfl, a1, b1, by rw [a2.1, b2.1]; exact sz_of hl, fun r hr => q r _ (fresh_back (e2.trans e3) hr) ((e2.trans e3).trans (Ex.new hr)) ⟨_, upd_same, ?_⟩⟩
    exact EachAt.app (a2.imp fun _ _ q => q.ex (Ex.new hr)) (b2.imp fun _ _ q => q.ex (Ex.new hr))
/-- list + list, new lists -/
theorem el_catLL {xs ys : List V} (h1 : EvL te σ H xs) (h2 : EvL tb σ H ys) (hl : xs.length + ys.length ≤ 100000) : EvL (tOp rCat te tb) σ H (xs ++ ys) := fun H1 e Q q =>
  h1 H1 e _ fun p H2 hp e2 a => h2 H2 (e.trans e2) _ fun p' H3 hp' e3 b => ⟨p, p', xs, ys, rfl, rfl, e3 _ _ a, b, sz_of hl, fun r hr => q r _ (fresh_back (e2.trans e3) hr) ((e2.trans e3).trans (Ex.new hr)) upd_same⟩
theorem el_catVL {a : Addr} {xs ys : List V} (h1 : Ev te σ H (.ref a)) (ha : H a = some (.lst xs)) (h2 : EvL tb σ H ys) (hl : xs.length + ys.length ≤ 100000) : EvL (tOp rCat te tb) σ H (xs ++ ys) := fun H1 e Q q =>
  h1 H1 e _ fun H2 e2 => h2 H2 (e.trans e2) _ fun p' H3 hp' e3 b => ⟨a, p', xs, ys, rfl, rfl, e3 _ _ (e2 _ _ (e _ _ ha)), b, sz_of hl, fun r hr => q r _ (fresh_back (e2.trans e3) hr) ((e2.trans e3).trans (Ex.new hr)) upd_same⟩
theorem el_catVV {a b : Addr} {xs ys : List V} (h1 : Ev te σ H (.ref a)) (ha : H a = some (.lst xs)) (h2 : Ev tb σ H (.ref b)) (hb : H b = some (.lst ys)) (hl : xs.length + ys.length ≤ 100000) : EvL (tOp rCat te tb) σ H (xs ++ ys) := fun H1 e Q q =>
  h1 H1 e _ fun H2 e2 => h2 H2 (e.trans e2) _ fun H3 e3 => ⟨a, b, xs, ys, rfl, rfl, e3 _ _ (e2 _ _ (e _ _ ha)), e3 _ _ (e2 _ _ (e _ _ hb)), sz_of hl, fun r hr => q r _ (fresh_back (e2.trans e3) hr) ((e2.trans e3).trans (Ex.new hr)) upd_same⟩
end
/-! ### plain -/
theorem bytes_str (s : String) : (Str.ofString s).cps.toList = toBytes s := by
  rw [PySem.Str.ofString_eq_toList]
  rfl
theorem dec_str (n : Nat) : (Str.ofString (toString (n : Int))).cps.toList = decimalBytes n := by
  rw [bytes_str]
  rfl
theorem dec_len {n : Nat} (h : n ≤ 100000) : (decimalBytes n).length ≤ 6 := by
  rw [← dec_str, PySem.W.KIN.signs_num, List.length_map]
  exact digits10_le (by decide) (by omega)
def written (ws : List (List Nat)) : List Nat := ws.flatMap fun w => w ++ [32]
theorem written_join : ∀ ws : List (List Nat), (written ws).dropLast = joinWithSpaces ws
  | [] => rfl
  | [w] => by
    show ((w ++ [32]) ++ []).dropLast = w
    rw [List.append_nil, List.dropLast_concat]
  | w :: x :: l => by
    have ih := written_join (x :: l)
    show ((w ++ [32]) ++ written (x :: l)).dropLast = w ++ (32 :: joinWithSpaces (x :: l))
    rw [← ih, List.dropLast_append_of_ne_nil]
    · rw [List.append_assoc]
      rfl
    · show ((x ++ [32]) ++ written l) ≠ []
      simp
theorem written_app (l m : List (List Nat)) : written (l ++ m) = written l ++ written m := List.flatMap_append
theorem written_len : ∀ ws : List (List Nat), (∀ w ∈ ws, w.length ≤ 20) → (written ws).length ≤ 21 * ws.length
  | [], _ => Nat.le_refl _
  | w :: ws, h => by
    have ih := written_len ws fun x hx => h x (List.mem_cons_of_mem _ hx)
    have h0 := h w (List.mem_cons_self ..)
    show ((w ++ [32]) ++ written ws).length ≤ 21 * (ws.length + 1)
    rw [List.length_append, List.length_append, List.length_singleton]
    omega
theorem join_len (ws : List (List Nat)) (h : ∀ w ∈ ws, w.length ≤ 20) : (joinWithSpaces ws).length ≤ 21 * ws.length := by
  rw [← written_join, List.length_dropLast]
  exact Nat.le_trans (Nat.sub_le _ _) (written_len ws h)
theorem cut_last (xs : List V) : cutV xs none (some (-1)) = xs.dropLast := by
  unfold cutV
  rw [HT.sIx_none, List.drop_zero, List.dropLast_eq_take]
  have e : HT.sIx xs.length xs.length (some (-1)) = ((-1 : Int) + (xs.length : Int)).toNat := by
    show (if (-1 : Int) < 0 then ((-1 : Int) + (xs.length : Int)).toNat else min (-1 : Int).toNat xs.length) = _
    rw [if_pos (by decide)]
  rw [e]
  congr 1
  omega
theorem vN_dropLast (l : List Nat) : (vN l).dropLast = vN l.dropLast := by
  unfold vN
  rw [List.map_dropLast]
/-! ### promises -/
def spSigns : Sp := fun vs H Q _ => ∃ x : Str, vs = [.str x] ∧ x.cps.size ≤ 1000 ∧ ∀ p H', H p = none → Ex H H' → H' p = some (.lst (vN x.cps.toList)) → Q (.ref p) H'
def spNumSigns : Sp := fun vs H Q _ => ∃ n : Nat, vs = [vI n] ∧ n ≤ 100000 ∧ ∀ p H', H p = none → Ex H H' → H' p = some (.lst (vN (decimalBytes n))) → Q (.ref p) H'
def spWritten : Sp := fun vs H Q _ => ∃ (a : Addr) (ws : List (List Nat)), vs = [.ref a] ∧ WordsAt H a ws ∧ ws.length ≤ 100 ∧ (∀ w ∈ ws, w.length ≤ 20) ∧ ∀ p H', H p = none → Ex H H' → H' p = some (.lst (vN (joinWithSpaces ws ++ [10]))) → Q (.ref p) H'
def ruleWords (z : Vbndam.Room) (u : Vbndam.Rule) : List (List Nat) := [toBytes "keep", Vbndam.playerName z u.absent, toBytes "by"] ++ ((if u.required < u.substitutes.length then [toBytes "any", decimalBytes u.required, toBytes "of"] else []) ++ u.substitutes.map (Vbndam.playerName z))
def playerWords (p : Vbndam.Player) : List (List Nat) := [toBytes "player", p.name, toBytes "weight", decimalBytes p.weight]
def spRuleWords (K : PySem.W.Frag) : Sp := fun vs H Q _ => ∃ (F : Addr → Prop) (r : Addr) (v : V) (z : Vbndam.Room) (u : Vbndam.Rule), vs = [.ref r, v] ∧ RoomAt K F H r z ∧ Wf z ∧ RuleAt K F H v u ∧ RuleOk z.players.length u ∧ ∀ p H', H p = none → Ex H H' → WordsAt H' p (ruleWords z u) → Q (.ref p) H'
def spCanonical (K : PySem.W.Frag) : Sp := fun vs H Q _ => ∃ (F : Addr → Prop) (r : Addr) (z : Vbndam.Room), vs = [.ref r] ∧ RoomAt K F H r z ∧ Wf z ∧ ∀ p H', H p = none → Ex H H' → H' p = some (.lst (vN (Vbndam.printRoom z))) → Q (.ref p) H'
section
variable {H : Hp}
theorem sl_signs {s : String} (h : (toBytes s).length ≤ 1000) : SpL spSigns ([.str (Str.ofString s)] ++ []) H (vN (toBytes s)) := fun H1 e Q q _ => ⟨Str.ofString s, rfl, by rw [← Array.length_toList, bytes_str]; exact h, by rw [bytes_str]; exact q⟩
theorem sl_num {n : Nat} (h : n ≤ 100000) : SpL spNumSigns ([vI n] ++ []) H (vN (decimalBytes n)) := fun H1 e Q q _ => ⟨n, rfl, h, q⟩
end
section
variable {P : Program} {w : World} {K : PySem.W.Frag} {mg : Str → Option Value} {base : Heap}
theorem ok_signs_of (c : Top K mg) : FOk P w K mg base CX0 1 ("signs_of", none) p_signs_of (spSigns) := by
  refine FOk.mk0 c.f_signs_of sc_signs_of (fun _ _ _ _ _ _ us hl => match us, hl with | [_], _ => rfl) (fun vs H Q E h => ?_) (fun cdv A outer s H vs Q E hr h => ?_)
  · obtain ⟨x, rfl, _⟩ := h
    rfl
  · obtain ⟨x, rfl, hx, k⟩ := h
    have nd := sc_signs_of.nd
    refine ⟨_, pss_one (ps_ret (pe_lc (own := [("letter", 1)]) (g := (gName 1)) rfl nd (pi_str (pv 0)) (blkOk_by (N := n_signs_of) (sc := defScope s_signs_of) (by decide +kernel)) (fun _ _ _ _ _ => by exact ((pg_name (i := 1) nd rfl (.inl rfl)))) (fun _ _ _ _ _ => pts_nil) (fun _ _ _ _ _ => by exact (pe_callB call_ord (by rfl) c.free_ord (by decide +kernel) (pa_cons (pv 1) pa_nil))))), ?_⟩
    refine s_retL (xs := given x.cps.size (fun _ => true) fun i => vI (x.cps.getD i 0)) (el_lcW (J := Its x) (n := x.cps.size) (G := fun _ => True) (fun _ => true) _ (fun i => [some (.str x), some (.str ⟨#[x.cps.getD i 0]⟩)]) walk_str (fun H1 e R q => ⟨_, rfl, x, rfl, q H1 (Ex.refl _)⟩) (fun _ _ => True.intro) (by omega) (fun _ _ => rfl)
      (fun i v H1 H2 hi e y => ?_) (fun _ _ _ _ => et_yes) (fun i H1 hi e _ => ?_)) fun p H1 hp e hp1 => k p H1 hp e ?_
    · obtain ⟨rfl, cc, hcc, rfl⟩ := y
      refine ⟨Ex.refl _, fun R q => ?_⟩
      have : x.cps.getD i 0 = cc := by
        rw [Array.getD_eq_getD_getElem?, hcc]
        rfl
      rw [this] at q
      exact q
    · exact fun H2 e2 Q' q' => ⟨_, rfl, _, rfl, rfl, q' H2 (Ex.refl _)⟩
    · rw [hp1, given_all]
      congr 2
      unfold vN
      refine List.ext_getElem (by simp) fun i h1 h2 => ?_
      simp at h1
      simp [Array.getD, h1]
theorem ok_number_signs (c : Top K mg) : FOk P w K mg base CX0 2 ("number_signs", none) p_number_signs (spNumSigns) := by
  refine FOk.mk0 c.f_number_signs sc_number_signs (fun _ _ _ _ _ _ us hl => match us, hl with | [_], _ => rfl) (fun vs H Q E h => ?_) (fun cdv A outer s H vs Q E hr h => ?_)
  · obtain ⟨n, rfl, _⟩ := h
    rfl
  · obtain ⟨n, rfl, hn, k⟩ := h
    refine ⟨_, pss_one (ps_ret (pe_cf (ok_signs_of c) (hr.mono (by decide)) c.glo_signs_of pass0 (pa_cons (pe_callTy call_str_int (by rfl) c.free_str (by decide +kernel) (pa_cons (pv 0) pa_nil)) pa_nil))), ?_⟩
    have hd := dec_len hn
    rw [← dec_str, Array.length_toList] at hd
    have hlog : ((n : Int)).natAbs.log2 < 1920 := by
      rw [Int.natAbs_natCast]
      by_cases h0 : n = 0
      · rw [h0]
        decide
      · rw [Nat.log2_lt h0]
        exact Nat.lt_of_lt_of_le (show n < 2 ^ 20 by omega) (Nat.pow_le_pow_right (by decide) (by decide))
    have hev : Ev (tCB (fun xs H Q => ∃ i : Int, xs = [.int i] ∧ i.natAbs.log2 < 1920 ∧ Q (.str (Str.ofString (toString i))) H) (tCons (tVar 0) tNil)) (start n_number_signs [vI n]) H (.str (Str.ofString (toString (n : Int)))) := fun H1 e Q' q' => ⟨_, rfl, _, rfl, hlog, q' H1 (Ex.refl _)⟩
    refine s_retL (el_cf1 (ea_cons hev ea_nil) (fun H1 e Q' q' _ => ⟨_, rfl, by omega, by rw [dec_str]; exact q'⟩)) k
theorem ok_written (c : Top K mg) : FOk P w K mg base CX0 2 ("written", none) p_written (spWritten) := by
  refine FOk.mk0 c.f_written sc_written (fun _ _ _ _ _ _ us hl => match us, hl with | [_], _ => rfl) (fun vs H Q E h => ?_) (fun cdv A outer s H vs Q E hr h => ?_)
  · obtain ⟨a, ws, rfl, _⟩ := h
    rfl
  · obtain ⟨a, ws, rfl, hW, h100, h20, k⟩ := h
    have nd := sc_written.nd
    obtain ⟨xs, hxs, hE⟩ := hW
    refine ⟨_, (pss_cons (ps_set (i := 1) nd rfl (.inl rfl) (pe_lst pa_nil))
      (pss_cons (ps_for PassesOwn.never rfl (pi_list (pv 0)) (pg_name (i := 2) nd rfl (.inl rfl)) (pss_one (ps_set (i := 1) nd rfl (.inl rfl) (pe_op op_cat (pe_op op_cat (pv 1) (pv 2)) (pe_lst (pa_cons (pe_gi c.int_SPACE) pa_nil))))))
      (pss_one (ps_ret (pe_op op_cat (pe_slice sl_list (pv 1) po_none (po_some (pe_un un_neg pe_int))) (pe_lst (pa_cons (pe_gi c.int_NEWLINE) pa_nil))))))), ?_⟩
    refine q_asgL (el_lst ea_nil (by decide)) fun f H1 hf e1 hf1 => ?_
    refine q_forA (ev_var rfl) (sq_of (e1 _ _ hxs)) hE.1 (fun pre σ H2 => ∃ g x, σ = [some (.ref a), some (.ref g), x] ∧ Ex H H2 ∧ H2 g = some (.lst (vN (written pre)))) (fun H2 e2 => ⟨f, none, rfl, e1.trans e2, e2 _ _ hf1⟩)
      (fun i σ H2 _ q => by
        obtain ⟨g, x, _, e2, _⟩ := q
        exact sq_of (e2 _ _ hxs)) (fun i v u σ H2 hv hu q => ?_) (fun σ H2 q => ?_)
    · obtain ⟨g, x, rfl, e2, hg⟩ := q
      obtain ⟨p, rfl, hp⟩ := hE.2 i v u hv hu
      have hi : i < ws.length := (List.getElem?_eq_some_iff.mp hu).1
      have hwl := written_len (ws.take i) fun w hw => h20 w (List.mem_of_mem_take hw)
      rw [List.length_take] at hwl
      have hul := h20 u (List.mem_of_getElem? hu)
      refine s_asgL (el_catLL (el_catVV (ev_var rfl) hg (ev_var rfl) (e2 _ _ hp) ?_) (el_lst (ea_cons ev_c ea_nil) (by show 1 ≤ 100000; decide)) ?_) fun g2 H3 hg2 e3 hg3 => ⟨g2, _, rfl, e2.trans e3, ?_⟩
      · rw [vN_len, vN_len]
        omega
      · rw [List.length_append, vN_len, vN_len]
        show _ + 1 ≤ 100000
        omega
      · rw [hg3, written_app]
        congr 2
        show _ = vN (written (ws.take i) ++ ((u ++ [32]) ++ []))
        rw [List.append_nil, vN_app, vN_app, List.append_assoc]
        rfl
    · obtain ⟨g, x, rfl, e2, hg⟩ := q
      have hwl := written_len ws h20
      refine s_retL (el_catLL (el_sl (lo := none) (hi := some (-1)) (ev_var rfl) eo_none (eo_some (ev_un ev_c ru_neg)) (sq_of hg)) (el_lst (ea_cons ev_c ea_nil) (by show 1 ≤ 100000; decide)) ?_) fun p H3 hp e3 hp3 => k p H3 (fresh_back e2 hp) (e2.trans e3) ?_
      · rw [cut_last, List.length_dropLast, vN_len]
        show _ + 1 ≤ 100000
        omega
      · rw [hp3, cut_last, vN_dropLast, written_join, vN_app]
        rfl
theorem ok_rule_words (c : Top K mg) : FOk P w K mg base CX0 3 ("rule_words", none) p_rule_words (spRuleWords K) := by
  refine FOk.mk0 c.f_rule_words sc_rule_words (fun _ _ _ _ _ _ us hl => match us, hl with | [_, _], _ => rfl) (fun vs H Q E h => ?_) (fun cdv A outer s H vs Q E hr h => ?_)
  · obtain ⟨F, r, v, z, u, rfl, _⟩ := h
    rfl
  · obtain ⟨F, r, v, z, u, rfl, hroom, wf, hR, hok, k⟩ := h
    have nd := sc_rule_words.nd
    obtain ⟨rdx, ap, ar, k1, k2, L⟩ := hroom
    obtain ⟨ps, hps, hea, _⟩ := L.pl
    obtain ⟨ra, dxr, sb, rfl, r1, r2, _⟩ := hR
    refine ⟨_, (pss_cons (ps_set (i := 2) nd rfl (.inl rfl) (pe_lst (pa_cons (pe_cf (ok_signs_of c) (hr.mono (by decide)) c.glo_signs_of pass0 (pa_cons pe_str pa_nil)) (pa_cons (pe_fld (pe_ix ix_list (pe_fld (pv 0) rfl) (pe_fld (pv 1) rfl) (fun _ _ => rfl)) rfl) (pa_cons (pe_cf (ok_signs_of c) (hr.mono (by decide)) c.glo_signs_of pass0 (pa_cons pe_str pa_nil)) pa_nil)))))
      (pss_cons (ps_if (pt_cmpR op_lt (pe_fld (pv 1) rfl) (pe_callB call_len_seq (by rfl) c.free_len PySem.boot_len (pa_cons (pe_fld (pv 1) rfl) pa_nil)) (nomark _)) (pss_one (ps_set (i := 2) nd rfl (.inl rfl) (pe_op op_cat (pv 2) (pe_lst (pa_cons (pe_cf (ok_signs_of c) (hr.mono (by decide)) c.glo_signs_of pass0 (pa_cons pe_str pa_nil)) (pa_cons (pe_cf (ok_number_signs c) (hr.mono (by decide)) c.glo_number_signs pass0 (pa_cons (pe_fld (pv 1) rfl) pa_nil)) (pa_cons (pe_cf (ok_signs_of c) (hr.mono (by decide)) c.glo_signs_of pass0 (pa_cons pe_str pa_nil)) pa_nil))))))) pss_nil)
      (pss_one (ps_ret (pe_op op_cat (pv 2) (pe_lc (own := [("player", 3)]) (g := (gName 3)) rfl nd (pi_list (pe_fld (pv 1) rfl)) (blkOk_by (N := n_rule_words) (sc := defScope s_rule_words) (by decide +kernel)) (fun _ _ _ _ _ => by exact ((pg_name (i := 3) nd rfl (.inl rfl)))) (fun _ _ _ _ _ => pts_nil) (fun _ _ _ _ _ => by exact (pe_fldK (K := K) (pe_ix (ixl (K := K)) (pe_fldK (K := K) (pv 0)) (pv 3) (fun _ _ => rfl)))))))))), ?_⟩
    have hn : ∀ p, ∃ n : Addr, p < z.players.length → H n = some (.lst (vN (Vbndam.playerName z p))) ∧ ∃ a dx w, atI ps (p : Int) = some (.ref a) ∧ H a = some (.ins (He.ga K "Player") dx (plF n w)) := by
      intro p
      by_cases hp : p < z.players.length
      · have hx := List.getElem?_eq_getElem hp
        obtain ⟨v, hv, a, dx, n, rfl, h1, h2, _⟩ := hea.get hx
        refine ⟨n, fun _ => ⟨?_, a, dx, _, atI_nat hv, h1⟩⟩
        unfold Vbndam.playerName
        rw [hx]
        exact h2
      · exact ⟨r, fun q => absurd q hp⟩
    obtain ⟨nm, hnm⟩ := Classical.axiomOfChoice hn
    have hname : ∀ {σ : L2.St} {te ti : TE} {H1 : Hp} {p : Nat}, Ex H H1 → p < z.players.length → Ev te σ H1 (.ref r) → Ev ti σ H1 (vI p) → Ev (tFld K (tOp (rIxL K) (tFld K te "players") ti) "name") σ H1 (.ref (nm p)) := fun e hp hr hi => by
      obtain ⟨q1, a, dx, w, q2, q3⟩ := hnm _ hp
      exact ev_fld (ev_op (ev_fld hr (e _ _ k1) c.cls_Room c.no_Room_players (rmF_players _ _)) hi (rv_ixL (sq_of (e _ _ hps)) q2)) (e _ _ q3) c.cls_Player c.no_Player_name (plF_name _ _)
    have hab := hok.ab
    refine q_asgM (em_words (ws := [toBytes "keep", Vbndam.playerName z u.absent, toBytes "by"]) (ew_L (el_cf1 (ea_cons ev_c ea_nil) (sl_signs (by decide))) (ew_V (hname (Ex.refl _) hab (ev_var rfl) (ev_fld (ev_var rfl) r1 c.cls_Rule c.no_Rule_absent (ruF_absent _ _ _))) (hnm _ hab).1 (ew_L (el_cf1 (ea_cons ev_c ea_nil) (sl_signs (by decide))) ew_nil))) (by show 3 ≤ 100000; decide)) fun f H1 hf e1 hW1 => ?_
    have hfew := hok.few
    have hreq := hok.req
    have fin : ∀ (g : Addr) (ws : List (List Nat)) (H2 : Hp), Ex H H2 → WordsAt H2 g ws → ws ++ u.substitutes.map (Vbndam.playerName z) = ruleWords z u → ws.length ≤ 100 → ∀ x : Option V,
        tRet (tOp rCat (tVar 2) (tLc (iList K (tFld K (tVar 1) "substitutes")) (gName 3) tYes (tFld K (tOp (rIxL K) (tFld K (tVar 0) "players") (tVar 3)) "name") [3])) { nx := fun _ H' => Q .non H', rt := Q } [some (.ref r), some (.ref ra), some (.ref g), x] H2 := fun g ws H2 e2 hW hw hl x => by
      have hcomp : EvM (tLc (iList K (tFld K (tVar 1) "substitutes")) (gName 3) tYes (tFld K (tOp (rIxL K) (tFld K (tVar 0) "players") (tVar 3)) "name") [3]) [some (.ref r), some (.ref ra), some (.ref g), x] H2 (fun p H => WordsAt H p (u.substitutes.map (Vbndam.playerName z))) := fun H3 e3 Q' q' =>
        el_lcA (l := u.substitutes) (enc := vI) (fun _ => true) (fun p => .ref (nm p)) (ev_fld (ev_var rfl) (e2 _ _ r1) c.cls_Rule c.no_Rule_substitutes (ruF_substitutes _ _ _)) (sq_of (e2 _ _ r2)) (by omega) (fun _ => rfl) (fun _ _ _ _ => et_yes) (fun p hp H4 e4 _ => hname (e2.trans e4) (hok.subs p hp) (ev_var rfl) (ev_var rfl)) H3 e3 _ fun p H4 hp e4 h4 => q' p H4 hp e4 ⟨_, h4, by rw [List.filter_eq_self.mpr (fun _ _ => rfl), List.length_map, List.length_map], fun i v w hv hw2 => by
          rw [List.filter_eq_self.mpr (fun _ _ => rfl)] at hv
          rw [List.getElem?_map] at hv hw2
          cases hs : u.substitutes[i]? with
          | none =>
            rw [hs] at hv
            cases hv
          | some p =>
            rw [hs] at hv hw2
            cases hv
            cases hw2
            exact ⟨_, rfl, ((e2.trans e3).trans e4) _ _ (hnm p (hok.subs p (List.mem_of_getElem? hs))).1⟩⟩
      refine s_retM (em_catWV (ev_var rfl) hW hcomp (by rw [List.length_map]; omega)) fun p H3 hp e3 hP => ?_
      rw [hw] at hP
      exact k p H3 (fresh_back e2 hp) (e2.trans e3) hP
    refine q_if (b := decide (u.required < u.substitutes.length)) (et_is (et_test (ev_op (ev_fld (ev_var rfl) (e1 _ _ r1) c.cls_Rule c.no_Rule_required (ruF_required _ _ _)) (ev_len (ev_fld (ev_var rfl) (e1 _ _ r1) c.cls_Rule c.no_Rule_substitutes (ruF_substitutes _ _ _)) (sq_of (e1 _ _ r2))) rv_I0)) (by rw [vN_len]; exact decide_eq_decide.mpr (by omega))) (fun hb H2 e2 => ?_) (fun hb H2 e2 => ?_)
    · have hlt := of_decide_eq_true hb
      refine s_asgM (em_catWV (us := [toBytes "any", decimalBytes u.required, toBytes "of"]) (ev_var rfl) (hW1.ex e2) (em_words (ew_L (el_cf1 (ea_cons ev_c ea_nil) (sl_signs (by decide))) (ew_L (el_cf1 (ea_cons (ev_fld (ev_var rfl) ((e1.trans e2) _ _ r1) c.cls_Rule c.no_Rule_required (ruF_required _ _ _)) ea_nil) (sl_num (by omega))) (ew_L (el_cf1 (ea_cons ev_c ea_nil) (sl_signs (by decide))) ew_nil))) (by show 3 ≤ 100000; decide)) (by show 3 + 3 ≤ 100000; decide)) fun g H3 hg e3 hW3 => ?_
      refine fin g _ H3 ((e1.trans e2).trans e3) hW3 ?_ (by show 6 ≤ 100; decide) _
      unfold ruleWords
      rw [if_pos hlt, List.append_assoc]
    · have hlt := of_decide_eq_false hb
      refine fin f _ H2 (e1.trans e2) (hW1.ex e2) ?_ (by show 3 ≤ 100; decide) _
      unfold ruleWords
      rw [if_neg hlt]
      rfl
end
end Gs

set_option Elab.async false
set_option linter.all false
set_option maxRecDepth 100000
set_option maxHeartbeats 4000000
/-! Walks: the canonical text. -/
namespace Gs
open PySem PySem.Spec PyProof.Rows L2 Evl
open Vbndaa (toBytes decimalBytes joinWithSpaces)
def pLine (p : Vbndam.Player) : List Nat := joinWithSpaces (playerWords p) ++ [10]
def rLine (z : Vbndam.Room) (u : Vbndam.Rule) : List Nat := joinWithSpaces (ruleWords z u) ++ [10]
theorem print_is (z : Vbndam.Room) : Vbndam.printRoom z = z.players.flatMap pLine ++ z.rules.flatMap (rLine z) := by
  unfold Vbndam.printRoom
  rw [List.flatMap_append, List.flatMap_map, List.flatMap_map]
  rfl
theorem flat_len {α : Type} (f : α → List Nat) (k : Nat) : ∀ l : List α, (∀ x ∈ l, (f x).length ≤ k) → (l.flatMap f).length ≤ k * l.length
  | [], _ => Nat.zero_le _
  | x :: l, h => by
    have ih := flat_len f k l fun y hy => h y (List.mem_cons_of_mem _ hy)
    have h0 := h x (List.mem_cons_self ..)
    rw [List.flatMap_cons, List.length_append, List.length_cons, Nat.mul_succ]
    omega
theorem name_few {z : Vbndam.Room} (wf : Wf z) (p : Nat) : (Vbndam.playerName z p).length ≤ 12 := by
  unfold Vbndam.playerName
  cases h : z.players[p]? with
  | none => exact Nat.zero_le _
  | some x => exact (wf.pl x (List.mem_of_getElem? h)).nm
theorem pw_few {p : Vbndam.Player} (h : PlayerOk p) : ∀ w ∈ playerWords p, w.length ≤ 20 := by
  intro w hw
  unfold playerWords at hw
  have h1 := h.nm
  have h2 := dec_len (n := p.weight) (by have := h.wt; omega)
  have a1 : (toBytes "player").length ≤ 20 := by decide
  have a2 : (toBytes "weight").length ≤ 20 := by decide
  simp only [List.mem_cons, List.not_mem_nil, or_false] at hw
  rcases hw with rfl | rfl | rfl | rfl <;> omega
theorem rw_few {z : Vbndam.Room} (wf : Wf z) {u : Vbndam.Rule} (h : RuleOk z.players.length u) : (∀ w ∈ ruleWords z u, w.length ≤ 20) ∧ (ruleWords z u).length ≤ 14 := by
  have a1 : (toBytes "keep").length ≤ 20 := by decide
  have a2 : (toBytes "by").length ≤ 20 := by decide
  have a3 : (toBytes "any").length ≤ 20 := by decide
  have a4 : (toBytes "of").length ≤ 20 := by decide
  have hr := h.req
  have hf := h.few
  have h2 := dec_len (n := u.required) (by omega)
  have hn := name_few wf
  unfold ruleWords
  constructor
  · intro w hw
    rcases List.mem_append.mp hw with hw | hw
    · have := hn u.absent
      simp only [List.mem_cons, List.not_mem_nil, or_false] at hw
      rcases hw with rfl | rfl | rfl <;> omega
    · rcases List.mem_append.mp hw with hw | hw
      · by_cases hlt : u.required < u.substitutes.length
        · rw [if_pos hlt] at hw
          simp only [List.mem_cons, List.not_mem_nil, or_false] at hw
          rcases hw with rfl | rfl | rfl <;> omega
        · rw [if_neg hlt] at hw
          cases hw
      · obtain ⟨p, _, rfl⟩ := List.mem_map.mp hw
        have := hn p
        omega
  · rw [List.length_append, List.length_append, List.length_map]
    have : (if u.required < u.substitutes.length then [toBytes "any", decimalBytes u.required, toBytes "of"] else []).length ≤ 3 := by
      by_cases hlt : u.required < u.substitutes.length
      · rw [if_pos hlt]
        exact Nat.le_refl 3
      · rw [if_neg hlt]
        exact Nat.zero_le _
    have e3 : [toBytes "keep", Vbndam.playerName z u.absent, toBytes "by"].length = 3 := rfl
    omega
theorem pl_few {p : Vbndam.Player} (h : PlayerOk p) : (pLine p).length ≤ 85 := by
  unfold pLine
  have := join_len _ (pw_few h)
  have e : (playerWords p).length = 4 := rfl
  rw [List.length_append, List.length_singleton]
  omega
theorem rl_few {z : Vbndam.Room} (wf : Wf z) {u : Vbndam.Rule} (h : RuleOk z.players.length u) : (rLine z u).length ≤ 295 := by
  unfold rLine
  obtain ⟨h1, h2⟩ := rw_few wf h
  have := join_len _ h1
  rw [List.length_append, List.length_singleton]
  omega
theorem players_few {z : Vbndam.Room} (wf : Wf z) (l : List Vbndam.Player) (h : ∀ p ∈ l, p ∈ z.players) (hl : l.length ≤ 8) : (l.flatMap pLine).length ≤ 680 := by
  have := flat_len pLine 85 l fun p hp => pl_few (wf.pl p (h p hp))
  omega
theorem rules_few {z : Vbndam.Room} (wf : Wf z) (l : List Vbndam.Rule) (h : ∀ p ∈ l, p ∈ z.rules) (hl : l.length ≤ 20) : (l.flatMap (rLine z)).length ≤ 5900 := by
  have := flat_len (rLine z) 295 l fun p hp => rl_few wf (wf.rules p (h p hp))
  omega
theorem print_few {z : Vbndam.Room} (wf : Wf z) : (Vbndam.printRoom z).length ≤ 10000 := by
  rw [print_is, List.length_append]
  have a := players_few wf z.players (fun _ h => h) wf.n8
  have b := rules_few wf z.rules (fun _ h => h) wf.r20
  omega
section
variable {K : PySem.W.Frag} {te : TE} {σ : L2.St} {H : Hp} {E : XK} {ws : List (List Nat)}
theorem el_written (h : EvM te σ H (fun p H => WordsAt H p ws)) (h1 : ws.length ≤ 100) (h2 : ∀ w ∈ ws, w.length ≤ 20) : EvL (tCall spWritten [] E (tCons te tNil)) σ H (vN (joinWithSpaces ws ++ [10])) := fun H1 e Q q =>
  h H1 e _ fun p H2 hp e2 hW => ⟨p, ws, rfl, hW, h1, h2, fun r H3 hr e3 h3 => q r H3 (fresh_back e2 hr) (e2.trans e3) h3⟩
end
section
variable {P : Program} {w : World} {K : PySem.W.Frag} {mg : Str → Option Value} {base : Heap}
theorem ok_canonical (c : Top K mg) : FOk P w K mg base CX0 4 ("canonical", none) p_canonical (spCanonical K) := by
  refine FOk.mk0 c.f_canonical sc_canonical (fun _ _ _ _ _ _ us hl => match us, hl with | [_], _ => rfl) (fun vs H Q E h => ?_) (fun cdv A outer s H vs Q E hr h => ?_)
  · obtain ⟨F, r, z, rfl, _⟩ := h
    rfl
  · obtain ⟨F, r, z, rfl, hroom, wf, k⟩ := h
    have nd := sc_canonical.nd
    obtain ⟨rdx, ap, ar, k1, k2, L⟩ := id hroom
    obtain ⟨ps, hps, hea, _⟩ := L.pl
    obtain ⟨rs, hrs, her⟩ := L.ru
    have n8 := wf.n8
    have r20 := wf.r20
    refine ⟨_, (pss_cons (ps_set (i := 1) nd rfl (.inl rfl) (pe_lst pa_nil))
      (pss_cons (ps_for PassesOwn.never rfl (pi_list (pe_fld (pv 0) rfl)) (pg_name (i := 2) nd rfl (.inl rfl)) (pss_one (ps_set (i := 1) nd rfl (.inl rfl) (pe_op op_cat (pv 1) (pe_cf (ok_written c) (hr.mono (by decide)) c.glo_written pass0 (pa_cons (pe_lst (pa_cons (pe_cf (ok_signs_of c) (hr.mono (by decide)) c.glo_signs_of pass0 (pa_cons pe_str pa_nil)) (pa_cons (pe_fld (pv 2) rfl) (pa_cons (pe_cf (ok_signs_of c) (hr.mono (by decide)) c.glo_signs_of pass0 (pa_cons pe_str pa_nil)) (pa_cons (pe_cf (ok_number_signs c) (hr.mono (by decide)) c.glo_number_signs pass0 (pa_cons (pe_fld (pv 2) rfl) pa_nil)) pa_nil))))) pa_nil))))))
      (pss_cons (ps_for PassesOwn.never rfl (pi_list (pe_fld (pv 0) rfl)) (pg_name (i := 3) nd rfl (.inl rfl)) (pss_one (ps_set (i := 1) nd rfl (.inl rfl) (pe_op op_cat (pv 1) (pe_cf (ok_written c) (hr.mono (by decide)) c.glo_written pass0 (pa_cons (pe_cf (ok_rule_words c) (hr.mono (by decide)) c.glo_rule_words pass0 (pa_cons (pv 0) (pa_cons (pv 3) pa_nil))) pa_nil))))))
      (pss_one (ps_ret (pv 1)))))), ?_⟩
    refine q_asgL (el_lst ea_nil (by decide)) fun f H1 hf e1 hf1 => ?_
    refine q_forA (ev_fld (ev_var rfl) (e1 _ _ k1) c.cls_Room c.no_Room_players (rmF_players _ _)) (sq_of (e1 _ _ hps)) hea.1 (fun pre σ H2 => ∃ g x, σ = [some (.ref r), some (.ref g), x, none] ∧ Ex H H2 ∧ (Ex H H2 → H g = none) ∧ H2 g = some (.lst (vN (pre.flatMap pLine)))) (fun H2 e2 => ⟨f, none, rfl, e1.trans e2, fun _ => hf, e2 _ _ hf1⟩)
      (fun i σ H2 _ q => by
        obtain ⟨g, x, _, e2, _⟩ := q
        exact sq_of (e2 _ _ hps)) (fun i v u σ H2 hv hu q => ?_) (fun σ H2 q => ?_)
    · obtain ⟨g, x, rfl, e2, hgf, hg⟩ := q
      obtain ⟨pa, pdx, pn, rfl, q1, q2, _⟩ := hea.2 i v u hv hu
      have hum := List.mem_of_getElem? hu
      have hpo := wf.pl u hum
      have hfew := players_few wf (z.players.take i) (fun p hp => List.mem_of_mem_take hp) (by rw [List.length_take]; omega)
      have hl := pl_few hpo
      have hwt := hpo.wt
      refine s_asgL (el_catVL (ev_var rfl) hg (el_written (ws := playerWords u) (em_words (ew_L (el_cf1 (ea_cons ev_c ea_nil) (sl_signs (by decide))) (ew_V (ev_fld (ev_var rfl) (e2 _ _ q1) c.cls_Player c.no_Player_name (plF_name _ _)) (e2 _ _ q2) (ew_L (el_cf1 (ea_cons ev_c ea_nil) (sl_signs (by decide))) (ew_L (el_cf1 (ea_cons (ev_fld (ev_var rfl) (e2 _ _ q1) c.cls_Player c.no_Player_weight (plF_weight _ _)) ea_nil) (sl_num (by omega))) ew_nil)))) (by show 4 ≤ 100000; decide)) (by show 4 ≤ 100; decide) (pw_few hpo)) ?_) fun g2 H3 hg2 e3 hg3 => ⟨g2, _, rfl, e2.trans e3, fun _ => fresh_back e2 hg2, ?_⟩
      · rw [vN_len, vN_len]
        have : (joinWithSpaces (playerWords u) ++ [10]).length ≤ 85 := hl
        omega
      · rw [hg3, List.flatMap_append, vN_app (List.flatMap pLine _)]
        show some (HO.lst (_ ++ vN (pLine u))) = some (HO.lst (_ ++ vN (pLine u ++ [])))
        rw [List.append_nil]
    · obtain ⟨g, x, rfl, e2, hgf, hg⟩ := q
      have hpl := players_few wf z.players (fun _ h => h) n8
      refine q_forA (ev_fld (ev_var rfl) (e2 _ _ k1) c.cls_Room c.no_Room_rules (rmF_rules _ _)) (sq_of (e2 _ _ hrs)) her.1 (fun pre σ H3 => ∃ g y, σ = [some (.ref r), some (.ref g), x, y] ∧ Ex H H3 ∧ H g = none ∧ H3 g = some (.lst (vN (z.players.flatMap pLine ++ pre.flatMap (rLine z))))) (fun H3 e3 => ⟨g, none, rfl, e2.trans e3, hgf e2, by rw [e3 _ _ hg]; simp⟩)
        (fun i σ H3 _ q => by
          obtain ⟨g, x, _, e3, _⟩ := q
          exact sq_of (e3 _ _ hrs)) (fun i v u σ H3 hv hu q => ?_) (fun σ H3 q => ?_)
      · obtain ⟨g, y, rfl, e3, hgf, hg⟩ := q
        have hR := her.2 i v u hv hu
        have hum := List.mem_of_getElem? hu
        have hok := wf.rules u hum
        have hfew := rules_few wf (z.rules.take i) (fun p hp => List.mem_of_mem_take hp) (by rw [List.length_take]; omega)
        have hl := rl_few wf hok
        obtain ⟨w1, w2⟩ := rw_few wf hok
        refine s_asgL (el_catVL (ev_var rfl) hg (el_written (ws := ruleWords z u) (em_cf (ea_cons (ev_var rfl) (ea_cons (ev_var rfl) ea_nil)) fun H4 e4 Q' q' _ => ⟨F, r, v, z, u, rfl, hroom.ex (e3.trans e4), wf, hR.ex (e3.trans e4), hok, q'⟩) (by omega) w1) ?_) fun g2 H4 hg2 e4 hg4 => ⟨g2, _, rfl, e3.trans e4, fresh_back e3 hg2, ?_⟩
        · rw [vN_len, vN_len, List.length_append]
          have : (joinWithSpaces (ruleWords z u) ++ [10]).length ≤ 295 := hl
          omega
        · rw [hg4, List.flatMap_append, ← List.append_assoc, vN_app (_ ++ _)]
          show some (HO.lst (_ ++ vN (rLine z u))) = some (HO.lst (_ ++ vN (rLine z u ++ [])))
          rw [List.append_nil]
      · obtain ⟨g, y, rfl, e3, hgf, hg⟩ := q
        rw [← print_is] at hg
        exact ⟨_, rfl, k g H3 hgf e3 hg⟩
theorem ok_print_room (c : Top K mg) : FOk P w K mg base (L2.CX P w) 9 ("Desk", some "print_room") p_Desk_print_room (spOp0 K Vbndam.Call.printRoom) := by
  refine FOk.mk c.f_Desk_print_room sc_Desk_print_room (fun _ _ _ _ _ _ us hl => match us, hl with | [_], _ => rfl) (fun vs H Q E h => ?_) (fun cdv A outer s H vs Q E hr h => ?_)
  · obtain ⟨F, d, st, rfl, _⟩ := h
    rfl
  · obtain ⟨F, d, st, rfl, hd, hD0⟩ := h
    refine ⟨_, (pss_cons (ps_expr (pe_mf0 (ok_need_room c) (hr.mono (by decide)) c.cls_Desk c.me_Desk_need_room (passes_call (takes_of rfl rfl rfl rfl) (fun _ _ _ _ h => h)) (pv 0)))
      (pss_one (ps_ret (pe_cf (ok_told c) (hr.mono (by decide)) c.glo_told pass0 (pa_cons (pe_cf (ok_canonical c) (hr.mono (by decide)) c.glo_canonical pass0 (pa_cons (pe_fld (pv 0) rfl) pa_nil)) pa_nil))))), ?_⟩
    refine q_takeR rfl hd hD0 fun z r dx H1 hst wf e1 hdk hroom hD => ?_
    have hpf := print_few wf
    refine s_retL (el_told (l := Vbndam.printRoom z) (el_cf1 (ea_cons (ev_fld (ev_var rfl) hdk c.cls_Desk c.no_Desk_room (dkF_room _)) ea_nil) fun H2 e2 Q' q' _ => ⟨F, r, z, rfl, hroom.ex e2, wf, q'⟩) (by omega)) fun p H2 hp e2 hp2 => ?_
    exact hD.ro hd (e1.trans e2) (fresh_back e1 hp) hp2
end
end Gs

set_option Elab.async false
set_option linter.all false
set_option maxRecDepth 100000
set_option maxHeartbeats 4000000
/-! Walks: errors of texts. -/
namespace Gs
open PySem PySem.Spec PyProof.Rows L2 Evl
/-- an own error's object made where none is handled: its context is None -/
theorem pmk_oexN {X : Cx} {CX : CXT} {x : Str} {e : Expr} {es : List Expr} {ta : TA} {p pos : Pos} {C fI : Addr} {k : Nat} {fd : FuncData} {ps : List Str} {sp : Sp}
    (T : OexC X.K C)
    (iC : PySem.W.findIn X.K (.ref C) "__init__" = some (some (.ref fI)))
    (tI : PySem.W.typeIn X.K (.ref fI) = some (.type "function"))
    (G : FnOk X.prog X.w X.K X.mg X.base CX k fI fd ps sp) (room : Room (k + 1) X.A)
    (hb : Binds X.K fd ps []) (hx : Passes CX X (fun _ _ _ => False))
    (hm : X.mg x = some (.ref C)) (ha : PA X (e :: es) ta) (hg : Gl X x := by rfl)
    (hdb : (x == ("__debug__" : Str)) = false := by decide)
    (hs1 : starEach (e :: es) X.env = (false, eval e X.env) :: starEach es X.env := by rfl)
    (hs2 : (backTo pos (starEach es X.env)).any (·.1) = false := by rfl) :
    L2N.PMk X (.Call (.Name x p) (e :: es) [] pos) (tMkO C sp [] ta) := by
  intro pins st0 σ H Qx I hh
  have ⟨a1, a2, a3, a4, a5, a6, a7, a8, a9, b0, b1, b2, b3, b4, b5, hC, hv⟩ := T.cls
  apply wpAny_Call_Name_kw
  apply ld_glob I hg hm _ hdb
  refine PySem.W.callWith_K (h₀ := X.base) I.ok.mod.kin T.kC (thn (ha.run pos pins st0 σ H _ I hh) ?_) hs1 hs2
  rintro us ⟨hp, gg, dw, tk, ost⟩ ⟨vs, Ha, Ia, rva, small, qa⟩
  refine ⟨Ia.kIn, ?_⟩
  show wpAny _ _ (call (.ref C) us) _ _ _
  let n := hp.objs.size + 1
  let hp' := (hp.push (PySem.W.kdv_tup us)).push (PySem.HandSPX.excO C hp.objs.size)
  have le : hp.objs.size ≤ n := Nat.le_succ _
  have freshA : Ha n = none := Ia.hok.fresh le
  have qb := qa n freshA
  rw [List.append_nil] at qb
  have grow : ∀ b o, hp.get? b = some o → hp'.get? b = some o := by
    intro b o q
    exact Heap.get?_push_of_some _ (Heap.get?_push_of_some _ q)
  have here : hp'.get? n = some (PySem.HandSPX.excO C hp.objs.size) := by
    show ((hp.push (PySem.W.kdv_tup us)).push (PySem.HandSPX.excO C hp.objs.size)).get? (hp.objs.size + 1) = _
    heap_get
  have Ib : Inv X pins σ (upd Ha n (exo n C none)) ⟨hp', gg, dw, tk, ost⟩ := Ia.laid (t' := tk) (a := n) (o := exo n C none) (h' := hp') grow le (exo_ok here)
  have rvb : Vals (V.ref n :: vs) (Value.ref n :: us) := .cons rfl rva
  have lens : (Value.ref n :: us ++ []).length = ps.length := by
    rw [List.append_nil, ← rvb.length]
    exact G.len _ _ _ _ qb
  have few : us.length ≤ sizeLine := by
    have := Paired.length rva
    rw [sizeLine_eq]
    omega
  have bnd := hb _ (Value.ref n :: us) Ib.kIn lens
  rw [List.append_nil] at bnd
  have inner := G.run _ X.stack _ _ ⟨Value.ref n :: us, []⟩ (Value.ref n :: us) _ _ (fun _ _ _ => False) (room.make C us []) (Ib.env0.make C us []) bnd rvb qb
  apply wpAny_call
  refine PySem.HandSPX.call_own F.excBase_ValueError (fun Y => PySem.HandSPX.refsVE_contains Y a5 hv) (Ia.kIn _ _ hC) (PySem.W.looks_findIn Ia.kIn iC) (fun self => PySem.W.bind_fn Ia.kIn self tI) few ?_
  refine codeAny_mono inner ?_
  rintro r s2 left
  match r, left with
  | .error er, left => exact hx pins σ _ _ er s2 Ib left
  | .ok .next, left => exact left.elim
  | .ok .brk, left => exact left.elim
  | .ok .cont, left => exact left.elim
  | .ok (.ret u), left =>
    obtain ⟨v, Hc, o1, o2, o3, o4, o5, vnon, d, fs, c1, c2, c3, c4⟩ := left
    subst vnon
    obtain ⟨h2, g2, d2, t2, os2⟩ := s2
    have ⟨t0, G2, J, j1, j2, j3, j4⟩ := mk_end0 (d2 := d2) (t2 := t2) Ia le grow o3 o4 o1 o2 c1 c2 c3
    refine ⟨o5, n, _, _, ⟨G2, g2, d2, t2, os2⟩, _, .ref C, some d, rfl, J, j1, j2, j3, ⟨rfl, rfl, ?_⟩, rfl, rfl, j4, rfl, o2, raises_own T.exC T.tyC, c4⟩
    intro ws hw
    cases hw
    rfl
/-! ### promises -/
def bdF (k o : V) : List (Str × V) := [("offset", o), ("kind", k)]
/-- an error of a text: all that stood in B stands as it was -/
def FailsB (K : PySem.W.Frag) (E : XK) (B : Hp) (er : Vbndaa.ParseError) : Prop := ∀ d H', Ex B H' → H' d = some (.xd (bdF (vI er.code) (vI er.offset))) → E (.ref (He.ga K "BadText")) (some d) H'
theorem FailsB.mono {K : PySem.W.Frag} {E : XK} {B B' : Hp} {er : Vbndaa.ParseError} (h : FailsB K E B er) (e : Ex B B') : FailsB K E B' er := fun d H' e2 h2 => h d H' (e.trans e2) h2
def spBadInit (K : PySem.W.Frag) : Sp := fun vs H Q _ => ∃ (a : Addr) (k o : V), vs = [.ref a, k, o] ∧ H a = some (exo a (He.ga K "BadText") none) ∧
  ∀ d, H d = none → d ≠ a → Q .non (upd (upd (upd H d (exd d [("kind", k)])) a (exo a (He.ga K "BadText") (some d))) d (exd d (bdF k o)))
def spCheck (K : PySem.W.Frag) : Sp := fun vs H Q E => ∃ (b : Bool) (k o : Nat), vs = [.bl b, vI k, vI o] ∧ (b = true → ∀ H', Ex H H' → Q .non H') ∧ (b = false → FailsB K E H ⟨k, o⟩)
theorem swap_del2 {H : Hp} {a d : Addr} {C : Addr} {o1 o2 : HO} {fs : List (Str × V)} (ha : H a = none) (hd : upd H a (exo a C none) d = none) : upd (del (upd (upd (upd (upd H a (exo a C none)) d o1) a (exo a C (some d))) d o2) a) d (.xd fs) = upd H d (.xd fs) := by
  have hne : d ≠ a := fun e => by
    rw [e, upd_same] at hd
    cases hd
  funext b
  by_cases hb : b = d
  · rw [hb, upd_same, upd_same]
  · rw [upd_ne hb, upd_ne hb]
    by_cases hba : b = a
    · rw [hba, del_same, ha]
    · rw [del_ne hba, upd_ne hb, upd_ne hba, upd_ne hb, upd_ne hba]
section
variable {P : Program} {w : World} {K : PySem.W.Frag} {mg : Str → Option Value} {base : Heap}
theorem ok_bad_init (c : Top K mg) : FOk P w K mg base CX0 1 ("BadText", some "__init__") p_BadText_init (spBadInit K) := by
  refine FOk.mk0 c.f_BadText_init sc_BadText_init (fun _ _ _ _ _ _ us hl => match us, hl with | [_, _, _], _ => rfl) (fun vs H Q E h => ?_) (fun cdv A outer s H vs Q E hr h => ?_)
  · obtain ⟨a, k, o, rfl, _⟩ := h
    rfl
  · obtain ⟨a, kd, o, rfl, ha, k⟩ := h
    refine ⟨_, (pss_cons (ps_ost (pv 0) (pv 1))
      (pss_one (ps_ost (pv 0) (pv 2)))), ?_⟩
    refine ⟨_, rfl, _, rfl, a, _, rfl, c.badText.o, c.no_BadText_kind, .inl ⟨ha, fun d hd hne => ?_⟩⟩
    refine ⟨_, rfl, _, rfl, a, _, rfl, c.badText.o, c.no_BadText_offset, .inr ⟨d, [("kind", kd)], upd_same, ?_, by show 1 ≤ 900; decide, k d hd hne⟩⟩
    rw [upd_ne hne, upd_same]
theorem ok_check (c : Top K mg) : FOk P w K mg base (L2N.CX P w) 3 ("check", none) p_check (spCheck K) := by
  refine FOk.mk c.f_check sc_check (fun _ _ _ _ _ _ us hl => match us, hl with | [_, _, _], _ => rfl) (fun vs H Q E h => ?_) (fun cdv A outer s H vs Q E hr h => ?_)
  · obtain ⟨b, k, o, rfl, _⟩ := h
    rfl
  · obtain ⟨b, kd, o, rfl, kT, kF⟩ := h
    obtain ⟨fd, bb, kp, G⟩ := ok_bad_init (P := P) (w := w) (base := base) c
    refine ⟨_, pss_one (ps_if (pt_not (pt_val (pv 0))) (pss_one (L2N.ps_raise rfl (L2N.takes_of rfl rfl rfl rfl) (by exact (pmk_oexN c.badText.o c.badText.init c.badText.fn G (hr.mono (by decide)) bb pass0 c.glo_BadText (pa_cons (pv 1) (pa_cons (pv 2) pa_nil)))))) pss_nil), ?_⟩
    refine ⟨_, rfl, b, rfl, ?_⟩
    cases b with
    | true => exact iteF (kT rfl H (Ex.refl H))
    | false =>
      refine iteT ?_
      refine ⟨_, rfl, _, rfl, by show 2 ≤ 1000; decide, fun a ha => ⟨a, _, _, rfl, upd_same, fun d hd hne => ⟨rfl, d, bdF (vI kd) (vI o), ?_, upd_same, ?_, ?_⟩⟩⟩
      · rw [upd_ne hne.symm, upd_same]
      · rw [upd_ne hne] at hd
        exact hd
      · rw [swap_del2 ha hd]
        rw [upd_ne hne] at hd
        exact kF rfl d _ (Ex.new hd) upd_same
end
end Gs

set_option Elab.async false
set_option linter.all false
set_option maxRecDepth 100000
set_option maxHeartbeats 4000000
/-! Walks: words, names, numbers. -/
namespace Gs
open PySem PySem.Spec PyProof.Rows L2 Evl
open Vbndaa (toBytes isLowercase isDigit valueOf)
/-! ### words as data -/
def dI (n : Nat) : PyData := .int (n : Int)
def wd (w : List Nat) : PyData := .list (w.map dI)
theorem wd_all : ∀ w : List Nat, PyData.canLayAll0 (w.map dI) = true ∧ PyData.depthAll (w.map dI) = 0
  | [] => ⟨rfl, rfl⟩
  | n :: w => by
    have ih := wd_all w
    refine ⟨?_, ?_⟩
    · rw [List.map_cons, PyData.canLayAll0, ih.1]
      unfold dI
      rw [PyData.canLay0]
      rfl
    · rw [List.map_cons, PyData.depthAll, ih.2]
      unfold dI
      rw [PyData.depth]
      rfl
theorem wd_can (w : List Nat) : (wd w).canLay0 = true := by
  unfold wd
  rw [PyData.canLay0]
  exact (wd_all w).1
theorem wd_depth (w : List Nat) : (wd w).depth = 1 := by
  unfold wd
  rw [PyData.depth, (wd_all w).2]
theorem wd_shaped (w : List Nat) : SeqAt.shaped (wd w) = true := by
  unfold SeqAt.shaped
  rw [wd_can, wd_depth]
  rfl
theorem wds_all : ∀ ws : List (List Nat), PyData.canLayAll0 (ws.map wd) = true ∧ PyData.depthAll (ws.map wd) ≤ 1
  | [] => ⟨rfl, Nat.zero_le _⟩
  | w :: ws => by
    have ih := wds_all ws
    refine ⟨?_, ?_⟩
    · rw [List.map_cons, PyData.canLayAll0, ih.1, wd_can]
      rfl
    · rw [List.map_cons, PyData.depthAll, wd_depth]
      exact Nat.max_le.mpr ⟨Nat.le_refl _, ih.2⟩
theorem wds_shaped (ws : List (List Nat)) : SeqAt.shaped (.list (ws.map wd)) = true := by
  unfold SeqAt.shaped
  have h := wds_all ws
  rw [PyData.canLay0, PyData.depth, h.1, decide_eq_true (show PyData.depthAll (ws.map wd) + 1 ≤ 64 by omega)]
  rfl
theorem wd_eqvAll : ∀ a b : List Nat, PyData.eqvAll (a.map dI) (b.map dI) = decide (a = b)
  | [], [] => by
    rw [List.map_nil, PyData.eqvAll]
    rfl
  | [], _ :: _ => by
    rw [List.map_nil, List.map_cons, PyData.eqvAll]
    rfl
  | _ :: _, [] => by
    rw [List.map_nil, List.map_cons, PyData.eqvAll]
    rfl
  | x :: a, y :: b => by
    rw [List.map_cons, List.map_cons, PyData.eqvAll, wd_eqvAll a b]
    unfold dI
    rw [PyData.eqv]
    by_cases h : x = y
    · subst h
      simp
    · have h2 : ¬ (x : Int) = (y : Int) := by omega
      simp [h, h2]
theorem wd_eqv (a b : List Nat) : PyData.eqv (wd a) (wd b) = decide (a = b) := by
  unfold wd
  rw [PyData.eqv]
  exact wd_eqvAll a b
theorem dp_ints {K : PySem.W.Frag} {H : Hp} : ∀ w : List Nat, DpAll K H (vN w) (w.map dI)
  | [] => .nil
  | n :: w => .cons (show Dp K H (vI n) (dI n) from .int _) (dp_ints w)
theorem dp_word {K : PySem.W.Frag} {H : Hp} {p : Addr} {w : List Nat} (h : H p = some (.lst (vN w))) : Dp K H (.ref p) (wd w) := .lst (sq_of h) (dp_ints w)
theorem dp_words {K : PySem.W.Frag} {H : Hp} : ∀ {xs : List V} {ws : List (List Nat)}, EachAt (WordAt H) xs ws → DpAll K H xs (ws.map wd)
  | [], [], _ => .nil
  | [], _ :: _, h => by have := h.1; simp at this
  | _ :: _, [], h => by have := h.1; simp at this
  | x :: xs, w :: ws, h => by
    obtain ⟨p, rfl, hp⟩ := h.2 0 x w rfl rfl
    exact .cons (dp_word hp) (dp_words ⟨by have := h.1; simpa using this, fun i v q a b => h.2 (i + 1) v q (by simpa using a) (by simpa using b)⟩)
theorem any_wd (ws : List (List Nat)) (w : List Nat) : ((ws.map wd).any fun z => PyData.eqv z (wd w)) = ws.any fun r => decide (r = w) := by
  rw [List.any_map]
  refine congrArg (fun f => ws.any f) (funext fun r => ?_)
  exact wd_eqv r w
section
variable {K : PySem.W.Frag} {te tb : TE} {σ : L2.St} {H : Hp} {p : Addr} {w u : List Nat} {xs : List V} {tl : TE} {D : Ends} {tz : TS} {P : Addr → Hp → Prop}
theorem ev_eqW (h : Ev te σ H (.ref p)) (hp : H p = some (.lst (vN w))) (h2 : EvL tb σ H (vN u)) : Ev (tOp (rEqD K) te tb) σ H (.bl (decide (w = u))) :=
  ev_opL h h2 fun q H1 hq e H2 e2 Q k => ⟨wd w, wd u, dp_word (e2 _ _ (e _ _ hp)), dp_word (e2 _ _ hq), wd_shaped w, wd_shaped u, by rw [wd_eqv]; exact k H2 (Ex.refl _)⟩
theorem ev_chain {r r' : R2} {ta tc : TE} {x y z : V} {a b : Bool} (ha : Ev ta σ H x) (hb : Ev tb σ H y) (hc : a = true → Ev tc σ H z) (h1 : RV r x y H (.bl a)) (h2 : a = true → RV r' y z H (.bl b)) : Ev (tChain r r' ta tb tc) σ H (.bl (a && b)) := fun H1 e Q q =>
  ha H1 e _ fun H2 e2 => hb H2 (e.trans e2) _ fun H3 e3 => h1 H3 ((e.trans e2).trans e3) _ fun H4 e4 => ⟨a, rfl, by
    have e14 := (e2.trans e3).trans e4
    cases a with
    | false => exact iteF (q H4 e14)
    | true => exact iteT (hc rfl H4 (e.trans e14) _ fun H5 e5 => h2 rfl H5 ((e.trans e14).trans e5) Q fun H6 e6 => q H6 ((e14.trans e5).trans e6))⟩
theorem ev_eqNil (h : Ev te σ H (.ref p)) (hp : H p = some (.lst xs)) : Ev (tOp (rEqNil K) te (tLst tNil)) σ H (.bl xs.isEmpty) :=
  ev_opL h (el_lst ea_nil (by decide)) fun q H1 hq e H2 e2 Q k => ⟨p, q, xs, rfl, rfl, sq_of (e2 _ _ (e _ _ hp)), sq_of (e2 _ _ hq), k H2 (Ex.refl _)⟩
theorem ev_neNil (h : Ev te σ H (.ref p)) (hp : H p = some (.lst xs)) : Ev (tOp (rNeNil K) te (tLst tNil)) σ H (.bl (!xs.isEmpty)) :=
  ev_opL h (el_lst ea_nil (by decide)) fun q H1 hq e H2 e2 Q k => ⟨p, q, xs, rfl, rfl, sq_of (e2 _ _ (e _ _ hp)), sq_of (e2 _ _ hq), k H2 (Ex.refl _)⟩
/-- xs.append(something new) -/
theorem s_appM {l : Addr} (hl : H l = some (.lst xs)) (ha : Ev tl σ H (.ref l)) (h : EvM te σ H P) (hz : xs.length < 100000) (k : ∀ p H1, H p = none → Ex H H1 → P p H1 → D.nx σ (upd H1 l (.lst (xs ++ [.ref p])))) :
    tDrop (tBM K "list" rAppend tl (tCons te tNil)) D σ H := ha H (Ex.refl H) _ fun H1 e1 =>
  ⟨Or.inl ⟨rfl, xs, sq_of (e1 l _ hl)⟩, h H1 e1 _ fun p H2 hp e2 h2 => ⟨l, xs, .ref p, rfl, rfl, e2 l _ (e1 l _ hl), sz_lt hz, k p H2 (fresh_back e1 hp) (e1.trans e2) h2⟩⟩
theorem q_appM {l : Addr} (hl : H l = some (.lst xs)) (ha : Ev tl σ H (.ref l)) (h : EvM te σ H P) (hz : xs.length < 100000) (k : ∀ p H1, H p = none → Ex H H1 → P p H1 → tz D σ (upd H1 l (.lst (xs ++ [.ref p])))) :
    tSeq (tDrop (tBM K "list" rAppend tl (tCons te tNil))) tz D σ H := s_appM (D := { D with nx := tz D }) hl ha h hz k
end
/-! ### promises -/
def spByte (f : Nat → Bool) : Sp := fun vs H Q _ => ∃ b : Nat, vs = [vI b] ∧ ∀ H', Ex H H' → Q (.bl (f b)) H'
def spIsWord : Sp := fun vs H Q _ => ∃ (p : Addr) (w : List Nat) (x : Str), vs = [.ref p, .str x] ∧ H p = some (.lst (vN w)) ∧ x.cps.size ≤ 1000 ∧ ∀ H', Ex H H' → Q (.bl (decide (w = x.cps.toList))) H'
def spWordB (f : List Nat → Bool) : Sp := fun vs H Q _ => ∃ (p : Addr) (w : List Nat), vs = [.ref p] ∧ H p = some (.lst (vN w)) ∧ w.length ≤ 2000 ∧ ∀ H', Ex H H' → Q (.bl (f w)) H'
def spNumberOf : Sp := fun vs H Q _ => ∃ (p : Addr) (w : List Nat), vs = [.ref p] ∧ H p = some (.lst (vN w)) ∧ numOk w = true ∧ ∀ H', Ex H H' → Q (vI (valueOf w)) H'
section
variable {H : Hp} {p : Addr} {w : List Nat}
theorem sv_byte {f : Nat → Bool} {b : Nat} : SpV (spByte f) ([vI b] ++ []) H (.bl (f b)) := fun H1 e Q q _ => ⟨b, rfl, q⟩
theorem sv_word {s : String} (h : H p = some (.lst (vN w))) (hs : (toBytes s).length ≤ 1000) : SpV spIsWord ([.ref p, .str (Str.ofString s)] ++ []) H (.bl (decide (w = toBytes s))) := fun H1 e Q q _ => ⟨p, w, Str.ofString s, rfl, e _ _ h, by rw [← Array.length_toList, bytes_str]; exact hs, by rw [bytes_str]; exact q⟩
theorem sv_wordB {f : List Nat → Bool} (h : H p = some (.lst (vN w))) (hs : w.length ≤ 2000) : SpV (spWordB f) ([.ref p] ++ []) H (.bl (f w)) := fun H1 e Q q _ => ⟨p, w, rfl, e _ _ h, hs, q⟩
theorem sv_numberOf (h : H p = some (.lst (vN w))) (hn : numOk w = true) : SpV spNumberOf ([.ref p] ++ []) H (vI (valueOf w)) := fun H1 e Q q _ => ⟨p, w, rfl, e _ _ h, hn, q⟩
end
theorem chain_and {a b : Bool} {Q : VK} {H : Hp} (k : ∀ H', Ex H H' → Q (.bl (a && b)) H') : ∀ (H' : Hp), Ex H H' → if a = true then Q (.bl b) H' else Q (.bl false) H' := fun H' e => by
  cases a
  · exact iteF (k H' e)
  · exact iteT (k H' e)
section
variable {P : Program} {w : World} {K : PySem.W.Frag} {mg : Str → Option Value} {base : Heap}
theorem ok_is_letter (c : Top K mg) : FOk P w K mg base CX0 1 ("is_letter", none) p_is_letter (spByte isLowercase) := by
  refine FOk.mk0 c.f_is_letter sc_is_letter (fun _ _ _ _ _ _ us hl => match us, hl with | [_], _ => rfl) (fun vs H Q E h => ?_) (fun cdv A outer s H vs Q E hr h => ?_)
  · obtain ⟨b, rfl, _⟩ := h
    rfl
  · obtain ⟨b, rfl, k⟩ := h
    refine ⟨_, pss_one (ps_ret (pe_chain op_le op_le pe_int (pv 0) pe_int)), ?_⟩
    refine s_ret (ev_is (ev_chain (a := decide ((97 : Int) ≤ (b : Int))) (b := decide ((b : Int) ≤ 122)) ev_c (ev_var rfl) (fun _ => ev_c) rv_I0 (fun _ => rv_I0)) ?_) k
    unfold isLowercase
    rw [show decide (97 ≤ b) = decide ((97 : Int) ≤ (b : Int)) from decide_eq_decide.mpr (by omega), show decide (b ≤ 122) = decide ((b : Int) ≤ 122) from decide_eq_decide.mpr (by omega)]
theorem ok_is_digit (c : Top K mg) : FOk P w K mg base CX0 1 ("is_digit", none) p_is_digit (spByte isDigit) := by
  refine FOk.mk0 c.f_is_digit sc_is_digit (fun _ _ _ _ _ _ us hl => match us, hl with | [_], _ => rfl) (fun vs H Q E h => ?_) (fun cdv A outer s H vs Q E hr h => ?_)
  · obtain ⟨b, rfl, _⟩ := h
    rfl
  · obtain ⟨b, rfl, k⟩ := h
    refine ⟨_, pss_one (ps_ret (pe_chain op_le op_le (pe_gi c.int_ZERO) (pv 0) (pe_op op_add (pe_gi c.int_ZERO) pe_int))), ?_⟩
    refine s_ret (ev_is (ev_chain (a := decide ((48 : Int) ≤ (b : Int))) (b := decide ((b : Int) ≤ 48 + 9)) ev_c (ev_var rfl) (fun _ => ev_op ev_c ev_c rv_I0) rv_I0 (fun _ => rv_I0)) ?_) k
    unfold isDigit
    rw [show decide (48 ≤ b) = decide ((48 : Int) ≤ (b : Int)) from decide_eq_decide.mpr (by omega), show decide (b ≤ 57) = decide ((b : Int) ≤ 48 + 9) from decide_eq_decide.mpr (by omega)]
theorem ok_is_word (c : Top K mg) : FOk P w K mg base CX0 2 ("is_word", none) p_is_word (spIsWord) := by
  refine FOk.mk0 c.f_is_word sc_is_word (fun _ _ _ _ _ _ us hl => match us, hl with | [_, _], _ => rfl) (fun vs H Q E h => ?_) (fun cdv A outer s H vs Q E hr h => ?_)
  · obtain ⟨p, u, x, rfl, _⟩ := h
    rfl
  · obtain ⟨p, u, x, rfl, hp, hx, k⟩ := h
    refine ⟨_, pss_one (ps_ret (pe_cmpR (op_eqD hr.units) (pv 0) (pe_cf (ok_signs_of c) (hr.mono (by decide)) c.glo_signs_of pass0 (pa_cons (pv 1) pa_nil)) (nomark _))), ?_⟩
    exact s_ret (ev_eqW (ev_var rfl) hp (el_cf1 (ea_cons (ev_var rfl) ea_nil) fun H1 e Q' q' _ => ⟨x, rfl, hx, q'⟩)) k
theorem ok_number_of (c : Top K mg) : FOk P w K mg base CX0 1 ("number_of", none) p_number_of (spNumberOf) := by
  refine FOk.mk0 c.f_number_of sc_number_of (fun _ _ _ _ _ _ us hl => match us, hl with | [_], _ => rfl) (fun vs H Q E h => ?_) (fun cdv A outer s H vs Q E hr h => ?_)
  · obtain ⟨p, u, rfl, _⟩ := h
    rfl
  · obtain ⟨p, u, rfl, hp, hn, k⟩ := h
    have nd := sc_number_of.nd
    refine ⟨_, (pss_cons (ps_set (i := 1) nd rfl (.inl rfl) pe_int)
      (pss_cons (ps_for PassesOwn.never rfl (pi_list (pv 0)) (pg_name (i := 2) nd rfl (.inl rfl)) (pss_one (ps_set (i := 1) nd rfl (.inl rfl) (pe_op op_sub (pe_op op_add (pe_op op_mul pe_int (pv 1)) (pv 2)) (pe_gi c.int_ZERO)))))
      (pss_one (ps_ret (pv 1))))), ?_⟩
    obtain ⟨h4, hd⟩ := numOk_facts hn
    refine q_asg (v := vI 0) ev_c fun H1 e1 => ?_
    refine q_forA (ev_var rfl) (sq_of (e1 _ _ hp)) (vN_len u) (fun pre σ H2 => ∃ x, σ = [some (.ref p), some (vI (valueOf pre)), x] ∧ Ex H H2) (fun H2 e2 => ⟨none, rfl, e1.trans e2⟩)
      (fun i σ H2 _ q => by
        obtain ⟨x, _, e2⟩ := q
        exact sq_of (e2 _ _ hp)) (fun i v c' σ H2 hv hc q => ?_) (fun σ H2 q => ?_)
    · obtain ⟨x, rfl, e2⟩ := q
      have hv0 : v = vI c' := by
        obtain ⟨m, hm, rfl⟩ := vN_of hv
        rw [hc] at hm
        cases hm
        rfl
      subst hv0
      have hdt : (u.take i).all isDigit = true := List.all_eq_true.mpr fun y hy => List.all_eq_true.mp hd y (List.mem_of_mem_take hy)
      have hval := value_few hdt (by rw [List.length_take]; omega)
      have hcd := List.all_eq_true.mp hd c' (List.mem_of_getElem? hc)
      unfold isDigit at hcd
      rw [Bool.and_eq_true, decide_eq_true_eq, decide_eq_true_eq] at hcd
      refine s_asg (v := vI (valueOf (u.take i ++ [c']))) (ev_is (ev_op (ev_op (ev_is (w := vI (10 * valueOf (u.take i))) (ev_op ev_c (ev_var rfl) (rv_I (mul_small (by omega)))) (vI_mul 10 _)) (ev_var rfl) rv_I0) ev_c rv_I0) (by rw [value_snoc]; exact congrArg V.int (by omega))) fun H3 e3 => ⟨_, rfl, e2.trans e3⟩
    · obtain ⟨x, rfl, e2⟩ := q
      exact ⟨_, rfl, k H2 e2⟩
theorem first_at {u : List Nat} (h : 1 ≤ u.length) : atI (vN u) 0 = some (vI (u.getD 0 0)) := by
  cases u with
  | nil => exact absurd h (by decide)
  | cons c r => exact atI_nat (j := 0) rfl
theorem ok_is_number (c : Top K mg) : FOk P w K mg base CX0 2 ("is_number", none) p_is_number (spWordB numOk) := by
  refine FOk.mk0 c.f_is_number sc_is_number (fun _ _ _ _ _ _ us hl => match us, hl with | [_], _ => rfl) (fun vs H Q E h => ?_) (fun cdv A outer s H vs Q E hr h => ?_)
  · obtain ⟨p, u, rfl, _⟩ := h
    rfl
  · obtain ⟨p, u, rfl, hp, hl, k⟩ := h
    have nd := sc_is_number.nd
    refine ⟨_, (pss_cons (ps_if (PW.pt (pw_or (pt_not (pt_chain op_le op_le pe_int (pe_callB call_len_seq (by rfl) c.free_len PySem.boot_len (pa_cons (pv 0) pa_nil)) (pe_gi c.int_MOST_DIGITS))) (pw_or1 (pt_not (pt_val (pe_callB (cr_all rfl) (by rfl) c.free_all (by decide +kernel) (pa_cons (pe_lc (own := [("byte", 1)]) (g := (gName 1)) rfl nd (pi_list (pv 0)) (blkOk_by (N := n_is_number) (sc := defScope s_is_number) (by decide +kernel)) (fun _ _ _ _ _ => by exact ((pg_name (i := 1) nd rfl (.inl rfl)))) (fun _ _ _ _ _ => pts_nil) (fun _ _ _ _ _ => by exact ((pe_cf (ok_is_digit c) (hr.mono (by decide)) c.glo_is_digit pass0 (pa_cons (pv 1) pa_nil))))) pa_nil))))))) (pss_one (ps_ret pe_bl)) pss_nil)
      (pss_one (ps_ret (pe_or (pe_cmpR op_eq (pe_callB call_len_seq (by rfl) c.free_len PySem.boot_len (pa_cons (pv 0) pa_nil)) pe_int (nomark _)) (pe_one (pe_cmpR op_ne (pe_ix ix_list (pv 0) pe_int (fun _ _ => rfl)) (pe_gi c.int_ZERO) (nomark _))))))), ?_⟩
    have hlen : ∀ {H1 : Hp}, Ex H H1 → Ev (tCB (rLenS K) (tCons (tVar 0) tNil)) [some (.ref p), none] H1 (vI u.length) := fun e => ev_is (ev_len (ev_var rfl) (sq_of (e _ _ hp))) (by rw [vN_len])
    refine q_when (b := !(decide (1 ≤ u.length) && decide (u.length ≤ 4)) || !(u.all isDigit)) (et_or (et_not (et_test (ev_is (ev_chain (a := decide ((1 : Int) ≤ (u.length : Int))) (b := decide ((u.length : Int) ≤ 4)) ev_c (hlen (Ex.refl _)) (fun _ => ev_c) rv_I0 (fun _ => rv_I0)) ?_))) (fun _ => et_not (et_B (ev_is (ev_allN (l := u.map isDigit) ?_) (by rw [all_id]))))) (fun hb H1 e1 => ?_) (fun hb H1 e1 => ?_)
    · rw [show decide (1 ≤ u.length) = decide ((1 : Int) ≤ (u.length : Int)) from decide_eq_decide.mpr (by omega), show decide (u.length ≤ 4) = decide ((u.length : Int) ≤ 4) from decide_eq_decide.mpr (by omega)]
    · rw [← all_map_bl]
      exact el_lcA (l := u) (enc := vI) (fun _ => true) _ (ev_var rfl) (sq_of hp) (by omega) (fun _ => rfl) (fun _ _ _ _ => et_yes) fun c' hc H1 e1 _ => ev_cf (ea_cons (ev_var rfl) ea_nil) sv_byte
    · refine s_ret ev_c fun H2 e2 => ?_
      have kk := k H2 (e1.trans e2)
      have : numOk u = false := by
        unfold numOk
        rw [← Bool.not_and, Bool.not_eq_true'] at hb
        rw [hb, Bool.false_and]
      rw [this] at kk
      exact kk
    · rw [← Bool.not_and, Bool.not_eq_false'] at hb
      have h1 : 1 ≤ u.length := by
        rw [Bool.and_eq_true, Bool.and_eq_true] at hb
        exact of_decide_eq_true hb.1.1
      refine s_ret (ev_is (ev_orV (a := decide (vI u.length = .int 1)) (ev_op (hlen e1) ev_c (rv_eq rfl)) (fun _ => ev_op (ev_op (ev_var rfl) ev_c (rv_ixL (sq_of (e1 _ _ hp)) (first_at h1))) ev_c (rv_ne rfl))) (w := .bl (numOk u)) ?_) fun H2 e2 => k H2 (e1.trans e2)
      unfold numOk
      rw [hb, Bool.true_and]
      have a1 : decide (vI u.length = V.int 1) = decide (u.length = 1) := vI_eq u.length 1
      have a2 : decide (vI (u.getD 0 0) = V.int 48) = decide (u.getD 0 0 = 48) := vI_eq (u.getD 0 0) 48
      rw [a1, a2]
theorem ok_is_name (c : Top K mg) : FOk P w K mg base CX0 3 ("is_name", none) p_is_name (spWordB nameOk) := by
  refine FOk.mk0 c.f_is_name sc_is_name (fun _ _ _ _ _ _ us hl => match us, hl with | [_], _ => rfl) (fun vs H Q E h => ?_) (fun cdv A outer s H vs Q E hr h => ?_)
  · obtain ⟨p, u, rfl, _⟩ := h
    rfl
  · obtain ⟨p, u, rfl, hp, hl, k⟩ := h
    have nd := sc_is_name.nd
    refine ⟨_, (pss_cons (ps_if (PW.pt (pw_or (pt_not (pt_chain op_le op_le pe_int (pe_callB call_len_seq (by rfl) c.free_len PySem.boot_len (pa_cons (pv 0) pa_nil)) (pe_gi c.int_LONGEST_NAME))) (pw_or1 (pt_not (pt_val (pe_cf (ok_is_letter c) (hr.mono (by decide)) c.glo_is_letter pass0 (pa_cons (pe_ix ix_list (pv 0) pe_int (fun _ _ => rfl)) pa_nil))))))) (pss_one (ps_ret pe_bl)) pss_nil)
      (pss_cons (ps_if (pt_not (pt_val (pe_callB (cr_all rfl) (by rfl) c.free_all (by decide +kernel) (pa_cons (pe_lc (own := [("byte", 1)]) (g := (gName 1)) rfl nd (pi_list (pv 0)) (blkOk_by (N := n_is_name) (sc := defScope s_is_name) (by decide +kernel)) (fun _ _ _ _ _ => by exact ((pg_name (i := 1) nd rfl (.inl rfl)))) (fun _ _ _ _ _ => pts_nil) (fun _ _ _ _ _ => by exact ((pe_or (pe_cf (ok_is_letter c) (hr.mono (by decide)) c.glo_is_letter pass0 (pa_cons (pv 1) pa_nil)) (pe_one (pe_cf (ok_is_digit c) (hr.mono (by decide)) c.glo_is_digit pass0 (pa_cons (pv 1) pa_nil))))))) pa_nil)))) (pss_one (ps_ret pe_bl)) pss_nil)
      (pss_one (ps_ret (pe_not (pe_callB (cr_any rfl) (by rfl) c.free_any (by decide +kernel) (pa_cons (pe_lc (own := [("text", 2)]) (g := (gName 2)) rfl nd (pi_tup (pe_gr c.glo_RESERVED)) (blkOk_by (N := n_is_name) (sc := defScope s_is_name) (by decide +kernel)) (fun _ _ _ _ _ => by exact ((pg_name (i := 2) nd rfl (.inl rfl)))) (fun _ _ _ _ _ => pts_nil) (fun _ _ _ _ _ => by exact ((pe_cf (ok_is_word c) (hr.mono (by decide)) c.glo_is_word pass0 (pa_cons (pv 0) (pa_cons (pv 2) pa_nil)))))) pa_nil))))))), ?_⟩
    have hlen : Ev (tCB (rLenS K) (tCons (tVar 0) tNil)) [some (.ref p), none, none] H (vI u.length) := ev_is (ev_len (ev_var rfl) (sq_of hp)) (by rw [vN_len])
    have no : ∀ (H1 : Hp), Ex H H1 → nameOk u = false → Q (.bl false) H1 := fun H1 e hn => by
      have kk := k H1 e
      rw [hn] at kk
      exact kk
    refine q_when (b := !(decide (1 ≤ u.length) && decide (u.length ≤ 12)) || !(isLowercase (u.getD 0 0))) (et_or (et_not (et_test (ev_is (ev_chain (a := decide ((1 : Int) ≤ (u.length : Int))) (b := decide ((u.length : Int) ≤ 12)) ev_c hlen (fun _ => ev_c) rv_I0 (fun _ => rv_I0)) ?_))) (fun hb => et_not (et_B (ev_cf (ea_cons (ev_op (ev_var rfl) ev_c (rv_ixL (sq_of hp) (first_at ?_))) ea_nil) sv_byte)))) (fun hb H1 e1 => ?_) (fun hb H1 e1 => ?_)
    · rw [show decide (1 ≤ u.length) = decide ((1 : Int) ≤ (u.length : Int)) from decide_eq_decide.mpr (by omega), show decide (u.length ≤ 12) = decide ((u.length : Int) ≤ 12) from decide_eq_decide.mpr (by omega)]
    · rw [Bool.not_eq_false', Bool.and_eq_true] at hb
      exact of_decide_eq_true hb.1
    · refine s_ret ev_c fun H2 e2 => no H2 (e1.trans e2) ?_
      unfold nameOk
      rw [← Bool.not_and, Bool.not_eq_true'] at hb
      rw [← Bool.and_assoc, hb, Bool.false_and]
    · rw [← Bool.not_and, Bool.not_eq_false'] at hb
      refine q_when (b := !(u.all fun c => isLowercase c || isDigit c)) (et_not (et_B (ev_is (ev_allN (l := u.map fun c => isLowercase c || isDigit c) ?_) (by rw [all_id])))) (fun hb2 H2 e2 => ?_) (fun hb2 H2 e2 => ?_)
      · rw [← all_map_bl]
        exact el_lcA (l := u) (enc := vI) (fun _ => true) _ (ev_var rfl) (sq_of (e1 _ _ hp)) (by omega) (fun _ => rfl) (fun _ _ _ _ => et_yes) fun c' hc H2 e2 _ => ev_orV (ev_cf (ea_cons (ev_var rfl) ea_nil) sv_byte) fun _ => ev_cf (ea_cons (ev_var rfl) ea_nil) sv_byte
      · refine s_ret ev_c fun H3 e3 => no H3 ((e1.trans e2).trans e3) ?_
        rw [Bool.not_eq_true'] at hb2
        unfold nameOk
        rw [hb2, Bool.false_and, Bool.and_false, Bool.and_false]
      · rw [Bool.not_eq_false'] at hb2
        have e12 := e1.trans e2
        refine s_ret (ev_is (ev_notV (ev_anyN (l := Vbndam.reservedWords.map fun r => decide (u = r)) ?_)) (w := .bl (nameOk u)) ?_) fun H3 e3 => k H3 (e12.trans e3)
        · have eq : vB (Vbndam.reservedWords.map fun r => decide (u = r)) = given 4 (fun _ => true) (fun i => .bl (decide (u = toBytes (["by", "any", "of", "weight"].getD i "")))) := by
            rw [given_all]
            rfl
          rw [eq]
          refine el_lcW (J := Itt K (He.ga K "RESERVED")) (n := (tv_RESERVED.map (He.Dv.v K)).length) (G := fun H => SqT K H (He.ga K "RESERVED") (tv_RESERVED.map (He.Dv.v K))) (fun _ => true) _ (fun i => [some (.ref p), none, some (.str (Str.ofString (["by", "any", "of", "weight"].getD i "")))]) walk_tup
            (fun H3 e3 R q => ⟨_, rfl, ⟨_, c.tup_RESERVED H3⟩, q H3 (Ex.refl _)⟩) (fun H3 _ => c.tup_RESERVED H3) (by show 4 ≤ 40000; decide) (fun _ _ => rfl) (fun i v H3 H4 hi e3 y => ?_) (fun _ _ _ _ => et_yes) (fun i H3 hi e3 _ => ?_)
          · obtain ⟨rfl, hx⟩ := y
            refine ⟨Ex.refl _, fun R q => ?_⟩
            match i, hi, hx, q with
            | 0, _, hx, q =>
              cases hx
              exact q
            | 1, _, hx, q =>
              cases hx
              exact q
            | 2, _, hx, q =>
              cases hx
              exact q
            | 3, _, hx, q =>
              cases hx
              exact q
          · refine ev_cf (ea_cons (ev_var rfl) (ea_cons (ev_var rfl) ea_nil)) (sv_word ((e12.trans e3) _ _ hp) ?_)
            match i, hi with
            | 0, _ => decide
            | 1, _ => decide
            | 2, _ => decide
            | 3, _ => decide
        · unfold nameOk
          rw [hb2, Bool.true_and]
          rw [Bool.and_eq_true] at hb
          have hid : ((Vbndam.reservedWords.map fun r => decide (u = r)).any id) = Vbndam.reservedWords.any fun r => decide (u = r) := by
            rw [List.any_map]
            rfl
          rw [hid, hb.1, hb.2, Bool.true_and, Bool.true_and]
end
end Gs

set_option Elab.async false
set_option linter.all false
set_option maxRecDepth 100000
set_option maxHeartbeats 4000000
/-! Walks: objects made, lines of tokens. -/
namespace Gs
open PySem PySem.Spec PyProof.Rows L2 Evl
open Vbndaa (toBytes Token splitAtByte)
/-! ### objects made -/
def spI (K : PySem.W.Frag) (C : Str) (n : Nat) (fs : List V → List (Str × V)) : Sp := fun vs H Q _ => ∃ (x dx : Addr) (as : List V), vs = .ref x :: as ∧ as.length = n ∧ H x = some (.ins (He.ga K C) dx []) ∧ Q .non (upd H x (.ins (He.ga K C) dx (fs as)))
def f2 (f g : Str) (as : List V) : List (Str × V) := match as with
  | [a, b] => [(f, a), (g, b)]
  | _ => []
def f3 (f g k : Str) (as : List V) : List (Str × V) := match as with
  | [a, b, c] => [(f, a), (g, b), (k, c)]
  | _ => []
theorem putF_nil (f : Str) (v : V) : putF f v [] = [(f, v)] := rfl
theorem putF_ne {f g : Str} {v x : V} {r : List (Str × V)} (h : g ≠ f) : putF f v ((g, x) :: r) = (g, x) :: putF f v r := by
  show (if g = f then _ else _) = _
  rw [if_neg h]
def EvAP (ta : TA) (σ : L2.St) (H : Hp) (P : List V → Hp → Prop) : Prop := ∀ H1, Ex H H1 → ∀ Q : List V → Hp → Prop, (∀ vs H2, Ex H1 H2 → P vs H2 → Q vs H2) → ta σ H1 Q
section
variable {K : PySem.W.Frag} {te tb : TE} {ta : TA} {σ : L2.St} {H : Hp} {E : XK} {vs : List V} {C : Str} {n : Nat} {fs : List V → List (Str × V)} {P : List V → Hp → Prop}
theorem ep_of (h : EvA ta σ H vs) : EvAP ta σ H (fun ws _ => ws = vs) := fun H1 e Q q => h H1 e Q fun H2 e2 => q vs H2 e2 rfl
theorem ep_L {xs : List V} (h : EvL te σ H xs) (ha : EvA ta σ H vs) : EvAP (tCons te ta) σ H (fun ws H' => ∃ p, ws = .ref p :: vs ∧ H' p = some (.lst xs)) := fun H1 e Q q =>
  h H1 e _ fun p H2 hp e2 h2 => ha H2 (e.trans e2) _ fun H3 e3 => q _ H3 (e2.trans e3) ⟨p, rfl, e3 _ _ h2⟩
theorem ep_VL {v : V} {xs : List V} (h1 : Ev tb σ H v) (h : EvL te σ H xs) : EvAP (tCons tb (tCons te tNil)) σ H (fun ws H' => ∃ p, ws = [v, .ref p] ∧ H' p = some (.lst xs) ∧ H p = none) := fun H1 e Q q =>
  h1 H1 e _ fun H2 e2 => h H2 (e.trans e2) _ fun p H3 hp e3 h3 => q _ H3 (e2.trans e3) ⟨p, rfl, h3, fresh_back (e.trans e2) hp⟩
theorem em_mk (h : EvAP ta σ H P) (hn : ∀ vs H', P vs H' → vs.length = n) (hP : ∀ vs H1 H2, Ex H1 H2 → P vs H1 → P vs H2) : EvM (tMake (He.ga K C) (spI K C n fs) [] E ta) σ H (fun x H' => H x = none ∧ ∃ dx vs, P vs H' ∧ H' x = some (.ins (He.ga K C) dx (fs vs))) := fun H1 e Q q =>
  h H1 e _ fun vs H2 e2 hp => fun x dx hx hdx hne => ⟨x, dx, vs, by rw [List.append_nil], hn vs H2 hp, upd_same, by
    rw [upd_upd]
    have ex1 : Ex H2 (upd (upd H2 dx (.own x)) x (.ins (He.ga K C) dx (fs vs))) := (Ex.new hdx).mut hx
    exact ⟨rfl, q x _ (fresh_back e2 hx) (e2.trans ex1) ⟨fresh_back (e.trans e2) hx, dx, vs, hP vs _ _ ex1 hp, upd_same⟩⟩⟩
end
section
variable {P : Program} {w : World} {K : PySem.W.Frag} {mg : Str → Option Value} {base : Heap}
theorem ok_token_init (c : Top K mg) : FOk P w K mg base CX0 1 ("Token", some "__init__") p_Token_init (spI K "Token" 2 (f2 "offset" "signs")) := by
  refine FOk.mk0 c.f_Token_init sc_Token_init (fun _ _ _ _ _ _ us hl => match us, hl with | [_, _, _], _ => rfl) (fun vs H Q E h => ?_) (fun cdv A outer s H vs Q E hr h => ?_)
  · obtain ⟨x, dx, as, rfl, hl, _⟩ := h
    show as.length + 1 = 3
    omega
  · obtain ⟨x, dx, as, rfl, hl, hx, k⟩ := h
    match as, hl, k with
    | [a, b], _, k =>
      refine ⟨_, (pss_cons (ps_fld (pv 0) (pv 1) rfl)
      (pss_one (ps_fld (pv 0) (pv 2) rfl))), ?_⟩
      refine ⟨_, rfl, _, rfl, x, _, dx, [], rfl, hx, c.cls_Token, c.no_Token_offset, by decide, ?_⟩
      refine ⟨_, rfl, _, rfl, x, _, dx, _, rfl, upd_same, c.cls_Token, c.no_Token_signs, by show 1 < 1000; decide, ?_⟩
      rw [upd_upd, putF_nil, putF_ne (by decide +kernel), putF_nil]
      exact k
theorem ok_player_init (c : Top K mg) : FOk P w K mg base CX0 1 ("Player", some "__init__") p_Player_init (spI K "Player" 2 (f2 "name" "weight")) := by
  refine FOk.mk0 c.f_Player_init sc_Player_init (fun _ _ _ _ _ _ us hl => match us, hl with | [_, _, _], _ => rfl) (fun vs H Q E h => ?_) (fun cdv A outer s H vs Q E hr h => ?_)
  · obtain ⟨x, dx, as, rfl, hl, _⟩ := h
    show as.length + 1 = 3
    omega
  · obtain ⟨x, dx, as, rfl, hl, hx, k⟩ := h
    match as, hl, k with
    | [a, b], _, k =>
      refine ⟨_, (pss_cons (ps_fld (pv 0) (pv 1) rfl)
      (pss_one (ps_fld (pv 0) (pv 2) rfl))), ?_⟩
      refine ⟨_, rfl, _, rfl, x, _, dx, [], rfl, hx, c.cls_Player, c.no_Player_name, by decide, ?_⟩
      refine ⟨_, rfl, _, rfl, x, _, dx, _, rfl, upd_same, c.cls_Player, c.no_Player_weight, by show 1 < 1000; decide, ?_⟩
      rw [upd_upd, putF_nil, putF_ne (by decide +kernel), putF_nil]
      exact k
theorem ok_room_init (c : Top K mg) : FOk P w K mg base CX0 1 ("Room", some "__init__") p_Room_init (spI K "Room" 2 (f2 "players" "rules")) := by
  refine FOk.mk0 c.f_Room_init sc_Room_init (fun _ _ _ _ _ _ us hl => match us, hl with | [_, _, _], _ => rfl) (fun vs H Q E h => ?_) (fun cdv A outer s H vs Q E hr h => ?_)
  · obtain ⟨x, dx, as, rfl, hl, _⟩ := h
    show as.length + 1 = 3
    omega
  · obtain ⟨x, dx, as, rfl, hl, hx, k⟩ := h
    match as, hl, k with
    | [a, b], _, k =>
      refine ⟨_, (pss_cons (ps_fld (pv 0) (pv 1) rfl)
      (pss_one (ps_fld (pv 0) (pv 2) rfl))), ?_⟩
      refine ⟨_, rfl, _, rfl, x, _, dx, [], rfl, hx, c.cls_Room, c.no_Room_players, by decide, ?_⟩
      refine ⟨_, rfl, _, rfl, x, _, dx, _, rfl, upd_same, c.cls_Room, c.no_Room_rules, by show 1 < 1000; decide, ?_⟩
      rw [upd_upd, putF_nil, putF_ne (by decide +kernel), putF_nil]
      exact k
theorem ok_rule_init (c : Top K mg) : FOk P w K mg base CX0 1 ("Rule", some "__init__") p_Rule_init (spI K "Rule" 3 (f3 "absent" "required" "substitutes")) := by
  refine FOk.mk0 c.f_Rule_init sc_Rule_init (fun _ _ _ _ _ _ us hl => match us, hl with | [_, _, _, _], _ => rfl) (fun vs H Q E h => ?_) (fun cdv A outer s H vs Q E hr h => ?_)
  · obtain ⟨x, dx, as, rfl, hl, _⟩ := h
    show as.length + 1 = 4
    omega
  · obtain ⟨x, dx, as, rfl, hl, hx, k⟩ := h
    match as, hl, k with
    | [a, b, d], _, k =>
      refine ⟨_, (pss_cons (ps_fld (pv 0) (pv 1) rfl)
      (pss_cons (ps_fld (pv 0) (pv 2) rfl)
      (pss_one (ps_fld (pv 0) (pv 3) rfl)))), ?_⟩
      refine ⟨_, rfl, _, rfl, x, _, dx, [], rfl, hx, c.cls_Rule, c.no_Rule_absent, by decide, ?_⟩
      refine ⟨_, rfl, _, rfl, x, _, dx, _, rfl, upd_same, c.cls_Rule, c.no_Rule_required, by show 1 < 1000; decide, ?_⟩
      refine ⟨_, rfl, _, rfl, x, _, dx, _, rfl, upd_same, c.cls_Rule, c.no_Rule_substitutes, by rw [putF_nil, putF_ne (by decide +kernel), putF_nil]; show 2 < 1000; decide, ?_⟩
      rw [upd_upd, upd_upd, putF_nil, putF_ne (by decide +kernel), putF_nil, putF_ne (by decide +kernel), putF_ne (by decide +kernel), putF_nil]
      exact k
theorem ok_call_init (c : Top K mg) : FOk P w K mg base CX0 1 ("Call", some "__init__") p_Call_init (spI K "Call" 3 (f3 "operation" "numbers" "row")) := by
  refine FOk.mk0 c.f_Call_init sc_Call_init (fun _ _ _ _ _ _ us hl => match us, hl with | [_, _, _, _], _ => rfl) (fun vs H Q E h => ?_) (fun cdv A outer s H vs Q E hr h => ?_)
  · obtain ⟨x, dx, as, rfl, hl, _⟩ := h
    show as.length + 1 = 4
    omega
  · obtain ⟨x, dx, as, rfl, hl, hx, k⟩ := h
    match as, hl, k with
    | [a, b, d], _, k =>
      refine ⟨_, (pss_cons (ps_fld (pv 0) (pv 1) rfl)
      (pss_cons (ps_fld (pv 0) (pv 2) rfl)
      (pss_one (ps_fld (pv 0) (pv 3) rfl)))), ?_⟩
      refine ⟨_, rfl, _, rfl, x, _, dx, [], rfl, hx, c.cls_Call, c.no_Call_operation, by decide, ?_⟩
      refine ⟨_, rfl, _, rfl, x, _, dx, _, rfl, upd_same, c.cls_Call, c.no_Call_numbers, by show 1 < 1000; decide, ?_⟩
      refine ⟨_, rfl, _, rfl, x, _, dx, _, rfl, upd_same, c.cls_Call, c.no_Call_row, by rw [putF_nil, putF_ne (by decide +kernel), putF_nil]; show 2 < 1000; decide, ?_⟩
      rw [upd_upd, upd_upd, putF_nil, putF_ne (by decide +kernel), putF_nil, putF_ne (by decide +kernel), putF_ne (by decide +kernel), putF_nil]
      exact k
end
/-! ### tokens -/
def tkF (o : Nat) (p : Addr) : List (Str × V) := [("offset", vI o), ("signs", .ref p)]
def TokAt (K : PySem.W.Frag) (F : Addr → Prop) (H : Hp) (v : V) (w : Token) : Prop := ∃ t dx p, v = .ref t ∧ H t = some (.ins (He.ga K "Token") dx (tkF w.offset p)) ∧ H p = some (.lst (vN w.bytes)) ∧ ¬ F t ∧ ¬ F p
def LineAt (K : PySem.W.Frag) (F : Addr → Prop) (H : Hp) (v : V) (l : List Token) : Prop := ∃ q ys, v = .ref q ∧ H q = some (.lst ys) ∧ ¬ F q ∧ EachAt (TokAt K F H) ys l
section
variable {K : PySem.W.Frag} {F F' : Addr → Prop} {H H' : Hp} {v : V} {w : Token} {l : List Token} {a : Addr} {o : HO}
theorem tkF_offset (o : Nat) (p : Addr) : (tkF o p).lookup ("offset" : Str) = some (vI o) := lookup_hit
theorem tkF_signs (o : Nat) (p : Addr) : (tkF o p).lookup ("signs" : Str) = some (.ref p) := (lookup_miss (by decide +kernel)).trans lookup_hit
theorem TokAt.ex (h : TokAt K F H v w) (e : Ex H H') : TokAt K F H' v w := by
  obtain ⟨t, dx, p, rfl, h1, h2, h3⟩ := h
  exact ⟨t, dx, p, rfl, e _ _ h1, e _ _ h2, h3⟩
theorem TokAt.grow (h : TokAt K F H v w) (g : ∀ b, F' b → F b ∨ H b = none) : TokAt K F' H v w := by
  obtain ⟨t, dx, p, rfl, h1, h2, h3, h4⟩ := h
  refine ⟨t, dx, p, rfl, h1, h2, fun q => ?_, fun q => ?_⟩
  · rcases g t q with q | q
    · exact h3 q
    · rw [q] at h1
      cases h1
  · rcases g p q with q | q
    · exact h4 q
    · rw [q] at h2
      cases h2
theorem TokAt.keep (h : TokAt K F H v w) (k : Keep F H H') : TokAt K F H' v w := by
  obtain ⟨t, dx, p, rfl, h1, h2, h3, h4⟩ := h
  exact ⟨t, dx, p, rfl, k _ _ h1 h3, k _ _ h2 h4, h3, h4⟩
theorem Keep.upd (ha : F a) : Keep F H (upd H a o) := fun b o' hb hF => upd_out hb hF ha
theorem Keep.ofEx (e : Ex H H') : Keep F H H' := fun b o h _ => e b o h
theorem Keep.trans {H2 : Hp} (k : Keep F H H') (k2 : Keep F H' H2) : Keep F H H2 := fun b o h hF => k2 b o (k b o h hF) hF
theorem LineAt.keep (h : LineAt K F H v l) (k : Keep F H H') : LineAt K F H' v l := by
  obtain ⟨q, ys, rfl, h1, h2, h3⟩ := h
  exact ⟨q, ys, rfl, k _ _ h1 h2, h2, h3.imp fun _ _ t => t.keep k⟩
theorem LineAt.grow (h : LineAt K F H v l) (g : ∀ b, F' b → F b ∨ H b = none) : LineAt K F' H v l := by
  obtain ⟨q, ys, rfl, h1, h2, h3⟩ := h
  refine ⟨q, ys, rfl, h1, fun x => ?_, h3.imp fun _ _ t => t.grow g⟩
  rcases g q x with x | x
  · exact h2 x
  · rw [x] at h1
    cases h1
end
section
variable {K : PySem.W.Frag} {F : Addr → Prop} {te tb : TE} {σ : L2.St} {H : Hp} {E : XK} {o : Nat} {w : List Nat} {p : Addr}
theorem em_tok (hF : ∀ b, F b → H b ≠ none) (h1 : Ev tb σ H (vI o)) (h2 : Ev te σ H (.ref p)) (hp : H p = some (.lst (vN w))) (hn : ¬ F p) : EvM (tMake (He.ga K "Token") (spI K "Token" 2 (f2 "offset" "signs")) [] E (tCons tb (tCons te tNil))) σ H (fun x H' => TokAt K F H' (.ref x) ⟨o, w⟩) := fun H1 e Q q =>
  em_mk (P := fun ws H' => ws = [vI o, .ref p] ∧ H' p = some (.lst (vN w))) (fun H2 e2 Q' q' => ea_cons h1 (ea_cons h2 ea_nil) H2 e2 Q' fun H3 e3 => q' _ H3 e3 ⟨rfl, e3 _ _ (e2 _ _ hp)⟩) (fun vs H' h => by rw [h.1]; rfl) (fun vs H1 H2 e h => ⟨h.1, e _ _ h.2⟩) H1 e Q fun x H2 hx e2 h => by
    obtain ⟨hx0, dx, vs, ⟨rfl, hp2⟩, h3⟩ := h
    exact q x H2 hx e2 ⟨x, dx, p, rfl, h3, hp2, fun y => hF x y hx0, hn⟩
theorem em_tokNil (hF : ∀ b, F b → H b ≠ none) (h1 : Ev tb σ H (vI o)) : EvM (tMake (He.ga K "Token") (spI K "Token" 2 (f2 "offset" "signs")) [] E (tCons tb (tCons (tLst tNil) tNil))) σ H (fun x H' => TokAt K F H' (.ref x) ⟨o, []⟩) := fun H1 e Q q =>
  em_mk (P := fun ws H' => ∃ p, ws = [vI o, .ref p] ∧ H' p = some (.lst (vN [])) ∧ H p = none) (ep_VL h1 (el_lst ea_nil (by decide))) (fun vs H' h => by obtain ⟨p, rfl, _⟩ := h; rfl) (fun vs H1 H2 e h => by obtain ⟨p, h1, h2, h3⟩ := h; exact ⟨p, h1, e _ _ h2, h3⟩) H1 e Q fun x H2 hx e2 h => by
    obtain ⟨hx0, dx, vs, ⟨p, rfl, hp2, hp0⟩, h3⟩ := h
    exact q x H2 hx e2 ⟨x, dx, p, rfl, h3, hp2, fun y => hF x y hx0, fun y => hF p y hp0⟩
end
end Gs

set_option Elab.async false
set_option linter.all false
set_option maxRecDepth 100000
set_option maxHeartbeats 4000000
/-! Walks: lines of tokens. -/
namespace Gs
open PySem PySem.Spec PyProof.Rows L2 Evl
open Vbndaa (toBytes Token splitAtByte)
theorem fold_off : ∀ (l : List Nat) (s : Sc), (l.foldl scStep s).off = s.off + l.length
  | [], s => rfl
  | b :: l, s => by
    rw [List.foldl_cons, fold_off l, step_off, List.length_cons]
    omega
theorem fold_few : ∀ (l : List Nat) (s : Sc), Few s → Few (l.foldl scStep s)
  | [], _, h => h
  | b :: l, s, h => fold_few l _ (few_step h b)
theorem few0 : Few sc0 := ⟨Nat.le_refl _, Nat.le_refl _, Nat.le_refl _⟩
section
variable {K : PySem.W.Frag} {tb tz : TS} {D : Ends} {σ : L2.St} {H : Hp} {j1 j2 : Nat} {α : Type} {xs : List V} {zs : List α} {te : TE}
theorem q_forEN (h : EvL te σ H xs) (hlen : xs.length = zs.length) (Pv : Addr → List α → L2.St → Hp → Prop) (h0 : ∀ p H1, H p = none → Ex H H1 → H1 p = some (.lst xs) → Pv p [] σ H1) (hl : ∀ p i σ H, i ≤ zs.length → Pv p (zs.take i) σ H → SqL K H p xs)
    (hs : ∀ p i v x σ H H', xs[i]? = some v → zs[i]? = some x → Pv p (zs.take i) σ H → Ex H H' → tb { D with nx := Pv p (zs.take i ++ [x]), ct := Pv p (zs.take i ++ [x]), bk := tz D } ((σ.set j1 (some (vI i))).set j2 (some v)) H') (hd : ∀ p σ H, Pv p zs σ H → tz D σ H) :
    tSeq (tFor (iEnum K (tCons te tNil)) (gTup K 2 (gCons (gName j1) (gCons (gName j2) gNil))) tb) tz D σ H :=
  h H (Ex.refl H) _ fun p H1 hp e h1 => ⟨p, xs, rfl, sq_of h1, for_enumE (D := { D with nx := tz D }) hlen (Pv p) (h0 p H1 hp e h1) (hl p) (fun i v x σ H H' a b q e _ => hs p i v x σ H H' a b q e) (hd p)⟩
end
/-- what is changed while lines are read: H0 the heap at the start -/
def Fr (H0 : Hp) (L T : Addr) : Addr → Prop := fun b => H0 b ≠ none ∨ b = L ∨ b = T
structure LInv (K : PySem.W.Frag) (H0 H : Hp) (L T S : Addr) (s : Sc) : Prop where
  ex : Ex H0 H
  hL : ∃ xs, H L = some (.lst xs) ∧ EachAt (LineAt K (Fr H0 L T) H) xs s.ls
  hT : ∃ ys, H T = some (.lst ys) ∧ EachAt (TokAt K (Fr H0 L T) H) ys s.ts
  hS : H S = some (.lst (vN s.sg))
  nS : ¬ Fr H0 L T S
  nL : H0 L = none
  nT : H0 T = none
  ne : L ≠ T
section
variable {K : PySem.W.Frag} {H0 H H' : Hp} {L T S : Addr} {s : Sc}
theorem LInv.exx (h : LInv K H0 H L T S s) (e : Ex H H') : LInv K H0 H' L T S s where
  ex := h.ex.trans e
  hL := by
    obtain ⟨xs, a, b⟩ := h.hL
    exact ⟨xs, e _ _ a, b.imp fun _ _ q => q.keep (Keep.ofEx e)⟩
  hT := by
    obtain ⟨xs, a, b⟩ := h.hT
    exact ⟨xs, e _ _ a, b.imp fun _ _ q => q.keep (Keep.ofEx e)⟩
  hS := e _ _ h.hS
  nS := h.nS
  nL := h.nL
  nT := h.nT
  ne := h.ne
theorem LInv.alive (h : LInv K H0 H L T S s) : ∀ b, Fr H0 L T b → H b ≠ none := fun b q z => by
  rcases q with q | rfl | rfl
  · exact q (fresh_back h.ex z)
  · obtain ⟨_, a, _⟩ := h.hL
    rw [a] at z
    cases z
  · obtain ⟨_, a, _⟩ := h.hT
    rw [a] at z
    cases z
/-- a new list for the signs -/
theorem LInv.signs {S' : Addr} {l : List Nat} {s' : Sc} (h : LInv K H0 H L T S s) (e : Ex H H') (hS : H' S' = some (.lst (vN l))) (hn : H S' = none) (h1 : s'.ls = s.ls) (h2 : s'.ts = s.ts) (h3 : s'.sg = l) : LInv K H0 H' L T S' s' := by
  have g := h.exx e
  refine { ex := g.ex, hL := by rw [h1]; exact g.hL, hT := by rw [h2]; exact g.hT, hS := by rw [h3]; exact hS, nS := fun q => h.alive _ q hn, nL := h.nL, nT := h.nT, ne := h.ne }
/-- a token more -/
theorem LInv.tok {t : Addr} {ys : List V} {w : Token} {s' : Sc} (h : LInv K H0 H L T S s) (hT : H T = some (.lst ys)) (hw : TokAt K (Fr H0 L T) H (.ref t) w) (h1 : s'.ls = s.ls) (h2 : s'.ts = s.ts ++ [w]) (h3 : s'.sg = s.sg) : LInv K H0 (upd H T (.lst (ys ++ [.ref t]))) L T S s' := by
  have kp : Keep (Fr H0 L T) H (upd H T (.lst (ys ++ [.ref t]))) := Keep.upd (.inr (.inr rfl))
  obtain ⟨xs, a1, a2⟩ := h.hL
  obtain ⟨ys', b1, b2⟩ := h.hT
  rw [hT] at b1
  cases b1
  refine { ex := h.ex.mut h.nT, hL := ⟨xs, by rw [upd_ne h.ne]; exact a1, by rw [h1]; exact a2.imp fun _ _ q => q.keep kp⟩, hT := ⟨_, upd_same, by rw [h2]; exact EachAt.app (b2.imp fun _ _ q => q.keep kp) (EachAt.one (hw.keep kp))⟩, hS := by rw [h3]; exact kp _ _ h.hS h.nS, nS := h.nS, nL := h.nL, nT := h.nT, ne := h.ne }
/-- a line more -/
theorem LInv.line {q : Addr} {xs : List V} {l : List Token} {s' : Sc} (h : LInv K H0 H L T S s) (hL : H L = some (.lst xs)) (hw : LineAt K (Fr H0 L T) H (.ref q) l) (h1 : s'.ls = s.ls ++ [l]) (h2 : s'.ts = s.ts) (h3 : s'.sg = s.sg) : LInv K H0 (upd H L (.lst (xs ++ [.ref q]))) L T S s' := by
  have kp : Keep (Fr H0 L T) H (upd H L (.lst (xs ++ [.ref q]))) := Keep.upd (.inr (.inl rfl))
  obtain ⟨xs', a1, a2⟩ := h.hL
  obtain ⟨ys, b1, b2⟩ := h.hT
  rw [hL] at a1
  cases a1
  exact { ex := h.ex.mut h.nL, hL := ⟨_, upd_same, by rw [h1]; exact EachAt.app (a2.imp fun _ _ q => q.keep kp) (EachAt.one (hw.keep kp))⟩, hT := ⟨ys, by rw [upd_ne h.ne.symm]; exact b1, by rw [h2]; exact b2.imp fun _ _ q => q.keep kp⟩, hS := by rw [h3]; exact kp _ _ h.hS h.nS, nS := h.nS, nL := h.nL, nT := h.nT, ne := h.ne }
/-- a new list for the tokens -/
theorem LInv.toks {T' : Addr} {s' : Sc} (h : LInv K H0 H L T S s) (e : Ex H H') (hT : H' T' = some (.lst [])) (hn : H T' = none) (h1 : s'.ls = s.ls) (h2 : s'.ts = []) (h3 : s'.sg = s.sg) : LInv K H0 H' L T' S s' := by
  have g := h.exx e
  have gr : ∀ b, Fr H0 L T' b → Fr H0 L T b ∨ H' b = none ∨ b = T' := fun b q => by
    rcases q with q | q | q
    · exact .inl (.inl q)
    · exact .inl (.inr (.inl q))
    · exact .inr (.inr q)
  obtain ⟨xs, a1, a2⟩ := h.hL
  have gr2 : ∀ b, Fr H0 L T' b → Fr H0 L T b ∨ H b = none := fun b q => by
    rcases q with q | q | q
    · exact .inl (.inl q)
    · exact .inl (.inr (.inl q))
    · exact .inr (by rw [q]; exact hn)
  refine { ex := g.ex, hL := ⟨xs, e _ _ a1, by rw [h1]; exact a2.imp fun _ _ q => (q.grow gr2).keep (Keep.ofEx e)⟩, hT := ⟨[], hT, by rw [h2]; exact EachAt.nil⟩, hS := by rw [h3]; exact g.hS, nS := fun q => ?_, nL := h.nL, nT := fresh_back h.ex hn, ne := fun q => ?_ }
  · rcases gr2 _ q with q | q
    · exact h.nS q
    · rw [h.hS] at q
      cases q
  · rw [← q, a1] at hn
    cases hn
end
def spLines (K : PySem.W.Frag) : Sp := fun vs H Q _ => ∃ (a : Addr) (t : List Nat), vs = [.ref a] ∧ H a = some (.lst (vN t)) ∧ t.length ≤ 2000 ∧ ∀ p H', H p = none → Ex H H' → (∃ xs, H' p = some (.lst xs) ∧ EachAt (LineAt K (fun b => H b ≠ none) H') xs ((splitAtByte 10 0 t).map lineOf)) → Q (.ref p) H'
theorem in_two (u : Nat) : inV (vI u) [.int 10, .int 32] = (decide (u = 10) || decide (u = 32)) := by
  show (((10 : Int) == (u : Int)) || (((32 : Int) == (u : Int)) || false)) = _
  rw [Bool.or_false]
  have e1 : ((10 : Int) == (u : Int)) = decide (u = 10) := by
    rw [Bool.eq_iff_iff, beq_iff_eq, decide_eq_true_eq]
    omega
  have e2 : ((32 : Int) == (u : Int)) = decide (u = 32) := by
    rw [Bool.eq_iff_iff, beq_iff_eq, decide_eq_true_eq]
    omega
  rw [e1, e2]
theorem em_catNew {te ta : TE} {σ : L2.St} {H : Hp} {T : Addr} {ys : List V} {P : Addr → Hp → Prop} (hT : Ev ta σ H (.ref T)) (hTs : H T = some (.lst ys)) (h : EvM te σ H P) (hP : ∀ x H1 H2, Ex H1 H2 → P x H1 → P x H2) (hl : ys.length < 99999) : EvM (tOp rCat ta (tLst (tCons te tNil))) σ H (fun r H' => ∃ x, H' r = some (.lst (ys ++ [.ref x])) ∧ P x H') := fun H1 e Q q =>
  hT H1 e _ fun H2 e2 => h H2 (e.trans e2) _ fun x H3 hx e3 hp => ⟨sz_of (show 1 ≤ 100000 by decide), fun b hb => ⟨T, b, ys, [.ref x], rfl, rfl, (Ex.new hb) _ _ (e3 _ _ (e2 _ _ (e _ _ hTs))), upd_same, sz_of (by show _ + 1 ≤ 100000; omega), fun r hr => by
    have ea : Ex H3 (upd H3 b (.lst [.ref x])) := Ex.new hb
    have eb := ea.trans (Ex.new (o := .lst (ys ++ [.ref x])) hr)
    exact q r _ (fresh_back ((e2.trans e3).trans ea) hr) ((e2.trans e3).trans eb) ⟨x, upd_same, hP x _ _ eb hp⟩⟩⟩
theorem line_rest {K : PySem.W.Frag} {E : XK} {H H7 : Hp} {a L T S p : Addr} {i u : Nat} {s : Sc} {xs0 : List V} {D : Ends}
    (hstp : scStep s u = (if u = 10 then ⟨s.off + 1, s.ls ++ [s.ts' ++ [⟨s.off, []⟩]], [], []⟩ else ⟨s.off + 1, s.ls, s.ts', []⟩)) (I : LInv K H H7 L T S ⟨s.off, s.ls, s.ts', s.sg⟩) (fl : s.ls.length ≤ s.off) (ft : s.ts'.length ≤ s.off + 1) (hs : s.off ≤ 5000) (hoff : s.off = i) (hp : H7 p = some (.lst xs0)) (npL : p ≠ L) (npT : p ≠ T)
    (k : ∀ T' S' H8, LInv K H H8 L T' S' (scStep s u) → H8 p = some (.lst xs0) → p ≠ T' → D.nx [some (.ref a), some (.ref L), some (.ref T'), some (.ref S'), some (vI i), some (vI u)] H8) :
    tSeq (tAsg (tLst tNil) (gName 3)) (tIfS (tTest (tOp rEq (tVar 5) (tC (.int 10)))) (tSeq (tDrop (tBM K "list" rAppend (tVar 1) (tCons (tOp rCat (tVar 2) (tLst (tCons (tMake (He.ga K "Token") (spI K "Token" 2 (f2 "offset" "signs")) [] E (tCons (tVar 4) (tCons (tLst tNil) tNil))) tNil))) tNil))) (tAsg (tLst tNil) (gName 2))) tNext) D [some (.ref a), some (.ref L), some (.ref T), some (.ref S), some (vI i), some (vI u)] H7 := by
  refine q_asgL (el_lst ea_nil (by decide)) fun S' H8 hS' e8 hS8 => ?_
  have I8 := I.signs (s' := ⟨s.off, s.ls, s.ts', []⟩) (l := []) e8 hS8 hS' rfl rfl rfl
  obtain ⟨xsL, hL8, hEL⟩ := I8.hL
  obtain ⟨ysT, hT8, hET⟩ := I8.hT
  have hEL1 : xsL.length = s.ls.length := hEL.1
  have hET1 : ysT.length = s.ts'.length := hET.1
  refine s_if (b := decide (u = 10)) (et_is (et_test (ev_op (ev_var rfl) ev_c (rv_eq rfl))) (vI_eq u 10)) (fun hb H9 e9 => ?_) (fun hb H9 e9 => ?_)
  · have h10 := of_decide_eq_true hb
    rw [if_pos h10] at hstp
    have I9 := I8.exx e9
    -- tokens + [Token(offset, [])]
    have hline : EvM (tOp rCat (tVar 2) (tLst (tCons (tMake (He.ga K "Token") (spI K "Token" 2 (f2 "offset" "signs")) [] E (tCons (tVar 4) (tCons (tLst tNil) tNil))) tNil))) [some (.ref a), some (.ref L), some (.ref T), some (.ref S'), some (vI i), some (vI u)] H9 (fun q H' => LineAt K (Fr H L T) H' (.ref q) (s.ts' ++ [⟨s.off, []⟩])) := fun H1 e Q q => by
      refine em_catNew (P := fun x H' => TokAt K (Fr H L T) H' (.ref x) ⟨i, []⟩) (ev_var rfl) (e9 _ _ hT8) (em_tokNil I9.alive (ev_var rfl)) (fun x H1 H2 e h => h.ex e) (by rw [hET1]; omega) H1 e Q fun r H2 hr e2 h => ?_
      obtain ⟨x, h1, h2⟩ := h
      rw [← hoff] at h2
      refine q r H2 hr e2 ⟨r, _, rfl, h1, fun z => (I9.exx e).alive r z hr, ?_⟩
      exact EachAt.app (hET.imp fun _ _ q => q.keep (Keep.ofEx ((e9.trans e).trans e2))) (EachAt.one h2)
    refine q_appM (e9 _ _ hL8) (ev_var rfl) hline (by rw [hEL1]; omega) fun q H10 hq e10 hw => ?_
    have I10 := (I9.exx e10).line (s' := ⟨s.off, s.ls ++ [s.ts' ++ [⟨s.off, []⟩]], s.ts', []⟩) (e10 _ _ (e9 _ _ hL8)) hw rfl rfl rfl
    refine s_asgL (el_lst ea_nil (by decide)) fun T' H11 hT' e11 hT11 => ?_
    have hp10 : upd H10 L (.lst (xsL ++ [.ref q])) p = some (.lst xs0) := by
      rw [upd_ne npL]
      exact e10 _ _ (e9 _ _ (e8 _ _ hp))
    refine k T' S' H11 (I10.toks (s' := scStep s u) e11 hT11 hT' (by rw [hstp]) (by rw [hstp]) (by rw [hstp])) (e11 _ _ hp10) fun z => ?_
    rw [z] at hp10
    rw [hp10] at hT'
    cases hT'
  · have h10 := of_decide_eq_false hb
    rw [if_neg h10] at hstp
    refine k T S' H9 ?_ (e9 _ _ (e8 _ _ hp)) npT
    have I9 := I8.exx e9
    rw [hstp]
    exact { ex := I9.ex, hL := I9.hL, hT := I9.hT, hS := I9.hS, nS := I9.nS, nL := I9.nL, nT := I9.nT, ne := I9.ne }
section
variable {P : Program} {w : World} {K : PySem.W.Frag} {mg : Str → Option Value} {base : Heap}
theorem ok_lines_of (c : Top K mg) : FOk P w K mg base CX0 3 ("lines_of", none) p_lines_of (spLines K) := by
  refine FOk.mk0 c.f_lines_of sc_lines_of (fun _ _ _ _ _ _ us hl => match us, hl with | [_], _ => rfl) (fun vs H Q E h => ?_) (fun cdv A outer s H vs Q E hr h => ?_)
  · obtain ⟨a, t, rfl, _⟩ := h
    rfl
  · obtain ⟨a, t, rfl, ha, h2000, k⟩ := h
    have nd := sc_lines_of.nd
    have hu := hu_of hr
    refine ⟨_, (pss_cons (ps_set (i := 1) nd rfl (.inl rfl) (pe_lst pa_nil))
      (pss_cons (ps_set (i := 2) nd rfl (.inl rfl) (pe_lst pa_nil))
      (pss_cons (ps_set (i := 3) nd rfl (.inl rfl) (pe_lst pa_nil))
      (pss_cons (ps_for PassesOwn.never rfl (pi_enum (by rfl) c.free_enumerate (pa_cons (pe_op op_cat (pv 0) (pe_lst (pa_cons (pe_gi c.int_NEWLINE) pa_nil))) pa_nil)) (pg_tup rfl (pgs_cons (pg_name (i := 4) nd rfl (.inl rfl)) (pgs_cons (pg_name (i := 5) nd rfl (.inl rfl)) pgs_nil)))
        (pss_one (ps_if (pt_cmpR op_in_seq (pv 5) (pe_tup (pa_cons (pe_gi c.int_NEWLINE) (pa_cons (pe_gi c.int_SPACE) pa_nil))) rfl)
          (pss_cons (ps_if (pt_cmpR (op_neNil (by exact Nat.lt_of_succ_lt hu)) (pv 3) (pe_lst pa_nil) (nomark _)) (pss_one (ps_expr (pe_bm PySem.F.plainAttrs_list PySem.F.slot_list_append PySem.F.type_list_append mt_append (pv 2) (pa_cons (pe_mk (ok_token_init c) c.mkr_Token (hr.mono (by decide)) c.glo_Token pass0 (pa_cons (pe_op op_sub (pv 4) (pe_callB call_len_seq (by rfl) c.free_len PySem.boot_len (pa_cons (pv 3) pa_nil))) (pa_cons (pv 3) pa_nil))) pa_nil)))) pss_nil)
      (pss_cons (ps_set (i := 3) nd rfl (.inl rfl) (pe_lst pa_nil))
      (pss_one (ps_if (pt_cmpR op_eq (pv 5) (pe_gi c.int_NEWLINE) (nomark _)) (pss_cons (ps_expr (pe_bm PySem.F.plainAttrs_list PySem.F.slot_list_append PySem.F.type_list_append mt_append (pv 1) (pa_cons (pe_op op_cat (pv 2) (pe_lst (pa_cons (pe_mk (ok_token_init c) c.mkr_Token (hr.mono (by decide)) c.glo_Token pass0 (pa_cons (pv 4) (pa_cons (pe_lst pa_nil) pa_nil))) pa_nil))) pa_nil)))
      (pss_one (ps_set (i := 2) nd rfl (.inl rfl) (pe_lst pa_nil)))) pss_nil))))
          (pss_one (ps_set (i := 3) nd rfl (.inl rfl) (pe_op op_cat (pv 3) (pe_lst (pa_cons (pv 5) pa_nil))))))))
      (pss_one (ps_ret (pv 1))))))), ?_⟩
    refine q_asgL (el_lst ea_nil (by decide)) fun L H1 hL e1 hL1 => ?_
    refine q_asgL (el_lst ea_nil (by decide)) fun T H2 hT e2 hT1 => ?_
    refine q_asgL (el_lst ea_nil (by decide)) fun S H3 hS e3 hS1 => ?_
    have hlen : (vN t ++ [V.int 10]).length = (t ++ [10]).length := by
      rw [List.length_append, List.length_append, vN_len]
      rfl
    have nS0 : ¬ Fr H L T S := fun q => by
      rcases q with q | q | q
      · exact q (fresh_back (e1.trans e2) hS)
      · rw [q, e2 _ _ hL1] at hS
        cases hS
      · rw [q, hT1] at hS
        cases hS
    have ne0 : L ≠ T := fun q => by
      rw [← q, hL1] at hT
      cases hT
    have I0 : LInv K H H3 L T S sc0 := { ex := (e1.trans e2).trans e3, hL := ⟨[], e3 _ _ (e2 _ _ hL1), EachAt.nil⟩, hT := ⟨[], e3 _ _ hT1, EachAt.nil⟩, hS := hS1, nS := nS0, nL := hL, nT := fresh_back e1 hT, ne := ne0 }
    refine q_forEN (zs := t ++ [10]) (el_catVL (ev_var rfl) (((e1.trans e2).trans e3) _ _ ha) (el_lst (ea_cons ev_c ea_nil) (by show 1 ≤ 100000; decide)) (by rw [vN_len]; show _ + 1 ≤ 100000; omega)) hlen (fun p pre σ H4 => ∃ T S x y, σ = [some (.ref a), some (.ref L), some (.ref T), some (.ref S), x, y] ∧ LInv K H H4 L T S (pre.foldl scStep sc0) ∧ H4 p = some (.lst (vN t ++ [V.int 10])) ∧ p ≠ L ∧ p ≠ T)
      (fun p H4 hp e4 hp4 => ⟨T, S, none, none, rfl, I0.exx e4, hp4, fun q => ?_, fun q => ?_⟩) (fun p i σ H4 _ q => by obtain ⟨T, S, x, y, _, _, h4, _⟩ := q; exact sq_of h4) (fun p i v u σ H4 H5 hv hu' q e5 => ?_) (fun p σ H4 q => ?_)
    · rw [q, e3 _ _ (e2 _ _ hL1)] at hp
      cases hp
    · rw [q, e3 _ _ hT1] at hp
      cases hp
    · obtain ⟨T, S, x1, y1, rfl, I, hp4, npL, npT⟩ := q
      have hi : i < (t ++ [10]).length := (List.getElem?_eq_some_iff.mp hu').1
      have hil : i < t.length + 1 := by rw [List.length_append, List.length_singleton] at hi; exact hi
      have htl : ((t ++ [10]).take i).length = i := by rw [List.length_take]; omega
      have hv0 : v = vI u := by
        have : (vN (t ++ [10]))[i]? = some (vI u) := vN_at hu'
        rw [vN_app] at this
        rw [show vN t ++ [V.int 10] = vN t ++ vN [10] from rfl, this] at hv
        exact (Option.some.inj hv).symm
      subst hv0
      have hstep : ((t ++ [10]).take i ++ [u]).foldl scStep sc0 = scStep (((t ++ [10]).take i).foldl scStep sc0) u := by rw [List.foldl_append]; rfl
      rw [hstep]
      have hoff : (((t ++ [10]).take i).foldl scStep sc0).off = i := by
        rw [fold_off, htl]
        exact Nat.zero_add i
      have hfew := fold_few ((t ++ [10]).take i) sc0 few0
      generalize ((t ++ [10]).take i).foldl scStep sc0 = s at *
      have I5 := I.exx e5
      have hp5 := e5 _ _ hp4
      obtain ⟨xsL, hL5, _⟩ := I5.hL
      obtain ⟨ysT, hT5, hE5⟩ := I5.hT
      have fl := hfew.l
      have ft := hfew.t
      have fg := hfew.g
      refine s_if (b := decide (u = 10) || decide (u = 32)) (et_is (et_test (ev_opU (ev_var rfl) (eu_tup (ea_cons ev_c (ea_cons ev_c ea_nil)) (by show 2 ≤ 100000; decide)) fun q H6 hq e6 => rv_inT (st_of hq) rfl rfl)) (in_two u)) (fun hb H6 e6 => ?_) (fun hb H6 e6 => ?_)
      · have I6 := I5.exx e6
        have hT6 := e6 _ _ hT5
        have hstp : scStep s u = (if u = 10 then ⟨s.off + 1, s.ls ++ [s.ts' ++ [⟨s.off, []⟩]], [], []⟩ else ⟨s.off + 1, s.ls, s.ts', []⟩) := by
          unfold scStep
          by_cases h10 : u = 10
          · rw [if_pos h10, if_pos h10]
          · rw [h10 |> decide_eq_false, Bool.false_or] at hb
            rw [if_neg h10, if_neg h10, if_pos (of_decide_eq_true hb)]
        have fts : s.ts'.length ≤ s.off + 1 := by
          unfold Sc.ts'
          split
          · omega
          · rw [List.length_append, List.length_singleton]
            omega
        refine q_if (b := !(vN s.sg).isEmpty) (et_test (ev_neNil (ev_var rfl) I6.hS)) (fun hb2 H7 e7 => ?_) (fun hb2 H7 e7 => ?_)
        · have hne : s.sg ≠ [] := fun q => by
            rw [q] at hb2
            cases hb2
          have ets : s.ts' = s.ts ++ [⟨s.off - s.sg.length, s.sg⟩] := by
            unfold Sc.ts'
            rw [if_neg hne]
          have I7 := I6.exx e7
          refine s_appM (e7 _ _ hT6) (ev_var rfl) (em_tok (F := Fr H L T) (w := s.sg) (o := s.off - s.sg.length) I7.alive (ev_is (ev_op (ev_var rfl) (ev_len (ev_var rfl) (sq_of I7.hS)) rv_I0) (by rw [vN_len]; exact congrArg V.int (by omega))) (ev_var rfl) I7.hS I7.nS) (by rw [hE5.1]; omega) fun x H8 hx e8 hw => ?_
          have I8 := (I7.exx e8).tok (s' := ⟨s.off, s.ls, s.ts', s.sg⟩) (e8 _ _ (e7 _ _ hT6)) hw rfl ets rfl
          exact line_rest (s := s) (hstp := hstp) I8 fl fts (by omega) hoff (by rw [upd_ne npT]; exact e8 _ _ (e7 _ _ (e6 _ _ hp5))) npL npT fun T' S' H9 I9 h9 n9 => ⟨T', S', _, _, rfl, I9, h9, npL, n9⟩
        · have hne : s.sg = [] := by
            cases hsg : s.sg with
            | nil => rfl
            | cons c r =>
              rw [hsg] at hb2
              cases hb2
          have ets : s.ts' = s.ts := by
            unfold Sc.ts'
            rw [if_pos hne]
          have I7 : LInv K H H7 L T S ⟨s.off, s.ls, s.ts', s.sg⟩ := by
            rw [ets]
            exact I6.exx e7
          exact line_rest (s := s) (hstp := hstp) I7 fl fts (by omega) hoff (e7 _ _ (e6 _ _ hp5)) npL npT fun T' S' H9 I9 h9 n9 => ⟨T', S', _, _, rfl, I9, h9, npL, n9⟩
      · have hn : ¬ u = 10 ∧ ¬ u = 32 := by
          rw [Bool.or_eq_false_iff] at hb
          exact ⟨of_decide_eq_false hb.1, of_decide_eq_false hb.2⟩
        have es : scStep s u = ⟨s.off + 1, s.ls, s.ts, s.sg ++ [u]⟩ := by unfold scStep; rw [if_neg hn.1, if_neg hn.2]
        have I6 := I5.exx e6
        refine s_asgL (el_catVL (ev_var rfl) I6.hS (el_lst (ea_cons (ev_var rfl) ea_nil) (by show 1 ≤ 100000; decide)) (by rw [vN_len]; show _ + 1 ≤ 100000; omega)) fun S' H7 hS' e7 hS7 => ⟨T, S', _, _, rfl, ?_, e7 _ _ (e6 _ _ hp5), npL, npT⟩
        rw [es]
        exact I6.signs e7 (l := s.sg ++ [u]) (by rw [hS7, vN_app]; rfl) hS' rfl rfl rfl
    · obtain ⟨T, S, x1, y1, rfl, I, _⟩ := q
      refine ⟨_, rfl, ?_⟩
      obtain ⟨xs, hx, hE⟩ := I.hL
      rw [scan_is] at hE
      exact k L H4 hL I.ex ⟨xs, hx, hE.imp fun _ _ q => q.grow fun b hb => .inl (.inl hb)⟩
end
end Gs

set_option Elab.async false
set_option linter.all false
set_option maxRecDepth 100000
set_option maxHeartbeats 4000000
/-! Walks: the reader. -/
namespace Gs
open PySem PySem.Spec PyProof.Rows L2 Evl
open Vbndaa (toBytes Token Cursor ParseError splitAtByte currentOffset expectToken expectEnd valueOf)
def rdF (ap ar ta : Addr) (a : Nat) : List (Str × V) := [("players", .ref ap), ("rules", .ref ar), ("tokens", .ref ta), ("at", vI a)]
theorem rdF_players (ap ar ta : Addr) (a : Nat) : (rdF ap ar ta a).lookup ("players" : Str) = some (.ref ap) := lookup_hit
theorem rdF_rules (ap ar ta : Addr) (a : Nat) : (rdF ap ar ta a).lookup ("rules" : Str) = some (.ref ar) := (lookup_miss (by decide +kernel)).trans lookup_hit
theorem rdF_tokens (ap ar ta : Addr) (a : Nat) : (rdF ap ar ta a).lookup ("tokens" : Str) = some (.ref ta) := (lookup_miss (by decide +kernel)).trans ((lookup_miss (by decide +kernel)).trans lookup_hit)
theorem rdF_at (ap ar ta : Addr) (a : Nat) : (rdF ap ar ta a).lookup ("at" : Str) = some (vI a) := (lookup_miss (by decide +kernel)).trans ((lookup_miss (by decide +kernel)).trans ((lookup_miss (by decide +kernel)).trans lookup_hit))
theorem rdF_none (ap ar ta : Addr) (a : Nat) {m : Str} (h : ((m == ("players" : Str)) || ((m == ("rules" : Str)) || ((m == ("tokens" : Str)) || (m == ("at" : Str))))) = false) : (rdF ap ar ta a).lookup m = none := by
  rw [Bool.or_eq_false_iff, Bool.or_eq_false_iff, Bool.or_eq_false_iff] at h
  exact (lookup_miss h.1).trans ((lookup_miss h.2.1).trans ((lookup_miss h.2.2.1).trans ((lookup_miss h.2.2.2).trans rfl)))
theorem putF_at (ap ar ta : Addr) (a b : Nat) : putF "at" (vI b) (rdF ap ar ta a) = rdF ap ar ta b := by
  unfold rdF
  rw [putF_ne (by decide +kernel), putF_ne (by decide +kernel), putF_ne (by decide +kernel)]
  show _ :: _ :: _ :: (if ("at" : Str) = "at" then _ else _) = _
  rw [if_pos rfl]
theorem putF_tokens (ap ar ta tb : Addr) (a : Nat) : putF "tokens" (.ref tb) (rdF ap ar ta a) = rdF ap ar tb a := by
  unfold rdF
  rw [putF_ne (by decide +kernel), putF_ne (by decide +kernel)]
  show _ :: _ :: (if ("tokens" : Str) = "tokens" then _ else _) = _
  rw [if_pos rfl]
structure RdZ (K : PySem.W.Frag) (B : Hp) (F : Addr → Prop) (H : Hp) (rd : Addr) (z : Vbndam.Room) : Prop where
  base : Ex B H
  own : ∀ b, F b → B b = none ∧ H b ≠ none
  frd : F rd
  part : Part z
  ob : ∃ dx ap ar ta a, H rd = some (.ins (He.ga K "Reader") dx (rdF ap ar ta a)) ∧ ListsAt K F H ap ar z
structure RdAt (K : PySem.W.Frag) (B : Hp) (F : Addr → Prop) (H : Hp) (rd : Addr) (z : Vbndam.Room) (q : Cursor) : Prop where
  base : Ex B H
  own : ∀ b, F b → B b = none ∧ H b ≠ none
  frd : F rd
  part : Part z
  cur : CurOk q
  ob : ∃ dx ap ar ta a T xs, H rd = some (.ins (He.ga K "Reader") dx (rdF ap ar ta a)) ∧ ListsAt K F H ap ar z ∧ H ta = some (.lst xs) ∧ ¬ F ta ∧ EachAt (TokAt K F H) xs (T ++ [⟨q.endOffset, []⟩]) ∧ q.tokens = T.drop a ∧ a ≤ T.length ∧ T.length ≤ 2000
section
variable {K : PySem.W.Frag} {B : Hp} {F : Addr → Prop} {H H' : Hp} {rd : Addr} {z : Vbndam.Room} {q : Cursor}
theorem RdAt.toZ (h : RdAt K B F H rd z q) : RdZ K B F H rd z := ⟨h.base, h.own, h.frd, h.part, by
  obtain ⟨dx, ap, ar, ta, a, T, xs, h1, h2, _⟩ := h.ob
  exact ⟨dx, ap, ar, ta, a, h1, h2⟩⟩
theorem RdAt.ex (h : RdAt K B F H rd z q) (e : Ex H H') : RdAt K B F H' rd z q := ⟨h.base.trans e, fun b hb => ⟨(h.own b hb).1, Ex.alive e (h.own b hb).2⟩, h.frd, h.part, h.cur, by
  obtain ⟨dx, ap, ar, ta, a, T, xs, h1, h2, h3, h4, h5, h6⟩ := h.ob
  exact ⟨dx, ap, ar, ta, a, T, xs, e _ _ h1, h2.ex e, e _ _ h3, h4, h5.imp fun _ _ t => t.ex e, h6⟩⟩
theorem RdZ.ex (h : RdZ K B F H rd z) (e : Ex H H') : RdZ K B F H' rd z := ⟨h.base.trans e, fun b hb => ⟨(h.own b hb).1, Ex.alive e (h.own b hb).2⟩, h.frd, h.part, by
  obtain ⟨dx, ap, ar, ta, a, h1, h2⟩ := h.ob
  exact ⟨dx, ap, ar, ta, a, e _ _ h1, h2.ex e⟩⟩
theorem RdAt.nf (h : RdAt K B F H rd z q) : ∀ b, F b → H b ≠ none := fun b hb => (h.own b hb).2
/-- what is new stays new over what is kept -/
theorem kept_back {p : Addr} (k : Keep F H H') (n : ∀ b, F b → H' b ≠ none) (h : H' p = none) : H p = none := by
  cases hp : H p with
  | none => rfl
  | some o =>
    by_cases hF : F p
    · exact absurd h (n p hF)
    · rw [k p o hp hF] at h
      cases h
/-- the lists of a room, another object that is a reader changed -/
theorem ListsAt.mut4 {ap ar : Addr} {dx : Addr} {fs : List (Str × V)} (h : ListsAt K F H ap ar z) (hr : H rd = some (.ins (He.ga K "Reader") dx fs)) (hF : F rd) (hl : fs.length = 4) (o2 : HO) : ListsAt K F (upd H rd o2) ap ar z where
  pl := by
    obtain ⟨ps, h1, h2, h3⟩ := h.pl
    refine ⟨ps, upd_keep h1 hr (fun e => by cases e), h2.imp fun v p hp => hp.set hr hF fun e => ?_, h3⟩
    obtain ⟨a, dx2, n, e1, h4, _⟩ := hp
    rw [e] at e1
    cases e1
    rw [hr] at h4
    have := (HO.ins.inj (Option.some.inj h4)).2.2
    rw [this] at hl
    exact absurd (show 2 = 4 from hl) (by decide)
  ru := by
    obtain ⟨rs, h1, h2⟩ := h.ru
    exact ⟨rs, upd_keep h1 hr (fun e => by cases e), h2.imp fun v u hu => hu.set hF⟩
  ne := h.ne
  fp := h.fp
  fr := h.fr
theorem cur_more (h : CurOk q) {T : List Token} {a : Nat} (ht : q.tokens = T.drop a) (ha : a ≤ T.length) (hne : (tokOf q).bytes ≠ []) : a + 1 ≤ T.length ∧ (skip q).tokens = T.drop (a + 1) := by
  refine ⟨?_, ?_⟩
  · by_cases hlt : a < T.length
    · exact hlt
    · have : q.tokens = [] := by
        rw [ht, List.drop_eq_nil_iff]
        omega
      refine absurd ?_ hne
      unfold tokOf
      rw [this]
  · show q.tokens.drop 1 = _
    rw [ht, List.drop_drop]
theorem tok_at {T : List Token} {a : Nat} (ht : q.tokens = T.drop a) (ha : a ≤ T.length) : (T ++ [⟨q.endOffset, []⟩])[a]? = some (tokOf q) := by
  unfold tokOf
  by_cases hlt : a < T.length
  · rw [List.getElem?_append_left hlt, List.getElem?_eq_getElem hlt, ht, List.drop_eq_getElem_cons hlt]
  · have e : a = T.length := by omega
    rw [List.getElem?_append_right (by omega), ht, e, Nat.sub_self, List.drop_length]
    rfl
/-- a token read -/
theorem RdAt.step (h : RdAt K B F H rd z q) (hne : (tokOf q).bytes ≠ []) : ∃ dx ap ar ta a, H rd = some (.ins (He.ga K "Reader") dx (rdF ap ar ta a)) ∧ RdAt K B F (upd H rd (.ins (He.ga K "Reader") dx (rdF ap ar ta (a + 1)))) rd z (skip q) := by
  obtain ⟨dx, ap, ar, ta, a, T, xs, h1, h2, h3, h4, h5, h6, h7, h8⟩ := id h.ob
  have kp : Keep F H (upd H rd (.ins (He.ga K "Reader") dx (rdF ap ar ta (a + 1)))) := Keep.upd h.frd
  obtain ⟨m1, m2⟩ := cur_more h.cur h6 h7 hne
  refine ⟨dx, ap, ar, ta, a, h1, h.base.mut (h.own rd h.frd).1, fun b hb => ⟨(h.own b hb).1, upd_alive (h.own b hb).2⟩, h.frd, h.part, h.cur.skip, dx, ap, ar, ta, a + 1, T, xs, upd_same, h2.mut4 h1 h.frd rfl _, kp _ _ h3 h4, h4, h5.imp fun _ _ t => t.keep kp, m2, m1, h8⟩
end
/-! over a part of the heap -/
section
open Classical
noncomputable def cut (S : Addr → Prop) (H : Hp) : Hp := fun b => if S b then H b else none
variable {S S' : Addr → Prop} {H H' : Hp} {b f : Addr} {o : HO}
theorem cut_some (h : cut S H b = some o) : S b ∧ H b = some o := by
  unfold cut at h
  by_cases hs : S b
  · rw [if_pos hs] at h
    exact ⟨hs, h⟩
  · rw [if_neg hs] at h
    cases h
theorem cut_in (hs : S b) : cut S H b = H b := by
  unfold cut
  rw [if_pos hs]
theorem cut_out (hs : ¬ S b) : cut S H b = none := by
  unfold cut
  rw [if_neg hs]
theorem cut_ex : Ex (cut S H) H := fun b o h => (cut_some h).2
theorem cut_mono (e : Ex H H') : Ex (cut S H) (cut S H') := fun b o h => by
  obtain ⟨h1, h2⟩ := cut_some h
  rw [cut_in h1]
  exact e _ _ h2
theorem cut_upd (hs : S b) : cut S (upd H b o) = upd (cut S H) b o := by
  funext a
  by_cases h : a = b
  · rw [h, upd_same, cut_in hs, upd_same]
  · rw [upd_ne h]
    by_cases hsa : S a
    · rw [cut_in hsa, cut_in hsa, upd_ne h]
    · rw [cut_out hsa, cut_out hsa]
theorem cut_updo (hs : ¬ S f) : cut S (upd H f o) = cut S H := by
  funext a
  by_cases hsa : S a
  · rw [cut_in hsa, cut_in hsa, upd_ne (fun e => hs (by rw [← e]; exact hsa))]
  · rw [cut_out hsa, cut_out hsa]
theorem cut_all : cut (fun _ => True) H = H := by
  funext a
  exact cut_in True.intro
theorem cut_alive : cut (fun b => H b ≠ none) H = H := by
  funext a
  by_cases hsa : H a = none
  · rw [cut_out (fun h => h hsa), hsa]
  · exact cut_in hsa
end
def RdS (K : PySem.W.Frag) (B : Hp) (F S : Addr → Prop) (H : Hp) (rd : Addr) (z : Vbndam.Room) (q : Cursor) : Prop := RdAt K B F (cut S H) rd z q
section
variable {K : PySem.W.Frag} {B : Hp} {F S : Addr → Prop} {H H' : Hp} {rd : Addr} {z : Vbndam.Room} {q : Cursor}
theorem RdS.at (h : RdS K B F S H rd z q) : RdAt K B F H rd z q := RdAt.ex h cut_ex
theorem RdS.ex (h : RdS K B F S H rd z q) (e : Ex H H') : RdS K B F S H' rd z q := RdAt.ex h (cut_mono e)
theorem RdAt.all (h : RdAt K B F H rd z q) : RdS K B F (fun _ => True) H rd z q := by
  unfold RdS
  rw [cut_all]
  exact h
theorem RdAt.alive (h : RdAt K B F H rd z q) : RdS K B F (fun b => H b ≠ none) H rd z q := by
  unfold RdS
  rw [cut_alive]
  exact h
theorem RdS.out {f : Addr} {o : HO} (h : RdS K B F S H rd z q) (hf : ¬ S f) : RdS K B F S (upd H f o) rd z q := by
  unfold RdS
  rw [cut_updo hf]
  exact h
theorem RdS.step (h : RdS K B F S H rd z q) (hne : (tokOf q).bytes ≠ []) : ∃ dx ap ar ta a, H rd = some (.ins (He.ga K "Reader") dx (rdF ap ar ta a)) ∧ RdS K B F S (upd H rd (.ins (He.ga K "Reader") dx (rdF ap ar ta (a + 1)))) rd z (skip q) := by
  obtain ⟨dx, ap, ar, ta, a, h1, h2⟩ := RdAt.step h hne
  obtain ⟨hs, h3⟩ := cut_some h1
  refine ⟨dx, ap, ar, ta, a, h3, ?_⟩
  unfold RdS
  rw [cut_upd hs]
  exact h2
theorem Keep.up (h : Keep (fun b => b = rd) H H') (hF : F rd) : Keep F H H' := fun b o hb hn => h b o hb fun e => hn (by rw [e]; exact hF)
end
/-! ### promises -/
def Res {α : Type} (K : PySem.W.Frag) (E : XK) (B : Hp) (r : Except ParseError α) (good : α → Prop) : Prop := (∀ er, r = .error er → FailsB K E B er) ∧ (∀ x, r = .ok x → good x)
def spNext (K : PySem.W.Frag) : Sp := fun vs H Q _ => ∃ (B : Hp) (F : Addr → Prop) (rd : Addr) (z : Vbndam.Room) (q : Cursor), vs = [.ref rd] ∧ RdAt K B F H rd z q ∧ ∀ v H', Ex H H' → TokAt K F H' v (tokOf q) → Q v H'
def spTakeWord (K : PySem.W.Frag) : Sp := fun vs H Q E => ∃ (B : Hp) (F S : Addr → Prop) (rd : Addr) (z : Vbndam.Room) (q : Cursor) (x : String), vs = [.ref rd, .str (Str.ofString x)] ∧ RdS K B F S H rd z q ∧ toBytes x ≠ [] ∧ (toBytes x).length ≤ 1000 ∧
  Res K E B (expectToken 1 (toBytes x) q) (fun y => ∀ H', RdS K B F S H' rd z y.2 → Keep (fun b => b = rd) H H' → Q .non H')
def spTakeName (K : PySem.W.Frag) : Sp := fun vs H Q E => ∃ (B : Hp) (F S : Addr → Prop) (rd : Addr) (z : Vbndam.Room) (q : Cursor), vs = [.ref rd] ∧ RdS K B F S H rd z q ∧
  Res K E B (Vbndam.parseName q) (fun y => ∀ v H', RdS K B F S H' rd z y.2 → Keep (fun b => b = rd) H H' → TokAt K F H' v ⟨currentOffset q, y.1⟩ → Q v H')
def spTakeNumber (K : PySem.W.Frag) : Sp := fun vs H Q E => ∃ (B : Hp) (F S : Addr → Prop) (rd : Addr) (z : Vbndam.Room) (q : Cursor) (lo hi : Nat), vs = [.ref rd, vI lo, vI hi] ∧ RdS K B F S H rd z q ∧
  Res K E B (Vbndam.parseNatInRange lo hi q) (fun y => ∀ H', RdS K B F S H' rd z y.2 → Keep (fun b => b = rd) H H' → Q (vI y.1) H')
def spTakeEnd (K : PySem.W.Frag) : Sp := fun vs H Q E => ∃ (B : Hp) (F : Addr → Prop) (rd : Addr) (z : Vbndam.Room) (q : Cursor), vs = [.ref rd] ∧ RdAt K B F H rd z q ∧
  Res K E B (expectEnd 1 () q) (fun _ => ∀ H', Ex H H' → Q .non H')
def spNames (K : PySem.W.Frag) : Sp := fun vs H Q _ => ∃ (B : Hp) (F : Addr → Prop) (rd : Addr) (z : Vbndam.Room), vs = [.ref rd] ∧ RdZ K B F H rd z ∧ ∀ p H', H p = none → Ex H H' → WordsAt H' p (z.players.map fun x => x.name) → Q (.ref p) H'
/-! ### what evaluates to something that is known by P -/
def EvX (te : TE) (σ : L2.St) (H : Hp) (P : V → Hp → Prop) : Prop := ∀ H1, Ex H H1 → ∀ Q : VK, (∀ v H2, Ex H1 H2 → P v H2 → Q v H2) → te σ H1 Q
section
variable {K : PySem.W.Frag} {B : Hp} {F S : Addr → Prop} {H H' : Hp} {rd : Addr} {z : Vbndam.Room} {q : Cursor} {te tb : TE} {ta : TA} {σ : L2.St} {D : Ends} {tz : TS} {E : XK} {P : V → Hp → Prop} {w : Token}
theorem ex_V {v : V} (h : Ev te σ H v) (hp : ∀ H', Ex H H' → P v H') : EvX te σ H P := fun H1 e Q k => h H1 e Q fun H2 e2 => k v H2 e2 (hp H2 (e.trans e2))
theorem ex_offset (c : Cls K (He.ga K "Token")) (n : NoAttr K (He.ga K "Token") "offset") (h : EvX te σ H (fun v H => TokAt K F H v w)) : Ev (tFld K te "offset") σ H (vI w.offset) := fun H1 e Q k =>
  h H1 e _ fun v H2 e2 hw => by
    obtain ⟨t, dx, p, rfl, h1, h2, _⟩ := hw
    exact ⟨t, _, dx, _, _, rfl, h1, c, n, tkF_offset _ _, k H2 e2⟩
theorem ex_signs (c : Cls K (He.ga K "Token")) (n : NoAttr K (He.ga K "Token") "signs") (h : EvX te σ H (fun v H => TokAt K F H v w)) : EvX (tFld K te "signs") σ H (fun v H => WordAt H v w.bytes) := fun H1 e Q k =>
  h H1 e _ fun v H2 e2 hw => by
    obtain ⟨t, dx, p, rfl, h1, h2, _⟩ := hw
    exact ⟨t, _, dx, _, _, rfl, h1, c, n, tkF_signs _ _, k _ H2 e2 ⟨p, rfl, h2⟩⟩
theorem ex_isWord {s : String} {u : List Nat} (h : EvX te σ H (fun v H => WordAt H v u)) (h2 : Ev tb σ H (.str (Str.ofString s))) (hs : (toBytes s).length ≤ 1000) : Ev (tCall spIsWord [] E (tCons te (tCons tb tNil))) σ H (.bl (decide (u = toBytes s))) := fun H1 e Q k =>
  h H1 e _ fun v H2 e2 hw => by
    obtain ⟨p, rfl, hp⟩ := hw
    exact h2 H2 (e.trans e2) _ fun H3 e3 => sv_word (e3 _ _ hp) hs H3 (Ex.refl _) Q (fun H4 e4 => k H4 ((e2.trans e3).trans e4)) E
theorem ex_wordB {f : List Nat → Bool} {u : List Nat} (h : EvX te σ H (fun v H => WordAt H v u)) (hs : u.length ≤ 2000) : Ev (tCall (spWordB f) [] E (tCons te tNil)) σ H (.bl (f u)) := fun H1 e Q k =>
  h H1 e _ fun v H2 e2 hw => by
    obtain ⟨p, rfl, hp⟩ := hw
    exact sv_wordB hp hs H2 (Ex.refl _) Q (fun H4 e4 => k H4 (e2.trans e4)) E
theorem ex_numberOf {u : List Nat} (h : EvX te σ H (fun v H => WordAt H v u)) (hs : numOk u = true) : Ev (tCall spNumberOf [] E (tCons te tNil)) σ H (vI (valueOf u)) := fun H1 e Q k =>
  h H1 e _ fun v H2 e2 hw => by
    obtain ⟨p, rfl, hp⟩ := hw
    exact sv_numberOf hp hs H2 (Ex.refl _) Q (fun H4 e4 => k H4 (e2.trans e4)) E
theorem ex_eqNil {u : List Nat} (h : EvX te σ H (fun v H => WordAt H v u)) : Ev (tOp (rEqNil K) te (tLst tNil)) σ H (.bl u.isEmpty) := fun H1 e Q k =>
  h H1 e _ fun v H2 e2 hw => by
    obtain ⟨p, rfl, hp⟩ := hw
    refine el_lst ea_nil (by decide) H2 (e.trans e2) _ fun p' H3 hp' e3 h3 => ⟨p, p', vN u, rfl, rfl, sq_of (e3 _ _ hp), sq_of h3, ?_⟩
    have : (vN u).isEmpty = u.isEmpty := by cases u <;> rfl
    rw [this]
    exact k H3 (e2.trans e3)
theorem ex_neNil {u : List Nat} (h : EvX te σ H (fun v H => WordAt H v u)) : Ev (tOp (rNeNil K) te (tLst tNil)) σ H (.bl (!u.isEmpty)) := fun H1 e Q k =>
  h H1 e _ fun v H2 e2 hw => by
    obtain ⟨p, rfl, hp⟩ := hw
    refine el_lst ea_nil (by decide) H2 (e.trans e2) _ fun p' H3 hp' e3 h3 => ⟨p, p', vN u, rfl, rfl, sq_of (e3 _ _ hp), sq_of h3, ?_⟩
    have : (vN u).isEmpty = u.isEmpty := by cases u <;> rfl
    rw [this]
    exact k H3 (e2.trans e3)
theorem ex_next (R : RdAt K B F H rd z q) (h0 : σ[0]? = some (some (.ref rd))) : EvX (tMeth (He.ga K "Reader") "next_token" (spNext K) [] E (tVar 0) tNil) σ H (fun v H => TokAt K F H v (tokOf q)) := fun H1 e Q k => by
  obtain ⟨dx, ap, ar, ta, a, T, xs, h1, _⟩ := id R.ob
  exact ⟨_, h0, rd, dx, _, rfl, e _ _ h1, rdF_none _ _ _ _ (by decide +kernel), B, F, rd, z, q, rfl, R.ex e, k⟩
theorem q_asgX {i : Nat} (h : EvX te σ H P) (k : ∀ v H1, Ex H H1 → P v H1 → tz D (σ.set i (some v)) H1) : tSeq (tAsg te (gName i)) tz D σ H := h H (Ex.refl H) _ k
theorem q_chk {b : Bool} {kd o : Nat} (h : EvA ta σ H [.bl b, vI kd, vI o]) (kT : b = true → ∀ H1, Ex H H1 → tz D σ H1) (kF : b = false → FailsB K E H ⟨kd, o⟩) : tSeq (tDrop (tCall (spCheck K) [] E ta)) tz D σ H :=
  h H (Ex.refl H) _ fun H1 e1 => ⟨b, kd, o, rfl, fun a H' e => kT a H' (e1.trans e), fun a => (kF a).mono e1⟩
theorem s_chk {b : Bool} {kd o : Nat} (h : EvA ta σ H [.bl b, vI kd, vI o]) (kT : b = true → ∀ H1, Ex H H1 → D.nx σ H1) (kF : b = false → FailsB K E H ⟨kd, o⟩) : tDrop (tCall (spCheck K) [] E ta) D σ H :=
  h H (Ex.refl H) _ fun H1 e1 => ⟨b, kd, o, rfl, fun a H' e => kT a H' (e1.trans e), fun a => (kF a).mono e1⟩
theorem q_more {mg : Str → Option Value} (c : Top K mg) (R : RdS K B F S H rd z q) (h0 : σ[0]? = some (some (.ref rd))) (hne : (tokOf q).bytes ≠ []) (k : ∀ H1, RdS K B F S H1 rd z (skip q) → Keep (fun b => b = rd) H H1 → tz D σ H1) : tSeq (sFldAug K (tVar 0) (tC (.int 1)) rAdd "at") tz D σ H := by
  obtain ⟨dx, ap, ar, ta, a, h1, h2⟩ := R.step hne
  refine ⟨_, h0, rd, _, dx, _, _, rfl, h1, c.cls_Reader, c.no_Reader_at, rdF_at _ _ _ _, _, _, rfl, rfl, dx, _, h1, by show 4 < 1000; decide, ?_⟩
  rw [show V.int ((a : Int) + 1) = vI (a + 1) from congrArg V.int (by omega), putF_at]
  exact k _ h2 (Keep.upd rfl)
theorem s_more {mg : Str → Option Value} (c : Top K mg) (R : RdS K B F S H rd z q) (h0 : σ[0]? = some (some (.ref rd))) (hne : (tokOf q).bytes ≠ []) (k : ∀ H1, RdS K B F S H1 rd z (skip q) → Keep (fun b => b = rd) H H1 → D.nx σ H1) : sFldAug K (tVar 0) (tC (.int 1)) rAdd "at" D σ H := by
  obtain ⟨dx, ap, ar, ta, a, h1, h2⟩ := R.step hne
  refine ⟨_, h0, rd, _, dx, _, _, rfl, h1, c.cls_Reader, c.no_Reader_at, rdF_at _ _ _ _, _, _, rfl, rfl, dx, _, h1, by show 4 < 1000; decide, ?_⟩
  rw [show V.int ((a : Int) + 1) = vI (a + 1) from congrArg V.int (by omega), putF_at]
  exact k _ h2 (Keep.upd rfl)
end
section
variable {P : Program} {w : World} {K : PySem.W.Frag} {mg : Str → Option Value} {base : Heap}
theorem ok_rd_next_token (c : Top K mg) : FOk P w K mg base CX0 1 ("Reader", some "next_token") p_Reader_next_token (spNext K) := by
  refine FOk.mk0 c.f_Reader_next_token sc_Reader_next_token (fun _ _ _ _ _ _ us hl => match us, hl with | [_], _ => rfl) (fun vs H Q E h => ?_) (fun cdv A outer s H vs Q E hr h => ?_)
  · obtain ⟨B, F, rd, z, q, rfl, _⟩ := h
    rfl
  · obtain ⟨B, F, rd, z, q, rfl, R, k⟩ := h
    refine ⟨_, pss_one (ps_ret (pe_ix ix_list (pe_fld (pv 0) rfl) (pe_fld (pv 0) rfl) (fun _ _ => rfl))), ?_⟩
    obtain ⟨dx, ap, ar, ta, a, T, xs, h1, h2, h3, h4, h5, h6, h7, h8⟩ := id R.ob
    obtain ⟨v, hv, hT⟩ := h5.get (tok_at h6 h7)
    exact s_ret (ev_op (ev_fld (ev_var rfl) h1 c.cls_Reader c.no_Reader_tokens (rdF_tokens _ _ _ _)) (ev_fld (ev_var rfl) h1 c.cls_Reader c.no_Reader_at (rdF_at _ _ _ _)) (rv_ixL (sq_of h3) (atI_nat hv))) fun H1 e1 => k v H1 e1 (hT.ex e1)
theorem ok_rd_take_word (c : Top K mg) : FOk P w K mg base (L2N.CX P w) 4 ("Reader", some "take_word") p_Reader_take_word (spTakeWord K) := by
  refine FOk.mk c.f_Reader_take_word sc_Reader_take_word (fun _ _ _ _ _ _ us hl => match us, hl with | [_, _], _ => rfl) (fun vs H Q E h => ?_) (fun cdv A outer s H vs Q E hr h => ?_)
  · obtain ⟨B, F, S, rd, z, q, x, rfl, _⟩ := h
    rfl
  · obtain ⟨B, F, S, rd, z, q, x, rfl, R, hx, hx2, kE, kO⟩ := h
    have nd := sc_Reader_take_word.nd
    rw [expect_is hx] at kE kO
    refine ⟨_, (pss_cons (ps_set (i := 2) nd rfl (.inl rfl) (pe_mf0 (ok_rd_next_token c) (hr.mono (by decide)) c.cls_Reader c.me_Reader_next_token pass0 (pv 0)))
      (pss_cons (ps_expr (pe_cf (ok_check c) (hr.mono (by decide)) c.glo_check (L2N.passes_call (L2N.takes_of rfl rfl rfl rfl) (fun _ _ _ _ h => h)) (pa_cons (pe_cf (ok_is_word c) (hr.mono (by decide)) c.glo_is_word pass0 (pa_cons (pe_fld (pv 2) rfl) (pa_cons (pv 1) pa_nil))) (pa_cons (pe_gi c.int_BAD_TOKEN) (pa_cons (pe_fld (pv 2) rfl) pa_nil)))))
      (pss_one (ps_fldaug (pv 0) pe_int in_add)))), ?_⟩
    refine q_asgX (ex_next R.at rfl) fun v H1 e1 hw => ?_
    have hX : EvX (tVar 2) [some (.ref rd), some (.str (Str.ofString x)), some v] H1 (fun v H => TokAt K F H v (tokOf q)) := ex_V (ev_var rfl) fun H' e => hw.ex e
    refine q_chk (kd := 1) (ea_cons (ex_isWord (ex_signs c.cls_Token c.no_Token_signs hX) (ev_var rfl) hx2) (ea_cons ev_c (ea_cons (ex_offset c.cls_Token c.no_Token_offset hX) ea_nil))) (fun hb H2 e2 => ?_) (fun hb => ?_)
    · have hb := of_decide_eq_true hb
      rw [if_pos hb] at kO
      exact s_more c (R.ex (e1.trans e2)) rfl (by rw [hb]; exact hx) fun H3 R3 K3 => kO _ rfl H3 R3 ((Keep.ofEx (e1.trans e2)).trans K3)
    · rw [if_neg (of_decide_eq_false hb)] at kE
      exact (kE _ rfl).mono (R.at.ex e1).base
theorem ok_rd_take_name (c : Top K mg) : FOk P w K mg base (L2N.CX P w) 4 ("Reader", some "take_name") p_Reader_take_name (spTakeName K) := by
  refine FOk.mk c.f_Reader_take_name sc_Reader_take_name (fun _ _ _ _ _ _ us hl => match us, hl with | [_], _ => rfl) (fun vs H Q E h => ?_) (fun cdv A outer s H vs Q E hr h => ?_)
  · obtain ⟨B, F, S, rd, z, q, rfl, _⟩ := h
    rfl
  · obtain ⟨B, F, S, rd, z, q, rfl, R, kE, kO⟩ := h
    have nd := sc_Reader_take_name.nd
    rw [name_is] at kE kO
    refine ⟨_, (pss_cons (ps_set (i := 1) nd rfl (.inl rfl) (pe_mf0 (ok_rd_next_token c) (hr.mono (by decide)) c.cls_Reader c.me_Reader_next_token pass0 (pv 0)))
      (pss_cons (ps_expr (pe_cf (ok_check c) (hr.mono (by decide)) c.glo_check (L2N.passes_call (L2N.takes_of rfl rfl rfl rfl) (fun _ _ _ _ h => h)) (pa_cons (pe_cf (ok_is_name c) (hr.mono (by decide)) c.glo_is_name pass0 (pa_cons (pe_fld (pv 1) rfl) pa_nil)) (pa_cons (pe_gi c.int_BAD_TOKEN) (pa_cons (pe_fld (pv 1) rfl) pa_nil)))))
      (pss_cons (ps_fldaug (pv 0) pe_int in_add)
      (pss_one (ps_ret (pv 1)))))), ?_⟩
    refine q_asgX (ex_next R.at rfl) fun v H1 e1 hw => ?_
    have hX : EvX (tVar 1) [some (.ref rd), some v] H1 (fun v H => TokAt K F H v (tokOf q)) := ex_V (ev_var rfl) fun H' e => hw.ex e
    refine q_chk (kd := 1) (ea_cons (ex_wordB (ex_signs c.cls_Token c.no_Token_signs hX) (tok_ok R.at.cur)) (ea_cons ev_c (ea_cons (ex_offset c.cls_Token c.no_Token_offset hX) ea_nil))) (fun hb H2 e2 => ?_) (fun hb => ?_)
    · rw [if_pos hb] at kO
      refine q_more c (R.ex (e1.trans e2)) rfl (ne_of_name hb).1 fun H3 R3 K3 => ⟨_, rfl, kO _ rfl v H3 R3 ((Keep.ofEx (e1.trans e2)).trans K3) ?_⟩
      rw [off_is]
      exact (hw.ex e2).keep (K3.up R.at.frd)
    · rw [if_neg (by rw [hb]; exact Bool.false_ne_true)] at kE
      exact (kE _ rfl).mono (R.at.ex e1).base
theorem ok_rd_take_number (c : Top K mg) : FOk P w K mg base (L2N.CX P w) 4 ("Reader", some "take_number") p_Reader_take_number (spTakeNumber K) := by
  refine FOk.mk c.f_Reader_take_number sc_Reader_take_number (fun _ _ _ _ _ _ us hl => match us, hl with | [_, _, _], _ => rfl) (fun vs H Q E h => ?_) (fun cdv A outer s H vs Q E hr h => ?_)
  · obtain ⟨B, F, S, rd, z, q, lo, hi, rfl, _⟩ := h
    rfl
  · obtain ⟨B, F, S, rd, z, q, lo, hi, rfl, R, kE, kO⟩ := h
    have nd := sc_Reader_take_number.nd
    rw [number_is] at kE kO
    refine ⟨_, (pss_cons (ps_set (i := 3) nd rfl (.inl rfl) (pe_mf0 (ok_rd_next_token c) (hr.mono (by decide)) c.cls_Reader c.me_Reader_next_token pass0 (pv 0)))
      (pss_cons (ps_expr (pe_cf (ok_check c) (hr.mono (by decide)) c.glo_check (L2N.passes_call (L2N.takes_of rfl rfl rfl rfl) (fun _ _ _ _ h => h)) (pa_cons (pe_cf (ok_is_number c) (hr.mono (by decide)) c.glo_is_number pass0 (pa_cons (pe_fld (pv 3) rfl) pa_nil)) (pa_cons (pe_gi c.int_BAD_TOKEN) (pa_cons (pe_fld (pv 3) rfl) pa_nil)))))
      (pss_cons (ps_set (i := 4) nd rfl (.inl rfl) (pe_cf (ok_number_of c) (hr.mono (by decide)) c.glo_number_of pass0 (pa_cons (pe_fld (pv 3) rfl) pa_nil)))
      (pss_cons (ps_expr (pe_cf (ok_check c) (hr.mono (by decide)) c.glo_check (L2N.passes_call (L2N.takes_of rfl rfl rfl rfl) (fun _ _ _ _ h => h)) (pa_cons (pe_chain op_le op_le (pv 1) (pv 4) (pv 2)) (pa_cons (pe_gi c.int_BAD_NUMBER) (pa_cons (pe_fld (pv 3) rfl) pa_nil)))))
      (pss_cons (ps_fldaug (pv 0) pe_int in_add)
      (pss_one (ps_ret (pv 4)))))))), ?_⟩
    refine q_asgX (ex_next R.at rfl) fun v H1 e1 hw => ?_
    have hX : EvX (tVar 3) [some (.ref rd), some (vI lo), some (vI hi), some v, none] H1 (fun v H => TokAt K F H v (tokOf q)) := ex_V (ev_var rfl) fun H' e => hw.ex e
    refine q_chk (kd := 1) (ea_cons (ex_wordB (ex_signs c.cls_Token c.no_Token_signs hX) (tok_ok R.at.cur)) (ea_cons ev_c (ea_cons (ex_offset c.cls_Token c.no_Token_offset hX) ea_nil))) (fun hb H2 e2 => ?_) (fun hb => ?_)
    · rw [if_pos hb] at kO kE
      have hX2 : EvX (tVar 3) [some (.ref rd), some (vI lo), some (vI hi), some v, none] H2 (fun v H => TokAt K F H v (tokOf q)) := ex_V (ev_var rfl) fun H' e => hw.ex (e2.trans e)
      refine q_asg (ex_numberOf (ex_signs c.cls_Token c.no_Token_signs hX2) hb) fun H3 e3 => ?_
      have e13 := (e1.trans e2).trans e3
      have hX3 : EvX (tVar 3) [some (.ref rd), some (vI lo), some (vI hi), some v, some (vI (valueOf (tokOf q).bytes))] H3 (fun v H => TokAt K F H v (tokOf q)) := ex_V (ev_var rfl) fun H' e => hw.ex ((e2.trans e3).trans e)
      refine q_chk (b := decide (lo ≤ valueOf (tokOf q).bytes ∧ valueOf (tokOf q).bytes ≤ hi)) (kd := 3) (ea_cons (ev_is (ev_chain (a := decide ((lo : Int) ≤ (valueOf (tokOf q).bytes : Int))) (b := decide ((valueOf (tokOf q).bytes : Int) ≤ (hi : Int))) (ev_var rfl) (ev_var rfl) (fun _ => ev_var rfl) rv_I0 (fun _ => rv_I0)) ?_) (ea_cons ev_c (ea_cons (ex_offset c.cls_Token c.no_Token_offset hX3) ea_nil))) (fun hb2 H4 e4 => ?_) (fun hb2 => ?_)
      · rw [← Bool.decide_and]
        exact congrArg V.bl (decide_eq_decide.mpr (by omega))
      · rw [if_pos (of_decide_eq_true hb2)] at kO
        exact q_more c (R.ex (e13.trans e4)) rfl (ne_of_num hb) fun H5 R5 K5 => ⟨_, rfl, kO _ rfl H5 R5 ((Keep.ofEx (e13.trans e4)).trans K5)⟩
      · rw [if_neg (of_decide_eq_false hb2)] at kE
        exact (kE _ rfl).mono (R.at.ex e13).base
    · rw [if_neg (by rw [hb]; exact Bool.false_ne_true)] at kE
      exact (kE _ rfl).mono (R.at.ex e1).base
theorem ok_rd_take_end (c : Top K mg) : FOk P w K mg base (L2N.CX P w) 4 ("Reader", some "take_end") p_Reader_take_end (spTakeEnd K) := by
  refine FOk.mk c.f_Reader_take_end sc_Reader_take_end (fun _ _ _ _ _ _ us hl => match us, hl with | [_], _ => rfl) (fun vs H Q E h => ?_) (fun cdv A outer s H vs Q E hr h => ?_)
  · obtain ⟨B, F, rd, z, q, rfl, _⟩ := h
    rfl
  · obtain ⟨B, F, rd, z, q, rfl, R, kE, kO⟩ := h
    have nd := sc_Reader_take_end.nd
    have hu := hu_of hr
    rw [end_is R.cur] at kE kO
    refine ⟨_, (pss_cons (ps_set (i := 1) nd rfl (.inl rfl) (pe_mf0 (ok_rd_next_token c) (hr.mono (by decide)) c.cls_Reader c.me_Reader_next_token pass0 (pv 0)))
      (pss_one (ps_expr (pe_cf (ok_check c) (hr.mono (by decide)) c.glo_check (L2N.passes_call (L2N.takes_of rfl rfl rfl rfl) (fun _ _ _ _ h => h)) (pa_cons (pe_cmpR (op_eqNil (by exact Nat.lt_of_succ_lt hu)) (pe_fld (pv 1) rfl) (pe_lst pa_nil) (nomark _)) (pa_cons (pe_gi c.int_BAD_TOKEN) (pa_cons (pe_fld (pv 1) rfl) pa_nil))))))), ?_⟩
    refine q_asgX (ex_next R rfl) fun v H1 e1 hw => ?_
    have hX : EvX (tVar 1) [some (.ref rd), some v] H1 (fun v H => TokAt K F H v (tokOf q)) := ex_V (ev_var rfl) fun H' e => hw.ex e
    refine s_chk (kd := 1) (ea_cons (ex_eqNil (ex_signs c.cls_Token c.no_Token_signs hX)) (ea_cons ev_c (ea_cons (ex_offset c.cls_Token c.no_Token_offset hX) ea_nil))) (fun hb H2 e2 => ?_) (fun hb => ?_)
    · rw [if_pos (List.isEmpty_iff.mp hb)] at kO
      exact kO _ rfl H2 (e1.trans e2)
    · rw [if_neg (fun q => by rw [q] at hb; cases hb)] at kE
      exact (kE _ rfl).mono (R.ex e1).base
theorem ok_rd_names (c : Top K mg) : FOk P w K mg base CX0 1 ("Reader", some "names") p_Reader_names (spNames K) := by
  refine FOk.mk0 c.f_Reader_names sc_Reader_names (fun _ _ _ _ _ _ us hl => match us, hl with | [_], _ => rfl) (fun vs H Q E h => ?_) (fun cdv A outer s H vs Q E hr h => ?_)
  · obtain ⟨B, F, rd, z, rfl, _⟩ := h
    rfl
  · obtain ⟨B, F, rd, z, rfl, R, k⟩ := h
    have nd := sc_Reader_names.nd
    refine ⟨_, (pss_one (ps_ret (pe_lc (own := [("player", 1)]) (g := (gName 1)) rfl nd (pi_list (pe_fld (pv 0) rfl)) (blkOk_by (N := n_Reader_names) (sc := defScope s_Reader_names) (by decide +kernel)) (fun _ _ _ _ _ => by exact ((pg_name (i := 1) nd rfl (.inl rfl)))) (fun _ _ _ _ _ => pts_nil) (fun _ _ _ _ _ => by exact (pe_fldK (K := K) (pv 1)))))), ?_⟩
    obtain ⟨dx, ap, ar, ta, a, h1, L⟩ := R.ob
    obtain ⟨ps, hps, hea, _⟩ := L.pl
    have n8 := R.part.n8
    have hn : ∀ i : Nat, ∃ n : Addr, ∀ x : Vbndam.Player, z.players[i]? = some x → H n = some (.lst (vN x.name)) ∧ ∃ (a dx : Addr) (w : Nat), ps[i]? = some (V.ref a) ∧ H a = some (.ins (He.ga K "Player") dx (plF n w)) := by
      intro i
      cases hx : z.players[i]? with
      | none => exact ⟨rd, fun x h => by cases h⟩
      | some x =>
        obtain ⟨v, hv, a, dx, n, rfl, h1, h2, _⟩ := hea.get hx
        exact ⟨n, fun y h => by cases h; exact ⟨h2, a, dx, _, hv, h1⟩⟩
    obtain ⟨nm, hnm⟩ := Classical.axiomOfChoice hn
    have hl : ps.length = z.players.length := hea.1
    refine s_retL (el_lcL (xs := ps) (fun _ => true) (fun i => .ref (nm i)) (ev_fld (ev_var rfl) h1 c.cls_Reader c.no_Reader_players (rdF_players _ _ _ _)) (sq_of hps) (by omega) (fun _ => rfl) (fun _ _ _ _ _ => et_yes) (fun i x H1 e1 hi _ => ?_)) fun p H1 hp e1 hp1 => k p H1 hp e1 ⟨_, hp1, ?_, fun i v u hv hu => ?_⟩
    · obtain ⟨y, hy, _⟩ := hea.of hi
      obtain ⟨_, a, dx, w, q1, q2⟩ := hnm i y hy
      rw [hi] at q1
      cases q1
      exact ev_fld (ev_var rfl) (e1 _ _ q2) c.cls_Player c.no_Player_name (plF_name _ _)
    · rw [given_all, List.length_map, List.length_range, List.length_map, hl]
    · rw [given_all, List.getElem?_map] at hv
      rw [List.getElem?_map] at hu
      cases hx : z.players[i]? with
      | none =>
        rw [hx] at hu
        cases hu
      | some x =>
        rw [hx] at hu
        cases hu
        have hi : i < ps.length := by
          rw [hl]
          exact (List.getElem?_eq_some_iff.mp hx).1
        rw [List.getElem?_range hi] at hv
        cases hv
        exact ⟨_, rfl, e1 _ _ (hnm i x hx).1⟩
end
end Gs

set_option Elab.async false
set_option linter.all false
set_option maxRecDepth 100000
set_option maxHeartbeats 4000000
/-! Walks: the reader: players read, declared. -/
namespace Gs
open PySem PySem.Spec PyProof.Rows L2 Evl
open Vbndaa (toBytes Token Cursor ParseError splitAtByte currentOffset expectToken expectEnd valueOf)
/-! ### steps of statements -/
section
variable {K : PySem.W.Frag} {B : Hp} {F S : Addr → Prop} {H H' : Hp} {rd : Addr} {z : Vbndam.Room} {q : Cursor} {te tb : TE} {ta : TA} {σ : L2.St} {D : Ends} {tz : TS} {E : XK}
theorem Res.err {α : Type} {r : Except ParseError α} {g : α → Prop} (h : Res K E B r g) {er : ParseError} (e : r = .error er) : FailsB K E B er := h.1 er e
theorem q_rdWord {x : String} (R : RdS K B F S H rd z q) (h0 : σ[0]? = some (some (.ref rd))) (hx : toBytes x ≠ []) (hx2 : (toBytes x).length ≤ 1000) (hE : ∀ er, expectToken 1 (toBytes x) q = .error er → FailsB K E B er)
    (k : ∀ q' H', expectToken 1 (toBytes x) q = .ok ((), q') → RdS K B F S H' rd z q' → Keep (fun b => b = rd) H H' → tz D σ H') : tSeq (tDrop (tMeth (He.ga K "Reader") "take_word" (spTakeWord K) [] E (tVar 0) (tCons (tC (.str (Str.ofString x))) tNil))) tz D σ H := by
  obtain ⟨dx, ap, ar, ta, a, T, xs, h1, _⟩ := id R.at.ob
  exact ⟨_, h0, rd, dx, _, rfl, h1, rdF_none _ _ _ _ (by decide +kernel), B, F, S, rd, z, q, x, rfl, R, hx, hx2, hE, fun y hy H' R' K' => k y.2 H' (by rw [hy]) R' K'⟩
theorem s_rdWord {x : String} (R : RdS K B F S H rd z q) (h0 : σ[0]? = some (some (.ref rd))) (hx : toBytes x ≠ []) (hx2 : (toBytes x).length ≤ 1000) (hE : ∀ er, expectToken 1 (toBytes x) q = .error er → FailsB K E B er)
    (k : ∀ q' H', expectToken 1 (toBytes x) q = .ok ((), q') → RdS K B F S H' rd z q' → Keep (fun b => b = rd) H H' → D.nx σ H') : tDrop (tMeth (He.ga K "Reader") "take_word" (spTakeWord K) [] E (tVar 0) (tCons (tC (.str (Str.ofString x))) tNil)) D σ H := by
  obtain ⟨dx, ap, ar, ta, a, T, xs, h1, _⟩ := id R.at.ob
  exact ⟨_, h0, rd, dx, _, rfl, h1, rdF_none _ _ _ _ (by decide +kernel), B, F, S, rd, z, q, x, rfl, R, hx, hx2, hE, fun y hy H' R' K' => k y.2 H' (by rw [hy]) R' K'⟩
theorem q_rdName {i : Nat} (R : RdS K B F S H rd z q) (h0 : σ[0]? = some (some (.ref rd))) (hE : ∀ er, Vbndam.parseName q = .error er → FailsB K E B er)
    (k : ∀ n q' v H', Vbndam.parseName q = .ok (n, q') → RdS K B F S H' rd z q' → Keep (fun b => b = rd) H H' → TokAt K F H' v ⟨currentOffset q, n⟩ → tz D (σ.set i (some v)) H') : tSeq (tAsg (tMeth (He.ga K "Reader") "take_name" (spTakeName K) [] E (tVar 0) tNil) (gName i)) tz D σ H := by
  obtain ⟨dx, ap, ar, ta, a, T, xs, h1, _⟩ := id R.at.ob
  exact ⟨_, h0, rd, dx, _, rfl, h1, rdF_none _ _ _ _ (by decide +kernel), B, F, S, rd, z, q, rfl, R, hE, fun y hy v H' R' K' T' => k y.1 y.2 v H' (by rw [hy]) R' K' T'⟩
theorem q_rdNumber {i lo hi : Nat} (R : RdS K B F S H rd z q) (h0 : σ[0]? = some (some (.ref rd))) (ha : EvA ta σ H [vI lo, vI hi]) (hE : ∀ er, Vbndam.parseNatInRange lo hi q = .error er → FailsB K E B er)
    (k : ∀ n q' H', Vbndam.parseNatInRange lo hi q = .ok (n, q') → RdS K B F S H' rd z q' → Keep (fun b => b = rd) H H' → tz D (σ.set i (some (vI n))) H') : tSeq (tAsg (tMeth (He.ga K "Reader") "take_number" (spTakeNumber K) [] E (tVar 0) ta) (gName i)) tz D σ H := by
  obtain ⟨dx, ap, ar, ta, a, T, xs, h1, _⟩ := id R.at.ob
  exact ⟨_, h0, rd, dx, _, rfl, h1, rdF_none _ _ _ _ (by decide +kernel), ha H (Ex.refl _) _ fun H1 e1 => ⟨B, F, S, rd, z, q, lo, hi, rfl, R.ex e1, hE, fun y hy H' R' K' => k y.1 y.2 H' (by rw [hy]) R' ((Keep.ofEx e1).trans K')⟩⟩
theorem q_rdEnd (R : RdAt K B F H rd z q) (h0 : σ[0]? = some (some (.ref rd))) (hE : ∀ er, expectEnd 1 () q = .error er → FailsB K E B er)
    (k : ∀ H', expectEnd 1 () q = .ok () → Ex H H' → tz D σ H') : tSeq (tDrop (tMeth (He.ga K "Reader") "take_end" (spTakeEnd K) [] E (tVar 0) tNil)) tz D σ H := by
  obtain ⟨dx, ap, ar, ta, a, T, xs, h1, _⟩ := id R.ob
  exact ⟨_, h0, rd, dx, _, rfl, h1, rdF_none _ _ _ _ (by decide +kernel), B, F, rd, z, q, rfl, R, hE, fun y hy H' e => k H' hy e⟩
theorem em_names (R : RdZ K B F H rd z) (h0 : σ[0]? = some (some (.ref rd))) : EvM (tMeth (He.ga K "Reader") "names" (spNames K) [] E (tVar 0) tNil) σ H (fun p H => WordsAt H p (z.players.map fun x => x.name)) := fun H1 e Q k => by
  obtain ⟨dx, ap, ar, ta, a, h1, _⟩ := id R.ob
  exact ⟨_, h0, rd, dx, _, rfl, e _ _ h1, rdF_none _ _ _ _ (by decide +kernel), B, F, rd, z, rfl, R.ex e, k⟩
theorem ev_inNames {neg : Bool} {w : List Nat} {ws : List (List Nat)} (h : EvX te σ H (fun v H => WordAt H v w)) (h2 : EvM tb σ H (fun p H => WordsAt H p ws)) : Ev (tOp (rInD K) te tb) σ H (.bl (ws.any fun r => decide (r = w))) := fun H1 e Q k =>
  h H1 e _ fun v H2 e2 hw => by
    obtain ⟨p, rfl, hp⟩ := hw
    refine h2 H2 (e.trans e2) _ fun p' H3 hp' e3 hW => ?_
    obtain ⟨xs, hx, hE⟩ := hW
    refine ⟨wd w, ws.map wd, dp_word (e3 _ _ hp), .lst (sq_of hx) (dp_words hE), wd_shaped w, wds_shaped ws, ?_⟩
    rw [any_wd]
    exact k H3 (e2.trans e3)
theorem ev_notInNames {w : List Nat} {ws : List (List Nat)} (h : EvX te σ H (fun v H => WordAt H v w)) (h2 : EvM tb σ H (fun p H => WordsAt H p ws)) : Ev (tOp (rNotInD K) te tb) σ H (.bl (!(ws.any fun r => decide (r = w)))) := fun H1 e Q k =>
  h H1 e _ fun v H2 e2 hw => by
    obtain ⟨p, rfl, hp⟩ := hw
    refine h2 H2 (e.trans e2) _ fun p' H3 hp' e3 hW => ?_
    obtain ⟨xs, hx, hE⟩ := hW
    refine ⟨wd w, ws.map wd, dp_word (e3 _ _ hp), .lst (sq_of hx) (dp_words hE), wd_shaped w, wds_shaped ws, ?_⟩
    rw [any_wd]
    exact k H3 (e2.trans e3)
theorem ev_indexNames {w : List Nat} {ws : List (List Nat)} {i : Nat} (h : EvX te σ H (fun v H => WordAt H v w)) (h2 : EvM tb σ H (fun p H => WordsAt H p ws)) (hi : ws[i]? = some w) (hno : ∀ (m : Nat) (u : List Nat), m < i → ws[m]? = some u → u ≠ w) : Ev (tBM K "list" (rIndexD K) tb (tCons te tNil)) σ H (vI i) := fun H1 e Q k =>
  h2 H1 e _ fun p' H2 hp' e2 hW => by
    obtain ⟨xs, hx, hE⟩ := hW
    refine ⟨Or.inl ⟨rfl, xs, sq_of hx⟩, h H2 (e.trans e2) _ fun v H3 e3 hw => ?_⟩
    obtain ⟨p, rfl, hp⟩ := hw
    refine ⟨p', .ref p, wd w, ws.map wd, i, wd w, rfl, rfl, .lst (sq_of (e3 _ _ hx)) (dp_words (hE.imp fun _ _ q => q.ex e3)), dp_word hp, wds_shaped ws, wd_shaped w, ?_, ?_, fun m z' hm hz => ?_, k H3 (e2.trans e3)⟩
    · rw [List.getElem?_map, hi]
      rfl
    · rw [wd_eqv]
      exact decide_eq_true rfl
    · rw [List.getElem?_map] at hz
      cases hu : ws[m]? with
      | none =>
        rw [hu] at hz
        cases hz
      | some u =>
        rw [hu] at hz
        cases hz
        rw [wd_eqv]
        exact decide_eq_false (hno m u hm hu)
end
/-! ### plain -/
theorem find_names {ps : List Vbndam.Player} {w : List Nat} {i : Nat} (h : (ps.findIdx? fun p => p.name == w) = some i) : (ps.map fun x => x.name)[i]? = some w ∧ i < ps.length ∧ ∀ (m : Nat) (u : List Nat), m < i → (ps.map fun x => x.name)[m]? = some u → u ≠ w := by
  rw [List.findIdx?_eq_some_iff_getElem] at h
  obtain ⟨h1, h2, h3⟩ := h
  refine ⟨?_, h1, fun m u hm hu => ?_⟩
  · rw [List.getElem?_map, List.getElem?_eq_getElem h1]
    exact congrArg some (beq_iff_eq.mp h2)
  · have hml : m < ps.length := by omega
    rw [List.getElem?_map, List.getElem?_eq_getElem hml] at hu
    cases hu
    have := h3 m hm
    intro e
    exact this (beq_iff_eq.mpr e)
theorem any_names (ps : List Vbndam.Player) (w : List Nat) : ((ps.map fun x => x.name).any fun r => decide (r = w)) = ps.any fun p => p.name == w := by
  rw [List.any_map]
  refine congrArg (fun f => ps.any f) (funext fun p => ?_)
  show decide (p.name = w) = (p.name == w)
  rw [Bool.eq_iff_iff, beq_iff_eq, decide_eq_true_eq]
theorem find_any (ps : List Vbndam.Player) (w : List Nat) : ((ps.findIdx? fun p => p.name == w) = none ↔ (ps.any fun p => p.name == w) = false) := by
  rw [List.findIdx?_eq_none_iff]
  constructor
  · intro h
    rw [List.any_eq_false]
    intro x hx
    rw [h x hx]
    exact Bool.false_ne_true
  · intro h x hx
    rw [List.any_eq_false] at h
    have := h x hx
    simpa using this
/-! ### promises -/
def spTakePlayer (K : PySem.W.Frag) : Sp := fun vs H Q E => ∃ (B : Hp) (F S : Addr → Prop) (rd : Addr) (z : Vbndam.Room) (q : Cursor), vs = [.ref rd] ∧ RdS K B F S H rd z q ∧
  Res K E B (Vbndam.parsePlayer z q) (fun y => ∀ v t H', RdS K B F S H' rd z y.2 → Keep (fun b => b = rd) H H' → H' t = some (.tup [v, vI y.1]) → TokAt K F H' v ⟨currentOffset q, (tokOf q).bytes⟩ → Q (.ref t) H')
def spReadPlayer (K : PySem.W.Frag) : Sp := fun vs H Q E => ∃ (B : Hp) (F : Addr → Prop) (rd : Addr) (z : Vbndam.Room) (q : Cursor) (off : Nat), vs = [.ref rd, vI off] ∧ RdAt K B F H rd z q ∧
  Res K E B (playerLine z off q) (fun z' => ∀ F' H', RdZ K B F' H' rd z' → Keep F H H' → (∀ b, F b → F' b) → (∀ b, F' b → F b ∨ H b = none) → Q .non H')
/-! ### a player more -/
theorem PlayerAt.grow {K : PySem.W.Frag} {F F' : Addr → Prop} {H : Hp} {v : V} {p : Vbndam.Player} (h : PlayerAt K F H v p) (g : ∀ b, F b → F' b) (g2 : ∀ b, F' b → F b ∨ H b = none) : PlayerAt K F' H v p := by
  obtain ⟨a, dx, n, rfl, h1, h2, h3, h4⟩ := h
  refine ⟨a, dx, n, rfl, h1, h2, g a h3, fun q => ?_⟩
  rcases g2 n q with q | q
  · exact h4 q
  · rw [q] at h2
    cases h2
theorem RuleAt.grow {K : PySem.W.Frag} {F F' : Addr → Prop} {H : Hp} {v : V} {u : Vbndam.Rule} (h : RuleAt K F H v u) (g2 : ∀ b, F' b → F b ∨ H b = none) : RuleAt K F' H v u := by
  obtain ⟨a, dx, n, rfl, h1, h2, h3, h4⟩ := h
  refine ⟨a, dx, n, rfl, h1, h2, fun q => ?_, fun q => ?_⟩
  · rcases g2 a q with q | q
    · exact h3 q
    · rw [q] at h1
      cases h1
  · rcases g2 n q with q | q
    · exact h4 q
    · rw [q] at h2
      cases h2
theorem Part.player {z : Vbndam.Room} (h : Part z) (p : Vbndam.Player) (hp : PlayerOk p) (hl : z.players.length < 8) : Part { z with players := z.players ++ [p] } where
  n8 := by
    show (z.players ++ [p]).length ≤ 8
    rw [List.length_append, List.length_singleton]
    omega
  r20 := h.r20
  rules := fun u hu => by
    have r := h.rules u hu
    have e : (z.players ++ [p]).length = z.players.length + 1 := by rw [List.length_append, List.length_singleton]
    have hab := r.ab
    exact ⟨by show u.absent < (z.players ++ [p]).length; omega, r.req, fun x hx => by have := r.subs x hx; show x < (z.players ++ [p]).length; omega, r.few⟩
  pl := fun x hx => by
    rcases List.mem_append.mp (show x ∈ z.players ++ [p] from hx) with hx | hx
    · exact h.pl x hx
    · rw [List.mem_singleton.mp hx]
      exact hp
theorem RdZ.player {K : PySem.W.Frag} {B : Hp} {F : Addr → Prop} {H H1 : Hp} {rd : Addr} {z : Vbndam.Room} (R : RdZ K B F H rd z) (e : Ex H H1) {x : Addr} (hx : H x = none) {dx n : Addr} {p : Vbndam.Player} (h1 : H1 x = some (.ins (He.ga K "Player") dx (plF n p.weight))) (h2 : H n = some (.lst (vN p.name))) (h3 : ¬ F n) (hok : PlayerOk p) (hl : z.players.length < 8) :
    ∃ rdx ap ar ta a ps, H rd = some (.ins (He.ga K "Reader") rdx (rdF ap ar ta a)) ∧ H ap = some (.lst ps) ∧ F ap ∧ ps.length = z.players.length ∧
      RdZ K B (fun b => F b ∨ b = x) (upd H1 ap (.lst (ps ++ [.ref x]))) rd { z with players := z.players ++ [p] } := by
  obtain ⟨rdx, ap, ar, ta, a, k1, L⟩ := R.ob
  obtain ⟨ps, hps, hea, hnd⟩ := L.pl
  obtain ⟨rs, hrs, her⟩ := L.ru
  have hxF : ¬ F x := fun q => (R.own x q).2 hx
  have hBx : B x = none := fresh_back R.base hx
  have hapx : ap ≠ x := fun q => by
    rw [q, hx] at hps
    cases hps
  have harx : ar ≠ x := fun q => by
    rw [q, hx] at hrs
    cases hrs
  have hrx : rd ≠ x := fun q => by
    rw [q, hx] at k1
    cases k1
  refine ⟨rdx, ap, ar, ta, a, ps, k1, hps, L.fp, hea.1, ?_⟩
  have g1 : ∀ b, F b → F b ∨ b = x := fun b => .inl
  have g2 : ∀ b, (F b ∨ b = x) → F b ∨ H b = none := fun b q => q.imp id fun q => by rw [q]; exact hx
  have hps1 := e _ _ hps
  have xne : (V.ref x) ∉ ps := fun hm => by
    obtain ⟨i, hi, he⟩ := List.mem_iff_getElem.mp hm
    obtain ⟨u, hu, hP⟩ := hea.of (List.getElem?_eq_getElem hi)
    obtain ⟨b, _, _, e1, h4, _⟩ := hP
    rw [he] at e1
    cases e1
    rw [hx] at h4
    cases h4
  refine { base := (R.base.trans e).mut (R.own ap L.fp).1, own := fun b hb => ?_, frd := .inl R.frd, part := R.part.player p hok hl, ob := ⟨rdx, ap, ar, ta, a, upd_keep (e _ _ k1) hps1 (fun q => by cases q), ?_⟩ }
  · rcases hb with hb | hb
    · exact ⟨(R.own b hb).1, upd_alive (Ex.alive e (R.own b hb).2)⟩
    · rw [hb]
      exact ⟨hBx, upd_alive (by rw [h1]; exact fun q => by cases q)⟩
  · refine { pl := ⟨_, upd_same, EachAt.app (hea.imp fun v u hu => ?_) (EachAt.one ⟨x, dx, n, rfl, ?_, ?_, .inr rfl, fun q => ?_⟩), ?_⟩, ru := ⟨rs, ?_, her.imp fun v u hu => ?_⟩, ne := L.ne, fp := .inl L.fp, fr := .inl L.fr }
    · refine (((hu.grow g1 g2).ex e).set hps1 (.inl L.fp) fun q => ?_)
      obtain ⟨b, _, _, e1, h4, _⟩ := hu
      rw [q] at e1
      cases e1
      rw [hps] at h4
      cases h4
    · rw [upd_ne hapx.symm]
      exact h1
    · refine upd_out (F := F) (e _ _ h2) h3 L.fp
    · rcases q with q | q
      · exact h3 q
      · rw [q, hx] at h2
        cases h2
    · exact List.nodup_append.mpr ⟨hnd, List.pairwise_singleton _ _, fun u hu v hv q => xne (by rw [List.mem_singleton.mp hv] at q; rw [← q]; exact hu)⟩
    · rw [upd_ne L.ne.symm]
      exact e _ _ hrs
    · exact ((hu.grow g2).ex e).set (.inl L.fp)
section
variable {P : Program} {w : World} {K : PySem.W.Frag} {mg : Str → Option Value} {base : Heap}
theorem ok_rd_take_player (c : Top K mg) : FOk P w K mg base (L2N.CX P w) 5 ("Reader", some "take_player") p_Reader_take_player (spTakePlayer K) := by
  refine FOk.mk c.f_Reader_take_player sc_Reader_take_player (fun _ _ _ _ _ _ us hl => match us, hl with | [_], _ => rfl) (fun vs H Q E h => ?_) (fun cdv A outer s H vs Q E hr h => ?_)
  · obtain ⟨B, F, S, rd, z, q, rfl, _⟩ := h
    rfl
  · obtain ⟨B, F, S, rd, z, q, rfl, R, kE, kO⟩ := h
    have nd := sc_Reader_take_player.nd
    have hun : (Around.deeper A (envOfC "Reader.take_player" (defScope s_Reader_take_player) s.heap.objs.size (He.fAd K ("Reader", some "take_player")) cdv)).units + 65 < cLine := by
      have := hr.un
      omega
    rw [player_is] at kE kO
    refine ⟨_, (pss_cons (ps_set (i := 1) nd rfl (.inl rfl) (pe_mf0 (ok_rd_take_name c) (hr.mono (by decide)) c.cls_Reader c.me_Reader_take_name (L2N.passes_call (L2N.takes_of rfl rfl rfl rfl) (fun _ _ _ _ h => h)) (pv 0)))
      (pss_cons (ps_expr (pe_cf (ok_check c) (hr.mono (by decide)) c.glo_check (L2N.passes_call (L2N.takes_of rfl rfl rfl rfl) (fun _ _ _ _ h => h)) (pa_cons (pe_cmpR (op_inD hun) (pe_fld (pv 1) rfl) (pe_mf0 (ok_rd_names c) (hr.mono (by decide)) c.cls_Reader c.me_Reader_names pass0 (pv 0)) rfl) (pa_cons (pe_gi c.int_UNKNOWN_NAME) (pa_cons (pe_fld (pv 1) rfl) pa_nil)))))
      (pss_one (ps_ret (pe_tup (pa_cons (pv 1) (pa_cons (pe_bm PySem.F.plainAttrs_list PySem.F.slot_list_index PySem.F.type_list_index (mt_indexD hun) (pe_mf0 (ok_rd_names c) (hr.mono (by decide)) c.cls_Reader c.me_Reader_names pass0 (pv 0)) (pa_cons (pe_fld (pv 1) rfl) pa_nil)) pa_nil))))))), ?_⟩
    refine q_rdName R rfl (fun er he => ?_) fun n q' v H1 hn R1 K1 hw => ?_
    · rw [name_is] at he
      by_cases hb : nameOk (tokOf q).bytes = true
      · rw [if_pos hb] at he
        cases he
      · rw [if_neg hb] at he
        cases he
        rw [if_neg hb] at kE
        exact kE _ rfl
    · rw [name_is] at hn
      by_cases hb : nameOk (tokOf q).bytes = true
      · rw [if_pos hb] at hn kE kO
        cases hn
        have hX : ∀ {H2 : Hp}, Ex H1 H2 → EvX (tVar 1) [some (.ref rd), some v] H2 (fun v H => TokAt K F H v ⟨currentOffset q, (tokOf q).bytes⟩) := fun e => ex_V (ev_var rfl) fun H' e2 => hw.ex (e.trans e2)
        refine q_chk (kd := 5) (ea_cons (ev_inNames (neg := false) (ex_signs c.cls_Token c.no_Token_signs (hX (Ex.refl _))) (em_names R1.at.toZ rfl)) (ea_cons ev_c (ea_cons (ex_offset c.cls_Token c.no_Token_offset (hX (Ex.refl _))) ea_nil))) (fun hb2 H2 e2 => ?_) (fun hb2 => ?_)
        · rw [any_names] at hb2
          cases hf : z.players.findIdx? (fun p => p.name == (tokOf q).bytes) with
          | none =>
            rw [(find_any _ _).mp hf] at hb2
            cases hb2
          | some i =>
            rw [hf] at kO
            obtain ⟨f1, f2, f3⟩ := find_names hf
            refine s_retU (eu_tup (ea_cons (ev_var rfl) (ea_cons (ev_indexNames (ex_signs c.cls_Token c.no_Token_signs (hX e2)) (em_names (R1.ex e2).at.toZ rfl) f1 f3) ea_nil)) (by show 2 ≤ 100000; decide)) fun t H3 ht e3 ht3 => ?_
            exact kO _ rfl v t H3 (R1.ex (e2.trans e3)) (K1.trans (Keep.ofEx (e2.trans e3))) ht3 (hw.ex (e2.trans e3))
        · rw [any_names] at hb2
          rw [(find_any _ _).mpr hb2] at kE
          have := kE _ rfl
          rw [← off_is] at this
          exact this.mono R1.at.base
      · rw [if_neg hb] at hn
        cases hn
theorem ok_rd_read_player (c : Top K mg) : FOk P w K mg base (L2N.CX P w) 6 ("Reader", some "read_player") p_Reader_read_player (spReadPlayer K) := by
  refine FOk.mk c.f_Reader_read_player sc_Reader_read_player (fun _ _ _ _ _ _ us hl => match us, hl with | [_, _], _ => rfl) (fun vs H Q E h => ?_) (fun cdv A outer s H vs Q E hr h => ?_)
  · obtain ⟨B, F, rd, z, q, off, rfl, _⟩ := h
    rfl
  · obtain ⟨B, F, rd, z, q, off, rfl, R, kE, kO⟩ := h
    have nd := sc_Reader_read_player.nd
    have hun : (Around.deeper A (envOfC "Reader.read_player" (defScope s_Reader_read_player) s.heap.objs.size (He.fAd K ("Reader", some "read_player")) cdv)).units + 65 < cLine := by
      have := hr.un
      omega
    refine ⟨_, (pss_cons (ps_expr (pe_cf (ok_check c) (hr.mono (by decide)) c.glo_check (L2N.passes_call (L2N.takes_of rfl rfl rfl rfl) (fun _ _ _ _ h => h)) (pa_cons (pe_cmpR op_lt (pe_callB call_len_seq (by rfl) c.free_len PySem.boot_len (pa_cons (pe_fld (pv 0) rfl) pa_nil)) (pe_gi c.int_MOST_PLAYERS) (nomark _)) (pa_cons (pe_gi c.int_TOO_MANY) (pa_cons (pv 1) pa_nil)))))
      (pss_cons (ps_set (i := 2) nd rfl (.inl rfl) (pe_mf0 (ok_rd_take_name c) (hr.mono (by decide)) c.cls_Reader c.me_Reader_take_name (L2N.passes_call (L2N.takes_of rfl rfl rfl rfl) (fun _ _ _ _ h => h)) (pv 0)))
      (pss_cons (ps_expr (pe_cf (ok_check c) (hr.mono (by decide)) c.glo_check (L2N.passes_call (L2N.takes_of rfl rfl rfl rfl) (fun _ _ _ _ h => h)) (pa_cons (pe_cmpR (op_notInD hun) (pe_fld (pv 2) rfl) (pe_mf0 (ok_rd_names c) (hr.mono (by decide)) c.cls_Reader c.me_Reader_names pass0 (pv 0)) rfl) (pa_cons (pe_gi c.int_THERE_ALREADY) (pa_cons (pe_fld (pv 2) rfl) pa_nil)))))
      (pss_cons (ps_expr (pe_mf (ok_rd_take_word c) (hr.mono (by decide)) c.cls_Reader c.me_Reader_take_word (L2N.passes_call (L2N.takes_of rfl rfl rfl rfl) (fun _ _ _ _ h => h)) (pv 0) (pa_cons pe_str pa_nil)))
      (pss_cons (ps_set (i := 3) nd rfl (.inl rfl) (pe_mf (ok_rd_take_number c) (hr.mono (by decide)) c.cls_Reader c.me_Reader_take_number (L2N.passes_call (L2N.takes_of rfl rfl rfl rfl) (fun _ _ _ _ h => h)) (pv 0) (pa_cons pe_int (pa_cons (pe_gi c.int_GREATEST_WEIGHT) pa_nil))))
      (pss_cons (ps_expr (pe_mf0 (ok_rd_take_end c) (hr.mono (by decide)) c.cls_Reader c.me_Reader_take_end (L2N.passes_call (L2N.takes_of rfl rfl rfl rfl) (fun _ _ _ _ h => h)) (pv 0)))
      (pss_one (ps_expr (pe_bm PySem.F.plainAttrs_list PySem.F.slot_list_append PySem.F.type_list_append mt_append (pe_fld (pv 0) rfl) (pa_cons (pe_mk (ok_player_init c) c.mkr_Player (hr.mono (by decide)) c.glo_Player pass0 (pa_cons (pe_fld (pv 2) rfl) (pa_cons (pv 3) pa_nil))) pa_nil)))))))))), ?_⟩
    obtain ⟨dx, ap, ar, ta, a, T, xs, h1, L, _⟩ := id R.ob
    obtain ⟨ps, hps, hea, _⟩ := L.pl
    unfold playerLine at kE kO
    refine q_chk (b := decide (z.players.length < 8)) (kd := 7) (ea_cons (ev_is (ev_op (ev_len (ev_fld (ev_var rfl) h1 c.cls_Reader c.no_Reader_players (rdF_players _ _ _ _)) (sq_of hps)) ev_c rv_I0) (by rw [hea.1]; exact congrArg V.bl (decide_eq_decide.mpr (by omega)))) (ea_cons ev_c (ea_cons (ev_var rfl) ea_nil))) (fun hb H1 e1 => ?_) (fun hb => ?_)
    · have hlt := of_decide_eq_true hb
      have h8 : ¬ Vbndam.maxPlayers ≤ z.players.length := by
        show ¬ 8 ≤ z.players.length
        omega
      rw [if_neg h8] at kE kO
      refine q_rdName (R.ex e1).all rfl (fun er he => kE _ (by rw [he])) fun n q' v H2 hn R2 K2 hw => ?_
      rw [hn] at kE kO
      dsimp only at kE kO
      have hnm : nameOk n = true ∧ n = (tokOf q).bytes := by
        rw [name_is] at hn
        by_cases hb : nameOk (tokOf q).bytes = true
        · rw [if_pos hb] at hn
          cases hn
          exact ⟨hb, rfl⟩
        · rw [if_neg hb] at hn
          cases hn
      have hX : ∀ {H3 : Hp}, Ex H2 H3 → EvX (tVar 2) [some (.ref rd), some (vI off), some v, none] H3 (fun v H => TokAt K F H v ⟨currentOffset q, n⟩) := fun e => ex_V (ev_var rfl) fun H' e2 => hw.ex (e.trans e2)
      refine q_chk (kd := 4) (ea_cons (ev_notInNames (ex_signs c.cls_Token c.no_Token_signs (hX (Ex.refl _))) (em_names R2.at.toZ rfl)) (ea_cons ev_c (ea_cons (ex_offset c.cls_Token c.no_Token_offset (hX (Ex.refl _))) ea_nil))) (fun hb2 H3 e3 => ?_) (fun hb2 => ?_)
      · rw [any_names, Bool.not_eq_true'] at hb2
        rw [if_neg (by rw [hb2]; exact Bool.false_ne_true)] at kE kO
        refine q_rdWord (R2.ex e3) rfl (by decide) (by decide) (fun er he => kE _ (by rw [he])) fun q3 H4 hq3 R4 K4 => ?_
        rw [hq3] at kE kO
        dsimp only at kE kO
        refine q_rdNumber (lo := 0) (hi := 1000) R4 rfl (ea_cons ev_c (ea_cons ev_c ea_nil)) (fun er he => kE _ (by rw [he])) fun wt q5 H5 hq5 R5 K5 => ?_
        rw [hq5] at kE kO
        dsimp only at kE kO
        have hwt : wt ≤ 1000 := by
          rw [number_is] at hq5
          by_cases hb : numOk (tokOf q3).bytes = true
          · rw [if_pos hb] at hq5
            by_cases hb2 : 0 ≤ valueOf (tokOf q3).bytes ∧ valueOf (tokOf q3).bytes ≤ 1000
            · rw [if_pos hb2] at hq5
              cases hq5
              exact hb2.2
            · rw [if_neg hb2] at hq5
              cases hq5
          · rw [if_neg hb] at hq5
            cases hq5
        rw [end_is R5.at.cur] at kE kO
        refine q_rdEnd R5.at rfl (fun er he => ?_) fun H6 he e6 => ?_
        · rw [end_is R5.at.cur] at he
          by_cases hb3 : (tokOf q5).bytes = []
          · rw [if_pos hb3] at he
            cases he
          · rw [if_neg hb3] at he kE
            cases he
            exact kE _ rfl
        · rw [end_is R5.at.cur] at he
          by_cases hb3 : (tokOf q5).bytes = []
          · rw [if_pos hb3] at kO
            have R6 := (R5.ex e6).at.toZ
            have K36 : Keep F H3 H6 := (((K4.trans K5).trans (Keep.ofEx e6)).up R.frd)
            have hw6 := (hw.ex e3).keep K36
            obtain ⟨t, tdx, p, rfl, t1, t2, t3, t4⟩ := hw6
            obtain ⟨dx6, ap6, ar6, ta6, a6, hrd6, L6⟩ := R6.ob
            have hmk : EvM (tMake (He.ga K "Player") (spI K "Player" 2 (f2 "name" "weight")) [] E (tCons (tFld K (tVar 2) "signs") (tCons (tVar 3) tNil))) [some (.ref rd), some (vI off), some (.ref t), some (vI wt)] H6 (fun x H' => H6 x = none ∧ ∃ dx, H' x = some (.ins (He.ga K "Player") dx (plF p wt))) := fun H7 e7 Q' q' =>
              em_mk (P := fun ws _ => ws = [.ref p, vI wt]) (ep_of (ea_cons (ev_fld (ev_var rfl) t1 c.cls_Token c.no_Token_signs (tkF_signs _ _)) (ea_cons (ev_var rfl) ea_nil))) (fun vs H' h => by rw [h]; rfl) (fun vs H1 H2 e h => h) H7 e7 Q' fun x H8 hx e8 h => by
                obtain ⟨hx0, dx, vs, rfl, h3⟩ := h
                exact q' x H8 hx e8 ⟨hx0, dx, h3⟩
            obtain ⟨ps6, hps6, hea6, _⟩ := L6.pl
            refine s_appM hps6 (ev_fld (ev_var rfl) hrd6 c.cls_Reader c.no_Reader_players (rdF_players _ _ _ _)) hmk (by rw [hea6.1]; omega) fun x H7 hx e7 hP => ?_
            obtain ⟨_, pdx, hx7⟩ := hP
            obtain ⟨rdx7, ap7, ar7, ta7, a7, ps7, hrd7, hps7, hF7, hlen7, RR⟩ := R6.player e7 hx (p := ⟨n, wt⟩) hx7 t2 t4 ⟨hwt, (ne_of_name hnm.1).2⟩ hlt
            have eap : ap6 = ap7 := by
              rw [hrd6] at hrd7
              have := (HO.ins.inj (Option.some.inj hrd7)).2.2
              exact V.ref.inj (congrArg Prod.snd (List.cons.inj this).1)
            subst eap
            have eps : ps6 = ps7 := by
              rw [hps6] at hps7
              exact HO.lst.inj (Option.some.inj hps7)
            subst eps
            have K06 : Keep F H H6 := (Keep.ofEx e1).trans ((K2.up R.frd).trans ((Keep.ofEx e3).trans K36))
            refine kO _ rfl _ _ RR ((K06.trans (Keep.ofEx e7)).trans (Keep.upd hF7)) (fun b => .inl) fun b hb => ?_
            rcases hb with hb | hb
            · exact .inl hb
            · rw [hb]
              refine .inr (kept_back K06 (fun b hb => (R6.own b hb).2) hx)
          · rw [if_neg hb3] at he
            cases he
      · rw [any_names, Bool.not_eq_false'] at hb2
        rw [if_pos hb2] at kE
        exact (kE _ rfl).mono R2.at.base
    · have h8 : Vbndam.maxPlayers ≤ z.players.length := by
        have := of_decide_eq_false hb
        show 8 ≤ z.players.length
        omega
      rw [if_pos h8] at kE
      exact (kE _ rfl).mono R.base
end
end Gs

set_option Elab.async false
set_option linter.all false
set_option maxRecDepth 100000
set_option maxHeartbeats 4000000
/-! Walks: the reader: rules, lines. -/
namespace Gs
open PySem PySem.Spec PyProof.Rows L2 Evl
open Vbndaa (toBytes Token Cursor ParseError splitAtByte currentOffset expectToken expectEnd valueOf nextTokenIs)
/-! ### plain -/
theorem nodup_few : ∀ (n : Nat) (l : List Nat), l.Nodup → (∀ x ∈ l, x < n) → l.length ≤ n
  | 0, [], _, _ => Nat.le_refl _
  | 0, x :: _, _, h => absurd (h x (List.mem_cons_self ..)) (Nat.not_lt_zero _)
  | n + 1, l, hd, h => by
    by_cases hm : n ∈ l
    · have h1 := List.length_erase_of_mem hm
      have h2 := nodup_few n (l.erase n) (hd.erase n) fun x hx => by
        have hx2 := (List.Nodup.mem_erase_iff hd).mp hx
        have := h x hx2.2
        have := hx2.1
        omega
      have : 0 < l.length := List.length_pos_of_mem hm
      omega
    · have := nodup_few n l hd fun x hx => by
        have := h x hx
        have : x ≠ n := fun e => hm (e ▸ hx)
        omega
      omega
theorem subs_zero (z : Vbndam.Room) (p : Nat) (had : List Nat) (q : Cursor) : Vbndam.parseSubstitutes z p 0 had q = .ok (had, q) := rfl
theorem subs_succ (z : Vbndam.Room) (p f : Nat) (had : List Nat) (q : Cursor) : Vbndam.parseSubstitutes z p (f + 1) had q = if q.tokens.isEmpty = true ∧ had.isEmpty = false then .ok (had, q) else match Vbndam.parsePlayer z q with
    | .error e => .error e
    | .ok (n, q') => if n = p then .error ⟨10, currentOffset q⟩ else if had.contains n = true then .error ⟨4, currentOffset q⟩ else Vbndam.parseSubstitutes z p f (had ++ [n]) q' := rfl
theorem player_ok {z : Vbndam.Room} {q q' : Cursor} {n : Nat} (h : Vbndam.parsePlayer z q = .ok (n, q')) : n < z.players.length ∧ q' = skip q ∧ (tokOf q).bytes ≠ [] := by
  rw [player_is] at h
  by_cases hb : nameOk (tokOf q).bytes = true
  · rw [if_pos hb] at h
    cases hf : z.players.findIdx? (fun p => p.name == (tokOf q).bytes) with
    | none =>
      rw [hf] at h
      cases h
    | some i =>
      rw [hf] at h
      cases h
      exact ⟨(find_names hf).2.1, rfl, (ne_of_name hb).1⟩
  · rw [if_neg hb] at h
    cases h
theorem toks_end {q : Cursor} (h : CurOk q) : q.tokens.isEmpty = (tokOf q).bytes.isEmpty := by
  unfold tokOf
  cases hq : q.tokens with
  | nil => rfl
  | cons w l =>
    have := (h w (by rw [hq]; exact List.mem_cons_self ..)).1
    show false = w.bytes.isEmpty
    cases hw : w.bytes with
    | nil => exact absurd hw this
    | cons _ _ => rfl
theorem skip_len {q : Cursor} (hne : (tokOf q).bytes ≠ []) : (skip q).tokens.length < q.tokens.length := by
  show (q.tokens.drop 1).length < _
  rw [List.length_drop]
  cases hq : q.tokens with
  | nil =>
    refine absurd ?_ hne
    unfold tokOf
    rw [hq]
  | cons w l =>
    rw [List.length_cons]
    omega
theorem in_nats (had : List Nat) (n : Nat) : inV (vI n) (vN had) = had.contains n := by
  unfold inV vN
  rw [List.any_map, List.contains_eq_any_beq]
  refine congrArg (fun f => had.any f) (funext fun r => ?_)
  show ((r : Int) == (n : Int)) = (n == r)
  rw [Bool.eq_iff_iff, beq_iff_eq, beq_iff_eq]
  omega
theorem flat_nats (had : List Nat) : (vN had).all flatV = true := by
  unfold vN
  rw [List.all_map]
  exact List.all_eq_true.mpr fun _ _ => rfl
/-! ### promises -/
def spReadSubs (K : PySem.W.Frag) : Sp := fun vs H Q E => ∃ (B : Hp) (F : Addr → Prop) (rd : Addr) (z : Vbndam.Room) (q : Cursor) (p : Nat), vs = [.ref rd, vI p] ∧ RdAt K B F H rd z q ∧
  Res K E B (Vbndam.parseSubstitutes z p (q.tokens.length + 1) [] q) (fun y => ∀ f H', RdAt K B F H' rd z y.2 → Keep F H H' → H f = none → ¬ F f → H' f = some (.lst (vN y.1)) → y.1.Nodup → (∀ i ∈ y.1, i < z.players.length) → y.2.tokens = [] → Q (.ref f) H')
def spReadRule (K : PySem.W.Frag) : Sp := fun vs H Q E => ∃ (B : Hp) (F : Addr → Prop) (rd : Addr) (z : Vbndam.Room) (q : Cursor) (off : Nat), vs = [.ref rd, vI off] ∧ RdAt K B F H rd z q ∧
  Res K E B (ruleLine z off q) (fun z' => ∀ H', RdZ K B F H' rd z' → Keep F H H' → Q .non H')
def spReadLine (K : PySem.W.Frag) : Sp := fun vs H Q E => ∃ (B : Hp) (F : Addr → Prop) (rd : Addr) (z : Vbndam.Room) (v : V) (T : List Token) (e : Nat), vs = [.ref rd, v] ∧ RdZ K B F H rd z ∧ LineAt K F H v (T ++ [⟨e, []⟩]) ∧ T ≠ [] ∧ CurOk ⟨T, e⟩ ∧ T.length ≤ 2000 ∧
  Res K E B (Vbndam.parseRoomLine z ⟨T, e⟩) (fun z' => ∀ F' H', RdZ K B F' H' rd z' → Keep F H H' → (∀ b, F b → F' b) → (∀ b, F' b → F b ∨ H b = none) → Q .non H')
section
variable {K : PySem.W.Frag} {B : Hp} {F S : Addr → Prop} {H H' : Hp} {rd : Addr} {z : Vbndam.Room} {q : Cursor} {te tb : TE} {ta : TA} {σ : L2.St} {D : Ends} {tz : TS} {E : XK}
theorem keep_fresh {f : Addr} {o : HO} (k : Keep F H H') (hf : H f = none) : Keep F H (upd H' f o) := fun b u hb hF => by
  rw [upd_ne (ne_of_none hb hf)]
  exact k b u hb hF
/-- token, player = self.take_player() -/
theorem q_rdPlayer2 {i j : Nat} (R : RdS K B F S H rd z q) (h0 : σ[0]? = some (some (.ref rd))) (hE : ∀ er, Vbndam.parsePlayer z q = .error er → FailsB K E B er)
    (k : ∀ n q' v H', Vbndam.parsePlayer z q = .ok (n, q') → RdS K B F S H' rd z q' → Keep (fun b => b = rd) H H' → TokAt K F H' v ⟨currentOffset q, (tokOf q).bytes⟩ → tz D ((σ.set i (some v)).set j (some (vI n))) H') :
    tSeq (tAsg (tMeth (He.ga K "Reader") "take_player" (spTakePlayer K) [] E (tVar 0) tNil) (gTup K 2 (gCons (gName i) (gCons (gName j) gNil)))) tz D σ H := by
  obtain ⟨dx, ap, ar, ta, a, T, xs, h1, _⟩ := id R.at.ob
  refine ⟨_, h0, rd, dx, _, rfl, h1, rdF_none _ _ _ _ (by decide +kernel), B, F, S, rd, z, q, rfl, R, hE, fun y hy v t H' R' K' ht hT => ?_⟩
  exact g_pair (st_of ht) (k y.1 y.2 v H' (by rw [hy]) R' K' hT)
/-- x = self.take_player()[1] -/
theorem q_rdPlayer1 {i : Nat} (R : RdS K B F S H rd z q) (h0 : σ[0]? = some (some (.ref rd))) (hE : ∀ er, Vbndam.parsePlayer z q = .error er → FailsB K E B er)
    (k : ∀ n q' H', Vbndam.parsePlayer z q = .ok (n, q') → RdS K B F S H' rd z q' → Keep (fun b => b = rd) H H' → tz D (σ.set i (some (vI n))) H') :
    tSeq (tAsg (tOp (rIxT K) (tMeth (He.ga K "Reader") "take_player" (spTakePlayer K) [] E (tVar 0) tNil) (tC (.int 1))) (gName i)) tz D σ H := by
  obtain ⟨dx, ap, ar, ta, a, T, xs, h1, _⟩ := id R.at.ob
  refine ⟨_, h0, rd, dx, _, rfl, h1, rdF_none _ _ _ _ (by decide +kernel), B, F, S, rd, z, q, rfl, R, hE, fun y hy v t H' R' K' ht hT => ?_⟩
  exact ⟨t, _, 1, vI y.1, rfl, rfl, st_of ht, rfl, k y.1 y.2 H' (by rw [hy]) R' K'⟩
end
section
variable {P : Program} {w : World} {K : PySem.W.Frag} {mg : Str → Option Value} {base : Heap}
theorem ok_rd_read_substitutes (c : Top K mg) : FOk P w K mg base (L2N.CX P w) 6 ("Reader", some "read_substitutes") p_Reader_read_substitutes (spReadSubs K) := by
  refine FOk.mk c.f_Reader_read_substitutes sc_Reader_read_substitutes (fun _ _ _ _ _ _ us hl => match us, hl with | [_, _], _ => rfl) (fun vs H Q E h => ?_) (fun cdv A outer s H vs Q E hr h => ?_)
  · obtain ⟨B, F, rd, z, q, p, rfl, _⟩ := h
    rfl
  · obtain ⟨B, F, rd, z, q, p, rfl, R, kE, kO⟩ := h
    have nd := sc_Reader_read_substitutes.nd
    have hu := hu_of hr
    refine ⟨_, (pss_cons (ps_set (i := 2) nd rfl (.inl rfl) (pe_lst pa_nil))
      (pss_cons (ps_while (passes_of rfl) (PW.pt (pw_or (pt_cmpR (op_eqNil (by exact Nat.lt_of_succ_lt hu)) (pv 2) (pe_lst pa_nil) (nomark _)) (pw_or1 (pt_cmpR (op_neNil (by exact Nat.lt_of_succ_lt hu)) (pe_fld (pe_mf0 (ok_rd_next_token c) (hr.mono (by decide)) c.cls_Reader c.me_Reader_next_token pass0 (pv 0)) rfl) (pe_lst pa_nil) (nomark _)))))
        (pss_cons (ps_asg (pe_mf0 (ok_rd_take_player c) (hr.mono (by decide)) c.cls_Reader c.me_Reader_take_player (L2N.passes_call (L2N.takes_of rfl rfl rfl rfl) (fun _ _ _ _ h => h)) (pv 0)) (pg_tup rfl (pgs_cons (pg_name (i := 3) nd rfl (.inl rfl)) (pgs_cons (pg_name (i := 4) nd rfl (.inl rfl)) pgs_nil))))
      (pss_cons (ps_expr (pe_cf (ok_check c) (hr.mono (by decide)) c.glo_check (L2N.passes_call (L2N.takes_of rfl rfl rfl rfl) (fun _ _ _ _ h => h)) (pa_cons (pe_cmpR op_ne (pv 4) (pv 1) (nomark _)) (pa_cons (pe_gi c.int_ABSENT_NAME) (pa_cons (pe_fld (pv 3) rfl) pa_nil)))))
      (pss_cons (ps_expr (pe_cf (ok_check c) (hr.mono (by decide)) c.glo_check (L2N.passes_call (L2N.takes_of rfl rfl rfl rfl) (fun _ _ _ _ h => h)) (pa_cons (pe_cmpR op_notIn_seq (pv 4) (pv 2) rfl) (pa_cons (pe_gi c.int_THERE_ALREADY) (pa_cons (pe_fld (pv 3) rfl) pa_nil)))))
      (pss_one (ps_expr (pe_bm PySem.F.plainAttrs_list PySem.F.slot_list_append PySem.F.type_list_append mt_append (pv 2) (pa_cons (pv 4) pa_nil))))))))
      (pss_one (ps_ret (pv 2))))), ?_⟩
    refine q_asgL (el_lst ea_nil (by decide)) fun f H1 hf e1 hf1 => ?_
    have hfF : ¬ F f := fun h => (R.own f h).2 hf
    refine q_while (fun m σ H2 => ∃ (had : List Nat) (q' : Cursor) (fu : Nat) (x y : Option V), σ = [some (.ref rd), some (vI p), some (.ref f), x, y] ∧ RdS K B F (fun b => H b ≠ none) H2 rd z q' ∧ Keep F H H2 ∧ H2 f = some (.lst (vN had)) ∧
        Vbndam.parseSubstitutes z p (q.tokens.length + 1) [] q = Vbndam.parseSubstitutes z p (fu + 1) had q' ∧ q'.tokens.length ≤ fu ∧ m = q'.tokens.length ∧ had.Nodup ∧ ∀ i ∈ had, i < z.players.length) q.tokens.length
      ⟨[], q, q.tokens.length, none, none, rfl, R.alive.ex e1, Keep.ofEx e1, hf1, rfl, Nat.le_refl _, rfl, List.Pairwise.nil, fun i h => by cases h⟩ (fun m σ H2 W => ?_)
    obtain ⟨had, q', fu, x, y, rfl, R2, K2, hf2, eq, hfu, rfl, hnd, hin⟩ := W
    have hX : EvX (tMeth (He.ga K "Reader") "next_token" (spNext K) [] E (tVar 0) tNil) [some (.ref rd), some (vI p), some (.ref f), x, y] H2 (fun v H => TokAt K F H v (tokOf q')) := ex_next R2.at rfl
    have hemp : (vN had).isEmpty = had.isEmpty := by cases had <;> rfl
    refine ⟨had.isEmpty || !(tokOf q').bytes.isEmpty, et_or (et_test (ev_is (ev_eqNil (ev_var rfl) hf2) (by rw [hemp]))) (fun _ => et_test (ex_neNil (ex_signs c.cls_Token c.no_Token_signs hX))), fun hb H3 e3 => ?_, fun hb H3 e3 => ?_⟩
    · have hcond : ¬ (q'.tokens.isEmpty = true ∧ had.isEmpty = false) := fun h => by
        rw [toks_end R2.at.cur] at h
        rw [h.1, h.2] at hb
        cases hb
      rw [subs_succ z p fu had q', if_neg hcond] at eq
      rw [eq] at kE kO
      have few8 : had.length ≤ 8 := Nat.le_trans (nodup_few _ had hnd hin) R2.at.part.n8
      refine ⟨_, fun σ2 H4 W => W, ?_⟩
      refine q_rdPlayer2 (R2.ex e3) rfl (fun er he => kE _ (by rw [he])) fun n q2 v H4 hn R4 K4 hw => ?_
      obtain ⟨hn1, rfl, hne⟩ := player_ok hn
      rw [hn] at kE kO eq
      dsimp only at kE kO eq
      have hX4 : ∀ {H5 : Hp}, Ex H4 H5 → EvX (tVar 3) [some (.ref rd), some (vI p), some (.ref f), some v, some (vI n)] H5 (fun v H => TokAt K F H v ⟨currentOffset q', (tokOf q').bytes⟩) := fun e => ex_V (ev_var rfl) fun H' e2 => hw.ex (e.trans e2)
      have K24 : Keep F H2 H4 := (Keep.ofEx e3).trans (K4.up R2.at.frd)
      have hf4 : H4 f = some (.lst (vN had)) := K24 _ _ hf2 hfF
      refine q_chk (kd := 10) (ea_cons (ev_op (ev_var rfl) (ev_var rfl) (rv_ne rfl)) (ea_cons ev_c (ea_cons (ex_offset c.cls_Token c.no_Token_offset (hX4 (Ex.refl _))) ea_nil))) (fun hb2 H5 e5 => ?_) (fun hb2 => ?_)
      · rw [vI_eq, Bool.not_eq_true', decide_eq_false_iff_not] at hb2
        rw [if_neg hb2] at kE kO eq
        refine q_chk (kd := 4) (ea_cons (ev_op (ev_var rfl) (ev_var rfl) (rv_inL (neg := true) (sq_of (e5 _ _ hf4)) rfl (flat_nats had))) (ea_cons ev_c (ea_cons (ex_offset c.cls_Token c.no_Token_offset (hX4 e5)) ea_nil))) (fun hb3 H6 e6 => ?_) (fun hb3 => ?_)
        · rw [if_pos rfl, in_nats, Bool.not_eq_true'] at hb3
          rw [if_neg (by rw [hb3]; exact Bool.false_ne_true)] at kE kO eq
          have e56 := e5.trans e6
          refine s_app (e56 _ _ hf4) (ev_var rfl) (ev_var rfl) (by rw [vN_len]; omega) fun H7 e7 => ?_
          have R8 : RdS K B F (fun b => H b ≠ none) (upd H7 f (.lst (vN had ++ [vI n]))) rd z (skip q') := (R4.ex (e56.trans e7)).out fun h => h hf
          have hlt := skip_len hne
          obtain ⟨f', hf'⟩ : ∃ f', fu = f' + 1 := ⟨fu - 1, by omega⟩
          refine ⟨(skip q').tokens.length, hlt, had ++ [n], skip q', f', _, _, rfl, R8, keep_fresh (K2.trans (K24.trans (Keep.ofEx (e56.trans e7)))) hf, ?_, ?_, by omega, rfl, ?_, fun i hi => ?_⟩
          · rw [upd_same, vN_app]
            rfl
          · rw [eq, hf']
          · refine List.nodup_append.mpr ⟨hnd, List.pairwise_singleton _ _, fun u hu v hv e => ?_⟩
            rw [List.mem_singleton.mp hv] at e
            rw [e] at hu
            rw [List.contains_iff_mem.mpr hu] at hb3
            cases hb3
          · rcases List.mem_append.mp hi with hi | hi
            · exact hin i hi
            · rw [List.mem_singleton.mp hi]
              exact hn1
        · rw [if_pos rfl, in_nats, Bool.not_eq_false'] at hb3
          rw [if_pos hb3] at kE
          exact (kE _ rfl).mono (R4.at.ex e5).base
      · rw [vI_eq, Bool.not_eq_false', decide_eq_true_eq] at hb2
        rw [if_pos hb2] at kE
        exact (kE _ rfl).mono R4.at.base
    · have hcond : q'.tokens.isEmpty = true ∧ had.isEmpty = false := by
        rw [toks_end R2.at.cur]
        cases h1 : had.isEmpty <;> cases h2 : (tokOf q').bytes.isEmpty <;> rw [h1, h2] at hb <;> first | exact ⟨rfl, rfl⟩ | cases hb
      rw [subs_succ z p fu had q', if_pos hcond] at eq
      rw [eq] at kO
      refine ⟨_, rfl, ?_⟩
      exact kO _ rfl f H3 (R2.at.ex e3) (K2.trans (Keep.ofEx e3)) hf hfF (e3 _ _ hf2) hnd hin (List.isEmpty_iff.mp hcond.1)
end
end Gs

set_option Elab.async false
set_option linter.all false
set_option maxRecDepth 100000
set_option maxHeartbeats 4000000
/-! Walks: the reader: a rule, a line. -/
namespace Gs
open PySem PySem.Spec PyProof.Rows L2 Evl
open Vbndaa (toBytes Token Cursor ParseError splitAtByte currentOffset expectToken expectEnd valueOf nextTokenIs)
/-! ### a rule more -/
theorem Part.rule {z : Vbndam.Room} (h : Part z) (u : Vbndam.Rule) (hu : RuleOk z.players.length u) (hl : z.rules.length < 20) : Part { z with rules := z.rules ++ [u] } where
  n8 := h.n8
  r20 := by
    show (z.rules ++ [u]).length ≤ 20
    rw [List.length_append, List.length_singleton]
    omega
  rules := fun x hx => by
    rcases List.mem_append.mp (show x ∈ z.rules ++ [u] from hx) with hx | hx
    · exact h.rules x hx
    · rw [List.mem_singleton.mp hx]
      exact hu
  pl := h.pl
theorem RdZ.rule {K : PySem.W.Frag} {B : Hp} {F : Addr → Prop} {H H1 : Hp} {rd : Addr} {z : Vbndam.Room} (R : RdZ K B F H rd z) (e : Ex H H1) {x : Addr} (hx : H x = none) {dx sb : Addr} {u : Vbndam.Rule} (h1 : H1 x = some (.ins (He.ga K "Rule") dx (ruF u.absent u.required sb))) (h2 : H sb = some (.lst (vN u.substitutes))) (h3 : ¬ F sb) (hok : RuleOk z.players.length u) (hl : z.rules.length < 20)
    {rdx ap ar ta : Addr} {a : Nat} {rs : List V} (k1 : H rd = some (.ins (He.ga K "Reader") rdx (rdF ap ar ta a))) (hrs : H ar = some (.lst rs)) : F ar ∧ RdZ K B F (upd H1 ar (.lst (rs ++ [.ref x]))) rd { z with rules := z.rules ++ [u] } := by
  obtain ⟨rdx', ap', ar', ta', a', k1', L⟩ := R.ob
  have el : ap = ap' ∧ ar = ar' := by
    rw [k1] at k1'
    have := (HO.ins.inj (Option.some.inj k1')).2.2
    obtain ⟨q1, q2⟩ := List.cons.inj this
    obtain ⟨q3, _⟩ := List.cons.inj q2
    exact ⟨V.ref.inj (congrArg Prod.snd q1), V.ref.inj (congrArg Prod.snd q3)⟩
  obtain ⟨rfl, rfl⟩ := el
  obtain ⟨ps, hps, hea, hnd⟩ := L.pl
  obtain ⟨rs', hrs', her⟩ := L.ru
  rw [hrs] at hrs'
  cases hrs'
  have hxF : ¬ F x := fun q => (R.own x q).2 hx
  have hrs1 := e _ _ hrs
  have hapx : ar ≠ x := fun q => by
    rw [q, hx] at hrs
    cases hrs
  refine ⟨L.fr, { base := (R.base.trans e).mut (R.own ar L.fr).1, own := fun b hb => ⟨(R.own b hb).1, upd_alive (Ex.alive e (R.own b hb).2)⟩, frd := R.frd, part := R.part.rule u hok hl, ob := ⟨rdx, ap, ar, ta, a, upd_keep (e _ _ k1) hrs1 (fun q => by cases q), ?_⟩ }⟩
  refine { pl := ⟨ps, by rw [upd_ne L.ne]; exact e _ _ hps, hea.imp fun v p hp => ?_, hnd⟩, ru := ⟨_, upd_same, EachAt.app (her.imp fun v w hw => (hw.ex e).set L.fr) (EachAt.one ⟨x, dx, sb, rfl, ?_, upd_out (e _ _ h2) h3 L.fr, hxF, h3⟩)⟩, ne := L.ne, fp := L.fp, fr := L.fr }
  · refine (hp.ex e).set hrs1 L.fr fun q => ?_
    obtain ⟨b, _, _, e1, h4, _⟩ := hp
    rw [q] at e1
    cases e1
    rw [hrs] at h4
    cases h4
  · rw [upd_ne hapx.symm]
    exact h1
/-! ### what comes behind 'by' -/
def restRule (z : Vbndam.Room) (p : Nat) (req : Option Nat) (pl : Nat) (q : Cursor) : Except ParseError Vbndam.Room := match Vbndam.parseSubstitutes z p (q.tokens.length + 1) [] q with
  | .error e => .error e
  | .ok (l, y) => if l.length < req.getD l.length then .error ⟨6, pl⟩ else expectEnd 1 { z with rules := z.rules ++ [⟨p, req.getD l.length, l⟩] } y
def reqV (req : Option Nat) : V := match req with
  | some k => vI k
  | none => .non
theorem rule_any {z : Vbndam.Room} {off p : Nat} {q q1 q2 q3 q4 : Cursor} {k : Nat} (h0 : ¬ Vbndam.maxRules ≤ z.rules.length) (h1 : Vbndam.parsePlayer z q = .ok (p, q1)) (h2 : expectToken 1 (toBytes "by") q1 = .ok ((), q2)) (h3 : nextTokenIs (toBytes "any") q2 = true) (h4 : Vbndam.parseNatInRange 1 Vbndam.maxPlayers (skip q2) = .ok (k, q3)) (h5 : expectToken 1 (toBytes "of") q3 = .ok ((), q4)) :
    ruleLine z off q = restRule z p (some k) (currentOffset (skip q2)) q4 := by
  unfold ruleLine restRule
  rw [if_neg h0, h1]
  dsimp only
  rw [h2]
  dsimp only
  rw [if_pos h3, h4]
  dsimp only
  rw [h5]
  rfl
theorem rule_all {z : Vbndam.Room} {off p : Nat} {q q1 q2 : Cursor} {pl : Nat} (h0 : ¬ Vbndam.maxRules ≤ z.rules.length) (h1 : Vbndam.parsePlayer z q = .ok (p, q1)) (h2 : expectToken 1 (toBytes "by") q1 = .ok ((), q2)) (h3 : nextTokenIs (toBytes "any") q2 = false) :
    ruleLine z off q = restRule z p none pl q2 := by
  unfold ruleLine restRule
  rw [if_neg h0, h1]
  dsimp only
  rw [h2]
  dsimp only
  rw [if_neg (by rw [h3]; exact Bool.false_ne_true)]
  cases Vbndam.parseSubstitutes z p (q2.tokens.length + 1) [] q2 with
  | error e => rfl
  | ok x =>
    obtain ⟨l, y⟩ := x
    show _ = if l.length < l.length then _ else _
    rw [if_neg (Nat.lt_irrefl _)]
    rfl
section
variable {K : PySem.W.Frag} {B : Hp} {F S : Addr → Prop} {H H' : Hp} {rd : Addr} {z : Vbndam.Room} {q : Cursor} {te tb : TE} {ta : TA} {σ : L2.St} {D : Ends} {tz : TS} {E : XK}
theorem q_rdSubs {i p : Nat} (R : RdAt K B F H rd z q) (h0 : σ[0]? = some (some (.ref rd))) (h2 : σ[2]? = some (some (vI p))) (hE : ∀ er, Vbndam.parseSubstitutes z p (q.tokens.length + 1) [] q = .error er → FailsB K E B er)
    (k : ∀ l q' f H', Vbndam.parseSubstitutes z p (q.tokens.length + 1) [] q = .ok (l, q') → RdAt K B F H' rd z q' → Keep F H H' → H f = none → ¬ F f → H' f = some (.lst (vN l)) → l.Nodup → (∀ i ∈ l, i < z.players.length) → q'.tokens = [] → tz D (σ.set i (some (.ref f))) H') :
    tSeq (tAsg (tMeth (He.ga K "Reader") "read_substitutes" (spReadSubs K) [] E (tVar 0) (tCons (tVar 2) tNil)) (gName i)) tz D σ H := by
  obtain ⟨dx, ap, ar, ta, a, T, xs, h1, _⟩ := id R.ob
  exact ⟨_, h0, rd, dx, _, rfl, h1, rdF_none _ _ _ _ (by decide +kernel), _, h2, B, F, rd, z, q, p, rfl, R, hE, fun y hy f H' a1 a2 a3 a4 a5 a6 a7 a8 => k y.1 y.2 f H' (by rw [hy]) a1 a2 a3 a4 a5 a6 a7 a8⟩
end
section
variable {P : Program} {w : World} {K : PySem.W.Frag} {mg : Str → Option Value} {base : Heap}
theorem ok_rd_read_rule (c : Top K mg) : FOk P w K mg base (L2N.CX P w) 7 ("Reader", some "read_rule") p_Reader_read_rule (spReadRule K) := by
  refine FOk.mk c.f_Reader_read_rule sc_Reader_read_rule (fun _ _ _ _ _ _ us hl => match us, hl with | [_, _], _ => rfl) (fun vs H Q E h => ?_) (fun cdv A outer s H vs Q E hr h => ?_)
  · obtain ⟨B, F, rd, z, q, off, rfl, _⟩ := h
    rfl
  · obtain ⟨B, F, rd, z, q, off, rfl, R, kE, kO⟩ := h
    have nd := sc_Reader_read_rule.nd
    refine ⟨_, (pss_cons (ps_expr (pe_cf (ok_check c) (hr.mono (by decide)) c.glo_check (L2N.passes_call (L2N.takes_of rfl rfl rfl rfl) (fun _ _ _ _ h => h)) (pa_cons (pe_cmpR op_lt (pe_callB call_len_seq (by rfl) c.free_len PySem.boot_len (pa_cons (pe_fld (pv 0) rfl) pa_nil)) (pe_gi c.int_MOST_RULES) (nomark _)) (pa_cons (pe_gi c.int_TOO_MANY) (pa_cons (pv 1) pa_nil)))))
      (pss_cons (ps_set (i := 2) nd rfl (.inl rfl) (pe_ix ix_tup (pe_mf0 (ok_rd_take_player c) (hr.mono (by decide)) c.cls_Reader c.me_Reader_take_player (L2N.passes_call (L2N.takes_of rfl rfl rfl rfl) (fun _ _ _ _ h => h)) (pv 0)) pe_int (fun _ _ => rfl)))
      (pss_cons (ps_expr (pe_mf (ok_rd_take_word c) (hr.mono (by decide)) c.cls_Reader c.me_Reader_take_word (L2N.passes_call (L2N.takes_of rfl rfl rfl rfl) (fun _ _ _ _ h => h)) (pv 0) (pa_cons pe_str pa_nil)))
      (pss_cons (ps_set (i := 3) nd rfl (.inl rfl) pe_non)
      (pss_cons (ps_set (i := 4) nd rfl (.inl rfl) pe_int)
      (pss_cut (ps_if (pt_val (pe_cf (ok_is_word c) (hr.mono (by decide)) c.glo_is_word pass0 (pa_cons (pe_fld (pe_mf0 (ok_rd_next_token c) (hr.mono (by decide)) c.cls_Reader c.me_Reader_next_token pass0 (pv 0)) rfl) (pa_cons pe_str pa_nil)))) (pss_cons (ps_fldaug (pv 0) pe_int in_add)
      (pss_cons (ps_set (i := 4) nd rfl (.inl rfl) (pe_fld (pe_mf0 (ok_rd_next_token c) (hr.mono (by decide)) c.cls_Reader c.me_Reader_next_token pass0 (pv 0)) rfl))
      (pss_cons (ps_set (i := 3) nd rfl (.inl rfl) (pe_mf (ok_rd_take_number c) (hr.mono (by decide)) c.cls_Reader c.me_Reader_take_number (L2N.passes_call (L2N.takes_of rfl rfl rfl rfl) (fun _ _ _ _ h => h)) (pv 0) (pa_cons pe_int (pa_cons (pe_gi c.int_MOST_PLAYERS) pa_nil))))
      (pss_one (ps_expr (pe_mf (ok_rd_take_word c) (hr.mono (by decide)) c.cls_Reader c.me_Reader_take_word (L2N.passes_call (L2N.takes_of rfl rfl rfl rfl) (fun _ _ _ _ h => h)) (pv 0) (pa_cons pe_str pa_nil))))))) pss_nil)
      (pss_cons (ps_set (i := 5) nd rfl (.inl rfl) (pe_mf (ok_rd_read_substitutes c) (hr.mono (by decide)) c.cls_Reader c.me_Reader_read_substitutes (L2N.passes_call (L2N.takes_of rfl rfl rfl rfl) (fun _ _ _ _ h => h)) (pv 0) (pa_cons (pv 2) pa_nil)))
      (pss_cons (ps_if (pt_cmpR op_isN (pv 3) pe_non (nomark _)) (pss_one (ps_set (i := 3) nd rfl (.inl rfl) (pe_callB call_len_seq (by rfl) c.free_len PySem.boot_len (pa_cons (pv 5) pa_nil)))) pss_nil)
      (pss_cons (ps_expr (pe_cf (ok_check c) (hr.mono (by decide)) c.glo_check (L2N.passes_call (L2N.takes_of rfl rfl rfl rfl) (fun _ _ _ _ h => h)) (pa_cons (pe_cmpR op_le (pv 3) (pe_callB call_len_seq (by rfl) c.free_len PySem.boot_len (pa_cons (pv 5) pa_nil)) (nomark _)) (pa_cons (pe_gi c.int_TOO_GREAT) (pa_cons (pv 4) pa_nil)))))
      (pss_one (ps_expr (pe_bm PySem.F.plainAttrs_list PySem.F.slot_list_append PySem.F.type_list_append mt_append (pe_fld (pv 0) rfl) (pa_cons (pe_mk (ok_rule_init c) c.mkr_Rule (hr.mono (by decide)) c.glo_Rule pass0 (pa_cons (pv 2) (pa_cons (pv 3) (pa_cons (pv 5) pa_nil)))) pa_nil))))))))))))), ?_⟩
    obtain ⟨dx, ap, ar, ta, a, T, xs, h1, L, _⟩ := id R.ob
    obtain ⟨rs, hrs, her⟩ := L.ru
    refine q_chk (b := decide (z.rules.length < 20)) (kd := 7) (ea_cons (ev_is (ev_op (ev_len (ev_fld (ev_var rfl) h1 c.cls_Reader c.no_Reader_rules (rdF_rules _ _ _ _)) (sq_of hrs)) ev_c rv_I0) (by rw [her.1]; exact congrArg V.bl (decide_eq_decide.mpr (by omega)))) (ea_cons ev_c (ea_cons (ev_var rfl) ea_nil))) (fun hb H1 e1 => ?_) (fun hb => ?_)
    · have hlt := of_decide_eq_true hb
      have h20 : ¬ Vbndam.maxRules ≤ z.rules.length := by
        show ¬ 20 ≤ z.rules.length
        omega
      refine q_rdPlayer1 (R.ex e1).all rfl (fun er he => kE _ (by unfold ruleLine; rw [if_neg h20, he])) fun p q1 H2 hq1 R2 K2 => ?_
      have hp := player_ok hq1
      refine q_rdWord R2 rfl (by decide) (by decide) (fun er he => kE _ (by unfold ruleLine; rw [if_neg h20, hq1]; dsimp only; rw [he])) fun q2 H3 hq2 R3 K3 => ?_
      have K03 : Keep F H H3 := (Keep.ofEx e1).trans ((K2.trans K3).up R.frd)
      refine q_asg ev_c fun H4 e4 => q_asg (v := vI 0) ev_c fun H5 e5 => ?_
      have e35 := e4.trans e5
      refine q_cut (M := fun σ H6 => ∃ req pl q6, σ = [some (.ref rd), some (vI off), some (vI p), some (reqV req), some (vI pl), none] ∧ RdAt K B F H6 rd z q6 ∧ Keep F H H6 ∧ (∀ k, req = some k → True) ∧ ruleLine z off q = restRule z p req pl q6) ?_ fun σ H6 M => ?_
      · have R5 := R3.ex e35
        have hX : EvX (tMeth (He.ga K "Reader") "next_token" (spNext K) [] E (tVar 0) tNil) [some (.ref rd), some (vI off), some (vI p), some .non, some (vI 0), none] H5 (fun v H => TokAt K F H v (tokOf q2)) := ex_next R5.at rfl
        refine s_if (et_B (ex_isWord (s := "any") (ex_signs c.cls_Token c.no_Token_signs hX) ev_c (by decide))) (fun hb2 H6 e6 => ?_) (fun hb2 H6 e6 => ?_)
        · have hany : nextTokenIs (toBytes "any") q2 = true := by
            rw [next_word (by decide)]
            exact hb2
          have hne : (tokOf q2).bytes ≠ [] := by
            rw [of_decide_eq_true hb2]
            decide
          refine q_more c (R5.ex e6) rfl hne fun H7 R7 K7 => ?_
          have hX7 : EvX (tMeth (He.ga K "Reader") "next_token" (spNext K) [] E (tVar 0) tNil) [some (.ref rd), some (vI off), some (vI p), some .non, some (vI 0), none] H7 (fun v H => TokAt K F H v (tokOf (skip q2))) := ex_next R7.at rfl
          refine q_asg (ex_offset c.cls_Token c.no_Token_offset hX7) fun H8 e8 => ?_
          refine q_rdNumber (lo := 1) (hi := Vbndam.maxPlayers) (R7.ex e8) rfl (ea_cons ev_c (ea_cons ev_c ea_nil)) (fun er he => kE _ (by unfold ruleLine; rw [if_neg h20, hq1]; dsimp only; rw [hq2]; dsimp only; rw [if_pos hany, he])) fun k q9 H9 hq9 R9 K9 => ?_
          refine s_rdWord R9 rfl (by decide) (by decide) (fun er he => kE _ (by unfold ruleLine; rw [if_neg h20, hq1]; dsimp only; rw [hq2]; dsimp only; rw [if_pos hany, hq9]; dsimp only; rw [he])) fun q10 H10 hq10 R10 K10 => ?_
          have K10' : Keep F H H10 := ((((K03.trans (Keep.ofEx (e35.trans e6))).trans (K7.up R.frd)).trans (Keep.ofEx e8)).trans (K9.up R.frd)).trans (K10.up R.frd)
          refine ⟨some k, (tokOf (skip q2)).offset, q10, rfl, R10.at, K10', fun _ _ => True.intro, ?_⟩
          rw [← off_is]
          exact rule_any h20 hq1 hq2 hany hq9 hq10
        · have hany : nextTokenIs (toBytes "any") q2 = false := by
            rw [next_word (by decide)]
            exact hb2
          exact ⟨none, 0, q2, rfl, (R5.ex e6).at, K03.trans (Keep.ofEx (e35.trans e6)), fun _ _ => True.intro, rule_all h20 hq1 hq2 hany⟩
      · obtain ⟨req, pl, q6, rfl, R6, K6, _, eq⟩ := M
        rw [eq] at kE kO
        unfold restRule at kE kO
        refine q_rdSubs R6 rfl rfl (fun er he => kE _ (by rw [he])) fun l q7 f H7 hl R7 K7 hf hfF hf7 hnd hin hend => ?_
        rw [hl] at kE kO
        dsimp only at kE kO
        have few8 : l.length ≤ 8 := Nat.le_trans (nodup_few _ l hnd hin) R7.part.n8
        have hlen : ∀ {H8 : Hp} {x : Option V}, Ex H7 H8 → Ev (tCB (rLenS K) (tCons (tVar 5) tNil)) [some (.ref rd), some (vI off), some (vI p), x, some (vI pl), some (.ref f)] H8 (vI l.length) := fun e => ev_is (ev_len (ev_var rfl) (sq_of (e _ _ hf7))) (by rw [vN_len])
        refine q_ifAsg (i := 3) (v := vI (req.getD l.length)) (et_test (b := req.isNone) (fun H8 e8 Q' q' => ⟨_, rfl, rfl, ?_⟩)) (fun hb => ?_) (fun hb => ?_) fun H8 e8 => ?_
        · cases req with
          | none => exact q' H8 (Ex.refl _)
          | some k => exact q' H8 (Ex.refl _)
        · cases req with
          | none => exact hlen (Ex.refl _)
          | some k => cases hb
        · cases req with
          | none => cases hb
          | some k => rfl
        · refine q_chk (b := decide (req.getD l.length ≤ l.length)) (kd := 6) (ea_cons (ev_is (ev_op (ev_var rfl) (hlen e8) rv_I0) (congrArg V.bl (decide_eq_decide.mpr (by omega)))) (ea_cons ev_c (ea_cons (ev_var rfl) ea_nil))) (fun hb H9 e9 => ?_) (fun hb => ?_)
          · have hle := of_decide_eq_true hb
            rw [if_neg (by omega), end_is R7.cur, if_pos (by unfold tokOf; rw [hend])] at kO
            have e79 := e8.trans e9
            have R9 := (R7.ex e79).toZ
            obtain ⟨dx9, ap9, ar9, ta9, a9, hrd9, L9⟩ := id R9.ob
            obtain ⟨rs9, hrs9, her9⟩ := L9.ru
            have hmk : EvM (tMake (He.ga K "Rule") (spI K "Rule" 3 (f3 "absent" "required" "substitutes")) [] E (tCons (tVar 2) (tCons (tVar 3) (tCons (tVar 5) tNil)))) [some (.ref rd), some (vI off), some (vI p), some (vI (req.getD l.length)), some (vI pl), some (.ref f)] H9 (fun x H' => H9 x = none ∧ ∃ dx, H' x = some (.ins (He.ga K "Rule") dx (ruF p (req.getD l.length) f))) := fun H10 e10 Q' q' =>
              em_mk (P := fun ws _ => ws = [vI p, vI (req.getD l.length), .ref f]) (ep_of (ea_cons (ev_var rfl) (ea_cons (ev_var rfl) (ea_cons (ev_var rfl) ea_nil)))) (fun vs H' h => by rw [h]; rfl) (fun vs H1 H2 e h => h) H10 e10 Q' fun x H11 hx e11 h => by
                obtain ⟨hx0, dx, vs, rfl, h3⟩ := h
                exact q' x H11 hx e11 ⟨hx0, dx, h3⟩
            refine s_appM hrs9 (ev_fld (ev_var rfl) hrd9 c.cls_Reader c.no_Reader_rules (rdF_rules _ _ _ _)) hmk (by rw [her9.1]; omega) fun x H10 hx e10 hP => ?_
            obtain ⟨_, pdx, hx10⟩ := hP
            obtain ⟨hFar, RR⟩ := R9.rule e10 hx (u := ⟨p, req.getD l.length, l⟩) hx10 (e79 _ _ hf7) hfF ⟨hp.1, hle, hin, few8⟩ hlt hrd9 hrs9
            exact kO _ rfl _ RR ((((K6.trans K7).trans (Keep.ofEx e79)).trans (Keep.ofEx e10)).trans (Keep.upd hFar))
          · have hgt := of_decide_eq_false hb
            rw [if_pos (by omega)] at kE
            exact (kE _ rfl).mono (R7.ex e8).base
    · have h20 : Vbndam.maxRules ≤ z.rules.length := by
        have := of_decide_eq_false hb
        show 20 ≤ z.rules.length
        omega
      exact (kE _ (by unfold ruleLine; rw [if_pos h20])).mono R.base
theorem ok_rd_read_line (c : Top K mg) : FOk P w K mg base (L2N.CX P w) 8 ("Reader", some "read_line") p_Reader_read_line (spReadLine K) := by
  refine FOk.mk c.f_Reader_read_line sc_Reader_read_line (fun _ _ _ _ _ _ us hl => match us, hl with | [_, _], _ => rfl) (fun vs H Q E h => ?_) (fun cdv A outer s H vs Q E hr h => ?_)
  · obtain ⟨B, F, rd, z, v, T, e, rfl, _⟩ := h
    rfl
  · obtain ⟨B, F, rd, z, v, T, e, rfl, R, hline, hT, hcur, h2000, kE, kO⟩ := h
    have nd := sc_Reader_read_line.nd
    refine ⟨_, (pss_cons (ps_fld (pv 0) (pv 1) rfl)
      (pss_cons (ps_fld (pv 0) pe_int rfl)
      (pss_cons (ps_set (i := 2) nd rfl (.inl rfl) (pe_ix ix_list (pv 1) pe_int (fun _ _ => rfl)))
      (pss_one (ps_if (pt_val (pe_cf (ok_is_word c) (hr.mono (by decide)) c.glo_is_word pass0 (pa_cons (pe_fld (pv 2) rfl) (pa_cons pe_str pa_nil)))) (pss_one (ps_expr (pe_mf (ok_rd_read_player c) (hr.mono (by decide)) c.cls_Reader c.me_Reader_read_player (L2N.passes_call (L2N.takes_of rfl rfl rfl rfl) (fun _ _ _ _ h => h)) (pv 0) (pa_cons (pe_fld (pv 2) rfl) pa_nil)))) (pss_cons (ps_expr (pe_cf (ok_check c) (hr.mono (by decide)) c.glo_check (L2N.passes_call (L2N.takes_of rfl rfl rfl rfl) (fun _ _ _ _ h => h)) (pa_cons (pe_cf (ok_is_word c) (hr.mono (by decide)) c.glo_is_word pass0 (pa_cons (pe_fld (pv 2) rfl) (pa_cons pe_str pa_nil))) (pa_cons (pe_gi c.int_BAD_TOKEN) (pa_cons (pe_fld (pv 2) rfl) pa_nil)))))
      (pss_one (ps_expr (pe_mf (ok_rd_read_rule c) (hr.mono (by decide)) c.cls_Reader c.me_Reader_read_rule (L2N.passes_call (L2N.takes_of rfl rfl rfl rfl) (fun _ _ _ _ h => h)) (pv 0) (pa_cons (pe_fld (pv 2) rfl) pa_nil)))))))))), ?_⟩
    obtain ⟨dx, ap, ar, ta, a, h1, L⟩ := id R.ob
    obtain ⟨tq, ys, rfl, y1, y2, y3⟩ := hline
    refine ⟨_, rfl, _, rfl, rd, _, dx, _, rfl, h1, c.cls_Reader, c.no_Reader_tokens, by show 4 < 1000; decide, ?_⟩
    refine ⟨_, rfl, rd, _, dx, _, rfl, upd_same, c.cls_Reader, c.no_Reader_at, by rw [putF_tokens]; show 4 < 1000; decide, ?_⟩
    rw [upd_upd, putF_tokens, show (V.int 1) = vI 1 from rfl, putF_at]
    have kp : Keep F H (upd H rd (.ins (He.ga K "Reader") dx (rdF ap ar tq 1))) := Keep.upd R.frd
    generalize hH2 : upd H rd (.ins (He.ga K "Reader") dx (rdF ap ar tq 1)) = H2 at kp
    have y1' : H2 tq = some (.lst ys) := kp _ _ y1 y2
    have hsk : skip ⟨T, e⟩ = ⟨T.drop 1, e⟩ := rfl
    have R2 : RdAt K B F H2 rd z (skip ⟨T, e⟩) := by
      refine ⟨?_, fun b hb => ⟨(R.own b hb).1, ?_⟩, R.frd, R.part, hcur.skip, dx, ap, ar, tq, 1, T, ys, ?_, ?_, y1', y2, y3.imp fun _ _ t => t.keep kp, rfl, ?_, h2000⟩
      · rw [← hH2]
        exact R.base.mut (R.own rd R.frd).1
      · rw [← hH2]
        exact upd_alive (R.own b hb).2
      · rw [← hH2]
        exact upd_same
      · rw [← hH2]
        exact L.mut4 h1 R.frd rfl _
      · cases T with
        | nil => exact absurd rfl hT
        | cons _ _ => simp
    have hfirst : (T ++ [⟨e, []⟩])[0]? = some (tokOf ⟨T, e⟩) := tok_at (q := ⟨T, e⟩) (a := 0) rfl (Nat.zero_le _)
    obtain ⟨v0, hv0, hT0⟩ := y3.get hfirst
    have hT2 := hT0.keep kp
    refine q_asg (v := v0) (ev_op (ev_var rfl) ev_c (rv_ixL (sq_of y1') (atI_nat (j := 0) hv0))) fun H3 e3 => ?_
    have hX : ∀ {H4 : Hp}, Ex H3 H4 → EvX (tVar 2) [some (.ref rd), some (.ref tq), some v0] H4 (fun v H => TokAt K F H v (tokOf ⟨T, e⟩)) := fun e => ex_V (ev_var rfl) fun H' e2 => hT2.ex ((e3.trans e).trans e2)
    rw [line_is, next_word (by decide), next_word (by decide), off_is] at kE kO
    refine s_if (et_B (ex_isWord (s := "player") (ex_signs c.cls_Token c.no_Token_signs (hX (Ex.refl _))) ev_c (by decide))) (fun hb H4 e4 => ?_) (fun hb H4 e4 => ?_)
    · rw [if_pos hb] at kE kO
      have R4 := R2.ex (e3.trans e4)
      obtain ⟨dx4, ap4, ar4, ta4, a4, T4, xs4, k1, _⟩ := id R4.ob
      refine ⟨_, rfl, rd, dx4, _, rfl, k1, rdF_none _ _ _ _ (by decide +kernel), ?_⟩
      refine ea_cons (ex_offset c.cls_Token c.no_Token_offset (hX e4)) ea_nil H4 (Ex.refl _) _ fun H5 e5 => ?_
      have e25 := (e3.trans e4).trans e5
      refine ⟨B, F, rd, z, _, _, rfl, R4.ex e5, kE, fun z' hz F' H' a1 a2 a3 a4 => kO z' hz F' H' a1 ((kp.trans (Keep.ofEx e25)).trans a2) a3 fun b hb => (a4 b hb).imp id fun q => ?_⟩
      exact kept_back (kp.trans (Keep.ofEx e25)) (fun b hb => ((R4.ex e5).own b hb).2) q
    · rw [if_neg (by rw [hb]; exact Bool.false_ne_true)] at kE kO
      refine q_chk (kd := 1) (ea_cons (ex_isWord (s := "keep") (ex_signs c.cls_Token c.no_Token_signs (hX e4)) ev_c (by decide)) (ea_cons ev_c (ea_cons (ex_offset c.cls_Token c.no_Token_offset (hX e4)) ea_nil))) (fun hb2 H5 e5 => ?_) (fun hb2 => ?_)
      · rw [if_pos hb2] at kE kO
        have e35 := e4.trans e5
        have R5 := R2.ex (e3.trans e35)
        obtain ⟨dx4, ap4, ar4, ta4, a4, T4, xs4, k1, _⟩ := id R5.ob
        refine ⟨_, rfl, rd, dx4, _, rfl, k1, rdF_none _ _ _ _ (by decide +kernel), ?_⟩
        refine ea_cons (ex_offset c.cls_Token c.no_Token_offset (hX e35)) ea_nil H5 (Ex.refl _) _ fun H6 e6 => ?_
        have e26 := (e3.trans e35).trans e6
        exact ⟨B, F, rd, z, _, _, rfl, R5.ex e6, kE, fun z' hz H' a1 a2 => kO z' hz F H' a1 ((kp.trans (Keep.ofEx e26)).trans a2) (fun _ h => h) fun b hb => .inl hb⟩
      · rw [if_neg (by rw [hb2]; exact Bool.false_ne_true)] at kE
        exact (kE _ rfl).mono (R2.ex (e3.trans e4)).base
end
end Gs

set_option Elab.async false
set_option linter.all false
set_option maxRecDepth 100000
set_option maxHeartbeats 4000000
/-! Walks: a room read. -/
namespace Gs
open PySem PySem.Spec PyProof.Rows L2 Evl
open Vbndaa (toBytes Token Cursor ParseError splitAtByte currentOffset expectToken expectEnd valueOf nextTokenIs parseLines)
def spRdInit (K : PySem.W.Frag) : Sp := fun vs H Q _ => ∃ (x dx : Addr), vs = [.ref x] ∧ H x = some (.ins (He.ga K "Reader") dx []) ∧ ∀ ap ar ta H', H' x = some (.ins (He.ga K "Reader") dx (rdF ap ar ta 0)) → H' ap = some (.lst []) → H' ar = some (.lst []) → H ap = none → H ar = none → ap ≠ ar → Keep (fun b => b = x) H H' → Q .non H'
def spRoomOf (K : PySem.W.Frag) : Sp := fun vs H Q E => ∃ (a : Addr) (t : List Nat), vs = [.ref a] ∧ H a = some (.lst (vN t)) ∧ t.length ≤ 2000 ∧
  Res K E H (Vbndam.parseRoom t) (fun z => ∀ r F H', RoomAt K F H' r z → Wf z → Ex H H' → (∀ b, F b → H b = none ∧ H' b ≠ none) → Q (.ref r) H')
def pLines (z : Vbndam.Room) (l : List (Nat × List Nat)) : Except ParseError Vbndam.Room := parseLines Vbndam.noSeparators Vbndam.parseRoomLine z l
theorem lines_cons (z : Vbndam.Room) (x : Nat × List Nat) (l : List (Nat × List Nat)) : pLines z (x :: l) = if (toks x.1 x.2).isEmpty = true then pLines z l else match Vbndam.parseRoomLine z ⟨toks x.1 x.2, x.1 + x.2.length⟩ with
    | .error e => .error e
    | .ok t => pLines t l := by
  unfold pLines
  rw [Vbndaa.parseLines]
  by_cases h : (toks x.1 x.2).isEmpty = true
  · rw [if_pos h]
    exact if_pos h
  · rw [if_neg h]
    refine (if_neg h).trans ?_
    have e : Vbndaa.cursorOf Vbndam.noSeparators x.1 x.2 = ⟨toks x.1 x.2, x.1 + x.2.length⟩ := rfl
    rw [e]
    cases Vbndam.parseRoomLine z ⟨toks x.1 x.2, x.1 + x.2.length⟩ <;> rfl
theorem room_is (t : List Nat) : Vbndam.parseRoom t = match pLines Vbndam.emptyRoom (splitAtByte 10 0 t) with
    | .error e => .error e
    | .ok z => if z.players.isEmpty = true then .error ⟨9, t.length⟩ else .ok z := by
  unfold Vbndam.parseRoom
  have e : Vbndaa.parseText Vbndam.noSeparators Vbndam.parseRoomLine Vbndam.emptyRoom t = pLines Vbndam.emptyRoom (splitAtByte 10 0 t) := rfl
  rw [e]
  cases pLines Vbndam.emptyRoom (splitAtByte 10 0 t) <;> rfl
section
variable {K : PySem.W.Frag} {g : TG} {tb tz : TS} {D : Ends} {σ : L2.St} {H : Hp} {α : Type} {zs : List α} {tl : TE} {R : Hp → V → α → Prop}
theorem q_forM (h : EvM tl σ H (fun p H' => ∃ xs, H' p = some (.lst xs) ∧ EachAt (R H') xs zs)) (Pv : Addr → List V → List α → L2.St → Hp → Prop) (h0 : ∀ p xs H1, H p = none → Ex H H1 → H1 p = some (.lst xs) → EachAt (R H1) xs zs → Pv p xs [] σ H1)
    (hl : ∀ p xs i σ H, Pv p xs (zs.take i) σ H → H p = some (.lst xs))
    (hs : ∀ p xs i v x σ H, xs[i]? = some v → zs[i]? = some x → Pv p xs (zs.take i) σ H → g v σ H fun σ2 H2 => tb { D with nx := Pv p xs (zs.take i ++ [x]), ct := Pv p xs (zs.take i ++ [x]), bk := tz D } σ2 H2) (hd : ∀ p xs σ H, Pv p xs zs σ H → tz D σ H) :
    tSeq (tFor (iList K tl) g tb) tz D σ H := by
  refine h H (Ex.refl H) _ fun p H1 hp e hP => ?_
  obtain ⟨xs, h1, h2⟩ := hP
  exact ⟨p, rfl, ⟨xs, sq_of h1⟩, for_listE (D := { D with nx := tz D }) (xs := xs) h2.1 (Pv p xs) (h0 p xs H1 hp e h1 h2) (fun i σ H1' _ q => sq_of (hl _ _ _ _ _ q)) (fun i v x σ H1' hv hx q => hs p xs i v x σ H1' hv hx q) (hd p xs)⟩
end
theorem q_fldL {K : PySem.W.Frag} {te to : TE} {tz : TS} {D : Ends} {σ : L2.St} {H : Hp} {f : Str} {x : Addr} {xs : List V} (h : EvL te σ H xs) (ho : Ev to σ H (.ref x)) (k : ∀ p H1, H p = none → Ex H H1 → H1 p = some (.lst xs) → ∃ C dx fs, H1 x = some (.ins C dx fs) ∧ Cls K C ∧ NoAttr K C f ∧ fs.length < 1000 ∧ tz D σ (upd H1 x (.ins C dx (putF f (.ref p) fs)))) : tSeq (sFld K to te f) tz D σ H :=
  h H (Ex.refl H) _ fun p H1 hp e1 h1 => ho H1 e1 _ fun H2 e2 => by
    obtain ⟨C, dx, fs, a1, a2, a3, a4, a5⟩ := k p H2 hp (e1.trans e2) (e2 _ _ h1)
    exact ⟨x, C, dx, fs, rfl, a1, a2, a3, a4, a5⟩
theorem LineAt.shift {K : PySem.W.Frag} {F F' : Addr → Prop} {H H' : Hp} {v : V} {l : List Token} (h : LineAt K F H v l) (k : Keep F H H') (g : ∀ b, F' b → F b ∨ H b = none) : LineAt K F' H' v l := by
  obtain ⟨q, ys, rfl, h1, h2, h3⟩ := h
  have nn : ∀ {b o}, H b = some o → ¬ F b → ¬ F' b := fun {b o} hb hF q => by
    rcases g b q with q | q
    · exact hF q
    · rw [q] at hb
      cases hb
  refine ⟨q, ys, rfl, k _ _ h1 h2, nn h1 h2, h3.imp fun v w ht => ?_⟩
  obtain ⟨t, dx, p, rfl, t1, t2, t3, t4⟩ := ht
  exact ⟨t, dx, p, rfl, k _ _ t1 t3, k _ _ t2 t4, nn t1 t3, nn t2 t4⟩
theorem ListsAt.grow {K : PySem.W.Frag} {F F' : Addr → Prop} {H : Hp} {ap ar : Addr} {z : Vbndam.Room} (h : ListsAt K F H ap ar z) (g : ∀ b, F b → F' b) (g2 : ∀ b, F' b → F b ∨ H b = none) : ListsAt K F' H ap ar z where
  pl := by
    obtain ⟨ps, h1, h2, h3⟩ := h.pl
    exact ⟨ps, h1, h2.imp fun _ _ q => q.grow g g2, h3⟩
  ru := by
    obtain ⟨rs, h1, h2⟩ := h.ru
    exact ⟨rs, h1, h2.imp fun _ _ q => q.grow g2⟩
  ne := h.ne
  fp := g _ h.fp
  fr := g _ h.fr
theorem part0 : Part Vbndam.emptyRoom := ⟨Nat.zero_le _, Nat.zero_le _, fun u h => (by cases h), fun u h => (by cases h)⟩
section
variable {P : Program} {w : World} {K : PySem.W.Frag} {mg : Str → Option Value} {base : Heap}
theorem ok_reader_init (c : Top K mg) : FOk P w K mg base CX0 1 ("Reader", some "__init__") p_Reader_init (spRdInit K) := by
  refine FOk.mk0 c.f_Reader_init sc_Reader_init (fun _ _ _ _ _ _ us hl => match us, hl with | [_], _ => rfl) (fun vs H Q E h => ?_) (fun cdv A outer s H vs Q E hr h => ?_)
  · obtain ⟨x, dx, rfl, _⟩ := h
    rfl
  · obtain ⟨x, dx, rfl, hx, k⟩ := h
    refine ⟨_, (pss_cons (ps_fld (pv 0) (pe_lst pa_nil) rfl)
      (pss_cons (ps_fld (pv 0) (pe_lst pa_nil) rfl)
      (pss_cons (ps_fld (pv 0) (pe_lst pa_nil) rfl)
      (pss_one (ps_fld (pv 0) pe_int rfl))))), ?_⟩
    refine q_fldL (el_lst (vs := []) ea_nil (by decide)) (ev_var rfl) fun ap H1 hap e1 h1 => ⟨_, dx, [], e1 _ _ hx, c.cls_Reader, c.no_Reader_players, by decide, ?_⟩
    have nap : ap ≠ x := fun e => by
      rw [e, hx] at hap
      cases hap
    rw [putF_nil]
    refine q_fldL (el_lst (vs := []) ea_nil (by decide)) (ev_var rfl) fun ar H2 har e2 h2 => ⟨_, dx, _, e2 _ _ upd_same, c.cls_Reader, c.no_Reader_rules, by show 1 < 1000; decide, ?_⟩
    have nar : ar ≠ x := fun e => by
      rw [e, upd_same] at har
      cases har
    rw [upd_ne nar] at har
    have ap2 : H2 ap = some (.lst []) := e2 _ _ (by rw [upd_ne nap]; exact h1)
    have x2 := e2 _ _ upd_same
    rw [putF_ne (by decide +kernel), putF_nil]
    have ne : ap ≠ ar := fun e => by
      rw [← e, h1] at har
      cases har
    refine q_fldL (el_lst (vs := []) ea_nil (by decide)) (ev_var rfl) fun ta H3 hta e3 h3 => ⟨_, dx, _, e3 _ _ upd_same, c.cls_Reader, c.no_Reader_tokens, by show 2 < 1000; decide, ?_⟩
    rw [putF_ne (by decide +kernel), putF_ne (by decide +kernel), putF_nil]
    refine ⟨_, rfl, x, _, dx, _, rfl, upd_same, c.cls_Reader, c.no_Reader_at, by show 3 < 1000; decide, ?_⟩
    rw [putF_ne (by decide +kernel), putF_ne (by decide +kernel), putF_ne (by decide +kernel), putF_nil, upd_upd]
    have ap3 : H3 ap = some (.lst []) := e3 _ _ (by rw [upd_ne nap]; exact ap2)
    have ar3 : H3 ar = some (.lst []) := e3 _ _ (by rw [upd_ne nar]; exact h2)
    refine k ap ar ta _ upd_same (by rw [upd_ne nap]; exact ap3) (by rw [upd_ne nar]; exact ar3) hap (fresh_back e1 har) ne fun b o hb hne => ?_
    rw [upd_ne hne]
    refine e3 _ _ ?_
    rw [upd_ne hne]
    refine e2 _ _ ?_
    rw [upd_ne hne]
    exact e1 _ _ hb
theorem em_reader {E : XK} {σ : L2.St} {H : Hp} : EvM (tMake (He.ga K "Reader") (spRdInit K) [] E tNil) σ H (fun rd H' => ∃ F, RdZ K H F H' rd Vbndam.emptyRoom) := fun H1 e Q q => by
  refine fun x dx hx hdx hne => ⟨x, dx, rfl, upd_same, fun ap ar ta H' k1 k2 k3 k4 k5 k6 kp => ⟨rfl, ?_⟩⟩
  have ex1 : Ex H1 H' := fun b o hb => by
    have n1 : b ≠ x := ne_of_none hb hx
    have n2 : b ≠ dx := ne_of_none hb hdx
    refine kp b o ?_ n1
    rw [upd_ne n1, upd_ne n2]
    exact hb
  have hap1 : H1 ap = none := by
    by_cases h1 : ap = x
    · rw [h1]
      exact hx
    · by_cases h2 : ap = dx
      · rw [h2]
        exact hdx
      · rw [upd_ne h1, upd_ne h2] at k4
        exact k4
  have har1 : H1 ar = none := by
    by_cases h1 : ar = x
    · rw [h1]
      exact hx
    · by_cases h2 : ar = dx
      · rw [h2]
        exact hdx
      · rw [upd_ne h1, upd_ne h2] at k5
        exact k5
  refine q x H' hx ex1 ⟨fun b => b = x ∨ b = ap ∨ b = ar, e.trans ex1, fun b hb => ?_, .inl rfl, part0, dx, ap, ar, ta, 0, k1, { pl := ⟨[], k2, EachAt.nil, List.Pairwise.nil⟩, ru := ⟨[], k3, EachAt.nil⟩, ne := k6, fp := .inr (.inl rfl), fr := .inr (.inr rfl) }⟩
  rcases hb with rfl | rfl | rfl
  · exact ⟨fresh_back e hx, by rw [k1]; exact fun q => by cases q⟩
  · exact ⟨fresh_back e hap1, by rw [k2]; exact fun q => by cases q⟩
  · exact ⟨fresh_back e har1, by rw [k3]; exact fun q => by cases q⟩
theorem ok_room_of (c : Top K mg) : FOk P w K mg base (L2N.CX P w) 9 ("room_of", none) p_room_of (spRoomOf K) := by
  refine FOk.mk c.f_room_of sc_room_of (fun _ _ _ _ _ _ us hl => match us, hl with | [_], _ => rfl) (fun vs H Q E h => ?_) (fun cdv A outer s H vs Q E hr h => ?_)
  · obtain ⟨a, t, rfl, _⟩ := h
    rfl
  · obtain ⟨a, t, rfl, ha, h2000, kE, kO⟩ := h
    have nd := sc_room_of.nd
    have hu := hu_of hr
    rw [room_is] at kE kO
    refine ⟨_, (pss_cons (ps_set (i := 1) nd rfl (.inl rfl) (pe_mk0 (ok_reader_init c) c.mkr_Reader (hr.mono (by decide)) c.glo_Reader pass0))
      (pss_cons (ps_for (passes_of rfl) rfl (pi_list (pe_cf (ok_lines_of c) (hr.mono (by decide)) c.glo_lines_of pass0 (pa_cons (pv 0) pa_nil))) (pg_name (i := 2) nd rfl (.inl rfl)) (pss_one (ps_if (pt_cmpR op_gt (pe_callB call_len_seq (by rfl) c.free_len PySem.boot_len (pa_cons (pv 2) pa_nil)) pe_int (nomark _)) (pss_one (ps_expr (pe_mf (ok_rd_read_line c) (hr.mono (by decide)) c.cls_Reader c.me_Reader_read_line (L2N.passes_call (L2N.takes_of rfl rfl rfl rfl) (fun _ _ _ _ h => h)) (pv 1) (pa_cons (pv 2) pa_nil)))) pss_nil)))
      (pss_cons (ps_expr (pe_cf (ok_check c) (hr.mono (by decide)) c.glo_check (L2N.passes_call (L2N.takes_of rfl rfl rfl rfl) (fun _ _ _ _ h => h)) (pa_cons (pe_cmpR (op_neNil (by exact Nat.lt_of_succ_lt hu)) (pe_fld (pv 1) rfl) (pe_lst pa_nil) (nomark _)) (pa_cons (pe_gi c.int_NO_PLAYER) (pa_cons (pe_callB call_len_seq (by rfl) c.free_len PySem.boot_len (pa_cons (pv 0) pa_nil)) pa_nil)))))
      (pss_one (ps_ret (pe_mk (ok_room_init c) c.mkr_Room (hr.mono (by decide)) c.glo_Room pass0 (pa_cons (pe_fld (pv 1) rfl) (pa_cons (pe_fld (pv 1) rfl) pa_nil)))))))), ?_⟩
    refine q_asgM em_reader fun rd H1 hrd e1 hR => ?_
    obtain ⟨F0, R1⟩ := hR
    have hlines : EvM (tCall (spLines K) [] E (tCons (tVar 0) tNil)) [some (.ref a), some (.ref rd), none] H1 (fun p H' => ∃ xs, H' p = some (.lst xs) ∧ EachAt (fun v x => LineAt K (fun b => H1 b ≠ none) H' v (lineOf x)) xs (splitAtByte 10 0 t)) := fun H2 e2 Q' q' => by
      refine ea_cons (ev_var rfl) ea_nil H2 e2 _ fun H3 e3 => ⟨a, t, rfl, e3 _ _ (e2 _ _ (e1 _ _ ha)), h2000, fun p H4 hp e4 hP => ?_⟩
      obtain ⟨xs, hx, hE⟩ := hP
      refine q' p H4 (fresh_back e3 hp) (e3.trans e4) ⟨xs, hx, ?_, fun i v x hv hx2 => ?_⟩
      · rw [hE.1, List.length_map]
      · exact (hE.2 i v (lineOf x) hv (by rw [List.getElem?_map, hx2]; rfl)).grow fun b hb => .inl (Ex.alive (e2.trans e3) hb)
    refine q_forM (zs := splitAtByte 10 0 t) (R := fun H v x => LineAt K (fun b => H1 b ≠ none) H v (lineOf x)) hlines
      (fun p xs pre σ H2 => ∃ z F x, σ = [some (.ref a), some (.ref rd), x] ∧ RdZ K H F H2 rd z ∧ H2 p = some (.lst xs) ∧ ¬ F p ∧ EachAt (fun v x => LineAt K F H2 v (lineOf x)) xs (splitAtByte 10 0 t) ∧ ∀ rest, pLines Vbndam.emptyRoom (pre ++ rest) = pLines z rest)
      (fun p xs H2 hp e2 hp2 hE => ⟨Vbndam.emptyRoom, F0, none, rfl, R1.ex e2, hp2, fun q => (R1.own p q).2 hp, hE.imp fun v x hl => hl.grow fun b hb => .inl (R1.own b hb).2, fun _ => rfl⟩) (fun p xs i σ H2 q => ?_) (fun p xs i v x σ H2 hv hx q => ?_) (fun p xs σ H2 q => ?_)
    · obtain ⟨z, F, x, _, _, h3, _⟩ := q
      exact h3
    · obtain ⟨z, F, x1, rfl, R2, hp2, hpF, hE, eq⟩ := q
      have hl := hE.2 i v x hv hx
      obtain ⟨tq, ys, rfl, y1, y2, y3⟩ := id hl
      have hmem := List.mem_of_getElem? hx
      have hsplit := split_few t 0
      have hxl := hsplit.2 x hmem
      obtain ⟨tl1, tl2⟩ := toks_ok x.2.length x.2 x.1 (Nat.le_refl _)
      have hys : ys.length = (toks x.1 x.2).length + 1 := by
        rw [y3.1]
        unfold lineOf
        rw [List.length_append]
        rfl
      have all : splitAtByte 10 0 t = (splitAtByte 10 0 t).take i ++ x :: (splitAtByte 10 0 t).drop (i + 1) := by
        have hi := (List.getElem?_eq_some_iff.mp hx).1
        have e : (splitAtByte 10 0 t)[i] = x := (List.getElem?_eq_some_iff.mp hx).2
        rw [← e, ← List.drop_eq_getElem_cons hi, List.take_append_drop]
      refine s_when (b := decide (1 < ys.length)) (et_is (et_test (ev_op (ev_len (ev_var rfl) (sq_of y1)) ev_c rv_I0)) (decide_eq_decide.mpr (by omega))) (fun hb H3 e3 => ?_) (fun hb H3 e3 => ?_)
      · have hne : ¬ (toks x.1 x.2).isEmpty = true := fun q => by
          have := of_decide_eq_true hb
          rw [List.isEmpty_iff.mp q] at hys
          rw [hys] at this
          exact absurd this (by decide)
        have hnn : toks x.1 x.2 ≠ [] := fun q => hne (by rw [q]; rfl)
        obtain ⟨dx3, ap3, ar3, ta3, a3, k3, _⟩ := (R2.ex e3).ob
        have full : pLines Vbndam.emptyRoom (splitAtByte 10 0 t) = pLines z (x :: (splitAtByte 10 0 t).drop (i + 1)) := by
          rw [← eq, ← all]
        rw [lines_cons, if_neg hne] at full
        refine ⟨_, rfl, rd, dx3, _, rfl, k3, rdF_none _ _ _ _ (by decide +kernel), _, rfl, H, F, rd, z, .ref tq, toks x.1 x.2, x.1 + x.2.length, rfl, R2.ex e3, hl.keep (Keep.ofEx e3), hnn, fun w hw => ⟨(tl2 w hw).1, by have := (tl2 w hw).2; omega⟩, by omega, fun er he => kE _ (by rw [full, he]), fun z' hz F' H' a1 a2 a4 a5 => ?_⟩
        have K23 : Keep F H2 H' := (Keep.ofEx e3).trans a2
        have g2 : ∀ b, F' b → F b ∨ H2 b = none := fun b hb => (a5 b hb).imp id fun q => fresh_back e3 q
        refine ⟨z', F', _, rfl, a1, K23 _ _ hp2 hpF, fun q => ?_, hE.imp fun v y hy => hy.shift K23 g2, fun rest => ?_⟩
        · rcases g2 p q with q | q
          · exact hpF q
          · rw [q] at hp2
            cases hp2
        · rw [List.append_assoc, eq]
          show pLines z (x :: rest) = _
          rw [lines_cons, if_neg hne, hz]
      · have hem : (toks x.1 x.2).isEmpty = true := by
          have := of_decide_eq_false hb
          rw [hys] at this
          rw [List.isEmpty_iff, ← List.length_eq_zero_iff]
          omega
        refine ⟨z, F, _, rfl, R2.ex e3, e3 _ _ hp2, hpF, hE.imp fun v y hy => hy.keep (Keep.ofEx e3), fun rest => ?_⟩
        rw [List.append_assoc, eq]
        show pLines z (x :: rest) = _
        rw [lines_cons, if_pos hem]
    · obtain ⟨z, F, x1, rfl, R2, hp2, hpF, hE, eq⟩ := q
      have full := eq []
      rw [List.append_nil] at full
      have full' : pLines Vbndam.emptyRoom (splitAtByte 10 0 t) = .ok z := full
      rw [full'] at kE kO
      dsimp only at kE kO
      obtain ⟨dx, ap, ar, ta, at', k1, L⟩ := id R2.ob
      obtain ⟨ps, hps, hea, _⟩ := id L.pl
      have hpe : ps.isEmpty = z.players.isEmpty := by
        have := hea.1
        cases ps <;> cases h : z.players <;> first | rfl | (rw [h] at this; simp at this)
      refine q_chk (b := !z.players.isEmpty) (kd := 9) (o := t.length) (ea_cons (ev_is (ev_neNil (ev_fld (ev_var rfl) k1 c.cls_Reader c.no_Reader_players (rdF_players _ _ _ _)) hps) (by rw [hpe])) (ea_cons ev_c (ea_cons (ev_is (ev_len (ev_var rfl) (sq_of (R2.base _ _ ha))) (by rw [vN_len])) ea_nil))) (fun hb H3 e3 => ?_) (fun hb => ?_)
      · rw [Bool.not_eq_true'] at hb
        rw [if_neg (by rw [hb]; exact Bool.false_ne_true)] at kO
        have R3 := R2.ex e3
        have hmk : EvM (tMake (He.ga K "Room") (spI K "Room" 2 (f2 "players" "rules")) [] E (tCons (tFld K (tVar 1) "players") (tCons (tFld K (tVar 1) "rules") tNil))) [some (.ref a), some (.ref rd), x1] H3 (fun x H' => H3 x = none ∧ ∃ dx, H' x = some (.ins (He.ga K "Room") dx (rmF ap ar))) := fun H4 e4 Q' q' =>
          em_mk (P := fun ws _ => ws = [.ref ap, .ref ar]) (ep_of (ea_cons (ev_fld (ev_var rfl) (e3 _ _ k1) c.cls_Reader c.no_Reader_players (rdF_players _ _ _ _)) (ea_cons (ev_fld (ev_var rfl) (e3 _ _ k1) c.cls_Reader c.no_Reader_rules (rdF_rules _ _ _ _)) ea_nil))) (fun vs H' h => by rw [h]; rfl) (fun vs H1 H2 e h => h) H4 e4 Q' fun x H5 hx e5 h => by
            obtain ⟨hx0, dx, vs, rfl, h3⟩ := h
            exact q' x H5 hx e5 ⟨hx0, dx, h3⟩
        refine s_retM hmk fun r H4 hr4 e4 hP => ?_
        obtain ⟨_, rdx, hr5⟩ := hP
        have g2 : ∀ b, (F b ∨ b = r) → F b ∨ H3 b = none := fun b q => q.imp id fun q => by rw [q]; exact hr4
        have L4 := ((L.ex e3).grow (F' := fun b => F b ∨ b = r) (fun b => .inl) g2).ex e4
        refine kO z rfl r (fun b => F b ∨ b = r) H4 ⟨rdx, ap, ar, hr5, .inr rfl, L4⟩ { R2.part with n1 := ?_ } (R3.base.trans e4) fun b hb => ?_
        · cases hz : z.players with
          | nil =>
            rw [hz] at hb
            cases hb
          | cons _ _ =>
            rw [List.length_cons]
            omega
        · rcases hb with hb | hb
          · exact ⟨(R3.own b hb).1, Ex.alive e4 (R3.own b hb).2⟩
          · rw [hb]
            exact ⟨fresh_back R3.base hr4, by rw [hr5]; exact fun q => by cases q⟩
      · rw [Bool.not_eq_false'] at hb
        rw [if_pos hb] at kE
        exact (kE _ rfl).mono R2.base
end
end Gs

set_option Elab.async false
set_option linter.all false
set_option maxRecDepth 100000
set_option maxHeartbeats 4000000
/-! Walks: the desk: texts loaded, checked. -/
namespace Gs
open PySem PySem.Spec PyProof.Rows L2 Evl
open Vbndaa (ParseError)
theorem good_is (l : List Int) : goodText l ↔ Vbndam.isByteList l 2000 = true := by
  unfold goodText Vbndam.isByteList
  rw [Bool.and_eq_true, decide_eq_true_eq, List.all_eq_true]
  constructor
  · intro h
    exact ⟨h.1, fun x hx => inRange_iff.mpr (h.2 x hx)⟩
  · intro h
    exact ⟨h.1, fun x hx => inRange_iff.mp (h.2 x hx)⟩
theorem nats_is {l : List Int} (h : goodText l) : l.map V.int = vN (Vbndam.toNats l) := by
  unfold vN Vbndam.toNats
  rw [List.map_map]
  refine List.map_congr_left fun x hx => ?_
  have := (h.2 x hx).1
  show V.int x = V.int ((x.toNat : Nat) : Int)
  congr 1
  omega
theorem len_ne {H : Hp} {a b C D dx dy : Addr} {fs gs : List (Str × V)} (ha : H a = some (.ins C dx fs)) (hb : H b = some (.ins D dy gs)) (h : fs.length ≠ gs.length) : a ≠ b := fun e => by
  rw [e, hb] at ha
  exact h (congrArg List.length (HO.ins.inj (Option.some.inj ha)).2.2.symm)
/-- the room behind a desk that is changed -/
theorem RoomAt.desk {K : PySem.W.Frag} {G : Addr → Prop} {H : Hp} {r d dx : Addr} {z : Vbndam.Room} {v : V} {o2 : HO} (h : RoomAt K G H r z) (hd : H d = some (.ins (He.ga K "Desk") dx (dkF v))) : RoomAt K (fun b => G b ∨ b = d) (upd H d o2) r z := by
  obtain ⟨rdx, ap, ar, h1, h2, L⟩ := h
  obtain ⟨ps, p1, p2, p3⟩ := L.pl
  obtain ⟨rs, q1, q2⟩ := L.ru
  have nl : ∀ {b xs}, H b = some (.lst xs) → b ≠ d := fun {b xs} hb e => by
    rw [e, hd] at hb
    cases hb
  have hrd : r ≠ d := len_ne h1 hd (by show 2 ≠ 1; decide)
  refine ⟨rdx, ap, ar, by rw [upd_ne hrd]; exact h1, .inl h2, { pl := ⟨ps, by rw [upd_ne (nl p1)]; exact p1, p2.imp fun u p hp => ?_, p3⟩, ru := ⟨rs, by rw [upd_ne (nl q1)]; exact q1, q2.imp fun u p hp => ?_⟩, ne := L.ne, fp := .inl L.fp, fr := .inl L.fr }⟩
  · obtain ⟨a, adx, n, rfl, a1, a2, a3, a4⟩ := hp
    have had : a ≠ d := len_ne a1 hd (by show 2 ≠ 1; decide)
    refine ⟨a, adx, n, rfl, by rw [upd_ne had]; exact a1, by rw [upd_ne (nl a2)]; exact a2, .inl a3, fun q => ?_⟩
    rcases q with q | q
    · exact a4 q
    · exact nl a2 q
  · obtain ⟨a, adx, n, rfl, a1, a2, a3, a4⟩ := hp
    have had : a ≠ d := len_ne a1 hd (by show 3 ≠ 1; decide)
    refine ⟨a, adx, n, rfl, by rw [upd_ne had]; exact a1, by rw [upd_ne (nl a2)]; exact a2, fun q => ?_, fun q => ?_⟩
    · rcases q with q | q
      · exact a3 q
      · exact had q
    · rcases q with q | q
      · exact a4 q
      · exact nl a2 q
theorem putF_room (v v' : V) : putF "room" v' (dkF v) = dkF v' := by
  show (if ("room" : Str) = "room" then _ else _) = _
  rw [if_pos rfl]
  rfl
section
variable {K : PySem.W.Frag} {H : Hp} {E : XK} {tz : TS} {D : Ends} {σ : L2.St} {ta : TA}
theorem q_needText {a : Addr} {l : List Int} (h : EvA ta σ H [.ref a]) (hl : H a = some (.lst (l.map V.int))) (kT : goodText l → ∀ H', Ex H H' → tz D σ H') (kF : ¬ goodText l → Fails K E H (-1)) : tSeq (tDrop (tCall (spNeedText K) [] E ta)) tz D σ H :=
  h H (Ex.refl H) _ fun H1 e1 => ⟨a, l, rfl, e1 _ _ hl, fun a H' e => kT a H' (e1.trans e), fun a => (kF a).mono e1⟩
end
theorem takes_no {X : Cx} : L2N.Takes X (fun _ _ _ _ => False) := fun u s' x => by
  obtain ⟨_, _, _, _, _, _, _, _, _, _, _, _, _, _, _, _, w⟩ := x
  exact w.elim
section
variable {P : Program} {w : World} {K : PySem.W.Frag} {mg : Str → Option Value} {base : Heap}
theorem ok_refused_initH (c : Top K mg) : ∃ fd, Binds K fd p_Refused_init [] ∧ L2H.FnH P w K mg base CX0 1 (He.fAd K ("Refused", some "__init__")) fd p_Refused_init (spRefInit K) := by
  obtain ⟨fd, F⟩ := c.f_Refused_init
  have hb := F.bindsN (ps := p_Refused_init) (fun _ _ _ _ _ _ us hl => match us, hl with | [_, _], _ => rfl)
  obtain ⟨oc, od, dV, kV, doc, pm, an, cdv, ct, osl, rfl, lk, hcd, _, _⟩ := F.ex
  refine ⟨_, hb, L2H.fn_ofH lk hcd sc_Refused_init (fun vs H Q E h => ?_) fun A outer s H vs Q E p _ hr h => ?_⟩
  · obtain ⟨a, v, rfl, _⟩ := h
    rfl
  · obtain ⟨a, v, rfl, ha, k⟩ := h
    refine ⟨_, pss_one (ps_ost (pv 0) (pv 1)), ?_⟩
    exact ⟨_, rfl, _, rfl, a, _, rfl, c.refused.o, c.no_Refused_code, .inl ⟨ha, fun d hd hne => k d hd hne⟩⟩
def t_bad (K : PySem.W.Frag) (E : XK) : Addr → Value → Option Addr → TS := fun _ _ _ => fun _ σ H => tMkO (He.ga K "Refused") (spRefInit K) [] (tCons (tC (.int (-3))) tNil) σ H fun cls d H' => E cls d H'
theorem bad_go {E : XK} {a : Addr} {cls : Value} {d : Option Addr} {D : Ends} {σ : L2.St} {H : Hp} (h : Fails K E H (-3)) : t_bad K E a cls d D σ H := by
  refine ⟨by show 1 ≤ 1000; decide, fun a ha => ⟨a, _, rfl, upd_same, fun d hd hne => ⟨rfl, d, [("code", .int (-3))], upd_same, ?_, ?_, ?_⟩⟩⟩
  · rw [upd_ne hne, upd_same]
  · rw [upd_ne hne] at hd
    exact hd
  · rw [swap_del ha hd]
    rw [upd_ne hne] at hd
    exact h d _ (Ex.new hd) upd_same
theorem ok_load (c : Top K mg) : FOk P w K mg base (L2.CX P w) 11 ("Desk", some "load") p_Desk_load (spOpRow K Vbndam.Call.loadRoom) := by
  refine FOk.mk c.f_Desk_load sc_Desk_load (fun _ _ _ _ _ _ us hl => match us, hl with | [_, _], _ => rfl) (fun vs H Q E h => ?_) (fun cdv A outer s H vs Q E hr h => ?_)
  · obtain ⟨F, d, a, st, l, rfl, _⟩ := h
    rfl
  · obtain ⟨F, d, a, st, l, rfl, hl, hd, hD0⟩ := h
    have nd := sc_Desk_load.nd
    obtain ⟨fdR, bR, kpR, GR⟩ := ok_room_of (P := P) (w := w) (base := base) c
    obtain ⟨fdI, bI, GI⟩ := ok_refused_initH (P := P) (w := w) (base := base) c
    refine ⟨_, (pss_cons (ps_expr (pe_cf (ok_need_text c) (hr.mono (by decide)) c.glo_need_text (passes_call (takes_of rfl rfl rfl rfl) (fun _ _ _ _ h => h)) (pa_cons (pv 1) pa_nil)))
      (pss_cons (L2H.ps_try_onlyX (tb := fun W => tAsg (tCallS (spRoomOf K) (WE W) (tCons (tVar 1) tNil)) (gName 2)) (ts := t_bad K E) rfl rfl ⟨rfl, by decide, Or.inl c.glo_BadText⟩ (L2H.passesAt_of rfl) (takes_of rfl rfl rfl rfl)
        (fun W pn xe tkN _ _ => pss_one (ps_set (i := 2) nd rfl (.inl rfl) (by exact (pe_callS GR (hr.mono (by decide)) rfl c.glo_room_of kpR bR (fun σ => L2N.passAt tkN σ) (by exact (pa_cons (pv 1) pa_nil))))))
        (fun a oe cls dd pn hz hf tk hot => pss_one (L2H.ps_raiseH hot tk (by exact (L2H.PMk5.pmk (L2H.pmk5_oexH (x := "Refused") c.refused.o c.refused.init c.refused.fn GI (L2H.roomH_mark (hr.mono (by decide)) _) hot bI pass0 rfl c.glo_Refused (by exact (pa_cons (pe_gi c.int_BAD_TEXT) pa_nil))))))))
      (pss_cons (ps_fld (pv 0) (pv 2) rfl)
      (pss_one (ps_ret (pe_lst (pa_cons (pe_callB call_len_seq (by rfl) c.free_len PySem.boot_len (pa_cons (pe_fld (pv 2) rfl) pa_nil)) (pa_cons (pe_callB call_len_seq (by rfl) c.free_len PySem.boot_len (pa_cons (pe_fld (pv 2) rfl) pa_nil)) pa_nil)))))))), ?_⟩
    have hD1 : Does K F H d st Q E (if Vbndam.isByteList l 2000 = false then Vbndam.fail st 1 else match Vbndam.parseRoom (Vbndam.toNats l) with
      | .error _ => Vbndam.fail st 3
      | .ok z => (some z, 0 :: Vbndam.toInts [Vbndam.playerCount z, z.rules.length])) := hD0
    refine q_needText (ea_cons (ev_var rfl) ea_nil) hl (fun hg H1 e1 => ?_) (fun hg => ?_)
    · rw [if_neg (by rw [(good_is l).mp hg]; decide)] at hD1
      have hl1 := e1 _ _ hl
      rw [nats_is hg] at hl1
      have hlen : (Vbndam.toNats l).length ≤ 2000 := by
        unfold Vbndam.toNats
        rw [List.length_map]
        exact hg.1
      refine ⟨_, rfl, a, Vbndam.toNats l, rfl, hl1, hlen, fun er he => ?_, fun z hz r G H2 hroom wf e2 hG => ?_⟩
      · rw [he] at hD1
        exact fun dd H' e' h' => ⟨true, c.exm_BadText, fun _ a ha => bad_go ((hD1.fail (k := 3) (by decide)).mono (e1.trans e')), fun q => by cases q⟩
      · rw [hz] at hD1
        obtain ⟨dx, v, ho, _⟩ := id hd.ob
        have e12 := e1.trans e2
        have ho2 := e12 _ _ ho
        refine ⟨_, rfl, _, rfl, d, _, dx, _, rfl, ho2, c.cls_Desk, c.no_Desk_room, by show 1 < 1000; decide, ?_⟩
        rw [putF_room]
        have hr2 := hroom.desk (o2 := .ins (He.ga K "Desk") dx (dkF (.ref r))) ho2
        obtain ⟨rdx, ap, ar, k1, k2, L⟩ := id hr2
        obtain ⟨ps, hps, hea, _⟩ := L.pl
        obtain ⟨rs, hrs, her⟩ := L.ru
        refine s_retL (xs := vN [z.players.length, z.rules.length]) (el_lst (σ := [some (.ref d), some (.ref a), some (.ref r)]) (ea_cons (ev_is (ev_len (ev_fld (ev_var rfl) k1 c.cls_Room c.no_Room_players (rmF_players _ _)) (sq_of hps)) (by rw [hea.1])) (ea_cons (ev_is (ev_len (ev_fld (ev_var rfl) k1 c.cls_Room c.no_Room_rules (rmF_rules _ _)) (sq_of hrs)) (by rw [her.1])) ea_nil)) (by show 2 ≤ 100000; decide)) fun p H3 hp e3 hp3 => ?_
        rw [← ints_nat] at hp3
        refine hD1.1 _ rfl p H3 (fun b => G b ∨ b = d) ⟨⟨dx, _, e3 _ _ upd_same, r, rfl, hr2.ex e3, wf⟩, .inr rfl, fun b hb => ?_⟩ (fun b o hb hF => e3 _ _ ?_) (fun b hb => ?_) ?_ hp3
        · refine Ex.alive e3 (upd_alive ?_)
          rcases hb with hb | hb
          · exact (hG b hb).2
          · rw [hb, ho2]
            exact fun q => by cases q
        · rw [upd_ne (fun q => hF (by rw [q]; exact hd.fd))]
          exact e12 _ _ hb
        · rcases hb with hb | hb
          · exact .inr (fresh_back e1 (hG b hb).1)
          · exact .inl (by rw [hb]; exact hd.fd)
        · refine fresh_back e12 ?_
          by_cases q : p = d
          · rw [q, upd_same] at hp
            cases hp
          · rw [upd_ne q] at hp
            exact hp
    · rw [if_pos (by rw [Bool.eq_false_iff]; exact fun q => hg ((good_is l).mpr q))] at hD1
      exact hD1.fail (by decide)
end
end Gs

set_option Elab.async false
set_option linter.all false
set_option maxRecDepth 100000
set_option maxHeartbeats 4000000
/-! Walks: the desk: a text checked; what a call asks for. -/
namespace Gs
open PySem PySem.Spec PyProof.Rows L2 Evl
open Vbndaa (ParseError)
def t_fault (K : PySem.W.Frag) : Addr → Value → Option Addr → TS := fun a cls d => tRet (tLst (tCons (tC (.int 1)) (tCons (tXf a cls d (He.ga K "BadText") "kind" (tVar 3)) (tCons (tXf a cls d (He.ga K "BadText") "offset" (tVar 3)) tNil))))
theorem bdF_offset (k o : V) : (bdF k o).lookup ("offset" : Str) = some o := lookup_hit
theorem bdF_kind (k o : V) : (bdF k o).lookup ("kind" : Str) = some k := (lookup_miss (by decide +kernel)).trans lookup_hit
section
variable {P : Program} {w : World} {K : PySem.W.Frag} {mg : Str → Option Value} {base : Heap}
theorem ok_desk_check (c : Top K mg) : FOk P w K mg base (L2.CX P w) 11 ("Desk", some "check") p_Desk_check (spOpRow K Vbndam.Call.checkRoom) := by
  refine FOk.mk c.f_Desk_check sc_Desk_check (fun _ _ _ _ _ _ us hl => match us, hl with | [_, _], _ => rfl) (fun vs H Q E h => ?_) (fun cdv A outer s H vs Q E hr h => ?_)
  · obtain ⟨F, d, a, st, l, rfl, _⟩ := h
    rfl
  · obtain ⟨F, d, a, st, l, rfl, hl, hd, hD0⟩ := h
    have nd := sc_Desk_check.nd
    obtain ⟨fdR, bR, kpR, GR⟩ := ok_room_of (P := P) (w := w) (base := base) c
    refine ⟨_, (pss_cons (ps_expr (pe_cf (ok_need_text c) (hr.mono (by decide)) c.glo_need_text (passes_call (takes_of rfl rfl rfl rfl) (fun _ _ _ _ h => h)) (pa_cons (pv 1) pa_nil)))
      (pss_cons (L2N.ps_try_as (i := 3) (tb := fun W => tAsg (tCallS (spRoomOf K) (WE W) (tCons (tVar 1) tNil)) (gName 2)) (ts := t_fault K) (Wout := fun _ _ _ _ => False) rfl rfl nd rfl rfl ⟨rfl, by decide, Or.inl c.glo_BadText⟩ takes_no
        (fun W pn xe tkN _ => pss_one (ps_set (i := 2) nd rfl (.inl rfl) (by exact (pe_callS GR (hr.mono (by decide)) rfl c.glo_room_of kpR bR (fun σ => L2N.passAt tkN σ) (by exact (pa_cons (pv 1) pa_nil))))))
        (fun a oe cls dd pn hz hf => pss_one (ps_ret (by exact (pe_lst (pa_cons pe_int (pa_cons (pe_xf c.badText.xf c.no_BadText_kind (L2N.Zn.zc hz) hf (pv 3)) (pa_cons (pe_xf c.badText.xf c.no_BadText_offset (L2N.Zn.zc hz) hf (pv 3)) pa_nil))))))))
      (pss_one (ps_ret (pe_lst (pa_cons pe_int (pa_cons (pe_callB call_len_seq (by rfl) c.free_len PySem.boot_len (pa_cons (pe_fld (pv 2) rfl) pa_nil)) (pa_cons (pe_callB call_len_seq (by rfl) c.free_len PySem.boot_len (pa_cons (pe_fld (pv 2) rfl) pa_nil)) pa_nil)))))))), ?_⟩
    have hD1 : Does K F H d st Q E (if Vbndam.isByteList l 2000 = false then Vbndam.fail st 1 else match Vbndam.parseRoom (Vbndam.toNats l) with
      | .error e => Vbndam.succeed st (Vbndam.toInts [1, e.code, e.offset])
      | .ok z => Vbndam.succeed st (Vbndam.toInts [0, Vbndam.playerCount z, z.rules.length])) := hD0
    refine q_needText (ea_cons (ev_var rfl) ea_nil) hl (fun hg H1 e1 => ?_) (fun hg => ?_)
    · rw [if_neg (by rw [(good_is l).mp hg]; decide)] at hD1
      have hl1 := e1 _ _ hl
      rw [nats_is hg] at hl1
      have hlen : (Vbndam.toNats l).length ≤ 2000 := by
        unfold Vbndam.toNats
        rw [List.length_map]
        exact hg.1
      refine ⟨_, rfl, a, Vbndam.toNats l, rfl, hl1, hlen, fun er he => ?_, fun z hz r G H2 hroom wf e2 hG => ?_⟩
      · rw [he] at hD1
        refine fun dd H' e' h' => ⟨true, c.exm_BadText, fun _ a ha => ?_, fun q => by cases q⟩
        refine ⟨_, rfl, rfl, rfl, dd, _, _, rfl, h', bdF_kind _ _, _, rfl, rfl, rfl, dd, _, _, rfl, h', bdF_offset _ _, by show 3 ≤ sizeLine; exact sz_of (by decide), fun p hp => ?_⟩
        refine hD1.ro hd ((e1.trans e').trans (Ex.new hp)) (fresh_back (e1.trans e') hp) ?_
        rw [upd_same, ints_nat]
        rfl
      · rw [hz] at hD1
        obtain ⟨rdx, ap, ar, k1, k2, L⟩ := id hroom
        obtain ⟨ps, hps, hea, _⟩ := L.pl
        obtain ⟨rs, hrs, her⟩ := L.ru
        refine s_retL (xs := vN [0, z.players.length, z.rules.length]) (el_lst (σ := [some (.ref d), some (.ref a), some (.ref r), none]) (ea_cons ev_c (ea_cons (ev_is (ev_len (ev_fld (ev_var rfl) k1 c.cls_Room c.no_Room_players (rmF_players _ _)) (sq_of hps)) (by rw [hea.1])) (ea_cons (ev_is (ev_len (ev_fld (ev_var rfl) k1 c.cls_Room c.no_Room_rules (rmF_rules _ _)) (sq_of hrs)) (by rw [her.1])) ea_nil))) (by show 3 ≤ 100000; decide)) fun p H3 hp e3 hp3 => ?_
        rw [← ints_nat] at hp3
        exact hD1.ro hd ((e1.trans e2).trans e3) (fresh_back (e1.trans e2) hp) hp3
    · rw [if_pos (by rw [Bool.eq_false_iff]; exact fun q => hg ((good_is l).mpr q))] at hD1
      exact hD1.fail (by decide)
end
end Gs

set_option Elab.async false
set_option linter.all false
set_option maxRecDepth 100000
set_option maxHeartbeats 4000000
/-! Walks: the desk: what a call asks for. -/
namespace Gs
open PySem PySem.Spec PyProof.Rows L2 Evl
open VbndamNeutral (asked1)
/-! ### plain: forms of calls -/
theorem asked_row {p : Int} {ns row : List Int} (h : asked1 [p :: ns, row] = true) : (p = 0 ∧ ns = []) ∨ (p = 1 ∧ ns = []) ∨ (p = 4 ∧ ∃ n, ns = [n]) ∨ (p = 11 ∧ ns = []) := by
  unfold asked1 at h
  split at h <;> first | cases h | skip
  all_goals rename_i e
  all_goals (simp only [List.cons.injEq, and_true] at e)
  all_goals first | exact absurd e.2 (by simp) | skip
  all_goals simp_all
theorem asked_room {p : Int} (h : asked1 [[p]] = true) : p = 2 ∨ p = 8 ∨ p = 9 ∨ p = 10 ∨ p = 16 ∨ p = 19 := by
  unfold asked1 at h
  split at h <;> simp_all
theorem asked_one {p n : Int} (h : asked1 [[p, n]] = true) : p = 3 ∨ p = 5 ∨ p = 6 ∨ p = 7 ∨ p = 12 ∨ p = 13 ∨ p = 14 ∨ p = 17 := by
  unfold asked1 at h
  split at h <;> simp_all
theorem asked_two {p a b : Int} (h : asked1 [[p, a, b]] = true) : p = 15 ∨ p = 18 := by
  unfold asked1 at h
  split at h <;> simp_all
theorem asked_more {p a b n : Int} {l : List Int} (h : asked1 [p :: a :: b :: n :: l] = true) : False := by
  unfold asked1 at h
  split at h <;> simp_all
/-! ### promises -/
section
variable (K : PySem.W.Frag)
def spWithRow : Sp := fun vs H Q E => ∃ (F : Addr → Prop) (d an ar : Addr) (st : Vbndam.State) (p : Int) (ns row : List Int), vs = [.ref d, .int p, .ref an, .ref ar] ∧ H an = some (.lst (ns.map V.int)) ∧ H ar = some (.lst (row.map V.int)) ∧ asked1 [p :: ns, row] = true ∧ DeskAt K F H d st ∧ Does K F H d st Q E (Vbndam.stepLists st [p :: ns, row])
def spOfRoom : Sp := fun vs H Q E => ∃ (F : Addr → Prop) (d : Addr) (st : Vbndam.State) (p : Int), vs = [.ref d, .int p] ∧ asked1 [[p]] = true ∧ DeskAt K F H d st ∧ Does K F H d st Q E (Vbndam.stepLists st [[p]])
def spByOne : Sp := fun vs H Q E => ∃ (F : Addr → Prop) (d : Addr) (st : Vbndam.State) (p n : Int), vs = [.ref d, .int p, .int n] ∧ asked1 [[p, n]] = true ∧ DeskAt K F H d st ∧ Does K F H d st Q E (Vbndam.stepLists st [[p, n]])
def spByTwo : Sp := fun vs H Q E => ∃ (F : Addr → Prop) (d : Addr) (st : Vbndam.State) (p n m : Int), vs = [.ref d, .int p, .int n, .int m] ∧ asked1 [[p, n, m]] = true ∧ DeskAt K F H d st ∧ Does K F H d st Q E (Vbndam.stepLists st [[p, n, m]])
end
section
variable {K : PySem.W.Frag} {F : Addr → Prop} {H : Hp} {d a : Addr} {st : Vbndam.State} {Q : VK} {E : XK} {σ : L2.St} {m : Str} {te tb tc : TE} {n k : Int} {l : List Int}
theorem te_op0 {f : Vbndam.Call} (h0 : σ[0]? = some (some (.ref d))) (hm : (m == ("room" : Str)) = false) (hd : DeskAt K F H d st) (hD : Does K F H d st Q E (Vbndam.step st f)) : tMeth (He.ga K "Desk") m (spOp0 K f) [] E (tVar 0) tNil σ H Q := by
  obtain ⟨dx, v, ho, _⟩ := id hd.ob
  exact ⟨_, h0, d, dx, _, rfl, ho, dkF_none v hm, F, d, st, rfl, hd, hD⟩
theorem te_op1 {f : Int → Vbndam.Call} (h0 : σ[0]? = some (some (.ref d))) (hm : (m == ("room" : Str)) = false) (hb : Ev tb σ H (.int n)) (hd : DeskAt K F H d st) (hD : Does K F H d st Q E (Vbndam.step st (f n))) : tMeth (He.ga K "Desk") m (spOp1 K f) [] E (tVar 0) (tCons tb tNil) σ H Q := by
  obtain ⟨dx, v, ho, _⟩ := id hd.ob
  exact ⟨_, h0, d, dx, _, rfl, ho, dkF_none v hm, hb H (Ex.refl _) _ fun H1 e1 => ⟨F, d, st, n, rfl, hd.ex e1, hD.ex e1⟩⟩
theorem te_op2 {f : Int → Int → Vbndam.Call} (h0 : σ[0]? = some (some (.ref d))) (hm : (m == ("room" : Str)) = false) (hb : Ev tb σ H (.int n)) (hc : Ev tc σ H (.int k)) (hd : DeskAt K F H d st) (hD : Does K F H d st Q E (Vbndam.step st (f n k))) : tMeth (He.ga K "Desk") m (spOp2 K f) [] E (tVar 0) (tCons tb (tCons tc tNil)) σ H Q := by
  obtain ⟨dx, v, ho, _⟩ := id hd.ob
  exact ⟨_, h0, d, dx, _, rfl, ho, dkF_none v hm, hb H (Ex.refl _) _ fun H1 e1 => hc H1 e1 _ fun H2 e2 => ⟨F, d, st, n, k, rfl, hd.ex (e1.trans e2), hD.ex (e1.trans e2)⟩⟩
theorem te_opRow {f : List Int → Vbndam.Call} (h0 : σ[0]? = some (some (.ref d))) (hm : (m == ("room" : Str)) = false) (hb : Ev tb σ H (.ref a)) (hl : H a = some (.lst (l.map V.int))) (hd : DeskAt K F H d st) (hD : Does K F H d st Q E (Vbndam.step st (f l))) : tMeth (He.ga K "Desk") m (spOpRow K f) [] E (tVar 0) (tCons tb tNil) σ H Q := by
  obtain ⟨dx, v, ho, _⟩ := id hd.ob
  exact ⟨_, h0, d, dx, _, rfl, ho, dkF_none v hm, hb H (Ex.refl _) _ fun H1 e1 => ⟨F, d, a, st, l, rfl, e1 _ _ hl, hd.ex e1, hD.ex e1⟩⟩
theorem te_steps (h0 : σ[0]? = some (some (.ref d))) (hm : (m == ("room" : Str)) = false) (hb : Ev tb σ H (.int n)) (hc : Ev tc σ H (.ref a)) (hl : H a = some (.lst (l.map V.int))) (hd : DeskAt K F H d st) (hD : Does K F H d st Q E (Vbndam.step st (.checkSteps n l))) : tMeth (He.ga K "Desk") m (spOpSteps K) [] E (tVar 0) (tCons tb (tCons tc tNil)) σ H Q := by
  obtain ⟨dx, v, ho, _⟩ := id hd.ob
  exact ⟨_, h0, d, dx, _, rfl, ho, dkF_none v hm, hb H (Ex.refl _) _ fun H1 e1 => hc H1 e1 _ fun H2 e2 => ⟨F, d, a, st, n, l, rfl, (e1.trans e2) _ _ hl, hd.ex (e1.trans e2), hD.ex (e1.trans e2)⟩⟩
theorem q_yes {t : TT} {tu tw tz : TS} {D : Ends} (h : EvT t σ H true) (k : ∀ H1, Ex H H1 → tu { D with nx := tz D } σ H1) : tSeq (tIfS t tu tw) tz D σ H := q_if h (fun _ => k) fun q => by cases q
theorem q_no {t : TT} {tu tz : TS} {D : Ends} (h : EvT t σ H false) (k : ∀ H1, Ex H H1 → tz D σ H1) : tSeq (tIfS t tu tNext) tz D σ H := q_when h (fun q => by cases q) fun _ => k
theorem te_yes {t : TT} (h : EvT t σ H true) (k : ∀ H1, Ex H H1 → tb σ H1 Q) : tIf t tb tc σ H Q := h H (Ex.refl _) _ fun H1 e1 => iteT (k H1 e1)
theorem te_no {t : TT} (h : EvT t σ H false) (k : ∀ H1, Ex H H1 → tc σ H1 Q) : tIf t tb tc σ H Q := h H (Ex.refl _) _ fun H1 e1 => iteF (k H1 e1)
theorem et_eqI {i j : Int} {b : Bool} (h : σ[1]? = some (some (.int i))) (e : decide (V.int i = V.int j) = b) : EvT (tTest (tOp rEq (tVar 1) (tC (.int j)))) σ H b := et_is (et_test (ev_op (ev_var h) ev_c (rv_eq rfl))) e
end
section
variable {P : Program} {w : World} {K : PySem.W.Frag} {mg : Str → Option Value} {base : Heap}
theorem ok_fields_by_two (c : Top K mg) : FOk P w K mg base (L2.CX P w) 12 ("Desk", some "fields_by_two") p_Desk_fields_by_two (spByTwo K) := by
  refine FOk.mk c.f_Desk_fields_by_two sc_Desk_fields_by_two (fun _ _ _ _ _ _ us hl => match us, hl with | [_, _, _, _], _ => rfl) (fun vs H Q E h => ?_) (fun cdv A outer s H vs Q E hr h => ?_)
  · obtain ⟨F, d, st, p, n, m, rfl, _⟩ := h
    rfl
  · obtain ⟨F, d, st, p, n, m, rfl, ha, hd, hD⟩ := h
    refine ⟨_, (pss_one (ps_ret (pe_ifExp (pt_cmpR op_eq (pv 1) pe_int (nomark _)) (pe_mf (ok_continuation c) (hr.mono (by decide)) c.cls_Desk c.me_Desk_continuation (passes_call (takes_of rfl rfl rfl rfl) (fun _ _ _ _ h => h)) (pv 0) (pa_cons (pv 2) (pa_cons (pv 3) pa_nil))) (pe_mf (ok_set_weight c) (hr.mono (by decide)) c.cls_Desk c.me_Desk_set_weight (passes_call (takes_of rfl rfl rfl rfl) (fun _ _ _ _ h => h)) (pv 0) (pa_cons (pv 2) (pa_cons (pv 3) pa_nil)))))), ?_⟩
    rcases asked_two ha with rfl | rfl
    · exact te_yes (et_eqI rfl (by decide)) fun H1 e1 => te_op2 rfl (by decide +kernel) (ev_var rfl) (ev_var rfl) (hd.ex e1) (hD.ex e1)
    · exact te_no (et_eqI rfl (by decide)) fun H1 e1 => te_op2 rfl (by decide +kernel) (ev_var rfl) (ev_var rfl) (hd.ex e1) (hD.ex e1)
theorem ok_fields_by_one (c : Top K mg) : FOk P w K mg base (L2.CX P w) 12 ("Desk", some "fields_by_one") p_Desk_fields_by_one (spByOne K) := by
  refine FOk.mk c.f_Desk_fields_by_one sc_Desk_fields_by_one (fun _ _ _ _ _ _ us hl => match us, hl with | [_, _, _], _ => rfl) (fun vs H Q E h => ?_) (fun cdv A outer s H vs Q E hr h => ?_)
  · obtain ⟨F, d, st, p, n, rfl, _⟩ := h
    rfl
  · obtain ⟨F, d, st, p, n, rfl, ha, hd, hD⟩ := h
    refine ⟨_, (pss_cons (ps_if (pt_cmpR op_eq (pv 1) pe_int (nomark _)) (pss_one (ps_ret (pe_mf (ok_acting_coalition c) (hr.mono (by decide)) c.cls_Desk c.me_Desk_acting_coalition (passes_call (takes_of rfl rfl rfl rfl) (fun _ _ _ _ h => h)) (pv 0) (pa_cons (pv 2) pa_nil)))) pss_nil)
      (pss_cons (ps_if (pt_cmpR op_eq (pv 1) pe_int (nomark _)) (pss_one (ps_ret (pe_mf (ok_is_closed c) (hr.mono (by decide)) c.cls_Desk c.me_Desk_is_closed (passes_call (takes_of rfl rfl rfl rfl) (fun _ _ _ _ h => h)) (pv 0) (pa_cons (pv 2) pa_nil)))) pss_nil)
      (pss_cons (ps_if (pt_cmpR op_eq (pv 1) pe_int (nomark _)) (pss_one (ps_ret (pe_mf (ok_tell_sufficient c) (hr.mono (by decide)) c.cls_Desk c.me_Desk_tell_sufficient (passes_call (takes_of rfl rfl rfl rfl) (fun _ _ _ _ h => h)) (pv 0) (pa_cons (pv 2) pa_nil)))) pss_nil)
      (pss_cons (ps_if (pt_cmpR op_eq (pv 1) pe_int (nomark _)) (pss_one (ps_ret (pe_mf (ok_tell_blocking c) (hr.mono (by decide)) c.cls_Desk c.me_Desk_tell_blocking (passes_call (takes_of rfl rfl rfl rfl) (fun _ _ _ _ h => h)) (pv 0) (pa_cons (pv 2) pa_nil)))) pss_nil)
      (pss_cons (ps_if (pt_cmpR op_eq (pv 1) pe_int (nomark _)) (pss_one (ps_ret (pe_mf (ok_minimal_returns c) (hr.mono (by decide)) c.cls_Desk c.me_Desk_minimal_returns (passes_call (takes_of rfl rfl rfl rfl) (fun _ _ _ _ h => h)) (pv 0) (pa_cons (pv 2) pa_nil)))) pss_nil)
      (pss_cons (ps_if (pt_cmpR op_eq (pv 1) pe_int (nomark _)) (pss_one (ps_ret (pe_mf (ok_swing_count c) (hr.mono (by decide)) c.cls_Desk c.me_Desk_swing_count (passes_call (takes_of rfl rfl rfl rfl) (fun _ _ _ _ h => h)) (pv 0) (pa_cons (pv 2) pa_nil)))) pss_nil)
      (pss_one (ps_ret (pe_ifExp (pt_cmpR op_eq (pv 1) pe_int (nomark _)) (pe_mf (ok_power_index c) (hr.mono (by decide)) c.cls_Desk c.me_Desk_power_index (passes_call (takes_of rfl rfl rfl rfl) (fun _ _ _ _ h => h)) (pv 0) (pa_cons (pv 2) pa_nil)) (pe_mf (ok_remove_rule c) (hr.mono (by decide)) c.cls_Desk c.me_Desk_remove_rule (passes_call (takes_of rfl rfl rfl rfl) (fun _ _ _ _ h => h)) (pv 0) (pa_cons (pv 2) pa_nil))))))))))), ?_⟩
    rcases asked_one ha with rfl | rfl | rfl | rfl | rfl | rfl | rfl | rfl
    · exact q_yes (et_eqI rfl (by decide)) fun H1 e1 => te_op1 rfl (by decide +kernel) (ev_var rfl) (hd.ex e1) (hD.ex e1)
    · exact q_no (et_eqI rfl (by decide)) fun H1 e1 => q_yes (et_eqI rfl (by decide)) fun H2 e2 => te_op1 rfl (by decide +kernel) (ev_var rfl) (hd.ex (e1.trans e2)) (hD.ex (e1.trans e2))
    · exact q_no (et_eqI rfl (by decide)) fun H1 e1 => q_no (et_eqI rfl (by decide)) fun H2 e2 => q_yes (et_eqI rfl (by decide)) fun H3 e3 => te_op1 rfl (by decide +kernel) (ev_var rfl) (hd.ex ((e1.trans e2).trans e3)) (hD.ex ((e1.trans e2).trans e3))
    · exact q_no (et_eqI rfl (by decide)) fun H1 e1 => q_no (et_eqI rfl (by decide)) fun H2 e2 => q_no (et_eqI rfl (by decide)) fun H3 e3 => q_yes (et_eqI rfl (by decide)) fun H4 e4 => te_op1 rfl (by decide +kernel) (ev_var rfl) (hd.ex (((e1.trans e2).trans e3).trans e4)) (hD.ex (((e1.trans e2).trans e3).trans e4))
    · exact q_no (et_eqI rfl (by decide)) fun H1 e1 => q_no (et_eqI rfl (by decide)) fun H2 e2 => q_no (et_eqI rfl (by decide)) fun H3 e3 => q_no (et_eqI rfl (by decide)) fun H4 e4 => q_yes (et_eqI rfl (by decide)) fun H5 e5 => te_op1 rfl (by decide +kernel) (ev_var rfl) (hd.ex ((((e1.trans e2).trans e3).trans e4).trans e5)) (hD.ex ((((e1.trans e2).trans e3).trans e4).trans e5))
    · exact q_no (et_eqI rfl (by decide)) fun H1 e1 => q_no (et_eqI rfl (by decide)) fun H2 e2 => q_no (et_eqI rfl (by decide)) fun H3 e3 => q_no (et_eqI rfl (by decide)) fun H4 e4 => q_no (et_eqI rfl (by decide)) fun H5 e5 => q_yes (et_eqI rfl (by decide)) fun H6 e6 => te_op1 rfl (by decide +kernel) (ev_var rfl) (hd.ex (((((e1.trans e2).trans e3).trans e4).trans e5).trans e6)) (hD.ex (((((e1.trans e2).trans e3).trans e4).trans e5).trans e6))
    · exact q_no (et_eqI rfl (by decide)) fun H1 e1 => q_no (et_eqI rfl (by decide)) fun H2 e2 => q_no (et_eqI rfl (by decide)) fun H3 e3 => q_no (et_eqI rfl (by decide)) fun H4 e4 => q_no (et_eqI rfl (by decide)) fun H5 e5 => q_no (et_eqI rfl (by decide)) fun H6 e6 => te_yes (et_eqI rfl (by decide)) fun H7 e7 => te_op1 rfl (by decide +kernel) (ev_var rfl) (hd.ex ((((((e1.trans e2).trans e3).trans e4).trans e5).trans e6).trans e7)) (hD.ex ((((((e1.trans e2).trans e3).trans e4).trans e5).trans e6).trans e7))
    · exact q_no (et_eqI rfl (by decide)) fun H1 e1 => q_no (et_eqI rfl (by decide)) fun H2 e2 => q_no (et_eqI rfl (by decide)) fun H3 e3 => q_no (et_eqI rfl (by decide)) fun H4 e4 => q_no (et_eqI rfl (by decide)) fun H5 e5 => q_no (et_eqI rfl (by decide)) fun H6 e6 => te_no (et_eqI rfl (by decide)) fun H7 e7 => te_op1 rfl (by decide +kernel) (ev_var rfl) (hd.ex ((((((e1.trans e2).trans e3).trans e4).trans e5).trans e6).trans e7)) (hD.ex ((((((e1.trans e2).trans e3).trans e4).trans e5).trans e6).trans e7))
theorem ok_fields_of_room (c : Top K mg) : FOk P w K mg base (L2.CX P w) 12 ("Desk", some "fields_of_room") p_Desk_fields_of_room (spOfRoom K) := by
  refine FOk.mk c.f_Desk_fields_of_room sc_Desk_fields_of_room (fun _ _ _ _ _ _ us hl => match us, hl with | [_, _], _ => rfl) (fun vs H Q E h => ?_) (fun cdv A outer s H vs Q E hr h => ?_)
  · obtain ⟨F, d, st, p, rfl, _⟩ := h
    rfl
  · obtain ⟨F, d, st, p, rfl, ha, hd, hD⟩ := h
    refine ⟨_, (pss_cons (ps_if (pt_cmpR op_eq (pv 1) pe_int (nomark _)) (pss_one (ps_ret (pe_mf0 (ok_print_room c) (hr.mono (by decide)) c.cls_Desk c.me_Desk_print_room (passes_call (takes_of rfl rfl rfl rfl) (fun _ _ _ _ h => h)) (pv 0)))) pss_nil)
      (pss_cons (ps_if (pt_cmpR op_eq (pv 1) pe_int (nomark _)) (pss_one (ps_ret (pe_mf0 (ok_minimal_sufficient c) (hr.mono (by decide)) c.cls_Desk c.me_Desk_minimal_sufficient (passes_call (takes_of rfl rfl rfl rfl) (fun _ _ _ _ h => h)) (pv 0)))) pss_nil)
      (pss_cons (ps_if (pt_cmpR op_eq (pv 1) pe_int (nomark _)) (pss_one (ps_ret (pe_mf0 (ok_minimal_blocking c) (hr.mono (by decide)) c.cls_Desk c.me_Desk_minimal_blocking (passes_call (takes_of rfl rfl rfl rfl) (fun _ _ _ _ h => h)) (pv 0)))) pss_nil)
      (pss_cons (ps_if (pt_cmpR op_eq (pv 1) pe_int (nomark _)) (pss_one (ps_ret (pe_mf0 (ok_cheapest c) (hr.mono (by decide)) c.cls_Desk c.me_Desk_cheapest (passes_call (takes_of rfl rfl rfl rfl) (fun _ _ _ _ h => h)) (pv 0)))) pss_nil)
      (pss_one (ps_ret (pe_ifExp (pt_cmpR op_eq (pv 1) pe_int (nomark _)) (pe_mf0 (ok_sufficient_counts c) (hr.mono (by decide)) c.cls_Desk c.me_Desk_sufficient_counts (passes_call (takes_of rfl rfl rfl rfl) (fun _ _ _ _ h => h)) (pv 0)) (pe_mf0 (ok_summary c) (hr.mono (by decide)) c.cls_Desk c.me_Desk_summary (passes_call (takes_of rfl rfl rfl rfl) (fun _ _ _ _ h => h)) (pv 0))))))))), ?_⟩
    rcases asked_room ha with rfl | rfl | rfl | rfl | rfl | rfl
    · exact q_yes (et_eqI rfl (by decide)) fun H1 e1 => te_op0 rfl (by decide +kernel) (hd.ex e1) (hD.ex e1)
    · exact q_no (et_eqI rfl (by decide)) fun H1 e1 => q_yes (et_eqI rfl (by decide)) fun H2 e2 => te_op0 rfl (by decide +kernel) (hd.ex (e1.trans e2)) (hD.ex (e1.trans e2))
    · exact q_no (et_eqI rfl (by decide)) fun H1 e1 => q_no (et_eqI rfl (by decide)) fun H2 e2 => q_yes (et_eqI rfl (by decide)) fun H3 e3 => te_op0 rfl (by decide +kernel) (hd.ex ((e1.trans e2).trans e3)) (hD.ex ((e1.trans e2).trans e3))
    · exact q_no (et_eqI rfl (by decide)) fun H1 e1 => q_no (et_eqI rfl (by decide)) fun H2 e2 => q_no (et_eqI rfl (by decide)) fun H3 e3 => q_yes (et_eqI rfl (by decide)) fun H4 e4 => te_op0 rfl (by decide +kernel) (hd.ex (((e1.trans e2).trans e3).trans e4)) (hD.ex (((e1.trans e2).trans e3).trans e4))
    · exact q_no (et_eqI rfl (by decide)) fun H1 e1 => q_no (et_eqI rfl (by decide)) fun H2 e2 => q_no (et_eqI rfl (by decide)) fun H3 e3 => q_no (et_eqI rfl (by decide)) fun H4 e4 => te_yes (et_eqI rfl (by decide)) fun H5 e5 => te_op0 rfl (by decide +kernel) (hd.ex ((((e1.trans e2).trans e3).trans e4).trans e5)) (hD.ex ((((e1.trans e2).trans e3).trans e4).trans e5))
    · exact q_no (et_eqI rfl (by decide)) fun H1 e1 => q_no (et_eqI rfl (by decide)) fun H2 e2 => q_no (et_eqI rfl (by decide)) fun H3 e3 => q_no (et_eqI rfl (by decide)) fun H4 e4 => te_no (et_eqI rfl (by decide)) fun H5 e5 => te_op0 rfl (by decide +kernel) (hd.ex ((((e1.trans e2).trans e3).trans e4).trans e5)) (hD.ex ((((e1.trans e2).trans e3).trans e4).trans e5))
theorem ok_fields_with_row (c : Top K mg) : FOk P w K mg base (L2.CX P w) 12 ("Desk", some "fields_with_row") p_Desk_fields_with_row (spWithRow K) := by
  refine FOk.mk c.f_Desk_fields_with_row sc_Desk_fields_with_row (fun _ _ _ _ _ _ us hl => match us, hl with | [_, _, _, _], _ => rfl) (fun vs H Q E h => ?_) (fun cdv A outer s H vs Q E hr h => ?_)
  · obtain ⟨F, d, an, ar, st, p, ns, row, rfl, _⟩ := h
    rfl
  · obtain ⟨F, d, an, ar, st, p, ns, row, rfl, hn, hl, ha, hd, hD⟩ := h
    refine ⟨_, (pss_cons (ps_if (pt_cmpR op_eq (pv 1) pe_int (nomark _)) (pss_one (ps_ret (pe_mf (ok_load c) (hr.mono (by decide)) c.cls_Desk c.me_Desk_load (passes_call (takes_of rfl rfl rfl rfl) (fun _ _ _ _ h => h)) (pv 0) (pa_cons (pv 3) pa_nil)))) pss_nil)
      (pss_cons (ps_if (pt_cmpR op_eq (pv 1) pe_int (nomark _)) (pss_one (ps_ret (pe_mf (ok_desk_check c) (hr.mono (by decide)) c.cls_Desk c.me_Desk_check (passes_call (takes_of rfl rfl rfl rfl) (fun _ _ _ _ h => h)) (pv 0) (pa_cons (pv 3) pa_nil)))) pss_nil)
      (pss_one (ps_ret (pe_ifExp (pt_cmpR op_eq (pv 1) pe_int (nomark _)) (pe_mf (ok_check_steps c) (hr.mono (by decide)) c.cls_Desk c.me_Desk_check_steps (passes_call (takes_of rfl rfl rfl rfl) (fun _ _ _ _ h => h)) (pv 0) (pa_cons (pe_ix ix_list (pv 2) pe_int (fun _ _ => rfl)) (pa_cons (pv 3) pa_nil))) (pe_mf (ok_verify_packing c) (hr.mono (by decide)) c.cls_Desk c.me_Desk_verify_packing (passes_call (takes_of rfl rfl rfl rfl) (fun _ _ _ _ h => h)) (pv 0) (pa_cons (pv 3) pa_nil))))))), ?_⟩
    rcases asked_row ha with ⟨rfl, rfl⟩ | ⟨rfl, rfl⟩ | ⟨rfl, n, rfl⟩ | ⟨rfl, rfl⟩
    · exact q_yes (et_eqI rfl (by decide)) fun H1 e1 => te_opRow rfl (by decide +kernel) (ev_var rfl) (e1 _ _ hl) (hd.ex e1) (hD.ex e1)
    · exact q_no (et_eqI rfl (by decide)) fun H1 e1 => q_yes (et_eqI rfl (by decide)) fun H2 e2 => te_opRow rfl (by decide +kernel) (ev_var rfl) ((e1.trans e2) _ _ hl) (hd.ex (e1.trans e2)) (hD.ex (e1.trans e2))
    · exact q_no (et_eqI rfl (by decide)) fun H1 e1 => q_no (et_eqI rfl (by decide)) fun H2 e2 => te_yes (et_eqI rfl (by decide)) fun H3 e3 => te_steps rfl (by decide +kernel) (ev_op (ev_var rfl) ev_c (rv_ixL (sq_of (((e1.trans e2).trans e3) _ _ hn)) (atI_nat (j := 0) rfl))) (ev_var rfl) (((e1.trans e2).trans e3) _ _ hl) (hd.ex ((e1.trans e2).trans e3)) (hD.ex ((e1.trans e2).trans e3))
    · exact q_no (et_eqI rfl (by decide)) fun H1 e1 => q_no (et_eqI rfl (by decide)) fun H2 e2 => te_no (et_eqI rfl (by decide)) fun H3 e3 => te_opRow rfl (by decide +kernel) (ev_var rfl) (((e1.trans e2).trans e3) _ _ hl) (hd.ex ((e1.trans e2).trans e3)) (hD.ex ((e1.trans e2).trans e3))
end
end Gs

set_option Elab.async false
set_option linter.all false
set_option maxRecDepth 100000
set_option maxHeartbeats 4000000
/-! Walks: a call's fields, its answer. -/
namespace Gs
open PySem PySem.Spec PyProof.Rows L2 Evl
open VbndamNeutral (asked1)
def hasRow (p : Int) : Bool := decide (p = 0) || (decide (p = 1) || (decide (p = 4) || decide (p = 11)))
def clF (p : Int) (an ar : Addr) : List (Str × V) := [("operation", .int p), ("numbers", .ref an), ("row", .ref ar)]
theorem clF_operation (p : Int) (an ar : Addr) : (clF p an ar).lookup ("operation" : Str) = some (.int p) := lookup_hit
theorem clF_numbers (p : Int) (an ar : Addr) : (clF p an ar).lookup ("numbers" : Str) = some (.ref an) := (lookup_miss (by decide +kernel)).trans lookup_hit
theorem clF_row (p : Int) (an ar : Addr) : (clF p an ar).lookup ("row" : Str) = some (.ref ar) := (lookup_miss (by decide +kernel)).trans ((lookup_miss (by decide +kernel)).trans lookup_hit)
def CallAt (K : PySem.W.Frag) (F : Addr → Prop) (H : Hp) (v : V) (c : List (List Int)) : Prop := ∃ (a dx an ar : Addr) (p : Int) (ns row : List Int), v = .ref a ∧ H a = some (.ins (He.ga K "Call") dx (clF p an ar)) ∧ H an = some (.lst (ns.map V.int)) ∧ H ar = some (.lst (row.map V.int)) ∧
  c = (p :: ns) :: (if hasRow p = true then [row] else []) ∧ ¬ F a ∧ ¬ F an ∧ ¬ F ar
theorem CallAt.ex {K : PySem.W.Frag} {F : Addr → Prop} {H H' : Hp} {v : V} {c : List (List Int)} (h : CallAt K F H v c) (e : Ex H H') : CallAt K F H' v c := by
  obtain ⟨a, dx, an, ar, p, ns, row, rfl, h1, h2, h3, h4⟩ := h
  exact ⟨a, dx, an, ar, p, ns, row, rfl, e _ _ h1, e _ _ h2, e _ _ h3, h4⟩
theorem CallAt.shift {K : PySem.W.Frag} {F F' : Addr → Prop} {H H' : Hp} {v : V} {c : List (List Int)} (h : CallAt K F H v c) (k : Keep F H H') (g : ∀ b, F' b → F b ∨ H b = none) : CallAt K F' H' v c := by
  obtain ⟨a, dx, an, ar, p, ns, row, rfl, h1, h2, h3, h4, h5, h6, h7⟩ := h
  have nn : ∀ {b o}, H b = some o → ¬ F b → ¬ F' b := fun {b o} hb hF q => by
    rcases g b q with q | q
    · exact hF q
    · rw [q] at hb
      cases hb
  exact ⟨a, dx, an, ar, p, ns, row, rfl, k _ _ h1 h5, k _ _ h2 h6, k _ _ h3 h7, h4, nn h1 h5, nn h2 h6, nn h3 h7⟩
theorem in_row {K : PySem.W.Frag} (p : Int) : inV (.int p) (tv_WITH_ROW.map (He.Dv.v K)) = hasRow p := by
  show (((0 : Int) == p) || (((1 : Int) == p) || (((4 : Int) == p) || (((11 : Int) == p) || false)))) = _
  unfold hasRow
  rw [Bool.or_false]
  have e : ∀ k : Int, ((k : Int) == p) = decide (p = k) := fun k => by
    rw [Bool.eq_iff_iff, beq_iff_eq, decide_eq_true_eq]
    exact eq_comm
  rw [e 0, e 1, e 4, e 11]
/-! ### promises -/
section
variable (K : PySem.W.Frag)
def spFields : Sp := fun vs H Q E => ∃ (G F : Addr → Prop) (d : Addr) (v : V) (st : Vbndam.State) (c : List (List Int)), vs = [.ref d, v] ∧ CallAt K G H v c ∧ asked1 c = true ∧ DeskAt K F H d st ∧ Does K F H d st Q E (Vbndam.stepLists st c)
def spAnswer : Sp := fun vs H Q _ => ∃ (G F : Addr → Prop) (d : Addr) (v : V) (st : Vbndam.State) (c : List (List Int)), vs = [.ref d, v] ∧ CallAt K G H v c ∧ asked1 c = true ∧ DeskAt K F H d st ∧ (Vbndam.stepLists st c).2.length ≤ 16000000 ∧
  ∀ p F' H', DeskAt K F' H' d (Vbndam.stepLists st c).1 → Keep F H H' → (∀ b, F' b → F b ∨ H b = none) → H' p = some (.lst ((Vbndam.stepLists st c).2.map V.int)) → Q (.ref p) H'
end
/-! ### a method's call in a try -/
theorem pe_mfS {X : Cx} {CX : CXT} {k : Nat} {ps : List Str} {sp : Sp} {E : L2.St → XK} {m C : Str} {pos apos : Pos} {e o : Expr} {es : List Expr} {ta : TE} {t : TA} {pl : Sem Bool} {CA f : Addr}
    (F : FOk X.prog X.w X.K X.mg X.base CX k (C, some m) ps sp) (room : Room k X.A) (c : Cls X.K CA) (hm : Meth X.K CA m f) (hx : ∀ σ, PassesAt CX X σ (E σ)) (ho : PE X o ta) (ha : PA X (e :: es) t) (hf : f = He.fAd X.K (C, some m) := by rfl)
    (s1 : starEach (e :: es) X.env = (false, eval e X.env) :: starEach es X.env := by rfl) (s2 : (backTo pos (starEach es X.env)).any (·.1) = false := by rfl)
    (s3 : eval (.Call (.Attribute o m apos) (e :: es) [] pos) X.env = (eval o X.env >>= fun ov => standAt apos.atName >>= fun _ => holding [ov] (getMethod ov m pl) >>= fun g => callWith pos g.1 g.2 (backTo pos (starEach (e :: es) X.env)) (backToKw pos (keywordEach [] X.env))) := by rfl) :
    PE X (.Call (.Attribute o m apos) (e :: es) [] pos) (L2H.tMethH CA m sp E ta t) := by
  obtain ⟨fd, bnd, kp, G⟩ := F
  subst hf
  refine ⟨fun pins st0 σ H Qx I hh => ?_⟩
  apply PySem.W.methodCall_KW (pl := pl) _ s3
  refine thn (ho.run pins st0 σ H _ I hh) ?_
  rintro u st1 ⟨x, Ha, Ia, rx, a, dx, fs, rfl, hins, hnone, q⟩
  cases rx
  apply getmeth_ok Ia hins c hm hnone
  refine PySem.W.callWith_K (first := [.ref a]) (h₀ := X.base) I.ok.mod.kin hm.kp (thn (ha.run pos pins st1 σ Ha _ Ia q) ?_) s1 s2
  rintro us st2 ⟨vs, Hb, Ib, rv, q2⟩
  exact ⟨Ib.kIn, run_fnS (us := .ref a :: us) (vs := .ref a :: vs) G room bnd (hx σ) Ib (.cons rfl rv) q2⟩
theorem s_ret0 {te : TE} {D : Ends} {σ : L2.St} {H : Hp} (k : ∀ l0 H1, H l0 = none → Ex H H1 → H1 l0 = some (.lst [.int 0]) → te σ H1 (fun y H2 => rCat (.ref l0) y H2 D.rt)) : tRet (tOp rCat (tLst (tCons (tC (.int 0)) tNil)) te) D σ H :=
  (el_lst (σ := σ) (H := H) (vs := [.int 0]) (ea_cons ev_c ea_nil) (by show 1 ≤ 100000; decide)) H (Ex.refl H) (fun x H1 => te σ H1 fun y H2 => rCat x y H2 D.rt) k
def t_code (K : PySem.W.Frag) : Addr → Value → Option Addr → TS := fun a cls d => tRet (tLst (tCons (tXf a cls d (He.ga K "Refused") "code" (tVar 2)) tNil))
section
variable {P : Program} {w : World} {K : PySem.W.Frag} {mg : Str → Option Value} {base : Heap}
theorem ok_fields (c : Top K mg) : FOk P w K mg base (L2.CX P w) 13 ("Desk", some "fields") p_Desk_fields (spFields K) := by
  refine FOk.mk c.f_Desk_fields sc_Desk_fields (fun _ _ _ _ _ _ us hl => match us, hl with | [_, _], _ => rfl) (fun vs H Q E h => ?_) (fun cdv A outer s H vs Q E hr h => ?_)
  · obtain ⟨G, F, d, v, st, cl, rfl, _⟩ := h
    rfl
  · obtain ⟨G, F, d, v, st, cl, rfl, hc, ha, hd, hD⟩ := h
    refine ⟨_, (pss_cons (ps_if (pt_cmpR op_in_seq (pe_fld (pv 1) rfl) (pe_gr c.glo_WITH_ROW) rfl) (pss_one (ps_ret (pe_mf (ok_fields_with_row c) (hr.mono (by decide)) c.cls_Desk c.me_Desk_fields_with_row (passes_call (takes_of rfl rfl rfl rfl) (fun _ _ _ _ h => h)) (pv 0) (pa_cons (pe_fld (pv 1) rfl) (pa_cons (pe_fld (pv 1) rfl) (pa_cons (pe_fld (pv 1) rfl) pa_nil)))))) pss_nil)
      (pss_cons (ps_if (pt_cmpR op_eq (pe_callB call_len_seq (by rfl) c.free_len PySem.boot_len (pa_cons (pe_fld (pv 1) rfl) pa_nil)) pe_int (nomark _)) (pss_one (ps_ret (pe_mf (ok_fields_of_room c) (hr.mono (by decide)) c.cls_Desk c.me_Desk_fields_of_room (passes_call (takes_of rfl rfl rfl rfl) (fun _ _ _ _ h => h)) (pv 0) (pa_cons (pe_fld (pv 1) rfl) pa_nil)))) pss_nil)
      (pss_cons (ps_if (pt_cmpR op_eq (pe_callB call_len_seq (by rfl) c.free_len PySem.boot_len (pa_cons (pe_fld (pv 1) rfl) pa_nil)) pe_int (nomark _)) (pss_one (ps_ret (pe_mf (ok_fields_by_two c) (hr.mono (by decide)) c.cls_Desk c.me_Desk_fields_by_two (passes_call (takes_of rfl rfl rfl rfl) (fun _ _ _ _ h => h)) (pv 0) (pa_cons (pe_fld (pv 1) rfl) (pa_cons (pe_ix ix_list (pe_fld (pv 1) rfl) pe_int (fun _ _ => rfl)) (pa_cons (pe_ix ix_list (pe_fld (pv 1) rfl) pe_int (fun _ _ => rfl)) pa_nil)))))) pss_nil)
      (pss_one (ps_ret (pe_mf (ok_fields_by_one c) (hr.mono (by decide)) c.cls_Desk c.me_Desk_fields_by_one (passes_call (takes_of rfl rfl rfl rfl) (fun _ _ _ _ h => h)) (pv 0) (pa_cons (pe_fld (pv 1) rfl) (pa_cons (pe_ix ix_list (pe_fld (pv 1) rfl) pe_int (fun _ _ => rfl)) pa_nil)))))))), ?_⟩
    obtain ⟨a, dx, an, ar, p, ns, row, rfl, h1, h2, h3, rfl, _⟩ := hc
    obtain ⟨ddx, dv, ho, _⟩ := id hd.ob
    have eop : ∀ {H1 : Hp}, Ex H H1 → Ev (tFld K (tVar 1) "operation") [some (.ref d), some (.ref a)] H1 (.int p) := fun e => ev_fld (ev_var rfl) (e _ _ h1) c.cls_Call c.no_Call_operation (clF_operation _ _ _)
    have enu : ∀ {H1 : Hp}, Ex H H1 → Ev (tFld K (tVar 1) "numbers") [some (.ref d), some (.ref a)] H1 (.ref an) := fun e => ev_fld (ev_var rfl) (e _ _ h1) c.cls_Call c.no_Call_numbers (clF_numbers _ _ _)
    have ero : ∀ {H1 : Hp}, Ex H H1 → Ev (tFld K (tVar 1) "row") [some (.ref d), some (.ref a)] H1 (.ref ar) := fun e => ev_fld (ev_var rfl) (e _ _ h1) c.cls_Call c.no_Call_row (clF_row _ _ _)
    have eix : ∀ {H1 : Hp} {j : Nat} {n : Int}, Ex H H1 → ns[j]? = some n → Ev (tOp (rIxL K) (tFld K (tVar 1) "numbers") (tC (.int (j : Int)))) [some (.ref d), some (.ref a)] H1 (.int n) := fun e hn => ev_op (enu e) ev_c (rv_ixL (sq_of (e _ _ h2)) (atI_nat (by rw [List.getElem?_map, hn]; rfl)))
    have elen : ∀ {H1 : Hp}, Ex H H1 → Ev (tCB (rLenS K) (tCons (tFld K (tVar 1) "numbers") tNil)) [some (.ref d), some (.ref a)] H1 (vI ns.length) := fun e => ev_is (ev_len (enu e) (sq_of (e _ _ h2))) (by rw [List.length_map])
    cases hp : hasRow p with
    | true =>
      rw [hp, if_pos rfl] at ha hD
      refine q_yes (et_test (ev_is (ev_op (eop (Ex.refl _)) ev_c (rv_inT (neg := false) (c.tup_WITH_ROW _) rfl rfl)) (by rw [if_neg Bool.false_ne_true, in_row, hp]))) fun H1 e1 => ?_
      refine ⟨_, rfl, d, ddx, _, rfl, e1 _ _ ho, dkF_none dv (by decide +kernel), ?_⟩
      exact ea_cons (eop e1) (ea_cons (enu e1) (ea_cons (ero e1) ea_nil)) H1 (Ex.refl _) _ fun H2 e2 => ⟨F, d, an, ar, st, p, ns, row, rfl, (e1.trans e2) _ _ h2, (e1.trans e2) _ _ h3, ha, hd.ex (e1.trans e2), hD.ex (e1.trans e2)⟩
    | false =>
      rw [hp, if_neg Bool.false_ne_true] at ha hD
      refine q_no (et_test (ev_is (ev_op (eop (Ex.refl _)) ev_c (rv_inT (neg := false) (c.tup_WITH_ROW _) rfl rfl)) (by rw [if_neg Bool.false_ne_true, in_row, hp]))) fun H1 e1 => ?_
      rcases ns with _ | ⟨n, _ | ⟨k, _ | ⟨j, l⟩⟩⟩
      · refine q_yes (et_is (et_test (ev_op (elen e1) ev_c (rv_eq rfl))) rfl) fun H2 e2 => ?_
        have e12 := e1.trans e2
        refine ⟨_, rfl, d, ddx, _, rfl, e12 _ _ ho, dkF_none dv (by decide +kernel), ?_⟩
        exact ea_cons (eop e12) ea_nil H2 (Ex.refl _) _ fun H3 e3 => ⟨F, d, st, p, rfl, ha, hd.ex (e12.trans e3), hD.ex (e12.trans e3)⟩
      · refine q_no (et_is (et_test (ev_op (elen e1) ev_c (rv_eq rfl))) rfl) fun H2 e2 => ?_
        refine q_no (et_is (et_test (ev_op (elen (e1.trans e2)) ev_c (rv_eq rfl))) rfl) fun H3 e3 => ?_
        have e13 := (e1.trans e2).trans e3
        refine ⟨_, rfl, d, ddx, _, rfl, e13 _ _ ho, dkF_none dv (by decide +kernel), ?_⟩
        exact ea_cons (eop e13) (ea_cons (eix (j := 0) e13 rfl) ea_nil) H3 (Ex.refl _) _ fun H4 e4 => ⟨F, d, st, p, n, rfl, ha, hd.ex (e13.trans e4), hD.ex (e13.trans e4)⟩
      · refine q_no (et_is (et_test (ev_op (elen e1) ev_c (rv_eq rfl))) rfl) fun H2 e2 => ?_
        refine q_yes (et_is (et_test (ev_op (elen (e1.trans e2)) ev_c (rv_eq rfl))) rfl) fun H3 e3 => ?_
        have e13 := (e1.trans e2).trans e3
        refine ⟨_, rfl, d, ddx, _, rfl, e13 _ _ ho, dkF_none dv (by decide +kernel), ?_⟩
        exact ea_cons (eop e13) (ea_cons (eix (j := 0) e13 rfl) (ea_cons (eix (j := 1) e13 rfl) ea_nil)) H3 (Ex.refl _) _ fun H4 e4 => ⟨F, d, st, p, n, k, rfl, ha, hd.ex (e13.trans e4), hD.ex (e13.trans e4)⟩
      · exact (asked_more ha).elim
theorem ok_answer_of (c : Top K mg) : FOk P w K mg base CX0 14 ("answer_of", none) p_answer_of (spAnswer K) := by
  refine FOk.mk0 c.f_answer_of sc_answer_of (fun _ _ _ _ _ _ us hl => match us, hl with | [_, _], _ => rfl) (fun vs H Q E h => ?_) (fun cdv A outer s H vs Q E hr h => ?_)
  · obtain ⟨G, F, d, v, st, cl, rfl, _⟩ := h
    rfl
  · obtain ⟨G, F, d, v, st, cl, rfl, hc, ha, hd, hlen, k⟩ := h
    have nd := sc_answer_of.nd
    refine ⟨_, pss_one (ps_try_as (i := 2) (tb := fun W => tRet (tOp rCat (tLst (tCons (tC (.int 0)) tNil)) (L2H.tMethH (He.ga K "Desk") "fields" (spFields K) (WE W) (tVar 0) (tCons (tVar 1) tNil)))) (ts := t_code K) (Wout := fun _ _ _ _ => False) rfl rfl nd rfl rfl ⟨rfl, by decide, Or.inl c.glo_Refused⟩ takes0
        (fun W pn xe tk _ => pss_one (ps_ret (by exact (pe_op op_cat (pe_lst (pa_cons pe_int pa_nil)) (pe_mfS (ok_fields c) (hr.mono (by decide)) c.cls_Desk c.me_Desk_fields (fun σ => passAt tk σ) (pv 0) (by exact (pa_cons (pv 1) pa_nil)))))))
        (fun a oe cls dd pn hz hf => pss_one (ps_ret (by exact (pe_lst (pa_cons (pe_xf c.refused.xf c.no_Refused_code hz hf (pv 2)) pa_nil)))))), ?_⟩
    obtain ⟨ddx, dv, ho, _⟩ := id hd.ob
    refine s_ret0 fun l0 H1 hl0 e1 h1 => ?_
    refine ⟨_, rfl, d, ddx, _, rfl, e1 _ _ ho, dkF_none dv (by decide +kernel), _, rfl, G, F, d, v, st, cl, rfl, hc.ex e1, ha, hd.ex e1, fun l hl p H2 F' hdk kp gr hp hp2 => ?_, fun j hj h1j => ?_⟩
    · have nF : ¬ F l0 := fun q => hd.ft l0 q hl0
      have hl2 : H2 l0 = some (.lst [.int 0]) := kp _ _ h1 nF
      rw [hl] at hlen
      refine ⟨l0, p, _, _, rfl, rfl, hl2, hp2, ?_, fun r hr' => ?_⟩
      · rw [List.length_map, sizeLine_eq]
        rw [List.length_cons] at hlen
        show 1 + l.length ≤ 16777216
        omega
      · have kp0 : Keep F H H2 := (Keep.ofEx e1).trans kp
        refine k r F' _ (hdk.ex (Ex.new hr')) (kp0.trans (Keep.ofEx (Ex.new hr'))) (fun b hb => (gr b hb).imp id (fun q => fresh_back e1 q)) ?_
        rw [upd_same, hl]
        rfl
    · intro dd H' e' h'
      refine ⟨true, c.exm_Refused, fun _ a ha' => ?_, fun q => by cases q⟩
      refine ⟨_, rfl, rfl, rfl, dd, _, _, rfl, h', lookup_hit, by show 1 ≤ sizeLine; exact sz_of (by decide), fun p hp => ?_⟩
      have ee := (e1.trans e').trans (Ex.new (o := .lst [.int (-(j : Int))]) hp)
      refine k p F _ ?_ (Keep.ofEx ee) (fun b hb => .inl hb) ?_
      · rw [hj]
        exact hd.ex ee
      · rw [upd_same, hj]
        rfl
end
end Gs

set_option Elab.async false
set_option linter.all false
set_option maxRecDepth 100000
set_option maxHeartbeats 4000000
/-! A list that a call doesn't know stays as it is. -/
namespace Gs
open PySem PySem.Spec PyProof.Rows L2 Evl
section
variable {P : Program} {w : World} {K : PySem.W.Frag} {mg : Str → Option Value} {base : Heap}
theorem hok_del {H : Hp} {h : Heap} {f : Addr} {xs : List V} (x : HOk P w H h) (hf : H f = some (.lst xs)) : HOk P w (del H f) h := fun b o q => by
  have hb : b ≠ f := fun e => by
    rw [e, del_same] at q
    cases q
  rw [del_ne hb] at q
  refine (x b o q).stay (fun _ _ _ e => e) (fun c hc => ?_) (fun c ys hc => ?_)
  · rw [del_ne (fun e => by rw [e, hf] at hc; cases hc)]
    exact hc
  · rw [del_ne (fun e => by rw [e, hf] at hc; cases hc)]
    exact hc
theorem FOk.frame {k : Nat} {wh : Str × Option Str} {ps : List Str} {sp : Sp} (F : FOk P w K mg base CX0 k wh ps sp) :
    FOk P w K mg base CX0 k wh ps (fun vs H Q E => ∃ f xs, H f = some (.lst xs) ∧ sp vs (del H f) (fun v H' => H' f = none → Q v (upd H' f (.lst xs))) E) := by
  obtain ⟨fd, b, kp, G⟩ := F
  refine ⟨fd, b, kp, fun vs H Q E h => ?_, fun A outer s H args us vs Q E room e0 bt rv h => ?_⟩
  · obtain ⟨f, xs, _, hsp⟩ := h
    exact G.len _ _ _ _ hsp
  · obtain ⟨f, xs, hf, hsp⟩ := h
    have dn : ∀ {b : Addr}, H b = none → del H f b = none := fun {b} q => by
      by_cases e : b = f
      · rw [e, del_same]
      · rw [del_ne e]
        exact q
    have nf : f ∉ frs outer := fun q => by
      have := e0.frf f q
      rw [hf] at this
      cases this
    have e1 : Env0 P w K mg base A outer s (del H f) := ⟨e0.frames, e0.mod, fun b o q => ⟨(e0.bs b o q).1, dn (e0.bs b o q).2⟩, e0.bsz, e0.funs, fun b q => dn (e0.frf b q), hok_del e0.hok hf, e0.bare⟩
    refine codeAny_mono (G.run A outer s (del H f) args us vs _ E room e1 bt rv hsp) fun r s' hr => ?_
    match r, hr with
    | .error er, hr => exact hr.elim
    | .ok .next, hr => exact hr.elim
    | .ok .brk, hr => exact hr.elim
    | .ok .cont, hr => exact hr.elim
    | .ok (.ret u), hr =>
      obtain ⟨v, H', os, bare, un, hok, rvu, q⟩ := hr
      obtain ⟨z, its, n, r1, ef⟩ := (show ObjOk P w H s.heap f (.lst xs) from e0.hok f _ hf)
      have kf := un.keep f _ ef del_same nf (by simp)
      have ff := un.free f _ ef del_same (by simp)
      have ne : ∀ {b : Addr} {o : HO}, H b = some o → (∀ ys, o ≠ .lst ys) → b ≠ f := fun {b o} hb ho e => by
        rw [e, hf] at hb
        exact ho xs (Option.some.inj hb).symm
      refine ⟨v, upd H' f (.lst xs), os, bare, ⟨fun b o hb hn h1 h2 => un.keep b o hb (dn hn) h1 h2, fun b o hb hn h1 h2 => un.slot b o hb (dn hn) h1 h2, fun b o hb hn h2 => ?_, fun b o hb h2 => un.there b o hb h2, fun b ys hb => ?_, fun b o u hb => ?_, fun b ys hb => ?_⟩, fun b o hb => ?_, rvu, q ff⟩
      · rw [upd_ne (fun e => by rw [e, hf] at hn; cases hn)]
        exact un.free b o hb (dn hn) h2
      · have hbf := ne hb (fun ys e => by cases e)
        rw [upd_ne hbf]
        exact un.tups b ys (by rw [del_ne hbf]; exact hb)
      · have hbf := ne hb (fun ys e => by cases e)
        rw [upd_ne hbf]
        exact un.frzs b o u (by rw [del_ne hbf]; exact hb)
      · have hbf := ne hb (fun ys e => by cases e)
        rw [upd_ne hbf]
        exact un.tbls b ys (by rw [del_ne hbf]; exact hb)
      · by_cases e : b = f
        · rw [e, upd_same] at hb
          cases hb
          rw [e]
          exact ⟨z, its, n, r1, kf⟩
        · rw [upd_ne e] at hb
          refine (hok b o hb).stay (fun _ _ _ x => x) (fun c hc => ?_) (fun c ys hc => ?_)
          · rw [upd_ne (fun e => by rw [e, ff] at hc; cases hc)]
            exact hc
          · rw [upd_ne (fun e => by rw [e, ff] at hc; cases hc)]
            exact hc
def spAnswerF (K : PySem.W.Frag) : Sp := fun vs H Q E => ∃ f xs, H f = some (.lst xs) ∧ spAnswer K vs (del H f) (fun v H' => H' f = none → Q v (upd H' f (.lst xs))) E
theorem ok_answerF (c : Top K mg) : FOk P w K mg base CX0 14 ("answer_of", none) p_answer_of (spAnswerF K) := (ok_answer_of c).frame
end
end Gs

set_option Elab.async false
set_option linter.all false
set_option maxRecDepth 100000
set_option maxHeartbeats 4000000
/-! Walks: calls read. -/
namespace Gs
open PySem PySem.Spec PyProof.Rows L2 Evl
/-! ### plain: one list as calls -/
def numOf (j : Nat) : Nat := [0, 0, 0, 1, 1, 1, 1, 1, 0, 0, 0, 0, 1, 1, 1, 2, 0, 1, 2, 0].getD j 0
theorem num_at {K : PySem.W.Frag} : ∀ (j : Nat), j < 20 → atI (tv_NUMBERS.map (He.Dv.v K)) (j : Int) = some (vI (numOf j))
  | 0, _ => rfl
  | 1, _ => rfl
  | 2, _ => rfl
  | 3, _ => rfl
  | 4, _ => rfl
  | 5, _ => rfl
  | 6, _ => rfl
  | 7, _ => rfl
  | 8, _ => rfl
  | 9, _ => rfl
  | 10, _ => rfl
  | 11, _ => rfl
  | 12, _ => rfl
  | 13, _ => rfl
  | 14, _ => rfl
  | 15, _ => rfl
  | 16, _ => rfl
  | 17, _ => rfl
  | 18, _ => rfl
  | 19, _ => rfl
  | j + 20, h => absurd h (by omega)
theorem shape_is {p : Int} {n k : Nat} (h : PyVbndam.shape p = some (n, k)) : ∃ j : Nat, j < 20 ∧ p = (j : Int) ∧ n = numOf j ∧ k = if hasRow p = true then 1 else 0 := by
  unfold PyVbndam.shape at h
  by_cases h0 : p = 0
  · rw [if_pos h0] at h
    cases h
    exact ⟨0, by decide, h0, rfl, by rw [h0]; rfl⟩
  rw [if_neg h0] at h
  by_cases h1 : p = 1
  · rw [if_pos h1] at h
    cases h
    exact ⟨1, by decide, h1, rfl, by rw [h1]; rfl⟩
  rw [if_neg h1] at h
  by_cases h2 : p = 2
  · rw [if_pos h2] at h
    cases h
    exact ⟨2, by decide, h2, rfl, by rw [h2]; rfl⟩
  rw [if_neg h2] at h
  by_cases h3 : p = 3
  · rw [if_pos h3] at h
    cases h
    exact ⟨3, by decide, h3, rfl, by rw [h3]; rfl⟩
  rw [if_neg h3] at h
  by_cases h4 : p = 4
  · rw [if_pos h4] at h
    cases h
    exact ⟨4, by decide, h4, rfl, by rw [h4]; rfl⟩
  rw [if_neg h4] at h
  by_cases h5 : p = 5
  · rw [if_pos h5] at h
    cases h
    exact ⟨5, by decide, h5, rfl, by rw [h5]; rfl⟩
  rw [if_neg h5] at h
  by_cases h6 : p = 6
  · rw [if_pos h6] at h
    cases h
    exact ⟨6, by decide, h6, rfl, by rw [h6]; rfl⟩
  rw [if_neg h6] at h
  by_cases h7 : p = 7
  · rw [if_pos h7] at h
    cases h
    exact ⟨7, by decide, h7, rfl, by rw [h7]; rfl⟩
  rw [if_neg h7] at h
  by_cases h8 : p = 8
  · rw [if_pos h8] at h
    cases h
    exact ⟨8, by decide, h8, rfl, by rw [h8]; rfl⟩
  rw [if_neg h8] at h
  by_cases h9 : p = 9
  · rw [if_pos h9] at h
    cases h
    exact ⟨9, by decide, h9, rfl, by rw [h9]; rfl⟩
  rw [if_neg h9] at h
  by_cases h10 : p = 10
  · rw [if_pos h10] at h
    cases h
    exact ⟨10, by decide, h10, rfl, by rw [h10]; rfl⟩
  rw [if_neg h10] at h
  by_cases h11 : p = 11
  · rw [if_pos h11] at h
    cases h
    exact ⟨11, by decide, h11, rfl, by rw [h11]; rfl⟩
  rw [if_neg h11] at h
  by_cases h12 : p = 12
  · rw [if_pos h12] at h
    cases h
    exact ⟨12, by decide, h12, rfl, by rw [h12]; rfl⟩
  rw [if_neg h12] at h
  by_cases h13 : p = 13
  · rw [if_pos h13] at h
    cases h
    exact ⟨13, by decide, h13, rfl, by rw [h13]; rfl⟩
  rw [if_neg h13] at h
  by_cases h14 : p = 14
  · rw [if_pos h14] at h
    cases h
    exact ⟨14, by decide, h14, rfl, by rw [h14]; rfl⟩
  rw [if_neg h14] at h
  by_cases h15 : p = 15
  · rw [if_pos h15] at h
    cases h
    exact ⟨15, by decide, h15, rfl, by rw [h15]; rfl⟩
  rw [if_neg h15] at h
  by_cases h16 : p = 16
  · rw [if_pos h16] at h
    cases h
    exact ⟨16, by decide, h16, rfl, by rw [h16]; rfl⟩
  rw [if_neg h16] at h
  by_cases h17 : p = 17
  · rw [if_pos h17] at h
    cases h
    exact ⟨17, by decide, h17, rfl, by rw [h17]; rfl⟩
  rw [if_neg h17] at h
  by_cases h18 : p = 18
  · rw [if_pos h18] at h
    cases h
    exact ⟨18, by decide, h18, rfl, by rw [h18]; rfl⟩
  rw [if_neg h18] at h
  by_cases h19 : p = 19
  · rw [if_pos h19] at h
    cases h
    exact ⟨19, by decide, h19, rfl, by rw [h19]; rfl⟩
  rw [if_neg h19] at h
  cases h
theorem cut_nat (l : List Int) {a b : Nat} (h1 : a ≤ b) (h2 : b ≤ l.length) : cutV (l.map V.int) (some (a : Int)) (some (b : Int)) = ((l.drop a).take (b - a)).map V.int := by
  unfold cutV
  rw [HT.sIx_nat, HT.sIx_nat, List.length_map, Nat.min_eq_left h2, Nat.min_eq_left (Nat.le_trans h1 h2), List.map_take, List.map_drop]
theorem num_small : ∀ j, numOf j ≤ 2 := by
  intro j
  by_cases h : j < 20
  · revert j
    decide +kernel
  · unfold numOf
    rw [List.getD_eq_getElem?_getD, List.getElem?_eq_none (by show 20 ≤ j; omega)]
    exact Nat.zero_le _
/-- the call that begins at a place -/
theorem call_at {l : List Int} {i : Nat} {p : Int} (hp : l[i]? = some p) {c : List (List Int)} {t : List Int} (h : PyFlat.call PyVbndam.shape (l.drop i) = some (c, t)) :
    ∃ j : Nat, j < 20 ∧ p = (j : Int) ∧ i + 1 + numOf j ≤ l.length ∧
      ((hasRow p = false ∧ c = [p :: (l.drop (i + 1)).take (numOf j)] ∧ t = l.drop (i + 1 + numOf j)) ∨
        (hasRow p = true ∧ ∃ m : Nat, l[i + 1 + numOf j]? = some (m : Int) ∧ i + 1 + numOf j + 1 + m ≤ l.length ∧ c = [p :: (l.drop (i + 1)).take (numOf j), (l.drop (i + 1 + numOf j + 1)).take m] ∧ t = l.drop (i + 1 + numOf j + 1 + m))) := by
  have hi : i < l.length := (List.getElem?_eq_some_iff.mp hp).1
  have hg : l[i] = p := (List.getElem?_eq_some_iff.mp hp).2
  rw [List.drop_eq_getElem_cons hi, hg] at h
  unfold PyFlat.call at h
  dsimp only at h
  cases hs : PyVbndam.shape p with
  | none =>
    rw [hs] at h
    cases h
  | some nk =>
    obtain ⟨n, k⟩ := nk
    rw [hs] at h
    dsimp only at h
    obtain ⟨j, hj, hpj, rfl, hk⟩ := shape_is hs
    by_cases hl : (l.drop (i + 1)).length < numOf j
    · rw [if_pos hl] at h
      cases h
    · rw [if_neg hl] at h
      rw [List.length_drop] at hl
      have hle : i + 1 + numOf j ≤ l.length := by omega
      refine ⟨j, hj, hpj, hle, ?_⟩
      rw [List.drop_drop] at h
      cases hr : hasRow p with
      | false =>
        rw [hr, if_neg Bool.false_ne_true] at hk
        subst hk
        have e : PyFlat.rows 0 (l.drop (i + 1 + numOf j)) = some ([], l.drop (i + 1 + numOf j)) := rfl
        rw [e] at h
        cases h
        exact .inl ⟨rfl, rfl, rfl⟩
      | true =>
        rw [hr, if_pos rfl] at hk
        subst hk
        cases hd : PyFlat.row (l.drop (i + 1 + numOf j)) with
        | none =>
          have e : PyFlat.rows 1 (l.drop (i + 1 + numOf j)) = none := by
            unfold PyFlat.rows
            rw [hd]
          rw [e] at h
          cases h
        | some xs =>
          obtain ⟨x, s⟩ := xs
          have e : PyFlat.rows 1 (l.drop (i + 1 + numOf j)) = some ([x], s) := by
            unfold PyFlat.rows
            rw [hd]
            rfl
          rw [e] at h
          cases h
          by_cases hlt : i + 1 + numOf j < l.length
          · rw [List.drop_eq_getElem_cons hlt] at hd
            unfold PyFlat.row at hd
            dsimp only at hd
            by_cases hc : 0 ≤ l[i + 1 + numOf j] ∧ (l[i + 1 + numOf j]).toNat ≤ (l.drop (i + 1 + numOf j + 1)).length
            · rw [if_pos hc] at hd
              obtain ⟨m, hm⟩ := Int.eq_ofNat_of_zero_le hc.1
              have hm2 : (l[i + 1 + numOf j]).toNat = m := by
                rw [hm]
                exact Int.toNat_natCast m
              rw [hm2] at hc hd
              rw [List.length_drop] at hc
              cases hd
              refine .inr ⟨rfl, m, ?_, by omega, rfl, ?_⟩
              · rw [List.getElem?_eq_getElem hlt, hm]
              · rw [List.drop_drop]
            · rw [if_neg hc] at hd
              cases hd
          · have : l.drop (i + 1 + numOf j) = [] := List.drop_eq_nil_iff.mpr (by omega)
            rw [this] at hd
            cases hd
def spReadCalls (K : PySem.W.Frag) : Sp := fun vs H Q _ => ∃ (a : Addr) (l : List Int) (cs : List (List (List Int))), vs = [.ref a] ∧ SqL K H a (l.map V.int) ∧ cs.length ≤ 1000 ∧ PyFlat.calls PyVbndam.shape l.length l = some cs ∧
  ∀ p H', H p = none → Ex H H' → (∃ xs, H' p = some (.lst xs) ∧ EachAt (CallAt K (fun b => H b ≠ none) H') xs cs) → Q (.ref p) H'
def spDeskInit (K : PySem.W.Frag) : Sp := fun vs H Q _ => ∃ (x dx : Addr), vs = [.ref x] ∧ H x = some (.ins (He.ga K "Desk") dx []) ∧ Q .non (upd H x (.ins (He.ga K "Desk") dx (dkF .non)))
section
variable {P : Program} {w : World} {K : PySem.W.Frag} {mg : Str → Option Value} {base : Heap}
theorem ok_desk_init (c : Top K mg) : FOk P w K mg base CX0 1 ("Desk", some "__init__") p_Desk_init (spDeskInit K) := by
  refine FOk.mk0 c.f_Desk_init sc_Desk_init (fun _ _ _ _ _ _ us hl => match us, hl with | [_], _ => rfl) (fun vs H Q E h => ?_) (fun cdv A outer s H vs Q E hr h => ?_)
  · obtain ⟨x, dx, rfl, _⟩ := h
    rfl
  · obtain ⟨x, dx, rfl, hx, k⟩ := h
    refine ⟨_, pss_one (ps_fld (pv 0) pe_non rfl), ?_⟩
    exact ⟨_, rfl, x, _, dx, [], rfl, hx, c.cls_Desk, c.no_Desk_room, by decide, k⟩
theorem em_desk {E : XK} {σ : L2.St} {H : Hp} : EvM (tMake (He.ga K "Desk") (spDeskInit K) [] E tNil) σ H (fun d H' => ∃ dx, H' d = some (.ins (He.ga K "Desk") dx (dkF .non))) := fun H1 e Q q => by
  refine fun x dx hx hdx hne => ⟨x, dx, rfl, upd_same, rfl, ?_⟩
  rw [upd_upd]
  exact q x _ hx ((Ex.new hdx).mut hx) ⟨dx, upd_same⟩
theorem ok_read_calls (c : Top K mg) : FOk P w K mg base CX0 3 ("read_calls", none) p_read_calls (spReadCalls K) := by
  refine FOk.mk0 c.f_read_calls sc_read_calls (fun _ _ _ _ _ _ us hl => match us, hl with | [_], _ => rfl) (fun vs H Q E h => ?_) (fun cdv A outer s H vs Q E hr h => ?_)
  · obtain ⟨a, l, cs, rfl, _⟩ := h
    rfl
  · obtain ⟨a, l, cs, rfl, hl, hcs, hcalls, k⟩ := h
    have nd := sc_read_calls.nd
    refine ⟨_, (pss_cons (ps_set (i := 1) nd rfl (.inl rfl) (pe_lst pa_nil))
      (pss_cons (ps_set (i := 2) nd rfl (.inl rfl) pe_int)
      (pss_cons (ps_while PassesOwn.never (pt_cmpR op_lt (pv 2) (pe_callB call_len_seq (by rfl) c.free_len PySem.boot_len (pa_cons (pv 0) pa_nil)) (nomark _))
      (pss_cons (ps_set (i := 3) nd rfl (.inl rfl) (pe_ix ix_list (pv 0) (pv 2) (fun _ _ => rfl)))
      (pss_cons (ps_set (i := 4) nd rfl (.inl rfl) (pe_op op_add (pe_op op_add (pv 2) pe_int) (pe_ix ix_tup (pe_gr c.glo_NUMBERS) (pv 3) (fun _ _ => rfl))))
      (pss_cons (ps_set (i := 5) nd rfl (.inl rfl) (pe_slice sl_list (pv 0) (po_some (pe_op op_add (pv 2) pe_int)) (po_some (pv 4))))
      (pss_cons (ps_set (i := 6) nd rfl (.inl rfl) (pe_lst pa_nil))
      (pss_cut (ps_if (pt_cmpR op_in_seq (pv 3) (pe_gr c.glo_WITH_ROW) rfl) (pss_cons (ps_set (i := 7) nd rfl (.inl rfl) (pe_op op_add (pe_op op_add (pv 4) pe_int) (pe_ix ix_list (pv 0) (pv 4) (fun _ _ => rfl))))
      (pss_cons (ps_set (i := 6) nd rfl (.inl rfl) (pe_slice sl_list (pv 0) (po_some (pe_op op_add (pv 4) pe_int)) (po_some (pv 7))))
      (pss_one (ps_set (i := 4) nd rfl (.inl rfl) (pv 7))))) pss_nil)
      (pss_cons (ps_expr (pe_bm PySem.F.plainAttrs_list PySem.F.slot_list_append PySem.F.type_list_append mt_append (pv 1) (pa_cons (pe_mk (ok_call_init c) c.mkr_Call (hr.mono (by decide)) c.glo_Call pass0 (pa_cons (pv 3) (pa_cons (pv 5) (pa_cons (pv 6) pa_nil)))) pa_nil)))
      (pss_one (ps_set (i := 2) nd rfl (.inl rfl) (pv 4))))))))))
      (pss_one (ps_ret (pv 1)))))), ?_⟩
    refine q_asgL (el_lst ea_nil (by decide)) fun cl H1 hcl e1 hcl1 => ?_
    refine q_asg (v := vI 0) ev_c fun H2 e2 => ?_
    refine q_while (fun m σ H3 => ∃ (i f : Nat) (done rest : List (List (List Int))) (x3 x4 x5 x6 x7 : Option V), σ = [some (.ref a), some (.ref cl), some (vI i), x3, x4, x5, x6, x7] ∧ Ex H H3 ∧ (∃ xs, H3 cl = some (.lst xs) ∧ EachAt (CallAt K (fun b => H b ≠ none ∨ b = cl) H3) xs done) ∧
        PyFlat.calls PyVbndam.shape f (l.drop i) = some rest ∧ done ++ rest = cs ∧ m = l.length - i ∧ i ≤ l.length) l.length
      ⟨0, l.length, [], cs, none, none, none, none, none, rfl, e1.trans e2, ⟨[], e2 _ _ hcl1, EachAt.nil⟩, hcalls, rfl, rfl, Nat.zero_le _⟩ (fun m σ H3 W => ?_)
    obtain ⟨i, f, done, rest, x3, x4, x5, x6, x7, rfl, e3, ⟨xs, hx, hE⟩, hrest, hall, rfl, hi⟩ := W
    have hl3 := ex_l e3 hl
    refine ⟨decide (i < l.length), et_is (et_test (ev_op (ev_var rfl) (ev_is (w := vI l.length) (ev_len (ev_var rfl) hl3) (by rw [List.length_map])) rv_I0)) (decide_eq_decide.mpr (by omega)), fun hb H4 e4 => ?_, fun hb H4 e4 => ?_⟩
    · have hlt := of_decide_eq_true hb
      have hp := List.getElem?_eq_getElem hlt
      obtain ⟨f', c0, t0, rest', rfl, hcall, hcl', rfl⟩ : ∃ f' c0 t0 rest', f = f' + 1 ∧ PyFlat.call PyVbndam.shape (l.drop i) = some (c0, t0) ∧ PyFlat.calls PyVbndam.shape f' t0 = some rest' ∧ rest = c0 :: rest' := by
        rw [List.drop_eq_getElem_cons hlt] at hrest ⊢
        cases f with
        | zero => cases hrest
        | succ f' =>
          unfold PyFlat.calls at hrest
          cases hc : PyFlat.call PyVbndam.shape (l[i] :: l.drop (i + 1)) with
          | none =>
            rw [hc] at hrest
            cases hrest
          | some ct =>
            obtain ⟨c0, t0⟩ := ct
            rw [hc] at hrest
            dsimp only at hrest
            cases hcc : PyFlat.calls PyVbndam.shape f' t0 with
            | none =>
              rw [hcc] at hrest
              cases hrest
            | some r =>
              rw [hcc] at hrest
              cases hrest
              exact ⟨f', c0, t0, r, rfl, rfl, hcc, rfl⟩
      generalize l[i] = p at hp
      obtain ⟨j, hj, rfl, hle, hform⟩ := call_at hp hcall
      have hns := num_small j
      refine ⟨_, fun σ2 H5 W => W, ?_⟩
      have hl4 := ex_l (e3.trans e4) hl
      refine q_asg (v := .int (j : Int)) (ev_op (ev_var rfl) (ev_var rfl) (rv_ixL hl4 (atI_nat (by rw [List.getElem?_map, hp]; rfl)))) fun H5 e5 => ?_
      refine q_asg (v := vI (i + 1 + numOf j)) (ev_is (ev_op (ev_op (ev_var rfl) ev_c rv_I0) (ev_op ev_c (ev_var rfl) (rv_ixT (c.tup_NUMBERS _) (num_at j hj))) rv_I0) (congrArg V.int (by omega))) fun H6 e6 => ?_
      have e46 := (e4.trans e5).trans e6
      have hl6 := ex_l (e3.trans e46) hl
      refine q_asgL (el_sl (lo := some ((i + 1 : Nat) : Int)) (hi := some ((i + 1 + numOf j : Nat) : Int)) (ev_var rfl) (eo_some (ev_is (ev_op (ev_var rfl) ev_c rv_I0) (congrArg V.int (by omega)))) (eo_some (ev_var rfl)) hl6) fun an H7 han e7 han7 => ?_
      rw [cut_nat l (by omega) hle, show i + 1 + numOf j - (i + 1) = numOf j by omega] at han7
      refine q_asgL (el_lst ea_nil (by decide)) fun ar H8 har e8 har8 => ?_
      have e48 := (e46.trans e7).trans e8
      have hl8 := ex_l (e3.trans e48) hl
      have E8 := e3.trans e48
      have hcl8 := e48 _ _ hx
      have nan : ¬ (H an ≠ none ∨ an = cl) := fun q => by
        have : H3 an = none := fresh_back e46 han
        rcases q with q | q
        · exact q (fresh_back e3 this)
        · rw [q, hx] at this
          cases this
      refine q_cut (M := fun σ H9 => ∃ (i' : Nat) (ar' : Addr) (row : List Int) (x7' : Option V), σ = [some (.ref a), some (.ref cl), some (vI i), some (.int (j : Int)), some (vI i'), some (.ref an), some (.ref ar'), x7'] ∧ Ex H8 H9 ∧ H9 ar' = some (.lst (row.map V.int)) ∧ ¬ (H ar' ≠ none ∨ ar' = cl) ∧
          c0 = ((j : Int) :: (l.drop (i + 1)).take (numOf j)) :: (if hasRow (j : Int) = true then [row] else []) ∧ t0 = l.drop i' ∧ i < i' ∧ i' ≤ l.length) ?_ fun σ H9 M => ?_
      · rcases hform with ⟨hr0, hc0, ht0⟩ | ⟨hr1, m, hm, hml, hc1, ht1⟩
        · refine s_when (b := false) (et_test (ev_is (ev_op (ev_var rfl) ev_c (rv_inT (neg := false) (c.tup_WITH_ROW _) rfl rfl)) (by rw [if_neg Bool.false_ne_true, in_row, hr0]))) (fun q => by cases q) (fun _ H9 e9 => ?_)
          refine ⟨i + 1 + numOf j, ar, [], _, rfl, e9, e9 _ _ har8, fun q => ?_, ?_, ht0, by omega, hle⟩
          · have : H3 ar = none := fresh_back (e46.trans e7) har
            rcases q with q | q
            · exact q (fresh_back e3 this)
            · rw [q, hx] at this
              cases this
          · rw [hr0, if_neg Bool.false_ne_true]
            exact hc0
        · refine s_when (b := true) (et_test (ev_is (ev_op (ev_var rfl) ev_c (rv_inT (neg := false) (c.tup_WITH_ROW _) rfl rfl)) (by rw [if_neg Bool.false_ne_true, in_row, hr1]))) (fun _ H9 e9 => ?_) (fun q => by cases q)
          have hl9 := ex_l (E8.trans e9) hl
          refine q_asg (v := vI (i + 1 + numOf j + 1 + m)) (ev_is (ev_op (ev_op (ev_var rfl) ev_c rv_I0) (ev_op (ev_var rfl) (ev_var rfl) (rv_ixL hl9 (atI_nat (v := .int (m : Int)) (by rw [List.getElem?_map, hm]; rfl)))) rv_I0) (congrArg V.int (by omega))) fun H10 e10 => ?_
          have hl10 := ex_l ((E8.trans e9).trans e10) hl
          refine q_asgL (el_sl (lo := some ((i + 1 + numOf j + 1 : Nat) : Int)) (hi := some ((i + 1 + numOf j + 1 + m : Nat) : Int)) (ev_var rfl) (eo_some (ev_is (ev_op (ev_var rfl) ev_c rv_I0) (congrArg V.int (by omega)))) (eo_some (ev_var rfl)) hl10) fun ar2 H11 har2 e11 har11 => ?_
          rw [cut_nat l (by omega) hml, show i + 1 + numOf j + 1 + m - (i + 1 + numOf j + 1) = m by omega] at har11
          refine s_asg (ev_var rfl) fun H12 e12 => ?_
          refine ⟨i + 1 + numOf j + 1 + m, ar2, _, _, rfl, ((e9.trans e10).trans e11).trans e12, e12 _ _ har11, fun q => ?_, ?_, ht1, by omega, hml⟩
          · have : H3 ar2 = none := fresh_back ((e48.trans e9).trans e10) har2
            rcases q with q | q
            · exact q (fresh_back e3 this)
            · rw [q, hx] at this
              cases this
          · rw [hr1, if_pos rfl]
            exact hc1
      · obtain ⟨i', ar', row, x7', rfl, e9, har', nar, hc0, ht, hii, hi'⟩ := M
        have E9 := E8.trans e9
        have hcl9 := e9 _ _ hcl8
        have hlenx : xs.length < 100000 := by
          have h1 := hE.1
          have h2 := congrArg List.length hall
          rw [List.length_append, List.length_cons] at h2
          omega
        have hmk : EvM (tMake (He.ga K "Call") (spI K "Call" 3 (f3 "operation" "numbers" "row")) [] E (tCons (tVar 3) (tCons (tVar 5) (tCons (tVar 6) tNil)))) [some (.ref a), some (.ref cl), some (vI i), some (.int (j : Int)), some (vI i'), some (.ref an), some (.ref ar'), x7'] H9 (fun x H' => H9 x = none ∧ ∃ dx, H' x = some (.ins (He.ga K "Call") dx (clF (j : Int) an ar'))) := fun H10 e10 Q' q' =>
          em_mk (P := fun ws _ => ws = [.int (j : Int), .ref an, .ref ar']) (ep_of (ea_cons (ev_var rfl) (ea_cons (ev_var rfl) (ea_cons (ev_var rfl) ea_nil)))) (fun vs H' h => by rw [h]; rfl) (fun vs H1 H2 e h => h) H10 e10 Q' fun x H11 hx e11 h => by
            obtain ⟨hx0, dx, vs, rfl, h3⟩ := h
            exact q' x H11 hx e11 ⟨hx0, dx, h3⟩
        refine q_appM hcl9 (ev_var rfl) hmk hlenx fun x H10 hx10 e10 hP => ?_
        obtain ⟨_, cdx, hxo⟩ := hP
        have nx : ¬ (H x ≠ none ∨ x = cl) := fun q => by
          rcases q with q | q
          · exact q (fresh_back E9 hx10)
          · rw [q, hcl9] at hx10
            cases hx10
        have hcx : CallAt K (fun b => H b ≠ none ∨ b = cl) H10 (.ref x) c0 := ⟨x, cdx, an, ar', (j : Int), _, row, rfl, hxo, e10 _ _ (e9 _ _ (e8 _ _ han7)), e10 _ _ har', hc0, nx, nan, nar⟩
        have kp : Keep (fun b => H b ≠ none ∨ b = cl) H10 (upd H10 cl (.lst (xs ++ [.ref x]))) := Keep.upd (.inr rfl)
        refine s_asg (ev_var rfl) fun H11 e11 => ?_
        refine ⟨l.length - i', by omega, i', f', done ++ [c0], rest', _, _, _, _, _, rfl, ((E9.trans e10).mut hcl).trans e11, ⟨_, e11 _ _ upd_same, ?_⟩, ?_, ?_, rfl, hi'⟩
        · exact EachAt.app (hE.imp fun v y hy => ((hy.ex ((e48.trans e9).trans e10)).shift kp fun b hb => .inl hb).ex e11) (EachAt.one ((hcx.shift kp fun b hb => .inl hb).ex e11))
        · rw [← ht]
          exact hcl'
        · rw [List.append_assoc]
          exact hall
    · have hge := of_decide_eq_false hb
      have hnil : l.drop i = [] := List.drop_eq_nil_iff.mpr (by omega)
      rw [hnil] at hrest
      have hr0 : rest = [] := by
        cases f <;> (cases hrest; rfl)
      subst hr0
      rw [List.append_nil] at hall
      subst hall
      refine ⟨_, rfl, k cl H4 hcl (e3.trans e4) ⟨xs, e4 _ _ hx, hE.imp fun v y hy => (hy.ex e4).shift (Keep.ofEx (Ex.refl _)) fun b hb => .inl (.inl hb)⟩⟩
end
end Gs

set_option Elab.async false
set_option linter.all false
set_option maxRecDepth 100000
set_option maxHeartbeats 4000000
/-! Walks: answers. -/
namespace Gs
open PySem PySem.Spec PyProof.Rows L2 Evl
open VbndamNeutral (asked1)
theorem whole_id (c : List (List Int)) : PyVbndam.whole c = c := by
  unfold PyVbndam.whole
  split <;> rfl
theorem asked_facts {l : List Int} (h : PyVbndam.answers_asked l = true) : ∃ cs, PyFlat.calls PyVbndam.shape l.length l = some cs ∧ cs.length ≤ 100 ∧ (∀ c ∈ cs, asked1 c = true) ∧ PyVbndam.answers l = PyFlat.told (PyFlat.played Vbndam.stepLists none cs) ∧ (PyVbndam.answers l).length ≤ 10000000 := by
  unfold PyVbndam.answers_asked at h
  cases hc : PyFlat.calls PyVbndam.shape l.length l with
  | none =>
    rw [hc] at h
    cases h
  | some cs =>
    rw [hc] at h
    dsimp only at h
    rw [Bool.and_eq_true, Bool.and_eq_true, Bool.and_eq_true, Bool.and_eq_true] at h
    obtain ⟨⟨⟨⟨_, h1⟩, _⟩, h2⟩, h3⟩ := h
    have hw : cs.map PyVbndam.whole = cs := by
      conv => rhs; rw [← List.map_id cs]
      exact List.map_congr_left fun c _ => whole_id c
    rw [hw] at h2
    refine ⟨cs, rfl, of_decide_eq_true h1, ?_, ?_, of_decide_eq_true h3⟩
    · unfold VbndamNeutral.asked at h2
      rw [Bool.and_eq_true] at h2
      exact fun c hc => List.all_eq_true.mp h2.1 c hc
    · unfold PyVbndam.answers PyVbndam.calls
      rw [hc]
      dsimp only
      rw [hw]
      rfl
theorem told_app (x y : List (List Int)) : PyFlat.told (x ++ y) = PyFlat.told x ++ PyFlat.told y := List.flatMap_append
theorem told_one (x : List Int) : PyFlat.told [x] = (x.length : Int) :: x := by
  show ((x.length : Int) :: x) ++ [] = _
  rw [List.append_nil]
theorem played_cons (st : Vbndam.State) (c : List (List Int)) (r : List (List (List Int))) : PyFlat.played Vbndam.stepLists st (c :: r) = (Vbndam.stepLists st c).2 :: PyFlat.played Vbndam.stepLists (Vbndam.stepLists st c).1 r := rfl
def spAns (K : PySem.W.Frag) : Sp := fun vs H Q _ => ∃ (a : Addr) (l : List Int), vs = [.ref a] ∧ SqL K H a (l.map V.int) ∧ PyVbndam.answers_asked l = true ∧ ∀ (H' : Hp) (p : Addr), H' p = some (.lst ((PyVbndam.answers l).map V.int)) → Q (.ref p) H'
section
variable {K : PySem.W.Frag} {H : Hp} {σ : L2.St} {D : Ends} {te tl : TE}
theorem s_extB {l : Addr} {xs ys : List V} (hl : H l = some (.lst xs)) (ha : Ev tl σ H (.ref l)) (h : EvL te σ H ys) (hz : xs.length + ys.length ≤ sizeLine) (k : ∀ p H1, H p = none → Ex H H1 → D.nx σ (upd H1 l (.lst (xs ++ ys)))) :
    tDrop (tBM K "list" rExtend tl (tCons te tNil)) D σ H := ha H (Ex.refl H) _ fun H1 e1 =>
  ⟨Or.inl ⟨rfl, xs, sq_of (e1 l _ hl)⟩, h H1 e1 _ fun p H2 hp e2 h2 => ⟨l, p, xs, ys, rfl, rfl, e2 l _ (e1 l _ hl), h2, hz, k p H2 (fresh_back e1 hp) (e1.trans e2)⟩⟩
theorem del_upd {f : Addr} {o : HO} : del (upd H f o) f = del H f := by
  funext b
  by_cases e : b = f
  · rw [e, del_same, del_same]
  · rw [del_ne e, del_ne e, upd_ne e]
end
section
variable {P : Program} {w : World} {K : PySem.W.Frag} {mg : Str → Option Value} {base : Heap}
theorem fnok_mk0 {k : Nat} {sp : Sp} {N ps : List Str} {x qual : Str} {pa : Arguments} {bo : List Stmt} {sc : Scope} {f : Addr} {fd : FuncData} (F : FunD K x qual pa bo sc [] [] f fd) (S : FnScope N ps sc) (len : ∀ vs H Q E, sp vs H Q E → vs.length = ps.length)
    (body : ∀ (cdv : Value) (A : Around) (outer : List Env) (s : Shared) (H : Hp) (vs : List V) (Q : VK) (E : XK), Room k (A.deeper (envOfC qual sc s.heap.objs.size f cdv)) → sp vs H Q E →
      ∃ t, PSs (cxOf CX0 P w K mg base N qual sc f cdv A outer s H E).nox bo t ∧ t { nx := fun _ H' => Q .non H', rt := Q } (start N vs) H) : FnOk P w K mg base CX0 (k + 1) f fd ps sp :=
  F.ok S len fun cdv A outer s H vs Q E hr h => by
    obtain ⟨t, h1, h2⟩ := body cdv A outer s H vs Q E hr h
    exact ⟨t, h1.nox, h2⟩
theorem ok_answers (c : Top K mg) {fd : FuncData} (FD : FunD K "answers" "answers" (defArgs s_answers) (defBody s_answers) (defScope s_answers) [] [] (He.fAd K ("answers", none)) fd) : FnOk P w K mg base CX0 15 (He.fAd K ("answers", none)) fd p_answers (spAns K) := by
  refine fnok_mk0 FD sc_answers (fun vs H Q E h => ?_) (fun cdv A outer s H vs Q E hr h => ?_)
  · obtain ⟨a, l, rfl, _⟩ := h
    rfl
  · obtain ⟨a, l, rfl, hl, hask, k⟩ := h
    have nd := sc_answers.nd
    refine ⟨_, (pss_cons (ps_set (i := 1) nd rfl (.inl rfl) (pe_mk0 (ok_desk_init c) c.mkr_Desk (hr.mono (by decide)) c.glo_Desk pass0))
      (pss_cons (ps_set (i := 2) nd rfl (.inl rfl) (pe_lst pa_nil))
      (pss_cons (ps_for PassesOwn.never rfl (pi_list (pe_cf (ok_read_calls c) (hr.mono (by decide)) c.glo_read_calls pass0 (pa_cons (pv 0) pa_nil))) (pg_name (i := 3) nd rfl (.inl rfl)) (pss_cons (ps_set (i := 4) nd rfl (.inl rfl) (pe_cf (ok_answerF c) hr c.glo_answer_of pass0 (pa_cons (pv 1) (pa_cons (pv 3) pa_nil))))
      (pss_one (ps_expr (pe_bm PySem.F.plainAttrs_list PySem.F.slot_list_extend PySem.F.type_list_extend mt_extend (pv 2) (pa_cons (pe_op op_cat (pe_lst (pa_cons (pe_callB call_len_seq (by rfl) c.free_len PySem.boot_len (pa_cons (pv 4) pa_nil)) pa_nil)) (pv 4)) pa_nil))))))
      (pss_one (ps_ret (pv 2)))))), ?_⟩
    obtain ⟨cs, hcs, h100, hall, hans, hbig⟩ := asked_facts hask
    refine q_asgM em_desk fun d H1 hd0 e1 hP => ?_
    obtain ⟨dx, hd1⟩ := hP
    refine q_asgL (el_lst ea_nil (by decide)) fun f H2 hf e2 hf2 => ?_
    have hd2 := e2 _ _ hd1
    have ndf : d ≠ f := fun e => by
      rw [← e, hd1] at hf
      cases hf
    have hrc : EvM (tCall (spReadCalls K) [] E (tCons (tVar 0) tNil)) [some (.ref a), some (.ref d), some (.ref f), none, none] H2 (fun p H' => H2 p = none ∧ ∃ xs, H' p = some (.lst xs) ∧ EachAt (CallAt K (fun b => H2 b ≠ none) H') xs cs) := fun H3 e3 Q' q' => by
      refine ea_cons (ev_var rfl) ea_nil H3 e3 _ fun H4 e4 => ⟨a, l, cs, rfl, ex_l (((e1.trans e2).trans e3).trans e4) hl, by omega, hcs, fun p H5 hp e5 hP => ?_⟩
      obtain ⟨xs, hx, hE⟩ := hP
      exact q' p H5 (fresh_back e4 hp) (e4.trans e5) ⟨fresh_back (e3.trans e4) hp, xs, hx, hE.imp fun v y hy => hy.shift (Keep.ofEx (Ex.refl _)) fun b hb => .inl (Ex.alive (e3.trans e4) hb)⟩
    refine q_forM (zs := cs) (R := fun H v x => CallAt K (fun b => H2 b ≠ none) H v x) (fun H3 e3 Q' q' => hrc H3 e3 Q' fun p H4 hp e4 hP => q' p H4 hp e4 hP.2)
      (fun p xs pre σ H3 => ∃ (st : Vbndam.State) (done : List (List Int)) (F : Addr → Prop) (x y : Option V), σ = [some (.ref a), some (.ref d), some (.ref f), x, y] ∧ H3 f = some (.lst ((PyFlat.told done).map V.int)) ∧ DeskAt K F (del H3 f) d st ∧ ¬ F f ∧ p ≠ f ∧ H3 p = some (.lst xs) ∧ ¬ F p ∧ EachAt (fun v c => CallAt K F (del H3 f) v c) xs cs ∧
        (∀ rest, PyFlat.played Vbndam.stepLists none (pre ++ rest) = done ++ PyFlat.played Vbndam.stepLists st rest))
      (fun p xs H3 hp e3 hp3 hE => ?_) (fun p xs i σ H3 q => ?_) (fun p xs i v cl σ H3 hv hc q => ?_) (fun p xs σ H3 q => ?_)
    · have npf : p ≠ f := fun e => by
        rw [e, hf2] at hp
        cases hp
      have npd : p ≠ d := fun e => by
        rw [e, hd2] at hp
        cases hp
      refine ⟨none, [], fun b => b = d, none, none, rfl, e3 _ _ hf2, ⟨⟨dx, .non, ?_, rfl⟩, rfl, fun b hb => ?_⟩, fun e => ndf e.symm, npf, hp3, npd, hE.imp fun v c hcl => ?_, fun rest => rfl⟩
      · rw [del_ne ndf]
        exact e3 _ _ hd2
      · rw [hb, del_ne ndf, e3 _ _ hd2]
        exact fun q => by cases q
      · refine hcl.shift (fun b o hb hF => ?_) fun b hb => .inl ?_
        · rw [del_ne (fun e => hF (show H2 b ≠ none by rw [e, hf2]; exact fun q => by cases q))]
          exact hb
        · rw [hb, hd2]
          exact fun q => by cases q
    · obtain ⟨st, done, F, x, y, _, _, _, _, _, h6, _⟩ := q
      exact h6
    · obtain ⟨st, done, F, x1, y1, rfl, hf3, hdk, nFf, npf, hp3, nFp, hE, eq⟩ := q
      have hcl := hE.2 i v cl hv hc
      have hcm := List.mem_of_getElem? hc
      have all : cs = cs.take i ++ cl :: cs.drop (i + 1) := by
        have hi := (List.getElem?_eq_some_iff.mp hc).1
        have e : cs[i] = cl := (List.getElem?_eq_some_iff.mp hc).2
        rw [← e, ← List.drop_eq_getElem_cons hi, List.take_append_drop]
      have full : PyVbndam.answers l = PyFlat.told done ++ (((Vbndam.stepLists st cl).2.length : Int) :: (Vbndam.stepLists st cl).2) ++ PyFlat.told (PyFlat.played Vbndam.stepLists (Vbndam.stepLists st cl).1 (cs.drop (i + 1))) := by
        rw [hans]
        conv => lhs; rw [all]
        rw [eq, played_cons, told_app, List.append_assoc]
        congr 1
      have hsz := hbig
      rw [full, List.length_append, List.length_append, List.length_cons] at hsz
      refine ⟨_, rfl, _, rfl, f, _, hf3, F, F, d, v, st, cl, rfl, hcl, hall cl hcm, hdk, by omega, fun p' F' H' hdk' kp gr hp' hfree => ?_⟩
      have npf' : p' ≠ f := fun e => by
        rw [e, hfree] at hp'
        cases hp'
      have np' : upd H' f (.lst ((PyFlat.told done).map V.int)) p' = some (.lst ((Vbndam.stepLists st cl).2.map V.int)) := by
        rw [upd_ne npf']
        exact hp'
      refine s_extB upd_same (ev_var rfl) (el_cat (el_lst (vs := [.int ((Vbndam.stepLists st cl).2.length : Int)]) (ea_cons (ev_is (ev_len (ev_var rfl) (sq_of np')) (by rw [List.length_map])) ea_nil) (by show 1 ≤ 100000; decide)) (ev_var rfl) np' ?_) ?_ fun q H4 hq e4 => ?_
      · rw [List.length_map, sizeLine_eq]
        show 1 + _ ≤ 16777216
        omega
      · rw [List.length_append, List.length_map, List.length_map, sizeLine_eq]
        show _ + (1 + _) ≤ 16777216
        omega
      · have ex' : Ex H' (del (upd H4 f (.lst ((PyFlat.told done).map V.int ++ ([.int ((Vbndam.stepLists st cl).2.length : Int)] ++ (Vbndam.stepLists st cl).2.map V.int)))) f) := fun b o hb => by
          have hbf : b ≠ f := fun e => by
            rw [e, hfree] at hb
            cases hb
          rw [del_ne hbf, upd_ne hbf]
          refine e4 _ _ ?_
          rw [upd_ne hbf]
          exact hb
        have hp3' : del H3 f p = some (.lst xs) := by
          rw [del_ne npf]
          exact hp3
        have hpH' := kp _ _ hp3' nFp
        have nF'f : ¬ F' f := fun q => hdk'.ft f q hfree
        have nF'p : ¬ F' p := fun q => by
          rcases gr p q with q | q
          · exact nFp q
          · rw [q] at hp3'
            cases hp3'
        refine ⟨(Vbndam.stepLists st cl).1, done ++ [(Vbndam.stepLists st cl).2], F', _, _, rfl, ?_, hdk'.ex ex', nF'f, npf, ?_, nF'p, hE.imp fun v y hy => (hy.shift kp gr).ex ex', fun rest => ?_⟩
        · rw [upd_same, told_app, told_one, List.map_append]
          rfl
        · have := ex' _ _ hpH'
          rw [del_ne npf] at this
          exact this
        · rw [List.append_assoc, eq, List.append_assoc]
          rfl
    · obtain ⟨st, done, F, x1, y1, rfl, hf3, hdk, nFf, npf, hp3, nFp, hE, eq⟩ := q
      refine ⟨_, rfl, k H3 f ?_⟩
      have := eq []
      rw [List.append_nil] at this
      rw [hf3, hans, this]
      show _ = some (HO.lst ((PyFlat.told (done ++ [])).map V.int))
      rw [List.append_nil]
end
end Gs

set_option Elab.async false
set_option linter.all false
set_option maxRecDepth 100000
set_option maxHeartbeats 8000000
/-! The end: the walk from the asked def, the statement. -/
namespace Gs
open PySem PySem.Spec PyProof.Rows L2
open PySem.W (OpenSpec Codec WData)
abbrev RR : OpenSpec := PySem.Challenge.rw_standins_s01_answers
/-- the promise is the statement's -/
theorem sp_ok (K : PySem.W.Frag) (H : Hp) (xs : List V) (a : Codec.denoteAll RR.args) (hask : Codec.app RR.args RR.asked a = true) (hx : DwAll K H xs (Codec.encAll RR.args a)) : spAns K xs H (fun v H' => Dw K H' v (RR.ret.enc (Codec.app RR.args RR.f a))) fun _ _ _ => False := by
  cases hx with
  | cons h1 h2 =>
    cases h2
    cases h1 with
    | lst hs ha =>
      have e := L2.ints_dw a.1 _ ha
      subst e
      exact ⟨_, a.1, rfl, hs, hask, fun H' p hp => .lst (L2.SqL.of hp) (L2.dw_ints _)⟩
theorem walk {d : PySem.DefRec} {XP : (Str → Option Value) → Heap → Prop} (hn : d.name = ("answers" : Str)) (hwell : RR.wellSaid = true) : PySem.W.WalkOS qv names XP hk.says RR d [] (fun f vs => PySem.call f vs) := by
  intro w s₀ s₁ mg mb G Y fa o pm cd doc dV kV ho hd hcd hD hmg hg args vals as hpre hlay hrd hwl hlo
  obtain ⟨a, e1, e2⟩ := PySem.W.os_pre_some hpre
  obtain ⟨e3, hwi⟩ := Codec.encAll_of_decAll RR.args args a e1
  subst e3
  obtain ⟨K, KX, hs, hx⟩ := Y
  have c : Top K mg := ⟨hs, hx, s₁.heap, KX, G.T.g⟩
  obtain ⟨fd, FD⟩ := c.f_answers
  have hfa : fa = He.fAd K ("answers", none) := by
    rw [hn, c.glo_answers] at hmg
    exact (Value.ref.inj (Option.some.inj hmg)).symm
  subst hfa
  have hb := fun s us hl => FD.bindsA (ps := p_answers) (fun _ _ _ _ _ _ us hl => match us, hl with | [_], _ => rfl) s us hl
  refine PySem.W.enter_call (codeAny_mono (spec_call (R := []) (cl := classAt s₀.heap) (d0 := RR.ret.enc (Codec.app RR.args RR.f a)) (k := 15) (CX := CX0) (sp := spAns K) (ps := p_answers) (fd := fd) KX G.T.g G.T.b G.T.builtins G.T.nolimit hg hwl (pl_encAll _ _) (layable_weight hlay) ⟨rfl, by decide, by decide⟩
    (fun base _ _ => ok_answers c FD) hb (by rw [encAll_len]; rfl)
    (fun H xs hO hS => sp_ok K H xs a e2 hS) fun _ _ _ z => z) fun r' s' hq => ?_)
  obtain ⟨u, as', rfl, h1, h2, h3, h4⟩ := hq
  exact ⟨.inl ⟨u, _, as', rfl, fun _ => rfl, h1, (OpenSpec.post_iff hwell hwi _ _).mpr rfl, fun z => Bool.noConfusion (show false = true from z)⟩, h2, h3, h4⟩
end Gs
open PySem PySem.W PySem.Calls PyProof.Rows
theorem PySem.Challenge.cw_standins_s01_answers_holds : PySem.Challenge.rw_standins_s01_answers.Holds := by
  refine HandSHeadRun.head_spec (r := PySem.Challenge.rw_standins_s01_answers) (q := Gs.qv) (H := Gs.hk) (ob := Gs.ob) (M := 30000) (loose := Gs.names) (kwd := []) Gs.ob_eq (by kernel_rfl) (fun s => by kernel_rfl) (fun w os => Gs.run w os) (by rfl) (by rfl) (by rfl) os_shapes (by first | assumption | decide +kernel) (by decide +kernel) ⟨rfl, rfl, rfl, rfl, rfl, by decide +kernel⟩ ?hw ?hc
  case hw => exact ⟨[.list [.int 19]], by decide +kernel, by decide +kernel⟩
  case hc => exact Gs.walk rfl (by decide +kernel)
#print axioms PySem.Challenge.cw_standins_s01_answers_holds

