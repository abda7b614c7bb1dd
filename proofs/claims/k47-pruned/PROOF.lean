import PyProof.Rows.All
import Wide.All
import OpenK.AllK
import Wide.FinOn
import KE.DataMinMax
import KE.DataFind
import KE.GoesMore
import KE.GoesEnum
import HandS.ForMost
import HandS.TupAny
import HandS.Strs
import HandS.Walk
import HandS.IsInst
import HandS.RevRange
import HandS.Style
import PySem.Challenge.RW_fewestrules_k47_whole_pruned_lists_lead
import HandS.Head0
import HandS.Head1
import HandS.Head2
import HandS.HeadEnd
import HandS.HeadHook1
import HandS.HeadHook2
import HandS.Ends
import HandS.More
import HandS.WordsExc
import HandS.Defaults
import KE.KStateDown
set_option Elab.async false
set_option linter.all false
set_option maxRecDepth 100000
set_option maxHeartbeats 0
/-! The mathematics of orders with levels: an order is a chain of (strength ahead of it, letter); taking out, putting in, and why a redundant rule may be dropped. Plain Lean. -/
namespace FR
variable {α : Type} [DecidableEq α]
abbrev Ch (α : Type) := List (Int × α)
def lt (P : Ch α) : List α := P.map (·.2)
def st (P : Ch α) : List Int := (P.map (·.1)).tail
def bump (s : Int) : Ch α → Ch α
  | [] => []
  | (t, z) :: r => (min s t, z) :: r
def rm (x : α) : Ch α → Ch α
  | [] => []
  | (s, y) :: r => if y = x then bump s r else (s, y) :: rm x r
def go (w : Int) (x : α) : Ch α → Ch α
  | [] => [(w, x)]
  | (t, z) :: r => if w < t then (t, z) :: go w x r else (w, x) :: (t, z) :: r
def insA (a : α) (w : Int) (x : α) : Ch α → Ch α
  | [] => []
  | (s, y) :: r => if y = a then (s, y) :: go w x r else (s, y) :: insA a w x r
def inG (a : α) (w : Int) : Ch α → Bool
  | [] => false
  | (t, z) :: r => decide (w < t) && (decide (z = a) || inG a w r)
def insB (a : α) (w : Int) (x : α) : Ch α → Ch α
  | [] => []
  | (s, y) :: r => if (decide (y = a) || inG a w r) = true then (s, x) :: (w, y) :: r else (s, y) :: insB a w x r
/-- a rule: after or before, its anchor, its strength, its letter -/
structure Rl (α : Type) where
  after : Bool
  anchor : α
  w : Int
  letter : α
def ins (q : Rl α) (P : Ch α) : Ch α := if q.after = true then insA q.anchor q.w q.letter P else insB q.anchor q.w q.letter P
def putC (q : Rl α) (P : Ch α) : Ch α := ins q (rm q.letter P)
def ledC : Ch α → List (Rl α) → Option (Ch α)
  | P, [] => some P
  | P, q :: qs => if q.anchor ∈ lt P then ledC (putC q P) qs else none
def hd0 : Ch α → Prop
  | [] => True
  | (s, _) :: _ => s ≤ 0

/-! ### taking out commutes -/
theorem bump_bump (s t : Int) (r : Ch α) : bump s (bump t r) = bump (min s t) r := by
  cases r with
  | nil => rfl
  | cons p r => obtain ⟨u, v⟩ := p; simp only [bump, Int.min_assoc]
theorem rm_bump (z : α) (s : Int) (r : Ch α) : rm z (bump s r) = bump s (rm z r) := by
  cases r with
  | nil => rfl
  | cons p r =>
    obtain ⟨u, v⟩ := p
    by_cases h : v = z
    · show (if v = z then bump (min s u) r else _) = bump s (if v = z then bump u r else _)
      rw [if_pos h, if_pos h, bump_bump]
    · show (if v = z then bump (min s u) r else _) = bump s (if v = z then bump u r else _)
      rw [if_neg h, if_neg h]
      rfl
theorem rm_comm (x z : α) : ∀ P : Ch α, rm z (rm x P) = rm x (rm z P)
  | [] => rfl
  | (s, y) :: r => by
    have ih := rm_comm x z r
    by_cases hx : y = x
    · by_cases hz : y = z
      · subst hx; subst hz; rfl
      · simp only [rm, if_pos hx, if_neg hz, rm_bump]
    · by_cases hz : y = z
      · simp only [rm, if_neg hx, if_pos hz, rm_bump]
      · simp only [rm, if_neg hx, if_neg hz, ih]
theorem bump_go {w t : Int} (h : w < t) (x : α) (r : Ch α) : bump t (go w x r) = go w x (bump t r) := by
  cases r with
  | nil => simp only [go, bump]; rw [Int.min_eq_right (Int.le_of_lt h)]
  | cons p r =>
    obtain ⟨u, v⟩ := p
    simp only [go, bump]
    by_cases hu : w < u
    · rw [if_pos hu, if_pos (Int.lt_min.mpr ⟨h, hu⟩)]
    · have e1 : ¬ w < min t u := fun q => hu (Int.lt_min.mp q).2
      rw [if_neg hu, if_neg e1]
      simp only [bump]
      rw [Int.min_eq_right (Int.le_of_lt h), Int.min_eq_right (show u ≤ t by omega)]
theorem rm_go {w : Int} {x z : α} (hz : z ≠ x) : ∀ r : Ch α, rm z (go w x r) = go w x (rm z r)
  | [] => by simp only [go, rm, if_neg (Ne.symm hz)]
  | (t, y) :: r => by
    have ih := rm_go (w := w) hz r
    by_cases ht : w < t
    · by_cases hy : y = z
      · simp only [go, if_pos ht, rm, if_pos hy]
        exact bump_go ht x r
      · simp only [go, if_pos ht, rm, if_neg hy, ih]
    · by_cases hy : y = z
      · simp only [go, if_neg ht, rm, if_pos hy, if_neg (Ne.symm hz)]
        cases r with
        | nil => rfl
        | cons p r =>
          obtain ⟨u, v⟩ := p
          have e1 : ¬ w < min t u := fun q => ht (Int.lt_min.mp q).1
          simp only [bump, go, if_neg e1]
      · simp only [go, if_neg ht, rm, if_neg hy, if_neg (Ne.symm hz)]
theorem bump_insA (a : α) (w : Int) (x : α) (s : Int) (r : Ch α) : insA a w x (bump s r) = bump s (insA a w x r) := by
  cases r with
  | nil => rfl
  | cons p r =>
    obtain ⟨u, v⟩ := p
    simp only [bump, insA]
    split <;> rfl
theorem rm_insA {a x z : α} {w : Int} (ha : z ≠ a) (hx : z ≠ x) : ∀ P : Ch α, rm z (insA a w x P) = insA a w x (rm z P)
  | [] => rfl
  | (s, y) :: r => by
    have ih := rm_insA (w := w) ha hx r
    by_cases hy : y = z
    · have hya : ¬ y = a := fun e => ha (hy.symm.trans e)
      simp only [insA, rm, if_neg hya, if_pos hy, bump_insA]
    · by_cases hya : y = a
      · simp only [insA, rm, if_pos hya, if_neg hy, rm_go hx]
      · simp only [insA, rm, if_neg hya, if_neg hy, ih]
theorem inG_bump {a : α} {w t : Int} (r : Ch α) : inG a w (bump t r) = ((decide (w < t) || r.isEmpty) && inG a w r) := by
  cases r with
  | nil => simp [bump, inG]
  | cons p r =>
    obtain ⟨u, v⟩ := p
    simp only [bump, inG, List.isEmpty_cons, Bool.or_false]
    by_cases h1 : w < t
    · by_cases h2 : w < u
      · simp [h1, h2, Int.lt_min]
      · simp [h2, Int.lt_min]
    · simp [h1, Int.lt_min]
theorem inG_rm {a z : α} {w : Int} (ha : z ≠ a) : ∀ r : Ch α, inG a w (rm z r) = inG a w r
  | [] => rfl
  | (t, y) :: r => by
    have ih := inG_rm (w := w) ha r
    by_cases hy : y = z
    · have hya : ¬ y = a := fun e => ha (hy.symm.trans e)
      simp only [rm, if_pos hy, inG_bump, inG, decide_eq_false hya, Bool.false_or]
      cases r with
      | nil => simp [inG]
      | cons p r => simp
    · simp only [rm, if_neg hy, inG, ih]
theorem rm_insB {a x z : α} {w : Int} (ha : z ≠ a) (hx : z ≠ x) : ∀ P : Ch α, inG a w P = false → rm z (insB a w x P) = insB a w x (rm z P)
  | [], _ => rfl
  | (s, y) :: r, hP => by
    by_cases hc : (decide (y = a) || inG a w r) = true
    · have hs : ¬ w < s := fun q => by
        have e : inG a w ((s, y) :: r) = true := by simp only [inG, decide_eq_true q, Bool.true_and]; exact hc
        rw [e] at hP; cases hP
      by_cases hy : y = z
      · have hya : ¬ y = a := fun e => ha (hy.symm.trans e)
        have hg : inG a w r = true := by simpa [hya] using hc
        simp only [insB, if_pos hc, rm, if_pos hy, if_neg (Ne.symm hx)]
        cases r with
        | nil => simp [inG] at hg
        | cons p r =>
          obtain ⟨u, v⟩ := p
          have hu : w < u ∧ (decide (v = a) || inG a w r) = true := by simpa only [inG, Bool.and_eq_true, decide_eq_true_eq] using hg
          simp only [bump, insB, if_pos hu.2]
          rw [Int.min_eq_left (show w ≤ u by omega), Int.min_eq_left (show s ≤ u by omega)]
      · have hc' : (decide (y = a) || inG a w (rm z r)) = true := by rw [inG_rm ha]; exact hc
        simp only [insB, if_pos hc, rm, if_neg hy, if_neg (Ne.symm hx), if_pos hc']
    · have hg : inG a w r = false := by
        cases e : inG a w r with
        | false => rfl
        | true => exact absurd (by rw [e, Bool.or_true]) hc
      have ih := rm_insB (w := w) ha hx r hg
      by_cases hy : y = z
      · simp only [insB, if_neg hc, rm, if_pos hy, ih]
        cases r with
        | nil => rfl
        | cons p r =>
          obtain ⟨u, v⟩ := p
          by_cases hv : (decide (v = a) || inG a w r) = true
          · simp only [insB, bump, if_pos hv]
          · simp only [insB, bump, if_neg hv]
      · have hc' : ¬ (decide (y = a) || inG a w (rm z r)) = true := by rw [inG_rm ha]; exact hc
        simp only [insB, if_neg hc, rm, if_neg hy, if_neg hc', ih]
theorem inG_hd0 {a : α} {w : Int} (hw : 1 ≤ w) : ∀ {P : Ch α}, hd0 P → inG a w P = false
  | [], _ => rfl
  | (s, y) :: r, h => by
    have h' : s ≤ 0 := h
    have e : ¬ w < s := by omega
    simp only [inG, decide_eq_false e, Bool.false_and]
theorem hd0_bump {s : Int} (hs : s ≤ 0) : ∀ r : Ch α, hd0 (bump s r)
  | [] => True.intro
  | (t, z) :: r => by show min s t ≤ 0; omega
theorem hd0_rm (x : α) : ∀ {P : Ch α}, hd0 P → hd0 (rm x P)
  | [], _ => True.intro
  | (s, y) :: r, h => by
    simp only [rm]
    split
    · exact hd0_bump h r
    · exact h
theorem hd0_ins (q : Rl α) : ∀ {P : Ch α}, hd0 P → hd0 (ins q P)
  | [], _ => by unfold ins; split <;> exact True.intro
  | (s, y) :: r, h => by
    unfold ins
    split
    · simp only [insA]; split <;> exact h
    · simp only [insB]; split <;> exact h
theorem hd0_putC (q : Rl α) {P : Ch α} (h : hd0 P) : hd0 (putC q P) := hd0_ins q (hd0_rm _ h)
theorem rm_ins {q : Rl α} {z : α} (hw : 1 ≤ q.w) (ha : z ≠ q.anchor) (hx : z ≠ q.letter) {P : Ch α} (h : hd0 P) : rm z (ins q P) = ins q (rm z P) := by
  unfold ins
  split
  · exact rm_insA ha hx P
  · exact rm_insB ha hx P (inG_hd0 hw h)
theorem rm_putC {q : Rl α} {z : α} (hw : 1 ≤ q.w) (ha : z ≠ q.anchor) (hx : z ≠ q.letter) {P : Ch α} (h : hd0 P) : rm z (putC q P) = putC q (rm z P) := by
  unfold putC
  rw [rm_ins hw ha hx (hd0_rm _ h), rm_comm]

/-! ### letters -/
theorem lt_cons (s : Int) (y : α) (r : Ch α) : lt ((s, y) :: r) = y :: lt r := rfl
theorem lt_bump (s : Int) (r : Ch α) : lt (bump s r) = lt r := by cases r <;> rfl
theorem lt_rm (x : α) : ∀ P : Ch α, lt (rm x P) = (lt P).erase x
  | [] => rfl
  | (s, y) :: r => by
    have ih := lt_rm x r
    by_cases hy : y = x
    · subst hy; simp only [rm, if_true, lt_bump, lt_cons, List.erase_cons_head]
    · simp only [rm, if_neg hy, lt_cons, ih]
      rw [List.erase_cons_tail (by simpa using hy)]
theorem mem_rm {a x : α} (h : a ≠ x) (P : Ch α) : a ∈ lt (rm x P) ↔ a ∈ lt P := by
  rw [lt_rm]; exact List.mem_erase_of_ne h
theorem nodup_rm {x : α} {P : Ch α} (h : (lt P).Nodup) : (lt (rm x P)).Nodup := by
  rw [lt_rm]; exact h.erase x
theorem not_mem_rm {x : α} {P : Ch α} (h : (lt P).Nodup) : x ∉ lt (rm x P) := by
  rw [lt_rm]; exact h.not_mem_erase
theorem go_split (w : Int) (x : α) : ∀ r : Ch α, ∃ A B, lt r = A ++ B ∧ lt (go w x r) = A ++ x :: B
  | [] => ⟨[], [], rfl, rfl⟩
  | (t, z) :: r => by
    by_cases h : w < t
    · obtain ⟨A, B, e1, e2⟩ := go_split w x r
      exact ⟨z :: A, B, by rw [lt_cons, e1]; rfl, by simp only [go, if_pos h, lt_cons, e2]; rfl⟩
    · exact ⟨[], z :: lt r, rfl, by simp only [go, if_neg h, lt_cons]; rfl⟩
theorem insA_split {a : α} (w : Int) (x : α) : ∀ P : Ch α, a ∈ lt P → ∃ A B, lt P = A ++ B ∧ lt (insA a w x P) = A ++ x :: B
  | [], h => by simp [lt] at h
  | (s, y) :: r, h => by
    by_cases hy : y = a
    · obtain ⟨A, B, e1, e2⟩ := go_split w x r
      exact ⟨y :: A, B, by rw [lt_cons, e1]; rfl, by simp only [insA, if_pos hy, lt_cons, e2]; rfl⟩
    · have h' : a ∈ lt r := by
        rw [lt_cons] at h
        exact (List.mem_cons.mp h).resolve_left (Ne.symm hy)
      obtain ⟨A, B, e1, e2⟩ := insA_split w x r h'
      exact ⟨y :: A, B, by rw [lt_cons, e1]; rfl, by simp only [insA, if_neg hy, lt_cons, e2]; rfl⟩
theorem insB_split {a : α} (w : Int) (x : α) : ∀ P : Ch α, a ∈ lt P → ∃ A B, lt P = A ++ B ∧ lt (insB a w x P) = A ++ x :: B
  | [], h => by simp [lt] at h
  | (s, y) :: r, h => by
    by_cases hc : (decide (y = a) || inG a w r) = true
    · exact ⟨[], y :: lt r, rfl, by simp only [insB, if_pos hc, lt_cons]; rfl⟩
    · have hy : ¬ y = a := fun e => hc (by simp [e])
      have h' : a ∈ lt r := by
        rw [lt_cons] at h
        exact (List.mem_cons.mp h).resolve_left (Ne.symm hy)
      obtain ⟨A, B, e1, e2⟩ := insB_split w x r h'
      exact ⟨y :: A, B, by rw [lt_cons, e1]; rfl, by simp only [insB, if_neg hc, lt_cons, e2]; rfl⟩
theorem ins_split (q : Rl α) {P : Ch α} (h : q.anchor ∈ lt P) : ∃ A B, lt P = A ++ B ∧ lt (ins q P) = A ++ q.letter :: B := by
  unfold ins
  split
  · exact insA_split _ _ P h
  · exact insB_split _ _ P h
theorem mem_ins {q : Rl α} {P : Ch α} (h : q.anchor ∈ lt P) (y : α) : y ∈ lt (ins q P) ↔ y = q.letter ∨ y ∈ lt P := by
  obtain ⟨A, B, e1, e2⟩ := ins_split q h
  rw [e1, e2]
  simp only [List.mem_append, List.mem_cons]
  constructor
  · rintro (h | h | h)
    · exact .inr (.inl h)
    · exact .inl h
    · exact .inr (.inr h)
  · rintro (h | h | h)
    · exact .inr (.inl h)
    · exact .inl h
    · exact .inr (.inr h)
theorem nodup_ins {q : Rl α} {P : Ch α} (h : q.anchor ∈ lt P) (hn : (lt P).Nodup) (hx : q.letter ∉ lt P) : (lt (ins q P)).Nodup := by
  obtain ⟨A, B, e1, e2⟩ := ins_split q h
  rw [e2]
  rw [e1] at hn hx
  rw [(List.perm_middle (a := q.letter) (l₁ := A) (l₂ := B)).nodup_iff, List.nodup_cons]
  exact ⟨hx, hn⟩

/-! ### what is put in last can be taken out again -/
theorem rm_go_self {w : Int} {x : α} : ∀ {r : Ch α}, x ∉ lt r → rm x (go w x r) = r
  | [], _ => by simp only [go, rm, if_true, bump]
  | (t, z) :: r, h => by
    have hz : ¬ z = x := fun e => h (by rw [lt_cons, e]; exact List.mem_cons_self)
    have hr : x ∉ lt r := fun e => h (by rw [lt_cons]; exact List.mem_cons_of_mem _ e)
    by_cases ht : w < t
    · simp only [go, if_pos ht, rm, if_neg hz, rm_go_self hr]
    · simp only [go, if_neg ht, rm, if_true, bump]
      rw [Int.min_eq_right (show t ≤ w by omega)]
theorem rm_not_mem {x : α} : ∀ {P : Ch α}, x ∉ lt P → rm x P = P
  | [], _ => rfl
  | (s, y) :: r, h => by
    have hz : ¬ y = x := fun e => h (by rw [lt_cons, e]; exact List.mem_cons_self)
    have hr : x ∉ lt r := fun e => h (by rw [lt_cons]; exact List.mem_cons_of_mem _ e)
    simp only [rm, if_neg hz, rm_not_mem hr]
theorem rm_insA_self {a x : α} {w : Int} : ∀ {P : Ch α}, x ∉ lt P → rm x (insA a w x P) = P
  | [], _ => rfl
  | (s, y) :: r, h => by
    have hz : ¬ y = x := fun e => h (by rw [lt_cons, e]; exact List.mem_cons_self)
    have hr : x ∉ lt r := fun e => h (by rw [lt_cons]; exact List.mem_cons_of_mem _ e)
    by_cases hy : y = a
    · simp only [insA, if_pos hy, rm, if_neg hz, rm_go_self hr]
    · simp only [insA, if_neg hy, rm, if_neg hz, rm_insA_self hr]
theorem rm_insB_self {a x : α} {w : Int} : ∀ {P : Ch α}, x ∉ lt P → inG a w P = false → rm x (insB a w x P) = P
  | [], _, _ => rfl
  | (s, y) :: r, h, hP => by
    have hz : ¬ y = x := fun e => h (by rw [lt_cons, e]; exact List.mem_cons_self)
    have hr : x ∉ lt r := fun e => h (by rw [lt_cons]; exact List.mem_cons_of_mem _ e)
    by_cases hc : (decide (y = a) || inG a w r) = true
    · have hs : ¬ w < s := fun q => by
        have e : inG a w ((s, y) :: r) = true := by simp only [inG, decide_eq_true q, Bool.true_and]; exact hc
        rw [e] at hP; cases hP
      simp only [insB, if_pos hc, rm, if_true, bump]
      rw [Int.min_eq_left (show s ≤ w by omega)]
    · have hg : inG a w r = false := by
        cases e : inG a w r with
        | false => rfl
        | true => exact absurd (by rw [e, Bool.or_true]) hc
      simp only [insB, if_neg hc, rm, if_neg hz, rm_insB_self hr hg]
theorem rm_putC_self {q : Rl α} {P : Ch α} (hw : 1 ≤ q.w) (hn : (lt P).Nodup) (h : hd0 P) : rm q.letter (putC q P) = rm q.letter P := by
  unfold putC ins
  split
  · exact rm_insA_self (not_mem_rm hn)
  · exact rm_insB_self (not_mem_rm hn) (inG_hd0 hw (hd0_rm _ h))

/-! ### good chains, good rules -/
structure Good (U : List α) (P : Ch α) : Prop where
  nd : (lt P).Nodup
  hd : hd0 P
  sub : ∀ y ∈ lt P, y ∈ U
structure GoodR (U : List α) (q : Rl α) : Prop where
  w : 1 ≤ q.w
  ne : q.anchor ≠ q.letter
  letter : q.letter ∈ U
theorem Good.put {U : List α} {P : Ch α} {q : Rl α} (g : Good U P) (r : GoodR U q) (ha : q.anchor ∈ lt P) : Good U (putC q P) := by
  have ha' : q.anchor ∈ lt (rm q.letter P) := (mem_rm r.ne P).mpr ha
  refine ⟨nodup_ins ha' (nodup_rm g.nd) (not_mem_rm g.nd), hd0_putC q g.hd, fun y hy => ?_⟩
  rcases (mem_ins ha' y).mp hy with e | e
  · rw [e]; exact r.letter
  · rw [lt_rm] at e
    exact g.sub y (List.mem_of_mem_erase e)

/-! ### dropping a redundant rule -/
/-- the place of the first later rule that moves the letter, if none ahead of it is anchored at it -/
def cov (x : α) : List (Rl α) → Option Nat
  | [] => none
  | q :: qs => if q.letter = x then some 0 else if q.anchor = x then none else (cov x qs).map (· + 1)
theorem led_alike {U : List α} {x : α} : ∀ {qs : List (Rl α)} {P P' D : Ch α}, (∀ q ∈ qs, GoodR U q) → cov x qs ≠ none → Good U P → Good U P' → rm x P = rm x P' → ledC P qs = some D → ledC P' qs = some D
  | [], _, _, _, _, hc, _, _, _, _ => absurd rfl hc
  | q :: qs, P, P', D, hq, hc, g, g', e, h => by
    have r := hq q List.mem_cons_self
    simp only [ledC] at h ⊢
    by_cases ha : q.anchor ∈ lt P
    · rw [if_pos ha] at h
      by_cases hx : q.letter = x
      · have hax : q.anchor ≠ x := fun z => r.ne (z.trans hx.symm)
        have ha' : q.anchor ∈ lt P' := (mem_rm hax P').mp (by rw [← e]; exact (mem_rm hax P).mpr ha)
        rw [if_pos ha']
        have e2 : putC q P' = putC q P := by unfold putC; rw [hx, e]
        rw [e2]; exact h
      · by_cases hax : q.anchor = x
        · simp only [cov, if_neg hx, if_pos hax] at hc
          exact absurd rfl hc
        · have ha' : q.anchor ∈ lt P' := (mem_rm hax P').mp (by rw [← e]; exact (mem_rm hax P).mpr ha)
          rw [if_pos ha']
          have hc' : cov x qs ≠ none := fun z => hc (by simp only [cov, if_neg hx, if_neg hax, z, Option.map_none])
          refine led_alike (fun q hm => hq q (List.mem_cons_of_mem _ hm)) hc' (g.put r ha) (g'.put r ha') ?_ h
          rw [rm_putC r.w (Ne.symm hax) (Ne.symm hx) g.hd, rm_putC r.w (Ne.symm hax) (Ne.symm hx) g'.hd, e]
    · rw [if_neg ha] at h
      cases h
theorem drop_one {U : List α} {r : Rl α} {qs : List (Rl α)} {P D : Ch α} (hr : GoodR U r) (hq : ∀ q ∈ qs, GoodR U q) (hc : cov r.letter qs ≠ none) (g : Good U P) (h : ledC P (r :: qs) = some D) : ledC P qs = some D := by
  simp only [ledC] at h
  by_cases ha : r.anchor ∈ lt P
  · rw [if_pos ha] at h
    exact led_alike hq hc (g.put hr ha) g (rm_putC_self hr.w g.nd g.hd) h
  · rw [if_neg ha] at h
    cases h
theorem drop_at {U : List α} {r : Rl α} {qs : List (Rl α)} (hr : GoodR U r) (hq : ∀ q ∈ qs, GoodR U q) (hc : cov r.letter qs ≠ none) : ∀ {pre : List (Rl α)} {P D : Ch α}, (∀ q ∈ pre, GoodR U q) → Good U P → ledC P (pre ++ r :: qs) = some D → ledC P (pre ++ qs) = some D
  | [], _, _, _, g, h => drop_one hr hq hc g h
  | q :: pre, P, D, hp, g, h => by
    simp only [List.cons_append, ledC] at h ⊢
    by_cases ha : q.anchor ∈ lt P
    · rw [if_pos ha] at h ⊢
      exact drop_at hr hq hc (fun q hm => hp q (List.mem_cons_of_mem _ hm)) (g.put (hp q List.mem_cons_self) ha) h
    · rw [if_neg ha] at h
      cases h
/-- the pruned list -/
def prn : List (Rl α) → List (Rl α)
  | [] => []
  | r :: rs => if cov r.letter (prn rs) = none then r :: prn rs else prn rs
theorem prn_sub : ∀ (rs : List (Rl α)) (q : Rl α), q ∈ prn rs → q ∈ rs
  | [], _, h => h
  | r :: rs, q, h => by
    simp only [prn] at h
    split at h
    · rcases List.mem_cons.mp h with e | e
      · rw [e]; exact List.mem_cons_self
      · exact List.mem_cons_of_mem _ (prn_sub rs q e)
    · exact List.mem_cons_of_mem _ (prn_sub rs q h)
theorem led_prn {U : List α} : ∀ {rs : List (Rl α)} {P D : Ch α}, (∀ q ∈ rs, GoodR U q) → Good U P → ledC P rs = some D → ledC P (prn rs) = some D
  | [], _, _, _, _, h => h
  | r :: rs, P, D, hq, g, h => by
    have hr := hq r List.mem_cons_self
    have hrs : ∀ q ∈ rs, GoodR U q := fun q hm => hq q (List.mem_cons_of_mem _ hm)
    have h1 : ledC P (r :: prn rs) = some D := by
      simp only [ledC] at h ⊢
      by_cases ha : r.anchor ∈ lt P
      · rw [if_pos ha] at h ⊢
        exact led_prn hrs (g.put hr ha) h
      · rw [if_neg ha] at h
        cases h
    simp only [prn]
    split
    · exact h1
    · rename_i hc
      exact drop_one hr (fun q hm => hrs q (prn_sub rs q hm)) hc g h1
theorem led_good {U : List α} : ∀ {rs : List (Rl α)} {P D : Ch α}, (∀ q ∈ rs, GoodR U q) → Good U P → ledC P rs = some D → Good U D
  | [], _, _, _, g, h => by cases h; exact g
  | r :: rs, P, D, hq, g, h => by
    simp only [ledC] at h
    by_cases ha : r.anchor ∈ lt P
    · rw [if_pos ha] at h
      exact led_good (fun q hm => hq q (List.mem_cons_of_mem _ hm)) (g.put (hq r List.mem_cons_self) ha) h
    · rw [if_neg ha] at h
      cases h
end FR
/-! The chains by places: what a slice, an index and a sum of tuples make of an order. -/
namespace FR
variable {α : Type} [DecidableEq α]
theorem lt_len (P : Ch α) : (lt P).length = P.length := List.length_map _
theorem st_len (P : Ch α) : (st P).length = P.length - 1 := by unfold st; rw [List.length_tail, List.length_map]
theorem st_cons (s : Int) (y : α) (r : Ch α) : st ((s, y) :: r) = r.map (·.1) := rfl
/-! ### taking out -/
theorem rm_split {x : α} : ∀ {P : Ch α} {at' : Nat}, (lt P)[at']? = some x → (∀ j, j < at' → (lt P)[j]? ≠ some x) → ∃ A s B, P = A ++ (s, x) :: B ∧ A.length = at' ∧ rm x P = A ++ bump s B
  | [], at', h, _ => by simp [lt] at h
  | (s, y) :: r, 0, h, _ => by
    have e : y = x := by simpa [lt] using h
    subst e
    exact ⟨[], s, r, rfl, rfl, by simp only [rm, if_true, List.nil_append]⟩
  | (s, y) :: r, at' + 1, h, hm => by
    have hy : ¬ y = x := fun e => hm 0 (Nat.zero_lt_succ _) (by simp [lt, e])
    obtain ⟨A, t, B, e1, e2, e3⟩ := rm_split (P := r) (at' := at') (by simpa [lt] using h) (fun j hj => by
      have := hm (j + 1) (by omega)
      simpa [lt] using this)
    exact ⟨(s, y) :: A, t, B, by rw [e1]; rfl, by simp [e2], by simp only [rm, if_neg hy, e3]; rfl⟩
theorem lt_app (A B : Ch α) : lt (A ++ B) = lt A ++ lt B := List.map_append
theorem lt_rm_at {x : α} {P : Ch α} {i : Nat} (h : (lt P)[i]? = some x) (hm : ∀ j, j < i → (lt P)[j]? ≠ some x) : lt (rm x P) = (lt P).take i ++ (lt P).drop (i + 1) := by
  obtain ⟨A, s, B, e1, e2, e3⟩ := rm_split h hm
  have hl : (lt A).length = i := by rw [lt_len, e2]
  rw [e3, e1, lt_app, lt_app, lt_bump, lt_cons, ← hl, List.take_left, ← List.drop_drop, List.drop_left, List.drop_one, List.tail_cons]
theorem st_rm_first {x : α} {P : Ch α} (h : (lt P)[0]? = some x) : st (rm x P) = (st P).drop 1 := by
  cases P with
  | nil => rfl
  | cons p r =>
    obtain ⟨s, y⟩ := p
    have e : y = x := by simpa [lt] using h
    subst e
    have e2 : rm y ((s, y) :: r) = bump s r := by simp only [rm, if_true]
    rw [e2, st_cons]
    cases r with
    | nil => rfl
    | cons q r => rfl
theorem st_rm_last {x : α} {P : Ch α} {i : Nat} (h : (lt P)[i]? = some x) (hm : ∀ j, j < i → (lt P)[j]? ≠ some x) (h0 : i ≠ 0) (hi : i + 1 = (lt P).length) : st (rm x P) = (st P).take (i - 1) := by
  obtain ⟨A, s, B, e1, e2, e3⟩ := rm_split h hm
  have hB : B = [] := by
    rw [e1, lt_len, List.length_append, List.length_cons, e2] at hi
    exact List.length_eq_zero_iff.mp (by omega)
  subst hB
  rw [e3, e1]
  cases A with
  | nil => exact absurd e2.symm h0
  | cons p A =>
    obtain ⟨t, y⟩ := p
    show (((t, y) :: A ++ bump s [] : Ch α).map (fun p : Int × α => p.1)).tail = ((((t, y) :: A ++ [(s, x)] : Ch α).map (fun p : Int × α => p.1)).tail).take (i - 1)
    have e4 : i - 1 = (A.map (fun p : Int × α => p.1)).length := by rw [List.length_map, ← e2, List.length_cons]; omega
    rw [e4]
    simp only [bump, List.append_nil, List.cons_append, List.map_cons, List.tail_cons, List.map_append, List.take_left]
theorem st_rm_mid {x : α} {P : Ch α} {i : Nat} {u v : Int} (h : (lt P)[i]? = some x) (hm : ∀ j, j < i → (lt P)[j]? ≠ some x) (h0 : i ≠ 0) (hi : i + 1 ≠ (lt P).length)
    (hu : (st P)[i - 1]? = some u) (hv : (st P)[i]? = some v) : st (rm x P) = (st P).take (i - 1) ++ min u v :: (st P).drop (i + 1) := by
  obtain ⟨A, s, B, e1, e2, e3⟩ := rm_split h hm
  cases A with
  | nil => exact absurd e2.symm h0
  | cons p A =>
    obtain ⟨t, y⟩ := p
    cases B with
    | nil =>
      rw [e1, lt_len, List.length_append, e2] at hi
      exact absurd rfl hi
    | cons q B =>
      obtain ⟨b, z⟩ := q
      have e4 : i = (A.map (·.1)).length + 1 := by rw [List.length_map, ← e2, List.length_cons]
      have e5 : st P = A.map (·.1) ++ s :: b :: B.map (·.1) := by rw [e1]; simp [st]
      have e6 : st (rm x P) = A.map (·.1) ++ min s b :: B.map (·.1) := by rw [e3]; simp [st, bump]
      rw [e5, e4, Nat.add_sub_cancel] at hu
      rw [e5, e4] at hv
      rw [e6, e5, e4, Nat.add_sub_cancel, List.take_left]
      have eu : s = u := by simpa using hu
      have ev : b = v := by
        rw [List.getElem?_append_right (by omega)] at hv
        simpa using hv
      subst eu ev
      have e7 : (A.map (·.1) ++ s :: b :: B.map (·.1)).drop ((A.map (fun p : Int × α => p.1)).length + 1 + 1) = B.map (·.1) := by
        rw [← List.drop_drop, ← List.drop_drop, List.drop_left]
        rfl
      rw [e7]
/-! ### putting behind -/
theorem go_at {w : Int} {x : α} : ∀ {r : Ch α} {p : Nat}, p ≤ r.length → (∀ k t, k < p → (r.map (·.1))[k]? = some t → w < t) → (p = r.length ∨ ∃ t, (r.map (·.1))[p]? = some t ∧ t ≤ w) → go w x r = r.take p ++ (w, x) :: r.drop p
  | [], p, _, _, _ => by simp [go]
  | (t, z) :: r, 0, _, _, hs => by
    rcases hs with e | ⟨u, e1, e2⟩
    · simp at e
    · have e3 : t = u := by simpa using e1
      have e4 : ¬ w < t := by omega
      simp only [go, if_neg e4, List.take_zero, List.drop_zero, List.nil_append]
  | (t, z) :: r, p + 1, hp, hk, hs => by
    have ht : w < t := hk 0 t (Nat.zero_lt_succ _) (by simp)
    have ih := go_at (w := w) (x := x) (r := r) (p := p) (by simpa using hp) (fun k u h1 h2 => hk (k + 1) u (by omega) (by simpa using h2)) (by
      rcases hs with e | ⟨u, e1, e2⟩
      · exact .inl (by simpa using e)
      · exact .inr ⟨u, by simpa using e1, e2⟩)
    simp only [go, if_pos ht, ih, List.take_succ_cons, List.drop_succ_cons, List.cons_append]
theorem insA_at {a x : α} {w : Int} : ∀ {P : Ch α} {i e : Nat}, (lt P)[i]? = some a → (∀ j, j < i → (lt P)[j]? ≠ some a) → i ≤ e → e < P.length → (∀ k t, i < k → k ≤ e → (P.map (·.1))[k]? = some t → w < t) →
    (e + 1 = P.length ∨ ∃ t, (P.map (·.1))[e + 1]? = some t ∧ t ≤ w) → insA a w x P = P.take (e + 1) ++ (w, x) :: P.drop (e + 1)
  | [], i, e, h, _, _, _, _, _ => by simp [lt] at h
  | (s, y) :: r, 0, e, h, _, _, he, hk, hs => by
    have ey : y = a := by simpa [lt] using h
    have g := go_at (w := w) (x := x) (r := r) (p := e) (by simpa using Nat.le_of_lt_succ he) (fun k t h1 h2 => hk (k + 1) t (by omega) (by omega) (by simpa using h2)) (by
      rcases hs with e | ⟨u, e1, e2⟩
      · exact .inl (by simpa using e)
      · exact .inr ⟨u, by simpa using e1, e2⟩)
    simp only [insA, if_pos ey, g, List.take_succ_cons, List.drop_succ_cons, List.cons_append]
  | (s, y) :: r, i + 1, 0, _, _, hi, _, _, _ => by omega
  | (s, y) :: r, i + 1, e + 1, h, hm, hi, he, hk, hs => by
    have hy : ¬ y = a := fun q => hm 0 (Nat.zero_lt_succ _) (by simp [lt, q])
    have ih := insA_at (a := a) (x := x) (w := w) (P := r) (i := i) (e := e) (by simpa [lt] using h) (fun j hj => by
      have := hm (j + 1) (by omega)
      simpa [lt] using this) (by omega) (by simpa using he) (fun k t h1 h2 h3 => hk (k + 1) t (by omega) (by omega) (by simpa using h3)) (by
      rcases hs with e | ⟨u, e1, e2⟩
      · exact .inl (by simpa using e)
      · exact .inr ⟨u, by simpa using e1, e2⟩)
    simp only [insA, if_neg hy, ih, List.take_succ_cons, List.drop_succ_cons, List.cons_append]
/-- strengths, from the letters' chain -/
theorem st_get (P : Ch α) (k : Nat) : (st P)[k]? = (P.map (·.1))[k + 1]? := by unfold st; rw [List.getElem?_tail]
theorem lt_put (P : Ch α) (p : Nat) (w : Int) (x : α) : lt (P.take p ++ (w, x) :: P.drop p) = (lt P).take p ++ x :: (lt P).drop p := by
  unfold lt
  rw [List.map_append, List.map_cons, List.map_take, List.map_drop]
theorem st_put {P : Ch α} {e : Nat} (he : e < P.length) (w : Int) (x : α) : st (P.take (e + 1) ++ (w, x) :: P.drop (e + 1)) = (st P).take e ++ w :: (st P).drop e := by
  cases P with
  | nil => simp at he
  | cons p r =>
    unfold st
    simp only [List.take_succ_cons, List.drop_succ_cons, List.cons_append, List.map_cons, List.tail_cons, List.map_append, List.map_take, List.map_drop]
/-- put behind, by places of letters and strengths -/
theorem insA_idx {a x : α} {w : Int} {P : Ch α} {i e : Nat} (h : (lt P)[i]? = some a) (hm : ∀ j, j < i → (lt P)[j]? ≠ some a) (hi : i ≤ e) (he : e ≤ (st P).length) (hk : ∀ k t, i ≤ k → k < e → (st P)[k]? = some t → w < t)
    (hs : e = (st P).length ∨ ∃ t, (st P)[e]? = some t ∧ t ≤ w) : lt (insA a w x P) = (lt P).take (e + 1) ++ x :: (lt P).drop (e + 1) ∧ st (insA a w x P) = (st P).take e ++ w :: (st P).drop e := by
  have h0 : i < P.length := by
    have := (List.getElem?_eq_some_iff.mp h).1
    rwa [lt_len] at this
  have hl := st_len P
  have he' : e < P.length := by omega
  have q := insA_at (a := a) (x := x) (w := w) (P := P) (i := i) (e := e) h hm hi he' (fun k t h1 h2 h3 => hk (k - 1) t (by omega) (by omega) (by rw [st_get, Nat.sub_add_cancel (by omega)]; exact h3)) (by
    rcases hs with e1 | ⟨u, e1, e2⟩
    · exact .inl (by omega)
    · exact .inr ⟨u, by rw [← st_get]; exact e1, e2⟩)
  rw [q]
  exact ⟨lt_put P _ w x, st_put he' w x⟩
/-! ### putting in front -/
theorem inG_yes {a : α} {w : Int} : ∀ {r : Ch α} {m : Nat}, (lt r)[m]? = some a → (∀ k t, k ≤ m → (r.map (·.1))[k]? = some t → w < t) → inG a w r = true
  | [], m, h, _ => by simp [lt] at h
  | (t, z) :: r, 0, h, hk => by
    have ez : z = a := by simpa [lt] using h
    have ht : w < t := hk 0 t (Nat.le_refl _) (by simp)
    simp [inG, ez, ht]
  | (t, z) :: r, m + 1, h, hk => by
    have ht : w < t := hk 0 t (Nat.zero_le _) (by simp)
    have ih := inG_yes (a := a) (w := w) (r := r) (m := m) (by simpa [lt] using h) (fun k u h1 h2 => hk (k + 1) u (by omega) (by simpa using h2))
    simp [inG, ht, ih]
theorem inG_no {a : α} {w : Int} : ∀ {r : Ch α} {m : Nat} {t : Int}, (r.map (·.1))[m]? = some t → t ≤ w → (∀ j, j < m → (lt r)[j]? ≠ some a) → inG a w r = false
  | [], m, t, h, _, _ => by simp at h
  | (u, z) :: r, 0, t, h, ht, _ => by
    have e : u = t := by simpa using h
    have e2 : ¬ w < u := by omega
    simp [inG, e2]
  | (u, z) :: r, m + 1, t, h, ht, hm => by
    have hz : ¬ z = a := fun q => hm 0 (Nat.zero_lt_succ _) (by simp [lt, q])
    have ih := inG_no (a := a) (w := w) (r := r) (m := m) (t := t) (by simpa using h) ht (fun j hj => by
      have := hm (j + 1) (by omega)
      simpa [lt] using this)
    simp [inG, hz, ih]
theorem insB_at {a x : α} {w : Int} : ∀ {P : Ch α} {i e : Nat}, (lt P)[i]? = some a → (∀ j, j < i → (lt P)[j]? ≠ some a) → e ≤ i → (∀ k t, e < k → k ≤ i → (P.map (·.1))[k]? = some t → w < t) →
    (e = 0 ∨ ∃ t, (P.map (·.1))[e]? = some t ∧ t ≤ w) → lt (insB a w x P) = (lt P).take e ++ x :: (lt P).drop e ∧ (insB a w x P).map (·.1) = (P.map (·.1)).take (e + 1) ++ w :: (P.map (·.1)).drop (e + 1)
  | [], i, e, h, _, _, _, _ => by simp [lt] at h
  | (s, y) :: r, i, 0, h, hm, _, hk, _ => by
    have hc : (decide (y = a) || inG a w r) = true := by
      cases i with
      | zero =>
        have ey : y = a := by simpa [lt] using h
        simp [ey]
      | succ i =>
        rw [inG_yes (a := a) (w := w) (r := r) (m := i) (by simpa [lt] using h) (fun k u h1 h2 => hk (k + 1) u (by omega) (by omega) (by simpa using h2)), Bool.or_true]
    simp only [insB, if_pos hc]
    exact ⟨rfl, rfl⟩
  | (s, y) :: r, 0, e + 1, _, _, hi, _, _ => by omega
  | (s, y) :: r, i + 1, e + 1, h, hm, hi, hk, hs => by
    have hy : ¬ y = a := fun q => hm 0 (Nat.zero_lt_succ _) (by simp [lt, q])
    have hs' : ∃ t, (r.map (·.1))[e]? = some t ∧ t ≤ w := by
      rcases hs with e1 | ⟨u, e1, e2⟩
      · exact absurd e1 (Nat.succ_ne_zero _)
      · exact ⟨u, by simpa using e1, e2⟩
    have hm' : ∀ j, j < i → (lt r)[j]? ≠ some a := fun j hj => by
      have := hm (j + 1) (by omega)
      simpa [lt] using this
    obtain ⟨t, e1, e2⟩ := hs'
    have hg : inG a w r = false := inG_no e1 e2 fun j hj => hm' j (by omega)
    have hc : ¬ (decide (y = a) || inG a w r) = true := by simp [hy, hg]
    obtain ⟨q1, q2⟩ := insB_at (a := a) (x := x) (w := w) (P := r) (i := i) (e := e) (by simpa [lt] using h) hm' (by omega) (fun k u h1 h2 h3 => hk (k + 1) u (by omega) (by omega) (by simpa using h3)) (.inr ⟨t, e1, e2⟩)
    simp only [insB, if_neg hc]
    refine ⟨?_, ?_⟩
    · rw [lt_cons, q1]; rfl
    · show s :: (insB a w x r).map (·.1) = _
      rw [q2]; rfl
theorem insB_idx {a x : α} {w : Int} {P : Ch α} {i e : Nat} (h : (lt P)[i]? = some a) (hm : ∀ j, j < i → (lt P)[j]? ≠ some a) (hi : e ≤ i) (hk : ∀ k t, e ≤ k → k < i → (st P)[k]? = some t → w < t)
    (hs : e = 0 ∨ ∃ t, (st P)[e - 1]? = some t ∧ t ≤ w) : lt (insB a w x P) = (lt P).take e ++ x :: (lt P).drop e ∧ st (insB a w x P) = (st P).take e ++ w :: (st P).drop e := by
  have h0 : i < P.length := by
    have := (List.getElem?_eq_some_iff.mp h).1
    rwa [lt_len] at this
  obtain ⟨q1, q2⟩ := insB_at (a := a) (x := x) (w := w) (P := P) (i := i) (e := e) h hm hi (fun k t h1 h2 h3 => hk (k - 1) t (by omega) (by omega) (by rw [st_get, Nat.sub_add_cancel (by omega)]; exact h3)) (by
    by_cases e0 : e = 0
    · exact .inl e0
    · rcases hs with e1 | ⟨u, e1, e2⟩
      · exact absurd e1 e0
      · exact .inr ⟨u, by rw [st_get, Nat.sub_add_cancel (by omega)] at e1; exact e1, e2⟩)
  refine ⟨q1, ?_⟩
  unfold st
  rw [q2]
  cases P with
  | nil => simp at h0
  | cons p r => simp
end FR
/-! Rules over the hand layer that it has not: t[::-1] of a tuple, enumerate(tuple), min(tuple of ints), tuple.count of a text. -/
namespace FrR
open PySem PySem.Spec PyProof.Rows L2

/-! ### t[::-1] of a tuple -/
section
variable {prog : Program} {w : World} {A : Around} {E : Value → Shared → Prop} {s : Shared}
theorem adjust_back (n : Nat) : Builtin.Slice.sliceAdjust none none (-1) (n : Int) = ((n : Int) - 1, -1) := by
  unfold Builtin.Slice.sliceAdjust
  simp
theorem places_back (n : Nat) : Builtin.Slice.slicePlaces ((n : Int) - 1) (-1) (-1) = n := by
  unfold Builtin.Slice.slicePlaces
  have h1 : ¬ ((-1 : Int) > 0) := by omega
  rw [if_neg h1]
  by_cases h : (n : Int) - 1 > -1
  · rw [if_pos h]
    have e : (-(-1) : Int) = 1 := rfl
    rw [e, Int.ediv_one]
    omega
  · rw [if_neg h]
    omega
theorem fm_congr {α β : Type} {f g : α → Option β} : ∀ {l : List α}, (∀ m ∈ l, f m = g m) → l.filterMap f = l.filterMap g
  | [], _ => rfl
  | a :: l, h => by
    have e := h a List.mem_cons_self
    have ih := fm_congr (l := l) fun m hm => h m (List.mem_cons_of_mem _ hm)
    rw [List.filterMap_cons, List.filterMap_cons, e, ih]
theorem pick_back (xs : Array Value) : ((List.range xs.size).filterMap fun (m : Nat) => xs[(((xs.size : Int) - 1) + (m : Int) * (-1)).toNat]?).toArray = xs.toList.reverse.toArray := by
  congr 1
  apply List.ext_getElem?
  intro i
  have e : (List.range xs.size).filterMap (fun (m : Nat) => xs[(((xs.size : Int) - 1) + (m : Int) * (-1)).toNat]?) = (List.range xs.size).map (fun m => xs.getD (xs.size - 1 - m) .none) := by
    rw [← List.filterMap_eq_map]
    apply fm_congr
    intro m hm
    have hm' : m < xs.size := List.mem_range.mp hm
    have e1 : (((xs.size : Int) - 1) + (m : Int) * (-1)).toNat = xs.size - 1 - m := by omega
    rw [e1]
    have h2 : xs.size - 1 - m < xs.size := by omega
    simp [Array.getD, h2]
  rw [e]
  by_cases hi : i < xs.size
  · have h2 : xs.size - 1 - i < xs.size := by omega
    rw [List.getElem?_map, List.getElem?_range hi, List.getElem?_reverse (by simpa using hi)]
    simp [Array.getD, h2]
  · rw [List.getElem?_eq_none (by simp; omega), List.getElem?_eq_none (by simp; omega)]
theorem sliceApplied_back {sl : Addr} {t : Tok} {n : Nat} {Q : Int × Int × Nat → Shared → Prop} (hs : s.heap.IsSliceOf sl .none .none (.int (-1) t))
    (h : Q (((n : Int) - 1), -1, n) s) : wpAny (model prog w) A (Builtin.Slice.sliceApplied (.ref sl) (pure (n : Int))) Q E s := by
  obtain ⟨os, hos, hcs, hds⟩ := id hs
  unfold Builtin.Slice.sliceApplied Builtin.Slice.sliceFields
  refine wpAny_bind (wpAny_bind (wpAny_field hos hds (x := .none) rfl (wpAny_bind (wpAny_field hos hds (x := .none) rfl (wpAny_bind (wpAny_field hos hds (x := .int (-1) t) rfl (wpAny_pure ?_)))))))
  refine wpAny_bind (slicePart_int ?_)
  show wpAny _ _ (if ((-1 : Int) == 0) = true then _ else _) _ _ s
  rw [if_neg (by decide)]
  refine wpAny_bind (slicePart_none (wpAny_bind (slicePart_none (wpAny_bind (wpAny_pure ?_)))))
  show wpAny _ _ (match Builtin.Slice.sliceAdjust none none (-1) (n : Int) with | (lo, hi) => pure (lo, (-1 : Int), Builtin.Slice.slicePlaces lo hi (-1))) _ _ s
  rw [adjust_back n]
  show wpAny _ _ (pure ((n : Int) - 1, (-1 : Int), Builtin.Slice.slicePlaces ((n : Int) - 1) (-1) (-1))) _ _ s
  rw [places_back]
  exact wpAny_pure h
theorem getItem_tuple_back {t sl : Addr} {items : Array Value} {tk : Tok} {Q : Value → Shared → Prop} (ht : IsTup s.heap t items) (hs : s.heap.IsSliceOf sl .none .none (.int (-1) tk))
    (h : Q (.ref s.heap.objs.size) { s with heap := s.heap.push { cls := .type "tuple", data := .seq items.toList.reverse.toArray } })
    (hsz : items.size ≤ sizeLine) : wpAny (model prog w) A (getItem (.ref t) (.ref sl)) Q E s := by
  have htake : sizeOk (.seq items.toList.reverse.toArray) := by
    show items.toList.reverse.toArray.size ≤ sizeLine
    rw [List.size_toArray, List.length_reverse, Array.length_toList]
    exact hsz
  obtain ⟨os, hos, hcs, hds⟩ := id hs
  have hTs : s.TypeIs (.ref sl) "slice" := ⟨os, hos, hcs⟩
  unfold getItem
  try with_reducible refine wpAny_holding ?_
  first | refine wpAny_bind (wpAny_pure ?_) | skip
  refine wpAny_bind (wpAny_sequenceKey ht.typeIs (by decide) ?_)
  refine wpAny_bind (wpAny_callSpecial?_slot (name := Str.ofString "__getitem__") ht.typeIs PyProof.Rows.slot_tuple_getitem
    (wpAny_call_entry PyProof.Rows.slot_tuple_getitem ht.typeIs entry_tuple_getitem ?_ (args_tuple_getitem _ _)))
  show wpAny _ _ (Builtin.Tuple.tupleItemsOf (.ref t) >>= _) _ _ s
  refine wpAny_bind (tupleItemsOf_ ht ?_)
  refine wpAny_bind (wpAny_typeOf hTs ?_)
  rw [if_pos (by decide)]
  refine wpAny_bind (sliceApplied_back hs ?_)
  have hno : ¬ (((((items.size : Nat) : Int) - 1) == 0 && (-1 : Int) == 1 && items.size == items.size) = true) := by
    intro q
    rw [Bool.and_eq_true, Bool.and_eq_true] at q
    have q1 : (-1 : Int) = 1 := eq_of_beq q.1.2
    omega
  show wpAny _ _ (if ((((items.size : Nat) : Int) - 1) == 0 && (-1 : Int) == 1 && items.size == items.size) = true then _ else _) _ _ s
  rw [if_neg hno, pick_back]
  first
    | exact wpAny_bind (m := Builtin.Tuple.tupleExact _) (wpAny_newObj_type (wpAny_pure ⟨_, rfl, wpAny_pure h⟩) htake)
    | exact wpAny_bind (m := Builtin.Tuple.tupleExact _) (wpAny_newObj_type (wpAny_bind (wpAny_pure (wpAny_pure ⟨_, rfl, wpAny_pure h⟩))) htake)
    | exact wpAny_bind (wpAny_bind (m := Builtin.Tuple.tupleExact _) (wpAny_newObj_type (wpAny_pure (wpAny_pure ⟨_, rfl, wpAny_pure h⟩)) htake))
    | exact wpAny_bind (wpAny_bind (m := Builtin.Tuple.tupleExact _) (wpAny_newObj_type (wpAny_pure ⟨_, rfl, wpAny_pure h⟩) htake))
end

/-! ### tuples that are known to bear no dict of their own: made, cut, joined, turned, asked by their methods -/
theorem same_upd {H : Hp} {p : Addr} {o : HO} (h : H p = none) : Same H (upd H p o) := fun b x e => by
  rw [upd_ne (ne_of_none e h)]
  exact e
/-- the tuple at a -/
def Tp (H : Hp) (a : Addr) (xs : List V) : Prop := ∃ o : Obj, H a = some (.frz o (.tup xs)) ∧ o.cls = .type "tuple" ∧ o.dict = none
theorem Tp.same {H H' : Hp} {a : Addr} {xs : List V} (e : Same H H') (h : Tp H a xs) : Tp H' a xs := by
  obtain ⟨o, h1, h2⟩ := h
  exact ⟨o, e _ _ h1, h2⟩
theorem Tp.seq {K : PySem.W.Frag} {H : Hp} {a : Addr} {xs : List V} (h : Tp H a xs) : SqT K H a xs := by
  obtain ⟨o, h1, _⟩ := h
  exact .inl (.inr ⟨o, h1⟩)
theorem Tp.ty {K : PySem.W.Frag} {H : Hp} {a : Addr} {xs : List V} (h : Tp H a xs) : TyX K H (.ref a) (.type "tuple") := by
  obtain ⟨o, h1, _⟩ := h
  exact .fTuple h1
abbrev tupO (its : List Value) : Obj := { cls := .type "tuple", data := .seq its.toArray }
/-- what follows a new tuple of these, or an old one -/
abbrev Gives (xs : List V) (Q : VK) (H : Hp) : Prop := ∀ p H', Same H H' → Tp H' p xs → Q (.ref p) H'
section
variable {X : Cx} {pins : List (Addr × Obj)} {σ : L2.St} {H : Hp} {s : Shared}
theorem tup_made {xs : List V} {its : List Value} {Q : VK} (I : Inv X pins σ H s) (r : Vals xs its) (z : xs.length ≤ sizeLine) (q : Gives xs Q H) : EP X pins σ Q (.ref s.heap.objs.size) { s with heap := s.heap.push (tupO its) } := by
  refine ⟨.ref s.heap.objs.size, upd H s.heap.objs.size (.frz (tupO its) (.tup xs)), I.laid (t' := s.toks) (fun b u e => Heap.get?_push_of_some _ e) (Nat.le_refl _) ?_, rfl, q _ _ (same_upd (I.hok.fresh (Nat.le_refl _))) ⟨_, upd_same, rfl, rfl⟩⟩
  exact ⟨Heap.get?_push_size _ rfl, z, its, r, ⟨_, Heap.get?_push_size _ rfl, rfl, _, rfl⟩⟩
end
section
variable {X : Cx} {pos : Pos} {es : List Expr} {t : TA}
def tTupF (t : TA) : TE := fun σ H Q => t σ H fun xs H1 => xs.length ≤ sizeLine ∧ Gives xs Q H1
theorem pe_tupF {x1} (h : PA X es t) : PE X (.Tuple es x1 pos) (tTupF t) := by
  refine ⟨fun pins s σ H Q I hq => ?_⟩
  refine wpAny_Tuple_spliced (thn (h.run pos pins s σ H _ I hq) fun us s1 ⟨xs, H1, I1, r, z, q⟩ => ⟨by rw [← r.length]; exact z, ?_⟩)
  exact tup_made I1 r z q
/-- tuple(l), l a list -/
def rTupF (K : PySem.W.Frag) : List V → Hp → VK → Prop := fun xs H Q => ∃ p ys, xs = [.ref p] ∧ SqL K H p ys ∧ Gives ys Q H
theorem call_tupleF : CallR X (.type "tuple") (rTupF X.K) := by
  intro pins s σ H xs us Q I r h
  obtain ⟨p, ys, rfl, hq, q⟩ := h
  obtain ⟨u, rfl, rx⟩ := vals1 r
  cases rx
  obtain ⟨its, r', pl, hz⟩ := I.list hq
  have hlen := r'.length
  refine call_tuple_list pl.isList (fun h' kp => ?_) (by simp only [List.size_toArray] <;> omega)
  have I1 : Inv X pins σ H { s with heap := h' } := I.kept (t' := s.toks) kp
  exact tup_made I1 r' hz q
/-- t[lo:hi] -/
def rSlF : V → Option Int → Option Int → Hp → VK → Prop := fun x lo hi H Q => ∃ a xs, x = .ref a ∧ Tp H a xs ∧ Gives (cutV xs lo hi) Q H
theorem cut_whole {xs : List V} {lo hi : Option Int} (h : HT.sIx xs.length 0 lo = 0 ∧ HT.sIx xs.length xs.length hi = xs.length) : cutV xs lo hi = xs := by
  unfold cutV
  rw [h.1, h.2, List.drop_zero, Nat.sub_zero, List.take_length]
theorem sl_tupF : SlR X rSlF := by
  intro pins s σ H x v vl vu lo hi sl Q I rx hs pl pu h
  obtain ⟨a, xs, rfl, hx, q⟩ := h
  cases rx
  obtain ⟨its, r, ht, hz⟩ := I.tuple (Tp.seq hx)
  have hlen : its.toArray.size = xs.length := by rw [List.size_toArray]; exact r.length.symm
  refine ⟨"tuple", _, PyProof.Rows.slot_tuple_getitem.lookup, ht.typeIs, ?_⟩
  by_cases hw : HT.sIx xs.length 0 lo = 0 ∧ HT.sIx xs.length xs.length hi = xs.length
  · rw [cut_whole hw] at q
    exact getItem_tuple_whole ht hs pl pu (by rw [hlen]; exact hw) ⟨.ref a, H, I, rfl, q a H (Same.refl H) hx⟩
  · refine HT.getItem_tuple_cut ht hs pl pu (by rw [hlen]; exact hw) ?_ (by rw [hlen]; exact hz)
    rw [hlen]
    exact tup_made I ((r.drop (HT.sIx xs.length 0 lo)).take (HT.sIx xs.length xs.length hi - HT.sIx xs.length 0 lo)) (Nat.le_trans (cutV_length xs lo hi) hz) q
/-- t + u -/
def rCatF : R2 := fun x y H Q => ∃ a b xs ys, x = .ref a ∧ y = .ref b ∧ Tp H a xs ∧ Tp H b ys ∧ xs.length + ys.length ≤ sizeLine ∧ Gives (xs ++ ys) Q H
theorem op_catF : OpR X (binaryOp .Add) rCatF := by
  intro pins s σ H x y v u Q I rx ry h
  obtain ⟨a, b, xs, ys, rfl, rfl, ha, hb, hz, q⟩ := h
  cases rx
  cases ry
  obtain ⟨its, r1, p1, _⟩ := I.tuple (Tp.seq ha)
  obtain ⟨its2, r2, p2, _⟩ := I.tuple (Tp.seq hb)
  by_cases hx : xs = []
  · subst hx
    cases r1
    exact cat_tup0 p1 p2 ⟨.ref b, H, I, rfl, q b H (Same.refl H) hb⟩
  · have nil_of : ∀ {zs : List V} {ws : List Value}, Vals zs ws → (zs = [] ↔ ws = []) := fun {zs ws} r => by
      cases r with
      | nil => simp
      | cons _ _ => simp
    refine HT.cat_tup p1 p2 (fun z => hx ((nil_of r1).mpr z)) (fun z => ?_) (fun z => ?_) (by rw [← r1.length, ← r2.length]; exact hz)
    · have e : ys = [] := (nil_of r2).mpr z
      subst e
      rw [List.append_nil] at q
      exact ⟨.ref a, H, I, rfl, q a H (Same.refl H) ha⟩
    · exact tup_made I (r1.append r2) (by rw [List.length_append]; exact hz) q
end
/-- t[::-1] -/
def tRevF (te : TE) : TE := fun σ H Q => te σ H fun x H1 => ∃ a xs, x = .ref a ∧ Tp H1 a xs ∧ Gives xs.reverse Q H1
theorem pe_revF {X : Cx} {e : Expr} {te : TE} {k : Nat} {p1 p2 p3 pos : Pos} (he : PE X e te) : PE X (.Subscript e (.Slice none none (some (.UnaryOp .USub (.Constant (.int 1) k p1) p2)) p3) pos) (tRevF te) := by
  refine ⟨fun pins s σ H Q I h => ?_⟩
  refine Subscript_ (thn (he.run pins s σ H _ I h) fun v s1 ⟨x, H1, I1, r1, q1⟩ => ?_)
  obtain ⟨a, xs, ex, hx, q⟩ := q1
  subst ex
  cases r1
  have hst : PO X (some (.UnaryOp .USub (.Constant (.int 1) k p1) p2)) (tPart (tUn (rU fun i => .int (-i)) (tC (.int 1)))) := po_some (pe_un un_neg pe_int)
  refine wpAny_Slice (thn (po_none.run pins s1 σ H1 (fun o H2 => o = none ∧ H2 = H1) I1 ⟨rfl, rfl⟩) fun vl s2 ⟨l, H2, I2, pl, el, e2⟩ => ?_)
  subst el e2
  refine thn (po_none.run pins s2 σ H2 (fun o H3 => o = none ∧ H3 = H2) I2 ⟨rfl, rfl⟩) fun vu s3 ⟨u, H3, I3, pu, eu, e3⟩ => ?_
  subst eu e3
  refine thn (hst.run pins s3 σ H3 (fun o H4 => o = some (-1) ∧ H4 = H3) I3 ⟨1, rfl, -1, rfl, rfl, rfl⟩) fun vs s4 ⟨o, H4, I4, ps, eo, e4⟩ => ?_
  subst eo e4
  cases pl
  cases pu
  cases ps with
  | int _ t =>
  have I5 : Inv X pins σ H4 { s4 with heap := s4.heap.push { cls := .type "slice", data := .fields #[.none, .none, .int (-1) t] } } := I4.kept (t' := s4.toks) fun b ob q => Heap.get?_push_of_some _ q
  obtain ⟨its, r, ht, hz⟩ := I5.tuple (Tp.seq hx)
  have hlen := r.length
  show wpAny (model X.prog X.w) X.A (subscriptTail e (.Slice none none (some (.UnaryOp .USub (.Constant (.int 1) k p1) p2)) p3) (.ref a) (.ref s4.heap.objs.size)) (EP X pins σ Q) X.xe { s4 with heap := s4.heap.push { cls := .type "slice", data := .fields #[.none, .none, .int (-1) t] } }
  refine tail_any (ops := [.ref a, .ref s4.heap.objs.size]) ht.typeIs (PyProof.Rows.slot_tuple_getitem.lookup) ?_ (by with_unfolding_all rfl)
  refine getItem_tuple_back ht (Heap.IsSliceOf.new _ .none .none (.int (-1) t)) ?_ (by rw [List.size_toArray]; omega)
  exact tup_made I5 r.reverse (by rw [List.length_reverse]; exact hz) q
/-! ### a method of a tuple -/
section
variable {X : Cx} {o e : Expr} {es : List Expr} {to : TE} {t : TA} {name : Str} {apos cpos : Pos} {id : String} {r : V → List V → Hp → VK → Prop}
def tBMT (r : V → List V → Hp → VK → Prop) (to : TE) (t : TA) : TE := fun σ H Q => to σ H fun x H1 => (∃ a xs, x = .ref a ∧ Tp H1 a xs) ∧ t σ H1 fun xs H2 => r x xs H2 Q
theorem pe_bmT (slot : Slot "tuple" name id) (hty : typeOf (.builtin id) = pure (.type "method_descriptor")) (hm : MtR X id r) (ho : PE X o to) (ha : PA X (e :: es) t)
    (hbase : attributeBase o name X.env (eval o X.env) = eval o X.env := by rfl)
    (hfew : ((backTo cpos (starEach (e :: es) X.env)).all (fun x => !x.1) && (backToKw cpos (keywordEach [] X.env)).all (fun x => x.1.isSome)
      && decide ((e :: es).length + ([] : List Keyword).length + (if ([] : List Keyword).isEmpty then 0 else 1) < 30)) = true := by rfl)
    (hline : (apos.endLine == cpos.line) = true := by rfl) (hs : starEach (e :: es) X.env = (false, eval e X.env) :: starEach es X.env := by rfl) (hplain : (backTo cpos (starEach es X.env)).any (·.1) = false := by rfl) :
    PE X (.Call (.Attribute o name apos) (e :: es) [] cpos) (tBMT r to t) := by
  refine ⟨fun pins s σ H Q I h => ?_⟩
  refine wpAny_Call_method_late hbase hfew hline rfl (thn (ho.run pins s σ H _ I h) fun v s1 ⟨x, H1, I1, r1, ⟨a, xs, ex, ob, hob, hc, hd⟩, q1⟩ => ?_)
  subst ex
  cases r1
  obtain ⟨hg, _⟩ := I1.hok a _ hob
  refine ⟨"tuple", id, PySem.F.plainAttrs_tuple, slot, hty, ⟨ob, hg, hc⟩, fun a' e' => ?_, ?_⟩
  · cases e'
    exact ⟨ob, hg, hd⟩
  have hA := ha.run cpos pins s1 σ H1 _ I1 q1
  rw [hs] at hA ⊢
  refine Calls.callWith_builtin (by show (false || (backTo cpos (starEach es X.env)).any (·.1)) = false; rw [hplain] <;> rfl) (Calls.evalArgs_plain ?_)
  exact thn hA fun us s2 ⟨vs, H2, I2, r2, q2⟩ => hm pins s2 σ H2 (.ref a) vs (.ref a) us Q I2 rfl r2 q2
/-- t.index(x), texts: the first place -/
def rTI (K : PySem.W.Frag) : V → List V → Hp → VK → Prop := fun x xs H Q => ∃ p, ∃ ys : List Str, ∃ z j, x = .ref p ∧ xs = [.str z] ∧ SqT K H p (ys.map V.str) ∧ ys[j]? = some z ∧ (∀ m, m < j → ys[m]? ≠ some z) ∧ Q (.int (j : Nat)) H
theorem mt_tup_idx : MtR X "tuple.index" (rTI X.K) := mt_tup_index
end

/-! ### enumerate(tuple) -/
section
open AutoSeq1 (wpAny_loadPart')
theorem meets_enumerate_newB1 {v : Value} {o : Obj} {H : Heap → Prop} (B : Begins v o H) :
    Meets (Builtin.«enumerate.__new__» ⟨[.type "enumerate", v], []⟩) (fun _ R s => H s.heap ∧
      R (.ok (.ret (.ref (s.heap.push o).objs.size))) { s with heap := (s.heap.push o).push { cls := .type "enumerate", data := .fields #[.none, .bool false, .ref s.heap.objs.size, rawInt 0, .none, .none] } }) :=
  .of_wp fun prog w A R s h => by
    obtain ⟨hp, g, d, tk, os⟩ := s; obtain ⟨h1, h⟩ := h
    have hsub := sub_enumerate
    have q1 : ∀ {A' : Around} {E : Value → Shared → Prop} {Q : Value → Shared → Prop}, Q (.ref hp.objs.size) ⟨hp.push o, g, d, tk, os⟩ → wpAny (model prog w) A' (pyIter v) Q E ⟨hp, g, d, tk, os⟩ :=
      fun q => B.iter prog w _ _ ⟨hp, g, d, tk, os⟩ _ h1 q
    wp_walk using q1
    refine wpAny_stack_any fun st => wpAny_pure ?_
    split
    · rename_i c _ _ _ _ _
      cases (c == Value.type "enumerate")
      · wp_walk using q1
        exact ⟨_, rfl, h⟩
      · wp_walk using q1
        exact ⟨_, rfl, h⟩
    · wp_walk using q1
      exact ⟨_, rfl, h⟩
variable {prog : Program} {w : World} {A : Around} {E : Value → Shared → Prop} {s : Shared}
theorem enum_begins1 {v : Value} {o : Obj} {H : Heap → Prop} {Q : Value → Shared → Prop} (B : Begins v o H) (h1 : H s.heap)
    (h : ∀ h', IsEnum h' (s.heap.objs.size + 1) s.heap.objs.size 0 .none → h'.get? s.heap.objs.size = some o → h'.objs.size = s.heap.objs.size + 2 →
      (∀ b o, s.heap.get? b = some o → h'.get? b = some o) → Q (.ref (s.heap.objs.size + 1)) { s with heap := h' }) :
    wpAny (model prog w) A (call (.type "enumerate") [v]) Q E s := by
  refine callType_new F.called_enumerate (by decide) (F.typeCall_enumerate_1 _) (F.newCall_enumerate_1 _) (fun obj => F.args_object_init_2 obj _) F.entry_enumerate_new
    (meets_enumerate_newB1 B) ⟨h1, ?_⟩
  have hz : (s.heap.push o).objs.size = s.heap.objs.size + 1 := Heap.size_push ..
  show _ ∧ _
  rw [hz]
  have he : IsEnum ((s.heap.push o).push { cls := .type "enumerate", data := .fields #[.none, .bool false, .ref s.heap.objs.size, rawInt 0, .none, .none] }) (s.heap.objs.size + 1) s.heap.objs.size 0 .none := by
    have := Heap.get?_push_size (s.heap.push o) (o := { cls := .type "enumerate", data := .fields #[.none, .bool false, .ref s.heap.objs.size, rawInt 0, .none, .none] }) rfl
    rw [hz] at this; exact this
  refine ⟨⟨_, he, rfl⟩, h _ he (Heap.get?_push_of_some _ (Heap.get?_push_size _ B.free)) (by rw [Heap.size_push, hz]) fun b o x => Heap.get?_push_of_some _ (Heap.get?_push_of_some _ x)⟩
end
/-- the tuple at a, each item in a new pair -/
def IteT (K : PySem.W.Frag) (a : Addr) (n : Nat) : It :=
  ⟨fun i H => ∃ (xs : List V) (x : V), SqT K H a xs ∧ xs.length = n ∧ xs[i]? = some x, fun i H v H' => ∃ T x, v = .ref T ∧ H T = none ∧ H' = upd H T (.tup [.int (i : Nat), x]) ∧ ∀ xs, SqT K H a xs → xs[i]? = some x, fun i H => ∃ xs : List V, SqT K H a xs ∧ xs.length = n ∧ n ≤ i⟩
theorem turn_enumT {P : Program} {w : World} {K : PySem.W.Frag} {elts : List Expr} {kk : Nat} {tpos : Pos} (a e it : Addr) (n : Nat) (hne : e ≠ it) (hai : a ≠ it) (hae : a ≠ e) :
    Turn P w K (.Tuple elts kk tpos) (IteT K a n) [e, it] e (fun i h => (∃ old, IsEnum h e it ((i : Nat) : Int) old) ∧ h.IsTupleIter it a i ∧ i ≤ n) where
  mem := by simp
  obj := fun i h st b hb => by
    obtain ⟨⟨old, he⟩, ⟨o, ho, hc, hd⟩, _⟩ := st
    have e' : b = e ∨ b = it := by simpa using hb
    rcases e' with z | z
    · rw [z]; exact ⟨_, he, fun v q => nomatch q⟩
    · rw [z]; exact ⟨o, ho, fun v q => by rw [hd] at q; cases q⟩
  keep := fun i h h' st k => let ⟨⟨old, he⟩, hi, hn⟩ := st; ⟨⟨old, k e (by simp) _ he⟩, hi.at fun o q => k it (by simp) o q, hn⟩
  item := by
    intro X hP hw hK hc i pins s σ H E I hf st hg
    subst hP hw hK
    obtain ⟨⟨old, he⟩, hit, hn⟩ := st
    obtain ⟨xs, x, hq, hxn, hx⟩ := hg
    obtain ⟨its, rv, p, hz⟩ := I.tuple hq
    obtain ⟨u, hu, ru⟩ := rv.get hx
    have hel : e < s.heap.objs.size := Heap.lt_size he
    have hil : it < s.heap.objs.size := by obtain ⟨_, q, _⟩ := hit; exact Heap.lt_size q
    have D := Draws.tuple (prog := X.prog) (w := X.w) (A := X.A.in1) (I.ok.hd hc) it a hai its.toArray
    have hlt : i < its.toArray.size := by
      have h1 := (List.getElem?_eq_some_iff.mp hu).1
      simpa using h1
    refine wpAny_pyNext_enum_itemD D he ⟨hit, p⟩ hlt hne (by simp only [List.mem_cons, List.not_mem_nil, or_false, not_or]; exact ⟨hne, Ne.symm hae⟩) fun y h' tk hP ho st' hT hsz hk => ?_
    have hy : y = u := by
      have h1 : its.toArray[i]? = some y := hP
      have h2 : its.toArray[i]? = some u := by simpa using hu
      rw [h2] at h1
      exact (Option.some.inj h1).symm
    subst hy
    refine ⟨_, rfl, wpAny_letOwnedTupleGo_enum (s := { s with heap := h', toks := tk + 1 }) ho fun h'' he' sb => ?_⟩
    have hT2 : h''.get? s.heap.objs.size = some { cls := .type "tuple", data := .seq #[.int i tk, y] } := (sb.2 _ (Nat.ne_of_gt hel)).trans hT
    have new : ObjOk X.prog X.w (upd H s.heap.objs.size (.tup [.int (i : Nat), x])) h'' s.heap.objs.size (.tup [.int (i : Nat), x]) :=
      ⟨by show 2 ≤ sizeLine; decide, [.int i tk, y], .cons ⟨_, rfl⟩ (.cons ru .nil), ⟨_, hT2, rfl, _, rfl⟩⟩
    have I1 : Inv X pins σ (upd H s.heap.objs.size (.tup [.int (i : Nat), x])) { s with heap := h'', toks := tk + 1 } :=
      I.turnedNew (ch := [e, it]) (fun b ob hb q => (sb.2 b (fun z => hb (by simp [z]))).trans (hk b ob (fun z => hb (by simp [z])) (fun z => hb (by simp [z])) q)) hf (Nat.le_refl _) new
    refine ⟨.ref s.heap.objs.size, _, I1, rfl, ⟨_, x, rfl, I.hok.fresh (Nat.le_refl _), rfl, fun ys hy => by rw [I.tuple_inj hy hq]; exact hx⟩, ⟨⟨y, ?_⟩, st'.1.at fun o q => (sb.2 it (Ne.symm hne)).trans q, (by have := (List.getElem?_eq_some_iff.mp hx).1; omega)⟩, fun b hb => ?_⟩
    · have e1 : ((i + 1 : Nat) : Int) = (i : Int) + 1 := by omega
      rw [e1]; exact he'
    · have hb' : b < s.heap.objs.size := by
        have e' : b = e ∨ b = it := by simpa using hb
        rcases e' with z | z
        · rw [z]; exact hel
        · rw [z]; exact hil
      rw [upd_ne (Nat.ne_of_lt hb')]
      exact (hf b hb).1
  done := by
    intro X hP hw hK hc i pins s σ H E I hf st hg
    subst hP hw hK
    obtain ⟨⟨old, he⟩, hit, hn⟩ := st
    obtain ⟨xs, hq, hxn, hx⟩ := hg
    obtain ⟨its, rv, p, hz⟩ := I.tuple hq
    obtain ⟨f0, f1, f2, f3, f4, f5⟩ := hf it (by simp)
    have hl := rv.length
    have D := Draws.tuple (prog := X.prog) (w := X.w) (A := X.A.in1) (I.ok.hd hc) it a hai its.toArray
    have ei : i = its.toArray.size := by rw [List.size_toArray]; omega
    subst ei
    exact wpAny_pyNext_enum_endD D he ⟨hit, p⟩ fun h' eb => ⟨rfl, I.turned (t' := s.toks) (fun b o hb q => eb b o hb q) f0 f1 f3 f4 f5⟩
  self := fun A i s Q E st h => let ⟨⟨_, he⟩, _⟩ := st; wpAny_pyIter_enum he h
def iEnumT (K : PySem.W.Frag) (ta : TA) : TI := fun σ H R => ta σ H fun vs H1 => ∃ a xs, vs = [.ref a] ∧ SqT K H1 a xs ∧ R (IteT K a xs.length) H1
theorem pi_enumT {X : Cx} {e : Expr} {ta : TA} {p pos tpos : Pos} {elts : List Expr} {kk : Nat} (hg : Gl X "enumerate") (hm : X.mg "enumerate" = none) (ha : PA X [e] ta) (hs : starEach [e] X.env = [(false, eval e X.env)] := by rfl) :
    PI X (.Tuple elts kk tpos) (.Call (.Name "enumerate" p) [e] [] pos) (iEnumT X.K ta) := by
  refine ⟨fun pins s σ H R I h => ?_⟩
  refine Call_ (ld_blt I hg hm boot_enumerate (PyProof.Rows.callWith_type1 (thn (ha.run pos pins s σ H _ I h) fun us s1 ⟨vs, H1, I1, r1, q1⟩ => ?_) hs rfl))
  obtain ⟨a, xs, ex, hq, q⟩ := q1
  subst ex
  cases r1 with
  | cons r rr =>
    cases rr
    cases r
    obtain ⟨its, rv, p', hz⟩ := I1.tuple hq
    refine enum_begins1 (begins_tuple a its.toArray) p' fun h' he hit hsz hk => wpAny_pyIter_enum he ?_
    have I2 : Inv X pins σ H1 { s1 with heap := h' } := I1.kept (t' := s1.toks) hk
    have hal : a < s1.heap.objs.size := p'.lt
    refine ⟨s1.heap.objs.size + 1, [s1.heap.objs.size + 1, s1.heap.objs.size], _, _, H1, rfl, I2, turn_enumT a (s1.heap.objs.size + 1) s1.heap.objs.size _ (Nat.succ_ne_self _) (Nat.ne_of_lt hal) (Nat.ne_of_lt (Nat.lt_succ_of_lt hal)), ⟨⟨.none, he⟩, ⟨_, hit, rfl, rfl⟩, Nat.zero_le _⟩, fun b hb => ?_, q⟩
    have e' : b = s1.heap.objs.size + 1 ∨ b = s1.heap.objs.size := by simpa using hb
    have hle : s1.heap.objs.size ≤ b := by
      rcases e' with z | z
      · rw [z]; exact Nat.le_add_right _ _
      · rw [z]; exact Nat.le_refl _
    exact I1.fpOk hle (I1.hok.fresh hle)
theorem walk_enumT {K : PySem.W.Frag} {a : Addr} {xs : List V} : Walk (IteT K a xs.length) xs.length (fun H => SqT K H a xs) (YPair (fun i => some (.int (i : Nat))) (fun i => xs[i]?)) := by
  refine ⟨fun i _ hi q => ⟨xs, xs[i], q, rfl, by simp [hi]⟩, fun _ q => ⟨xs, q, rfl, Nat.le_refl _⟩, fun i H v H' _ q y => ?_⟩
  obtain ⟨T, x, h1, h2, h3, h4⟩ := y
  exact ⟨T, .int (i : Nat), x, h1, h2, h3, rfl, h4 xs q⟩
/-! ### min(tuple of ints) -/
theorem reads_ints {h : Heap} : ∀ {ns : List Int} {us : List Value}, Vals (ns.map V.int) us → ∃ as, ReadsAll h us (ns.map PyData.int) as
  | [], _, r => by
    cases r
    exact ⟨_, ReadsAll.nil⟩
  | n :: ns, _, r => by
    rw [List.map_cons] at r
    cases r with
    | cons q t =>
      obtain ⟨tk, rfl⟩ := q
      obtain ⟨as, ra⟩ := reads_ints t
      exact ⟨_, ReadsAll.cons (Reads.int n tk) ra⟩
theorem depth_ints : ∀ ns : List Int, PyData.depthAll (ns.map PyData.int) = 0
  | [] => rfl
  | n :: ns => by
    rw [List.map_cons, PyData.depthAll, depth_ints ns]
    rfl
theorem alike_ints (ns : List Int) : PySem.W.AlikeAll (ns.map PyData.int) := by
  refine ⟨fun x hx y hy => ?_, fun x hx e => ?_⟩
  · obtain ⟨i, _, rfl⟩ := List.mem_map.mp hx
    obtain ⟨j, _, rfl⟩ := List.mem_map.mp hy
    simp only [PySem.W.alike]
  · obtain ⟨i, _, rfl⟩ := List.mem_map.mp hx
    cases e
theorem foldl_min : ∀ (ns : List Int) (n : Int), (ns.foldl min n ∈ n :: ns) ∧ ∀ y ∈ n :: ns, ns.foldl min n ≤ y
  | [], n => ⟨by simp, by simp⟩
  | m :: ns, n => by
    obtain ⟨h1, h2⟩ := foldl_min ns (min n m)
    rw [List.foldl_cons]
    refine ⟨?_, fun y hy => ?_⟩
    · rcases List.mem_cons.mp h1 with e | e
      · rw [e]
        by_cases h : n ≤ m
        · rw [Int.min_eq_left h]; simp
        · rw [Int.min_eq_right (by omega)]; simp
      · exact List.mem_cons_of_mem _ (List.mem_cons_of_mem _ e)
    · have h3 := h2 (min n m) (by simp)
      rcases List.mem_cons.mp hy with e | e
      · subst e; omega
      · rcases List.mem_cons.mp e with e | e
        · subst e; omega
        · exact h2 y (List.mem_cons_of_mem _ e)
def rMinT (K : PySem.W.Frag) : List V → Hp → VK → Prop := fun vs H Q => ∃ (a : Addr) (ns : List Int), vs = [V.ref a] ∧ SqT K H a (ns.map V.int) ∧ 0 < ns.length ∧ ∀ m, m ∈ ns → (∀ y, y ∈ ns → m ≤ y) → Q (.int m) H
theorem cr_minT {X : Cx} (hc : X.calm = true) (hu : X.A.units + 64 < cLine) : CallR X (.builtin "min") (rMinT X.K) := by
  intro pins s σ H vs us Q I r h
  obtain ⟨a, ns, rfl, hs, hne, q⟩ := h
  obtain ⟨its, rv, hl, _⟩ := I.tuple hs
  rw [Vals.ref1 r]
  cases ns with
  | nil => exact absurd hne (Nat.lt_irrefl _)
  | cons n ns =>
    obtain ⟨as, ra⟩ := reads_ints (h := s.heap) rv
    have hd := depth_ints (n :: ns)
    refine PySem.W.min_tuple_data (x := .int n) (xs := ns.map PyData.int) (I.ok.hd hc) hl (by simpa using ra) (alike_ints (n :: ns)) (by
      have e : PyData.int n :: ns.map PyData.int = (n :: ns).map PyData.int := rfl
      rw [e, hd]; omega) fun i v h' tk bs hi rd hk => ?_
    rw [PySem.W.minD_ints] at rd
    obtain ⟨h1, h2⟩ := foldl_min ns n
    cases rd with
    | int _ t => exact ⟨.int _, H, I.kept hk, ⟨_, rfl⟩, q _ h1 h2⟩
/-! ### tuple.count of a text -/
theorem reads_strs {h : Heap} : ∀ {ns : List Str} {us : List Value}, Vals (ns.map V.str) us → ∃ as, ReadsAll h us (ns.map PyData.str) as
  | [], _, r => by
    cases r
    exact ⟨_, ReadsAll.nil⟩
  | n :: ns, _, r => by
    rw [List.map_cons] at r
    cases r with
    | cons q t =>
      obtain ⟨tk, rfl⟩ := q
      obtain ⟨as, ra⟩ := reads_strs t
      exact ⟨_, ReadsAll.cons (Reads.str n tk) ra⟩
theorem plain_strs : ∀ ys : List Str, PyData.plainAll (ys.map PyData.str) = true
  | [] => rfl
  | y :: ys => by
    rw [List.map_cons, PyData.plainAll, plain_strs ys]
    rfl
def rTC (K : PySem.W.Frag) : V → List V → Hp → VK → Prop := fun x xs H Q => ∃ p, ∃ ys : List Str, ∃ z, x = .ref p ∧ xs = [.str z] ∧ SqT K H p (ys.map V.str) ∧ Q (.int ((ys.countP fun y => decide (y = z) : Nat) : Int)) H
theorem mt_tup_count {X : Cx} (hu : X.A.units + 64 < cLine) : MtR X "tuple.count" (rTC X.K) := by
  intro pins s σ H x xs v us Q I rx rs h
  obtain ⟨p, ys, z, rfl, rfl, hq, q⟩ := h
  cases rx
  obtain ⟨u, rfl, t, rfl⟩ := vals1 rs
  obtain ⟨its, r, pl, hz⟩ := I.tuple hq
  obtain ⟨as, ra⟩ := reads_strs (h := s.heap) r
  have e : (ys.map PyData.str).countP (fun y => PyData.eqv y (.str z)) = ys.countP fun y => decide (y = z) := by
    rw [List.countP_map]
    refine List.countP_congr fun y _ => ?_
    simp [PyData.eqv]
  refine SeqAt.count_tuple_data (xs := ys.map PyData.str) pl (by simpa using ra) (Reads.str z t) (plain_strs ys) rfl ?_ ?_
  · show X.A.units + 1 + min (PyData.depthAll (ys.map PyData.str)) 0 < cLine
    rw [Nat.min_zero]
    omega
  · rw [e]
    exact ⟨.int _, H, I.tok _, ⟨_, rfl⟩, q⟩
end FrR
/-! The text by places, what the top has left, orders and rules as they stand in the heap. -/
namespace FrP
open PySem PySem.Spec PyProof.Rows L2 FrR FR
def topS (i : Nat) : Stmt := PySem.Challenge.pw_fewestrules_k47_whole_pruned_lists_lead.main.body.getD i (.Pass ⟨0, 0, 0, 0⟩)
/-- what the module's names stand for, apart from its defs -/
structure Gn (K : PySem.W.Frag) (mg : Str → Option Value) : Prop where
  isinstance : mg "isinstance" = none
  int : mg "int" = none
  bool : mg "bool" = none
  str : mg "str" = none
  tuple : mg "tuple" = none
  list : mg "list" = none
  len : mg "len" = none
  all : mg "all" = none
  max : mg "max" = none
  min : mg "min" = none
  abs : mg "abs" = none
  range : mg "range" = none
  enumerate : mg "enumerate" = none
  reversed : mg "reversed" = none
  chars : ∃ t, mg "CHARACTERS" = some (.str "abcdefghijklmnopqrstuvwxyz" t)
  digits : ∃ t, mg "DIGITS" = some (.str "0123456789" t)
  longest : ∃ t, mg "LONGEST" = some (.int 12 t)
  most : ∃ t, mg "MOST" = some (.int 12 t)
  mostLetters : ∃ t, mg "MOST_LETTERS" = some (.int 12 t)
  mostRules : ∃ t, mg "MOST_RULES" = some (.int 20 t)
  sides : ∃ a, mg "SIDES" = some (.ref a) ∧ ∀ H : Hp, SqT K H a [.str "after", .str "before"]
/-- a def that keeps its promise, as its callers want it -/
def Cal (P : Program) (w : World) (K : PySem.W.Frag) (mg : Str → Option Value) (base : Heap) (x : Str) (ps : List Str) (k : Nat) (sp : Sp) : Prop :=
  ∃ f fd, FnOk P w K mg base CX0 k f fd ps sp ∧ mg x = some (.ref f) ∧ PySem.W.keepIn K (.ref f) = true ∧ Binds K fd ps []
/-- a def of the text as it stands behind the top -/
structure Df (K : PySem.W.Frag) (mg : Str → Option Value) (x : Str) (st : Stmt) (ps : List Str) : Prop where
  ex : ∃ f fd, Fun K x x st f fd ∧ mg x = some (.ref f) ∧ Binds K fd ps []
theorem Df.cal {P : Program} {w : World} {K : PySem.W.Frag} {mg : Str → Option Value} {base : Heap} {x : Str} {st : Stmt} {ps : List Str} {k : Nat} {sp : Sp} (D : Df K mg x st ps)
    (h : ∀ f fd, Fun K x x st f fd → FnOk P w K mg base CX0 k f fd ps sp) : Cal P w K mg base x ps k sp := by
  obtain ⟨f, fd, F, g, b⟩ := D.ex
  exact ⟨f, fd, h f fd F, g, F.kp, b⟩
section
variable {X : Cx} {x : Str} {p pos : Pos} {e : Expr} {es : List Expr} {t : TA} {k : Nat} {sp : Sp} {ps : List Str}
theorem pe_cal {j : Nat} (C : Cal X.prog X.w X.K X.mg X.base x ps j sp) (hr : Room k X.A) (ha : PA X (e :: es) t) (hg : Gl X x := by rfl) (hj : j ≤ k := by decide) (hdb : (x == ("__debug__" : Str)) = false := by decide) (he : starEach (e :: es) X.env = (false, eval e X.env) :: starEach es X.env := by rfl) (hpl : (backTo pos (starEach es X.env)).any (·.1) = false := by rfl) :
    PE X (.Call (.Name x p) (e :: es) [] pos) (tCall sp [] E0 t) := by
  obtain ⟨f, fd, F, g, kp, b⟩ := C
  exact pe_call F (hr.mono hj) hg g kp b .nil pass0 ha hdb he hpl
/-- a module's constant -/
theorem pe_const {v : V} {u : Tok → Value} (h : ∃ t, X.mg x = some (u t)) (r : ∀ t, RelV v (u t)) (hg : Gl X x := by rfl) (hd : (x == ("__debug__" : Str)) = false := by decide) : PE X (.Name x pos) (tC v) := by
  obtain ⟨t, e⟩ := h
  exact pe_glob hg e (r t) hd
end
/-! ### short words for built-ins -/
section
variable {X : Cx} {e e2 : Expr} {te te2 : TE} {p q pos : Pos} {cn : Str}
/-- isinstance(e, T), T a built-in class -/
def rIsB2 (K : PySem.W.Frag) : List V → Hp → VK → Prop := fun xs H Q => ∃ x T t b, xs = [x, .ty T] ∧ TyX K H x (.type t) ∧ kitB t T = some b ∧ Q (.bl b) H
theorem call_isi2 : CallR X (.builtin "isinstance") (rIsB2 X.K) := by
  intro pins s σ H xs us Q I r h
  obtain ⟨x, T, t, b, rfl, h1, h2, h3⟩ := h
  exact call_isi pins s σ H _ us Q I r ⟨x, .ty T, .type t, .type T, b, rfl, .ty T, h1, kit_ty h2, h3⟩
theorem x_isi {T : String} (hm : X.mg "isinstance" = none) (hT : X.mg cn = none) (hv : bootBuiltins cn = some (.type T)) (h : PE X e te) (hg : Gl X "isinstance" := by rfl) (hg2 : Gl X cn := by rfl) (hn : cn ≠ "__name__" := by decide) (hd : (cn == ("__debug__" : Str)) = false := by decide)
    (he : starEach [e, .Name cn q] X.env = (false, eval e X.env) :: starEach [.Name cn q] X.env := by rfl) (hpl : (backTo pos (starEach [.Name cn q] X.env)).any (·.1) = false := by rfl) (he2 : starEach [.Name cn q] X.env = (false, eval (.Name cn q) X.env) :: starEach [] X.env := by rfl) :
    PE X (.Call (.Name "isinstance" p) [e, .Name cn q] [] pos) (tCB (rIsB2 X.K) (tCons te (tCons (tC (.ty T)) tNil))) :=
  pe_callB call_isi2 hg hm boot_isinstance (pa_cons h (pa_cons (pe_bltn hg2 hT hv rfl hn hd) pa_nil he2) he) (by decide) (by decide) he hpl
theorem x_len (hm : X.mg "len" = none) (h : PE X e te) (hg : Gl X "len" := by rfl) (he : starEach [e] X.env = (false, eval e X.env) :: starEach [] X.env := by rfl) (hpl : (backTo pos (starEach [] X.env)).any (·.1) = false := by rfl) :
    PE X (.Call (.Name "len" p) [e] [] pos) (tCB (fun xs H Q => ∃ p ys, xs = [.ref p] ∧ (SqL X.K H p ys ∨ SqT X.K H p ys) ∧ Q (.int ys.length) H) (tCons te tNil)) :=
  pe_callB call_len_seq hg hm PySem.boot_len (pa_cons h pa_nil he) (by decide) (by decide) he hpl
theorem x_lenS (hm : X.mg "len" = none) (h : PE X e te) (hg : Gl X "len" := by rfl) (he : starEach [e] X.env = (false, eval e X.env) :: starEach [] X.env := by rfl) (hpl : (backTo pos (starEach [] X.env)).any (·.1) = false := by rfl) :
    PE X (.Call (.Name "len" p) [e] [] pos) (tCB (fun xs H Q => ∃ z, xs = [.str z] ∧ z.length ≤ sizeLine ∧ Q (.int z.length) H) (tCons te tNil)) :=
  pe_callB call_len_str hg hm PySem.boot_len (pa_cons h pa_nil he) (by decide) (by decide) he hpl
theorem x_all (hm : X.mg "all" = none) (hc : X.calm = true) (h : PE X e te) (hg : Gl X "all" := by rfl) (he : starEach [e] X.env = (false, eval e X.env) :: starEach [] X.env := by rfl) (hpl : (backTo pos (starEach [] X.env)).any (·.1) = false := by rfl) :
    PE X (.Call (.Name "all" p) [e] [] pos) (tCB (rAll X.K) (tCons te tNil)) :=
  pe_callB (cr_all hc) hg hm PyProof.Rows.boot_all (pa_cons h pa_nil he) (by decide) (by decide) he hpl
end
/-! ### heaps -/
theorem same_seqT {K : PySem.W.Frag} {H H' : Hp} {a : Addr} {xs : List V} (e : Same H H') (h : SqT K H a xs) : SqT K H' a xs := by
  rcases h with (h | ⟨o, h⟩) | h
  · exact .inl (.inl (e _ _ h))
  · exact .inl (.inr ⟨o, e _ _ h⟩)
  · exact .inr h
/-- an order as it stands -/
def OrdR (H : Hp) (v : V) (L : List Str) (S : List Int) : Prop := ∃ p a b, v = .ref p ∧ Tp H p [.ref a, .ref b] ∧ Tp H a (L.map V.str) ∧ Tp H b (S.map V.int)
theorem OrdR.same {H H' : Hp} {v : V} {L : List Str} {S : List Int} (e : Same H H') (h : OrdR H v L S) : OrdR H' v L S := by
  obtain ⟨p, a, b, h1, h2, h3, h4⟩ := h
  exact ⟨p, a, b, h1, h2.same e, h3.same e, h4.same e⟩
abbrev C := Ch Str
abbrev R := Rl Str
abbrev OrdC (H : Hp) (v : V) (P : C) : Prop := OrdR H v (lt P) (st P)
def sideV (b : Bool) : V := .str (if b then "after" else "before")
def RulR (H : Hp) (v : V) (q : R) : Prop := ∃ p, v = .ref p ∧ Tp H p [sideV q.after, .str q.anchor, .int q.w, .str q.letter]
theorem RulR.same {H H' : Hp} {v : V} {q : R} (e : Same H H') (h : RulR H v q) : RulR H' v q := by
  obtain ⟨p, h1, h2⟩ := h
  exact ⟨p, h1, h2.same e⟩
abbrev RulsV (H : Hp) (vs : List V) (qs : List R) : Prop := Paired (RulR H) vs qs
theorem RulsV.same {H H' : Hp} {vs : List V} {qs : List R} (e : Same H H') (h : RulsV H vs qs) : RulsV H' vs qs := Paired.mapP h fun _ _ r => r.same e
def RulsT (H : Hp) (v : V) (qs : List R) : Prop := ∃ p vs, v = .ref p ∧ Tp H p vs ∧ RulsV H vs qs
theorem RulsT.same {H H' : Hp} {v : V} {qs : List R} (e : Same H H') (h : RulsT H v qs) : RulsT H' v qs := by
  obtain ⟨p, vs, h1, h2, h3⟩ := h
  exact ⟨p, vs, h1, h2.same e, h3.same e⟩
theorem paired_get {α β : Type} {F : α → β → Prop} : ∀ {xs : List α} {ys : List β} {i : Nat} {y : β}, Paired F xs ys → ys[i]? = some y → ∃ x, xs[i]? = some x ∧ F x y
  | _, _, _, _, .nil, e => by simp at e
  | _, _, 0, _, .cons r _, e => by simp at e; subst e; exact ⟨_, rfl, r⟩
  | _, _, i + 1, y, .cons _ t, e => by
    obtain ⟨x, h1, h2⟩ := paired_get (i := i) (y := y) t (by simpa using e)
    exact ⟨x, by simpa using h1, h2⟩
theorem paired_getL {α β : Type} {F : α → β → Prop} : ∀ {xs : List α} {ys : List β} {i : Nat} {x : α}, Paired F xs ys → xs[i]? = some x → ∃ y, ys[i]? = some y ∧ F x y
  | _, _, _, _, .nil, e => by simp at e
  | _, _, 0, _, .cons r _, e => by simp at e; subst e; exact ⟨_, rfl, r⟩
  | _, _, i + 1, x, .cons _ t, e => by
    obtain ⟨y, h1, h2⟩ := paired_getL (i := i) (x := x) t (by simpa using e)
    exact ⟨y, by simpa using h1, h2⟩
theorem paired_drop {α β : Type} {F : α → β → Prop} : ∀ {xs : List α} {ys : List β} (n : Nat), Paired F xs ys → Paired F (xs.drop n) (ys.drop n)
  | _, _, 0, r => r
  | _, _, _ + 1, .nil => .nil
  | _, _, n + 1, .cons _ t => paired_drop n t
theorem paired_take {α β : Type} {F : α → β → Prop} : ∀ {xs : List α} {ys : List β} (n : Nat), Paired F xs ys → Paired F (xs.take n) (ys.take n)
  | _, _, 0, r => .nil
  | _, _, _ + 1, .nil => .nil
  | _, _, n + 1, .cons r t => .cons r (paired_take n t)
theorem paired_app {α β : Type} {F : α → β → Prop} : ∀ {xs xs' : List α} {ys ys' : List β}, Paired F xs ys → Paired F xs' ys' → Paired F (xs ++ xs') (ys ++ ys')
  | _, _, _, _, .nil, s => s
  | _, _, _, _, .cons r t, s => .cons r (paired_app t s)
theorem small {n : Nat} (h : n ≤ 1000) : n ≤ sizeLine := Nat.le_of_lt (small1000 h)
/-! ### is_whole, is_integer, _law_is_integer: asked of whole numbers alone -/
def spInt : Sp := fun vs H Q _ => ∃ i : Int, vs = [.int i] ∧ Q (.bl true) H
section
variable {P : Program} {w : World} {K : PySem.W.Frag} {mg : Str → Option Value} {base : Heap}
theorem ok_isWhole (D : Df K mg "is_whole" (topS 9) ["value"]) (G : Gn K mg) : Cal P w K mg base "is_whole" ["value"] 1 spInt := by
  refine D.cal fun f fd F => ?_
  have sc : FnScope ["value"] ["value"] (defScope (topS 9)) := ⟨rfl, rfl, rfl, by decide +kernel, rfl, by decide +kernel, by decide +kernel⟩
  refine F.ok sc (fun vs H Q E h => ?_) (fun cdv A outer s H vs Q E hr h => ?_)
  · obtain ⟨i, rfl, _⟩ := h
    rfl
  · obtain ⟨i, rfl, q⟩ := h
    refine ⟨_, pss_one (ps_ret (pe_and (x_isi G.isinstance G.int PyProof.Rows.boot_int (pv 0)) (pe_one (pe_not (x_isi G.isinstance G.bool PyProof.Rows.boot_bool (pv 0)))))), ?_⟩
    refine ⟨_, rfl, _, _, "int", true, rfl, .base (.int i), by decide +kernel, true, rfl, iteT ⟨_, rfl, _, _, "int", false, rfl, .base (.int i), by decide +kernel, false, rfl, q⟩⟩
end
end FrP
namespace FrP
open PySem PySem.Spec PyProof.Rows L2 FrR FR
theorem same_new {H H' : Hp} {D : Addr} {o : HO} (e : Same H H') (h : H D = none) : Same H (upd H' D o) := fun b x q => by
  rw [upd_ne (ne_of_none q h)]
  exact e _ _ q
theorem all_true (n : Nat) : (List.replicate n true).all id = true := by
  rw [List.all_eq_true]
  intro x hx
  rw [List.eq_of_mem_replicate hx]
  rfl
theorem map_rep (n : Nat) : (List.replicate n true).map V.bl = List.replicate n (V.bl true) := List.map_replicate
theorem rep_snoc (n : Nat) (v : V) : List.replicate n v ++ [v] = List.replicate (n + 1) v := (List.replicate_succ' ..).symm
/-- a letter as the law draws them: an ASCII letter and a digit -/
def IsL (z : Str) : Prop := ∃ c d : Nat, z = ⟨#[c, d]⟩ ∧ 97 ≤ c ∧ c ≤ 122 ∧ 48 ≤ d ∧ d ≤ 57
theorem chars_mem {c : Nat} (h1 : 97 ≤ c) (h2 : c ≤ 122) : c ∈ (Str.ofString "abcdefghijklmnopqrstuvwxyz").cps.toList := by
  have h : ∀ k : Fin 26, 97 + k.val ∈ (Str.ofString "abcdefghijklmnopqrstuvwxyz").cps.toList := by decide +kernel
  have := h ⟨c - 97, by omega⟩
  have e : 97 + (c - 97) = c := by omega
  simpa [e] using this
theorem digits_mem {c : Nat} (h1 : 48 ≤ c) (h2 : c ≤ 57) : c ∈ (Str.ofString "0123456789").cps.toList := by
  have h : ∀ k : Fin 10, 48 + k.val ∈ (Str.ofString "0123456789").cps.toList := by decide +kernel
  have := h ⟨c - 48, by omega⟩
  have e : 48 + (c - 48) = c := by omega
  simpa [e] using this
section
variable {P : Program} {w : World} {K : PySem.W.Frag} {mg : Str → Option Value} {base : Heap}
/-! ### is_level -/
def spLevel : Sp := fun vs H Q _ => ∃ i : Int, vs = [.int i] ∧ 1 ≤ i ∧ i ≤ 3 ∧ Q (.bl true) H
theorem ok_isLevel (D : Df K mg "is_level" (topS 10) ["value"]) (C9 : Cal P w K mg base "is_whole" ["value"] 1 spInt) : Cal P w K mg base "is_level" ["value"] 2 spLevel := by
  refine D.cal fun f fd F => ?_
  have sc : FnScope ["value"] ["value"] (defScope (topS 10)) := ⟨rfl, rfl, rfl, by decide +kernel, rfl, by decide +kernel, by decide +kernel⟩
  refine F.ok sc (fun vs H Q E h => ?_) (fun cdv A outer s H vs Q E hr h => ?_)
  · obtain ⟨i, rfl, _⟩ := h
    rfl
  · obtain ⟨i, rfl, h1, h3, q⟩ := h
    refine ⟨_, pss_one (ps_ret (pe_and (pe_cal C9 hr (pa_cons (pv 0) pa_nil)) (pe_one (pe_chain op_le op_le pe_int (pv 0) pe_int)))), ?_⟩
    refine ⟨_, rfl, i, rfl, true, rfl, iteT ⟨_, rfl, _, _, rfl, rfl, true, ?_, iteT ⟨_, _, rfl, rfl, ?_⟩⟩⟩
    · show V.bl (decide (1 ≤ i)) = V.bl true
      rw [decide_eq_true h1]
    · show Q (.bl (decide (i ≤ 3))) H
      rw [decide_eq_true h3]
      exact q
/-! ### is_letter -/
def spLetter : Sp := fun vs H Q _ => ∃ z : Str, vs = [.str z] ∧ IsL z ∧ ∀ H', Same H H' → Q (.bl true) H'
theorem ok_isLetter (D : Df K mg "is_letter" (topS 11) ["value"]) (G : Gn K mg) : Cal P w K mg base "is_letter" ["value"] 1 spLetter := by
  refine D.cal fun f fd F => ?_
  have sc : FnScope ["value", "sign"] ["value"] (defScope (topS 11)) := ⟨rfl, rfl, rfl, by decide +kernel, rfl, by decide +kernel, by decide +kernel⟩
  refine F.ok sc (fun vs H Q E h => ?_) (fun cdv A outer s H vs Q E hr h => ?_)
  · obtain ⟨i, rfl, _⟩ := h
    rfl
  · obtain ⟨z, rfl, ⟨c, d, rfl, hc1, hc2, hd1, hd2⟩, q⟩ := h
    refine ⟨_, pss_cons
      (ps_if (PW.pt (pw_or (pt_not (pt_val (x_isi G.isinstance G.str PyProof.Rows.boot_str (pv 0))))
          (pw_or (pt_not (pt_chain op_le op_le pe_int (x_lenS G.len (pv 0)) (pe_const (v := .int 12) G.longest fun t => ⟨_, rfl⟩)))
          (pw_or1 (pt_cmpR op_notIn_sign (pe_ix ix_str (pv 0) pe_int (fun _ _ => rfl)) (pe_const (v := .str "abcdefghijklmnopqrstuvwxyz") G.chars fun t => ⟨_, rfl⟩) (by rfl))))))
        (pss_one (ps_ret pe_bl)) pss_nil)
      (pss_one (ps_ret (x_all G.all rfl (pe_lc (own := [("sign", 1)]) (g := gName 1) (tt := tYes) rfl sc.nd (pi_str (pv 0)) (blkOk_by (N := ["value", "sign"]) (sc := defScope (topS 11)) (by decide +kernel))
        (fun _ _ _ _ _ => pg_name (i := 1) sc.nd rfl (Or.inl rfl)) (fun _ _ _ _ _ => pts_nil)
        (fun _ _ _ _ _ => pe_or (pe_cmpR op_in_sign (pv 1) (pe_const (v := .str "abcdefghijklmnopqrstuvwxyz") G.chars fun t => ⟨_, rfl⟩) (by rfl))
          (pe_one (pe_cmpR op_in_sign (pv 1) (pe_const (v := .str "0123456789") G.digits fun t => ⟨_, rfl⟩) (by rfl)))))))), ?_⟩
    refine ⟨_, rfl, _, _, "str", true, rfl, .base (.str _), by decide +kernel, true, rfl, iteF ?_⟩
    refine ⟨_, rfl, _, rfl, (by show 2 ≤ sizeLine; decide), _, _, rfl, rfl, true, rfl, iteT ⟨_, _, rfl, rfl, true, rfl, iteF ?_⟩⟩
    refine ⟨_, rfl, _, _, _, rfl, rfl, (by show 2 ≤ sizeLine; decide), atI_nat (j := 0) rfl, c, _, rfl, rfl, false, ?_, iteF ?_⟩
    · rw [decide_eq_true (chars_mem hc1 hc2)]
      rfl
    refine ⟨_, rfl, _, rfl, fun D hD => ?_⟩
    refine lc_it walk_str (fun i H' => Same H H' ∧ H' D = some (.lst (List.replicate i (V.bl true)))) ⟨same_upd hD, upd_same⟩ (fun _ _ _ _ => trivial) ?_ ?_
    · intro i x H2 H3 hi hP hY
      obtain ⟨rfl, e, he, rfl⟩ := hY
      obtain ⟨hS, hL⟩ := hP
      refine ⟨rfl, _, rfl, e, _, rfl, rfl, _, rfl, ?_⟩
      have hi2 : i < 2 := hi
      have fin : H3 D = some (.lst (List.replicate i (V.bl true))) ∧ (List.replicate i (V.bl true)).length < sizeLine ∧ Same H (upd H3 D (.lst (List.replicate i (V.bl true) ++ [V.bl true]))) ∧ (upd H3 D (.lst (List.replicate i (V.bl true) ++ [V.bl true]))) D = some (.lst (List.replicate (i + 1) (V.bl true))) := by
        refine ⟨hL, ?_, same_new hS hD, by rw [upd_same, rep_snoc]⟩
        rw [List.length_replicate]
        exact small1000 (by omega)
      refine ite2 (fun h => ⟨_, fin.1, fin.2.1, fin.2.2⟩) (fun h => ?_)
      have hnot : ¬ e ∈ (Str.ofString "abcdefghijklmnopqrstuvwxyz").cps.toList := fun m => h (decide_eq_true m)
      have hed : e = d := by
        have h1 : i = 0 ∨ i = 1 := by omega
        rcases h1 with rfl | rfl
        · have : c = e := by simpa using he
          exact absurd (this ▸ chars_mem hc1 hc2) hnot
        · have : d = e := by simpa using he
          exact this.symm
      subst hed
      refine ⟨_, rfl, e, _, rfl, rfl, ?_⟩
      rw [decide_eq_true (digits_mem hd1 hd2)]
      exact ⟨_, fin.1, fin.2.1, fin.2.2⟩
    · intro H2 ⟨hS, hL⟩
      refine ⟨D, List.replicate 2 true, rfl, ?_, ?_⟩
      · rw [map_rep]
        exact SqL.of hL
      · exact q H2 hS
end
end FrP
namespace FrP
open PySem PySem.Spec PyProof.Rows L2 FrR FR
theorem count_none {z : Str} : ∀ {L : List Str}, z ∉ L → L.countP (fun y => decide (y = z)) = 0
  | [], _ => rfl
  | y :: L, h => by
    have h1 : ¬ y = z := fun e => h (e ▸ List.mem_cons_self)
    rw [List.countP_cons_of_neg (by simp [h1]), count_none fun m => h (List.mem_cons_of_mem _ m)]
theorem count_one {z : Str} : ∀ {L : List Str}, L.Nodup → z ∈ L → L.countP (fun y => decide (y = z)) = 1
  | [], _, h => by simp at h
  | y :: L, hn, h => by
    rw [List.nodup_cons] at hn
    by_cases e : y = z
    · subst e
      rw [List.countP_cons_of_pos (by simp), count_none hn.1]
    · rw [List.countP_cons_of_neg (by simp [e]), count_one hn.2 ((List.mem_cons.mp h).resolve_left (Ne.symm e))]
theorem get_str {L : List Str} {i : Nat} {x : V} (h : (L.map V.str)[i]? = some x) : ∃ z, x = .str z ∧ L[i]? = some z := by
  rw [List.getElem?_map] at h
  cases e : L[i]? with
  | none => rw [e] at h; cases h
  | some z => rw [e] at h; exact ⟨z, (Option.some.inj h).symm, rfl⟩
theorem get_int {L : List Int} {i : Nat} {x : V} (h : (L.map V.int)[i]? = some x) : ∃ z, x = .int z ∧ L[i]? = some z := by
  rw [List.getElem?_map] at h
  cases e : L[i]? with
  | none => rw [e] at h; cases h
  | some z => rw [e] at h; exact ⟨z, (Option.some.inj h).symm, rfl⟩
section
variable {P : Program} {w : World} {K : PySem.W.Frag} {mg : Str → Option Value} {base : Heap}
/-! ### are_letters -/
def spLetters : Sp := fun vs H Q _ => ∃ (a : Addr) (L : List Str), vs = [.ref a] ∧ Tp H a (L.map V.str) ∧ L.length ≤ 12 ∧ (∀ z ∈ L, IsL z) ∧ L.Nodup ∧ ∀ H', Same H H' → Q (.bl true) H'
theorem ok_areLetters (D : Df K mg "are_letters" (topS 12) ["value"]) (G : Gn K mg) (CL : Cal P w K mg base "is_letter" ["value"] 1 spLetter) : Cal P w K mg base "are_letters" ["value"] 2 spLetters := by
  refine D.cal fun f fd F => ?_
  have sc : FnScope ["value", "one"] ["value"] (defScope (topS 12)) := ⟨rfl, rfl, rfl, by decide +kernel, rfl, by decide +kernel, by decide +kernel⟩
  refine F.ok sc (fun vs H Q E h => ?_) (fun cdv A outer s H vs Q E hr h => ?_)
  · obtain ⟨a, L, rfl, _⟩ := h
    rfl
  · obtain ⟨a, L, rfl, ha, h12, hL, hn, q⟩ := h
    refine ⟨_, pss_cons
      (ps_if (PW.pt (pw_or (pt_not (pt_val (x_isi G.isinstance G.tuple PyProof.Rows.boot_tuple (pv 0))))
          (pw_or (pt_cmpR op_gt (x_len G.len (pv 0)) (pe_const (v := .int 12) G.most fun t => ⟨_, rfl⟩) (nomark _))
          (pw_or1 (pt_not (pt_val (x_all G.all rfl (pe_lc (own := [("one", 1)]) (g := gName 1) (tt := tYes) rfl sc.nd (pi_tup (pv 0)) (blkOk_by (N := ["value", "one"]) (sc := defScope (topS 12)) (by decide +kernel))
            (fun _ _ _ _ _ => pg_name (i := 1) sc.nd rfl (Or.inl rfl)) (fun _ _ _ _ _ => pts_nil)
            (fun _ _ _ _ _ => pe_cal CL hr (pa_cons (pv 1) pa_nil))))))))))
        (pss_one (ps_ret pe_bl)) pss_nil)
      (pss_one (ps_ret (x_all G.all rfl (pe_lc (own := [("one", 1)]) (g := gName 1) (tt := tYes) (te := tOp rEq (tBMT (rTC K) (tVar 0) (tCons (tVar 1) tNil)) (tC (.int 1))) rfl sc.nd (pi_tup (pv 0)) (blkOk_by (N := ["value", "one"]) (sc := defScope (topS 12)) (by decide +kernel))
        (fun _ _ _ _ _ => pg_name (i := 1) sc.nd rfl (Or.inl rfl)) (fun _ _ _ _ _ => pts_nil)
        (fun _ _ _ _ _ => pe_cmpR op_eq (pe_bmT PySem.F.slot_tuple_count PySem.F.type_tuple_count (mt_tup_count hr.units) (pv 0) (pa_cons (pv 1) pa_nil)) pe_int (nomark _)))))), ?_⟩
    have hlen : (L.map V.str).length = L.length := List.length_map _
    refine ⟨_, rfl, _, _, "tuple", true, rfl, ha.ty, by decide +kernel, true, rfl, iteF ?_⟩
    refine ⟨_, rfl, a, _, rfl, .inr (ha.seq), _, _, rfl, rfl, false, ?_, iteF ?_⟩
    · show V.bl (decide ((12 : Int) < ((L.map V.str).length : Int))) = V.bl false
      rw [hlen, decide_eq_false (by omega)]
    refine ⟨_, rfl, a, rfl, ⟨_, ha.seq⟩, fun D hD => ?_⟩
    refine lc_tup (K := K) (a := a) (xs := L.map V.str) (fun i H' => Same H H' ∧ H' D = some (.lst (List.replicate i (V.bl true)))) ⟨same_upd hD, upd_same⟩ (fun i H' _ hP => (ha.same hP.1).seq) ?_ ?_
    · intro i x H3 hx hP
      obtain ⟨hS, hLs⟩ := hP
      obtain ⟨z, rfl, hz⟩ := get_str hx
      have hi := (List.getElem?_eq_some_iff.mp hz).1
      refine ⟨rfl, _, rfl, z, rfl, hL z (List.mem_of_getElem? hz), fun H4 hS4 => ⟨_, hS4 _ _ hLs, ?_, same_new (hS.trans hS4) hD, by rw [upd_same, rep_snoc]⟩⟩
      rw [List.length_replicate]
      exact small1000 (by omega)
    · intro H2 ⟨hS, hLs⟩
      refine ⟨D, List.replicate (L.map V.str).length true, rfl, by rw [map_rep]; exact SqL.of hLs, true, by rw [all_true], iteF ?_⟩
      -- the second comprehension
      have ha2 := ha.same hS
      refine ⟨_, rfl, a, rfl, ⟨_, ha2.seq⟩, fun D2 hD2 => ?_⟩
      refine lc_tup (K := K) (a := a) (xs := L.map V.str) (fun i H' => Same H2 H' ∧ H' D2 = some (.lst (List.replicate i (V.bl true)))) ⟨same_upd hD2, upd_same⟩ (fun i H' _ hP => (ha2.same hP.1).seq) ?_ ?_
      · intro i x H3 hx hP
        obtain ⟨hS3, hLs3⟩ := hP
        obtain ⟨z, rfl, hz⟩ := get_str hx
        have hi := (List.getElem?_eq_some_iff.mp hz).1
        refine ⟨rfl, _, rfl, ⟨a, _, rfl, ha2.same hS3⟩, _, rfl, a, L, z, rfl, rfl, (ha2.same hS3).seq, rfl, ?_⟩
        rw [count_one hn (List.mem_of_getElem? hz)]
        refine ⟨_, hLs3, ?_, same_new hS3 hD2, by rw [upd_same]; exact congrArg _ (congrArg _ (rep_snoc _ _))⟩
        rw [List.length_replicate]
        exact small1000 (by omega)
      · intro H4 ⟨hS4, hLs4⟩
        refine ⟨D2, List.replicate (L.map V.str).length true, rfl, by rw [map_rep]; exact SqL.of hLs4, ?_⟩
        rw [all_true]
        exact q H4 (hS.trans hS4)
end
end FrP
namespace FrP
open PySem PySem.Spec PyProof.Rows L2 FrR FR
theorem cut_to (xs : List V) (i : Nat) : cutV xs none (some (i : Int)) = xs.take i := by
  unfold cutV
  rw [HT.sIx_none, HT.sIx_nat, List.drop_zero, Nat.sub_zero]
  by_cases h : i ≤ xs.length
  · rw [Nat.min_eq_left h]
  · rw [Nat.min_eq_right (by omega), List.take_length, List.take_of_length_le (by omega)]
theorem cut_from (xs : List V) (i : Nat) : cutV xs (some (i : Int)) none = xs.drop i := by
  unfold cutV
  rw [HT.sIx_none, HT.sIx_nat]
  by_cases h : i ≤ xs.length
  · rw [Nat.min_eq_left h, ← List.length_drop, List.take_length]
  · rw [Nat.min_eq_right (by omega), Nat.sub_self, List.take_zero, List.drop_of_length_le (by omega)]
theorem cut_last (xs : List V) : cutV xs none (some (-1)) = xs.take (xs.length - 1) := by
  unfold cutV
  have e : HT.sIx xs.length xs.length (some (-1)) = xs.length - 1 := by
    show (if (-1 : Int) < 0 then ((-1 : Int) + (xs.length : Int)).toNat else min (-1 : Int).toNat xs.length) = xs.length - 1
    rw [if_pos (by omega)]
    omega
  rw [HT.sIx_none, e, List.drop_zero, Nat.sub_zero]
theorem toI {xs ys : List V} {H : Hp} {a : Addr} (h : Tp H a xs) (e : xs = ys) : Tp H a ys := e ▸ h
/-- the first place of a letter -/
theorem first_at {x : Str} : ∀ {L : List Str}, x ∈ L → ∃ j : Nat, L[j]? = some x ∧ ∀ m : Nat, m < j → L[m]? ≠ some x
  | [], h => by simp at h
  | y :: L, h => by
    by_cases e : y = x
    · exact ⟨0, by simp [e], fun m hm => absurd hm (Nat.not_lt_zero m)⟩
    · obtain ⟨j, h1, h2⟩ := first_at (L := L) ((List.mem_cons.mp h).resolve_left (Ne.symm e))
      refine ⟨j + 1, by simpa using h1, fun m hm => ?_⟩
      cases m with
      | zero => simpa using e
      | succ m => simpa using h2 m (by omega)
theorem sz {n : Nat} (h : n ≤ 1000) : n ≤ sizeLine := small h
section
variable {P : Program} {w : World} {K : PySem.W.Frag} {mg : Str → Option Value} {base : Heap}
/-! ### is_order -/
structure GoodO (L : List Str) (S : List Int) : Prop where
  len : L.length ≤ 12
  ltr : ∀ z ∈ L, IsL z
  nd : L.Nodup
  ls : S.length = L.length - 1
  str : ∀ s ∈ S, (1 : Int) ≤ s ∧ s ≤ 3
def spIsOrder : Sp := fun vs H Q _ => ∃ (v : V) (L : List Str) (S : List Int), vs = [v] ∧ OrdR H v L S ∧ GoodO L S ∧ ∀ H', Same H H' → Q (.bl true) H'
theorem ok_isOrder (D : Df K mg "is_order" (topS 13) ["value"]) (G : Gn K mg) (CA : Cal P w K mg base "are_letters" ["value"] 2 spLetters) (CL : Cal P w K mg base "is_level" ["value"] 2 spLevel) : Cal P w K mg base "is_order" ["value"] 3 spIsOrder := by
  refine D.cal fun f fd F => ?_
  have sc : FnScope ["value", "letters", "strengths", "one"] ["value"] (defScope (topS 13)) := ⟨rfl, rfl, rfl, by decide +kernel, rfl, by decide +kernel, by decide +kernel⟩
  refine F.ok sc (fun vs H Q E h => ?_) (fun cdv A outer s H vs Q E hr h => ?_)
  · obtain ⟨v, L, S, rfl, _⟩ := h
    rfl
  · obtain ⟨v, L, S, rfl, ⟨p, a, b, rfl, hp, ha, hb⟩, g, q⟩ := h
    refine ⟨_, pss_cons
      (ps_if (PW.pt (pw_or (pt_not (pt_val (x_isi G.isinstance G.tuple PyProof.Rows.boot_tuple (pv 0))))
          (pw_or (pt_cmpR op_ne (x_len G.len (pv 0)) pe_int (nomark _))
          (pw_or1 (pt_not (pt_val (pe_cal CA hr (pa_cons (pe_ix ix_tup (pv 0) pe_int (fun _ _ => rfl)) pa_nil))))))))
        (pss_one (ps_ret pe_bl)) pss_nil)
      (pss_cons (ps_asg (pv 0) (pg_tup rfl (pgs_cons (pg_name (i := 1) sc.nd rfl (.inl rfl)) (pgs_cons (pg_name (i := 2) sc.nd rfl (.inl rfl)) pgs_nil))))
      (pss_cons (ps_if (PW.pt (pw_or (pt_not (pt_val (x_isi G.isinstance G.tuple PyProof.Rows.boot_tuple (pv 2))))
          (pw_or1 (pt_cmpR op_ne (x_len G.len (pv 2)) (pe_callB (call_max2 rfl) (by rfl) G.max boot_max (pa_cons pe_int (pa_cons (pe_op op_sub (x_len G.len (pv 1)) pe_int) pa_nil))) (nomark _)))))
        (pss_one (ps_ret pe_bl)) pss_nil)
      (pss_one (ps_ret (x_all G.all rfl (pe_lc (own := [("one", 3)]) (g := gName 3) (tt := tYes) rfl sc.nd (pi_tup (pv 2)) (blkOk_by (N := ["value", "letters", "strengths", "one"]) (sc := defScope (topS 13)) (by decide +kernel))
        (fun _ _ _ _ _ => pg_name (i := 3) sc.nd rfl (Or.inl rfl)) (fun _ _ _ _ _ => pts_nil)
        (fun _ _ _ _ _ => pe_cal CL hr (pa_cons (pv 3) pa_nil)))))))), ?_⟩
    have lS : (S.map V.int).length = S.length := List.length_map _
    have lL : (L.map V.str).length = L.length := List.length_map _
    refine ⟨_, rfl, _, _, "tuple", true, rfl, hp.ty, by decide +kernel, true, rfl, iteF ?_⟩
    refine ⟨_, rfl, p, _, rfl, .inr hp.seq, rfl, false, rfl, iteF ?_⟩
    refine ⟨_, rfl, p, _, _, _, rfl, rfl, hp.seq, atI_nat (j := 0) rfl, a, L, rfl, ha, g.len, g.ltr, g.nd, fun H1 s1 => ⟨true, rfl, iteF ?_⟩⟩
    refine ⟨_, rfl, p, _, rfl, (hp.same s1).seq, rfl, _, _, rfl, _, _, rfl, rfl, ?_⟩
    refine ⟨_, rfl, _, _, "tuple", true, rfl, (hb.same s1).ty, by decide +kernel, true, rfl, iteF ?_⟩
    refine ⟨_, rfl, b, _, rfl, .inr (hb.same s1).seq, _, rfl, a, _, rfl, .inr (ha.same s1).seq, _, _, rfl, rfl, _, _, rfl, rfl, false, ?_, iteF ?_⟩
    · rw [lL, lS, g.ls]
      have e : (if ((L.length : Int) - 1) > 0 then ((L.length : Int) - 1) else 0) = ((L.length - 1 : Nat) : Int) := by
        split <;> omega
      rw [e, decide_eq_true rfl]
      rfl
    refine ⟨_, rfl, b, rfl, ⟨_, (hb.same s1).seq⟩, fun D hD => ?_⟩
    refine lc_tup (K := K) (a := b) (xs := S.map V.int) (fun i H' => Same H1 H' ∧ H' D = some (.lst (List.replicate i (V.bl true)))) ⟨same_upd hD, upd_same⟩ (fun i H' _ hP => ((hb.same s1).same hP.1).seq) ?_ ?_
    · intro i x H3 hx hP
      obtain ⟨hS, hLs⟩ := hP
      obtain ⟨z, rfl, hz⟩ := get_int hx
      have hi := (List.getElem?_eq_some_iff.mp hz).1
      have hb13 := g.str z (List.mem_of_getElem? hz)
      refine ⟨rfl, _, rfl, z, rfl, hb13.1, hb13.2, _, hLs, ?_, same_new hS hD, by rw [upd_same]; exact congrArg _ (congrArg _ (rep_snoc _ _))⟩
      rw [List.length_replicate]
      exact small1000 (by have := g.ls; have := g.len; omega)
    · intro H2 ⟨hS, hLs⟩
      refine ⟨D, List.replicate (S.map V.int).length true, rfl, by rw [map_rep]; exact SqL.of hLs, ?_⟩
      rw [all_true]
      exact q H2 (s1.trans hS)
/-! ### removed -/
def spRemoved : Sp := fun vs H Q _ => ∃ (v : V) (x : Str) (P : C), vs = [v, .str x] ∧ OrdC H v P ∧ x ∈ lt P ∧ P.length ≤ 100 ∧ ∀ v' H', Same H H' → OrdC H' v' (rm x P) → Q v' H'
theorem ok_removed (D : Df K mg "removed" (topS 14) ["order", "letter"]) (G : Gn K mg) : Cal P w K mg base "removed" ["order", "letter"] 1 spRemoved := by
  refine D.cal fun f fd F => ?_
  have sc : FnScope ["order", "letter", "letters", "strengths", "at", "left"] ["order", "letter"] (defScope (topS 14)) := ⟨rfl, rfl, rfl, by decide +kernel, rfl, by decide +kernel, by decide +kernel⟩
  refine F.ok sc (fun vs H Q E h => ?_) (fun cdv A outer s H vs Q E hr h => ?_)
  · obtain ⟨v, x, P, rfl, _⟩ := h
    rfl
  · obtain ⟨v, x, P, rfl, ⟨p, a, b, rfl, hp, ha, hb⟩, hx, hl, q⟩ := h
    refine ⟨_, pss_cons (ps_asg (pv 0) (pg_tup rfl (pgs_cons (pg_name (i := 2) sc.nd rfl (.inl rfl)) (pgs_cons (pg_name (i := 3) sc.nd rfl (.inl rfl)) pgs_nil))))
      (pss_cons (ps_set (i := 4) sc.nd rfl (.inl rfl) (pe_bmT PySem.F.slot_tuple_index PySem.F.type_tuple_index mt_tup_idx (pv 2) (pa_cons (pv 1) pa_nil)))
      (pss_cons (ps_set (i := 5) sc.nd rfl (.inl rfl) (pe_op op_catF (pe_slice sl_tupF (pv 2) po_none (po_some (pv 4))) (pe_slice sl_tupF (pv 2) (po_some (pe_op op_add (pv 4) pe_int)) po_none)))
      (pss_cons (ps_if (pt_cmpR op_eq (pv 4) pe_int (nomark _)) (pss_one (ps_ret (pe_tupF (pa_cons (pv 5) (pa_cons (pe_slice sl_tupF (pv 3) (po_some pe_int) po_none) pa_nil))))) pss_nil)
      (pss_cons (ps_if (pt_cmpR op_eq (pv 4) (pe_op op_sub (x_len G.len (pv 2)) pe_int) (nomark _)) (pss_one (ps_ret (pe_tupF (pa_cons (pv 5) (pa_cons (pe_slice sl_tupF (pv 3) po_none (po_some (pe_un un_neg pe_int))) pa_nil))))) pss_nil)
      (pss_one (ps_ret (pe_tupF (pa_cons (pv 5) (pa_cons (pe_op op_catF (pe_op op_catF (pe_slice sl_tupF (pv 3) po_none (po_some (pe_op op_sub (pv 4) pe_int)))
          (pe_tupF (pa_cons (pe_callB (call_min2 rfl) (by rfl) G.min boot_min (pa_cons (pe_ix ix_tup (pv 3) (pe_op op_sub (pv 4) pe_int) (fun _ _ => rfl)) (pa_cons (pe_ix ix_tup (pv 3) (pv 4) (fun _ _ => rfl)) pa_nil))) pa_nil)))
          (pe_slice sl_tupF (pv 3) (po_some (pe_op op_add (pv 4) pe_int)) po_none)) pa_nil))))))))), ?_⟩
    obtain ⟨j, hj, hm⟩ := first_at hx
    have lP : (lt P).length = P.length := lt_len P
    have lS : (st P).length = P.length - 1 := st_len P
    have lV : ((lt P).map V.str).length = (lt P).length := List.length_map _
    have lW : ((st P).map V.int).length = (st P).length := List.length_map _
    have hjl : j < P.length := by
      have := (List.getElem?_eq_some_iff.mp hj).1
      omega
    have e1 : ((j : Int) + 1) = ((j + 1 : Nat) : Int) := by omega
    refine ⟨_, rfl, p, _, rfl, hp.seq, rfl, _, _, rfl, _, _, rfl, rfl, ?_⟩
    refine ⟨_, rfl, ⟨a, _, rfl, ha⟩, _, rfl, a, lt P, x, j, rfl, rfl, ha.seq, hj, hm, ?_⟩
    refine ⟨_, rfl, _, rfl, _, rfl, a, _, rfl, ha, fun p1 H1 s1 t1 => ?_⟩
    refine ⟨_, rfl, _, rfl, _, _, rfl, rfl, _, rfl, a, _, rfl, ha.same s1, fun p2 H2 s2 t2 => ?_⟩
    rw [cut_to] at t1
    rw [e1, cut_from] at t2
    refine ⟨p1, p2, _, _, rfl, rfl, t1.same s2, t2, sz (by rw [List.length_take, List.length_drop]; omega), fun p3 H3 s3 t3 => ?_⟩
    have t3' : Tp H3 p3 ((lt (rm x P)).map V.str) := by
      refine toI t3 ?_
      rw [lt_rm_at hj hm, List.map_append, List.map_take, List.map_drop]
    have s03 : Same H H3 := s1.trans (s2.trans s3)
    have fin : ∀ (H4 : Hp) (b' : Addr), Same H3 H4 → Tp H4 b' ((st (rm x P)).map V.int) → Gives [.ref p3, .ref b'] Q H4 := fun H4 b' s4 t4 p5 H5 s5 t5 =>
      q _ H5 (s03.trans (s4.trans s5)) ⟨p5, p3, b', rfl, t5, t3'.same (s4.trans s5), t4.same s5⟩
    have hb3 := hb.same s03
    -- if at == 0
    refine ⟨_, rfl, rfl, _, rfl, ite2 (fun c => ?_) (fun c => ?_)⟩
    · have j0 : j = 0 := by
        have := V.int.inj (of_decide_eq_true c)
        omega
      subst j0
      refine ⟨_, rfl, _, rfl, 1, rfl, b, _, rfl, hb3, fun b' H4 s4 t4 => ⟨by show 2 ≤ sizeLine; decide, fin H4 b' s4 (toI t4 ?_)⟩⟩
      rw [show (1 : Int) = ((1 : Nat) : Int) from rfl, cut_from, st_rm_first hj, List.map_drop]
    · have j0 : j ≠ 0 := fun e => c (decide_eq_true (by rw [e]; rfl))
      refine ⟨_, rfl, _, rfl, a, _, rfl, .inr (ha.same s03).seq, _, _, rfl, rfl, rfl, _, rfl, ite2 (fun c2 => ?_) (fun c2 => ?_)⟩
      · have jl : j + 1 = (lt P).length := by
          have := V.int.inj (of_decide_eq_true c2)
          omega
        refine ⟨_, rfl, _, rfl, 1, rfl, -1, rfl, b, _, rfl, hb3, fun b' H4 s4 t4 => ⟨by show 2 ≤ sizeLine; decide, fin H4 b' s4 (toI t4 ?_)⟩⟩
        rw [cut_last, st_rm_last hj hm j0 jl, List.map_take, lW]
        congr 1
        omega
      · have jl : j + 1 ≠ (lt P).length := fun e => c2 (decide_eq_true (by
          show V.int (j : Int) = V.int ((((lt P).map V.str).length : Int) - 1)
          congr 1
          omega))
        have e2 : ((j : Int) - 1) = ((j - 1 : Nat) : Int) := by omega
        obtain ⟨u, hu⟩ : ∃ u, (st P)[j - 1]? = some u := ⟨_, List.getElem?_eq_getElem (by omega)⟩
        obtain ⟨v, hv⟩ : ∃ v, (st P)[j]? = some v := ⟨_, List.getElem?_eq_getElem (by omega)⟩
        have gu : ((st P).map V.int)[j - 1]? = some (.int u) := by rw [List.getElem?_map, hu]; rfl
        have gv : ((st P).map V.int)[j]? = some (.int v) := by rw [List.getElem?_map, hv]; rfl
        refine ⟨_, rfl, _, rfl, _, rfl, _, _, rfl, rfl, _, rfl, b, _, rfl, hb3, fun b1 H4 s4 t4 => ?_⟩
        have hb4 := hb3.same s4
        refine ⟨_, rfl, _, rfl, _, _, rfl, rfl, b, _, _, _, rfl, rfl, hb4.seq, at_of e2 gu, _, rfl, _, rfl, b, _, _, _, rfl, rfl, hb4.seq, atI_nat gv, u, v, rfl, by show 1 ≤ sizeLine; decide, fun b2 H5 s5 t5 => ?_⟩
        rw [e2, cut_to] at t4
        refine ⟨b1, b2, _, _, rfl, rfl, t4.same s5, t5, sz (by rw [List.length_take, List.length_singleton]; omega), fun b3 H6 s6 t6 => ?_⟩
        refine ⟨_, rfl, _, rfl, _, _, rfl, rfl, _, rfl, b, _, rfl, hb4.same (s5.trans s6), fun b4 H7 s7 t7 => ?_⟩
        rw [e1, cut_from] at t7
        refine ⟨b3, b4, _, _, rfl, rfl, t6.same s7, t7, sz (by rw [List.length_append, List.length_take, List.length_drop, List.length_singleton]; omega), fun b5 H8 s8 t8 => ⟨by show 2 ≤ sizeLine; decide, ?_⟩⟩
        refine fin H8 b5 (s4.trans (s5.trans (s6.trans (s7.trans s8)))) (toI t8 ?_)
        rw [st_rm_mid hj hm j0 jl hu hv, List.map_append, List.map_cons, List.map_take, List.map_drop, List.append_assoc]
        have e3 : (if v < u then v else u) = min u v := by
          split <;> omega
        rw [e3]
        rfl
end
end FrP
namespace FrP
open PySem PySem.Spec PyProof.Rows L2 FrR FR
theorem sides_in (b : Bool) : inV (sideV b) [.str "after", .str "before"] = true := by
  cases b <;> decide +kernel
theorem get_ref {H : Hp} {vs : List V} {qs : List R} (h : RulsV H vs qs) {i : Nat} {x : V} (e : vs[i]? = some x) : ∃ q, qs[i]? = some q ∧ RulR H x q := paired_getL h e
section
variable {P : Program} {w : World} {K : PySem.W.Frag} {mg : Str → Option Value} {base : Heap}
theorem ok_isInteger (D : Df K mg "is_integer" (topS 19) ["value"]) (G : Gn K mg) : Cal P w K mg base "is_integer" ["value"] 1 spInt := by
  refine D.cal fun f fd F => ?_
  have sc : FnScope ["value"] ["value"] (defScope (topS 19)) := ⟨rfl, rfl, rfl, by decide +kernel, rfl, by decide +kernel, by decide +kernel⟩
  refine F.ok sc (fun vs H Q E h => ?_) (fun cdv A outer s H vs Q E hr h => ?_)
  · obtain ⟨i, rfl, _⟩ := h
    rfl
  · obtain ⟨i, rfl, q⟩ := h
    refine ⟨_, pss_one (ps_ret (pe_and (x_isi G.isinstance G.int PyProof.Rows.boot_int (pv 0)) (pe_one (pe_not (x_isi G.isinstance G.bool PyProof.Rows.boot_bool (pv 0)))))), ?_⟩
    refine ⟨_, rfl, _, _, "int", true, rfl, .base (.int i), by decide +kernel, true, rfl, iteT ⟨_, rfl, _, _, "int", false, rfl, .base (.int i), by decide +kernel, false, rfl, q⟩⟩
/-! ### is_rule -/
structure OkR (q : R) : Prop where
  anchor : IsL q.anchor
  letter : IsL q.letter
  ne : q.anchor ≠ q.letter
  lo : 1 ≤ q.w
  hi : q.w ≤ 3
def spIsRule : Sp := fun vs H Q _ => ∃ (v : V) (q : R), vs = [v] ∧ RulR H v q ∧ OkR q ∧ ∀ H', Same H H' → Q (.bl true) H'
theorem ok_isRule (D : Df K mg "is_rule" (topS 20) ["value"]) (G : Gn K mg) (CL : Cal P w K mg base "is_letter" ["value"] 1 spLetter) (CI : Cal P w K mg base "is_integer" ["value"] 1 spInt) : Cal P w K mg base "is_rule" ["value"] 2 spIsRule := by
  refine D.cal fun f fd F => ?_
  have sc : FnScope ["value"] ["value"] (defScope (topS 20)) := ⟨rfl, rfl, rfl, by decide +kernel, rfl, by decide +kernel, by decide +kernel⟩
  refine F.ok sc (fun vs H Q E h => ?_) (fun cdv A outer s H vs Q E hr h => ?_)
  · obtain ⟨v, q, rfl, _⟩ := h
    rfl
  · obtain ⟨v, r, rfl, ⟨p, rfl, hp⟩, g, q⟩ := h
    obtain ⟨sd, hsd, hsq⟩ := G.sides
    refine ⟨_, pss_cons
      (ps_if (PW.pt (pw_or (pt_not (pt_val (x_isi G.isinstance G.tuple PyProof.Rows.boot_tuple (pv 0))))
          (pw_or (pt_cmpR op_ne (x_len G.len (pv 0)) pe_int (nomark _))
          (pw_or (pt_not (pt_val (x_isi G.isinstance G.str PyProof.Rows.boot_str (pe_ix ix_tup (pv 0) pe_int (fun _ _ => rfl)))))
          (pw_or1 (pt_cmpR op_notIn_seq (pe_ix ix_tup (pv 0) pe_int (fun _ _ => rfl)) (pe_glob (v := .ref sd) (by rfl) hsd rfl) (by rfl)))))))
        (pss_one (ps_ret pe_bl)) pss_nil)
      (pss_cons (ps_if (PW.pt (pw_or (pt_not (pt_val (pe_cal CL hr (pa_cons (pe_ix ix_tup (pv 0) pe_int (fun _ _ => rfl)) pa_nil))))
          (pw_or (pt_not (pt_val (pe_cal CL hr (pa_cons (pe_ix ix_tup (pv 0) pe_int (fun _ _ => rfl)) pa_nil))))
          (pw_or1 (pt_cmpR op_eq (pe_ix ix_tup (pv 0) pe_int (fun _ _ => rfl)) (pe_ix ix_tup (pv 0) pe_int (fun _ _ => rfl)) (nomark _))))))
        (pss_one (ps_ret pe_bl)) pss_nil)
      (pss_one (ps_ret (pe_and (pe_cal CI hr (pa_cons (pe_ix ix_tup (pv 0) pe_int (fun _ _ => rfl)) pa_nil)) (pe_one (pe_chain op_le op_le pe_int (pe_ix ix_tup (pv 0) pe_int (fun _ _ => rfl)) pe_int)))))), ?_⟩
    refine ⟨_, rfl, _, _, "tuple", true, rfl, hp.ty, by decide +kernel, true, rfl, iteF ?_⟩
    refine ⟨_, rfl, p, _, rfl, .inr hp.seq, rfl, false, rfl, iteF ?_⟩
    refine ⟨_, rfl, p, _, _, _, rfl, rfl, hp.seq, atI_nat (j := 0) rfl, _, _, "str", true, rfl, .base (.str _), by decide +kernel, true, rfl, iteF ?_⟩
    refine ⟨_, rfl, p, _, _, _, rfl, rfl, hp.seq, atI_nat (j := 0) rfl, sd, _, rfl, .inr (hsq _), rfl, rfl, false, ?_, iteF ?_⟩
    · rw [sides_in]
      rfl
    refine ⟨_, rfl, p, _, _, _, rfl, rfl, hp.seq, atI_nat (j := 1) rfl, r.anchor, rfl, g.anchor, fun H1 s1 => ⟨true, rfl, iteF ?_⟩⟩
    have hp1 := hp.same s1
    refine ⟨_, rfl, p, _, _, _, rfl, rfl, hp1.seq, atI_nat (j := 3) rfl, r.letter, rfl, g.letter, fun H2 s2 => ⟨true, rfl, iteF ?_⟩⟩
    have hp2 := hp1.same s2
    refine ⟨_, rfl, p, _, _, _, rfl, rfl, hp2.seq, atI_nat (j := 1) rfl, _, rfl, p, _, _, _, rfl, rfl, hp2.seq, atI_nat (j := 3) rfl, rfl, false, ?_, iteF ?_⟩
    · rw [decide_eq_false fun e => g.ne (V.str.inj e)]
    refine ⟨_, rfl, p, _, _, _, rfl, rfl, hp2.seq, atI_nat (j := 2) rfl, r.w, rfl, true, rfl, iteT ?_⟩
    refine ⟨_, rfl, p, _, _, _, rfl, rfl, hp2.seq, atI_nat (j := 2) rfl, _, _, rfl, rfl, true, ?_, iteT ⟨_, _, rfl, rfl, ?_⟩⟩
    · show V.bl (decide ((1 : Int) ≤ r.w)) = V.bl true
      rw [decide_eq_true g.lo]
    · show Q (.bl (decide (r.w ≤ (3 : Int)))) H2
      rw [decide_eq_true g.hi]
      exact q H2 (s1.trans s2)
/-! ### is_rule_list -/
def spIsRules : Sp := fun vs H Q _ => ∃ (v : V) (qs : List R), vs = [v] ∧ RulsT H v qs ∧ qs.length ≤ 20 ∧ (∀ q ∈ qs, OkR q) ∧ ∀ H', Same H H' → Q (.bl true) H'
theorem ok_isRules (D : Df K mg "is_rule_list" (topS 21) ["value"]) (G : Gn K mg) (CR : Cal P w K mg base "is_rule" ["value"] 2 spIsRule) : Cal P w K mg base "is_rule_list" ["value"] 3 spIsRules := by
  refine D.cal fun f fd F => ?_
  have sc : FnScope ["value", "rule"] ["value"] (defScope (topS 21)) := ⟨rfl, rfl, rfl, by decide +kernel, rfl, by decide +kernel, by decide +kernel⟩
  refine F.ok sc (fun vs H Q E h => ?_) (fun cdv A outer s H vs Q E hr h => ?_)
  · obtain ⟨v, q, rfl, _⟩ := h
    rfl
  · obtain ⟨v, qs, rfl, ⟨p, vs, rfl, hp, hv⟩, h20, hg, q⟩ := h
    have lv : vs.length = qs.length := Paired.length hv
    refine ⟨_, pss_one (ps_ret (pe_and (x_isi G.isinstance G.tuple PyProof.Rows.boot_tuple (pv 0))
      (pe_and (pe_cmpR op_le (x_len G.len (pv 0)) (pe_const (v := .int 20) G.mostRules fun t => ⟨_, rfl⟩) (nomark _))
      (pe_one (x_all G.all rfl (pe_lc (own := [("rule", 1)]) (g := gName 1) (tt := tYes) rfl sc.nd (pi_tup (pv 0)) (blkOk_by (N := ["value", "rule"]) (sc := defScope (topS 21)) (by decide +kernel))
        (fun _ _ _ _ _ => pg_name (i := 1) sc.nd rfl (Or.inl rfl)) (fun _ _ _ _ _ => pts_nil)
        (fun _ _ _ _ _ => pe_cal CR hr (pa_cons (pv 1) pa_nil)))))))), ?_⟩
    refine ⟨_, rfl, _, _, "tuple", true, rfl, hp.ty, by decide +kernel, true, rfl, iteT ?_⟩
    refine ⟨_, rfl, p, _, rfl, .inr hp.seq, _, _, rfl, rfl, true, ?_, iteT ?_⟩
    · show V.bl (decide ((vs.length : Int) ≤ 20)) = V.bl true
      rw [decide_eq_true (by omega)]
    refine ⟨_, rfl, p, rfl, ⟨_, hp.seq⟩, fun D hD => ?_⟩
    refine lc_tup (K := K) (a := p) (xs := vs) (fun i H' => Same H H' ∧ H' D = some (.lst (List.replicate i (V.bl true)))) ⟨same_upd hD, upd_same⟩ (fun i H' _ hP => (hp.same hP.1).seq) ?_ ?_
    · intro i x H3 hx hP
      obtain ⟨hS, hLs⟩ := hP
      obtain ⟨r, hz, hr'⟩ := get_ref hv hx
      have hi := (List.getElem?_eq_some_iff.mp hz).1
      refine ⟨rfl, _, rfl, x, r, rfl, hr'.same hS, hg r (List.mem_of_getElem? hz), fun H4 s4 => ⟨_, s4 _ _ hLs, ?_, same_new (hS.trans s4) hD, by rw [upd_same, rep_snoc]⟩⟩
      rw [List.length_replicate]
      exact small1000 (by omega)
    · intro H2 ⟨hS, hLs⟩
      refine ⟨D, List.replicate vs.length true, rfl, by rw [map_rep]; exact SqL.of hLs, ?_⟩
      rw [all_true]
      exact q H2 hS
/-! ### check_order, check_rules -/
def spCheckO : Sp := fun vs H Q _ => ∃ (v n : V) (L : List Str) (S : List Int), vs = [v, n] ∧ OrdR H v L S ∧ GoodO L S ∧ ∀ H', Same H H' → Q .non H'
theorem ok_checkOrder (D : Df K mg "check_order" (topS 22) ["order", "name"]) (CO : Cal P w K mg base "is_order" ["value"] 3 spIsOrder) : Cal P w K mg base "check_order" ["order", "name"] 4 spCheckO := by
  refine D.cal fun f fd F => ?_
  have sc : FnScope ["order", "name"] ["order", "name"] (defScope (topS 22)) := ⟨rfl, rfl, rfl, by decide +kernel, rfl, by decide +kernel, by decide +kernel⟩
  refine F.ok sc (fun vs H Q E h => ?_) (fun cdv A outer s H vs Q E hr h => ?_)
  · obtain ⟨v, n, L, S, rfl, _⟩ := h
    rfl
  · obtain ⟨v, n, L, S, rfl, ho, g, q⟩ := h
    refine ⟨_, pss_one (ps_if (pt_not (pt_val (pe_cal CO hr (pa_cons (pv 0) pa_nil)))) (pss_one ps_never) pss_nil), ?_⟩
    exact ⟨_, rfl, v, L, S, rfl, ho, g, fun H1 s1 => ⟨true, rfl, iteF (q H1 s1)⟩⟩
def spCheckR : Sp := fun vs H Q _ => ∃ (v n : V) (qs : List R), vs = [v, n] ∧ RulsT H v qs ∧ qs.length ≤ 20 ∧ (∀ q ∈ qs, OkR q) ∧ ∀ H', Same H H' → Q .non H'
theorem ok_checkRules (D : Df K mg "check_rules" (topS 29) ["value", "name"]) (CO : Cal P w K mg base "is_rule_list" ["value"] 3 spIsRules) : Cal P w K mg base "check_rules" ["value", "name"] 4 spCheckR := by
  refine D.cal fun f fd F => ?_
  have sc : FnScope ["value", "name"] ["value", "name"] (defScope (topS 29)) := ⟨rfl, rfl, rfl, by decide +kernel, rfl, by decide +kernel, by decide +kernel⟩
  refine F.ok sc (fun vs H Q E h => ?_) (fun cdv A outer s H vs Q E hr h => ?_)
  · obtain ⟨v, n, qs, rfl, _⟩ := h
    rfl
  · obtain ⟨v, n, qs, rfl, ho, h20, g, q⟩ := h
    refine ⟨_, pss_one (ps_if (pt_not (pt_val (pe_cal CO hr (pa_cons (pv 0) pa_nil)))) (pss_one ps_never) pss_nil), ?_⟩
    exact ⟨_, rfl, v, qs, rfl, ho, h20, g, fun H1 s1 => ⟨true, rfl, iteF (q H1 s1)⟩⟩
end
end FrP
/-! Putting in front is putting behind in the reversed order; an order's chain. -/
namespace FR
variable {α : Type} [DecidableEq α]
theorem rev_put (L : List α) (x : α) (k : Nat) (hk : k ≤ L.length) : (L.reverse.take k ++ x :: L.reverse.drop k).reverse = L.take (L.length - k) ++ x :: L.drop (L.length - k) := by
  rw [List.reverse_append, List.reverse_cons, List.append_assoc]
  have e1 : (L.reverse.drop k).reverse = L.take (L.length - k) := by rw [List.drop_reverse, List.reverse_reverse]
  have e2 : (L.reverse.take k).reverse = L.drop (L.length - k) := by rw [List.take_reverse, List.reverse_reverse]
  rw [e1, e2]
  rfl
theorem nodup_at {L : List α} (hn : L.Nodup) {i j : Nat} {x : α} (a : L[i]? = some x) (b : L[j]? = some x) : i = j := by
  obtain ⟨h1, e1⟩ := List.getElem?_eq_some_iff.mp a
  obtain ⟨h2, e2⟩ := List.getElem?_eq_some_iff.mp b
  exact (List.getElem_inj hn).mp (e1.trans e2.symm)
/-- put behind in the reversed order, and turned back -/
theorem insB_rev {a x : α} {w : Int} {P : Ch α} {j e : Nat} (hn : (lt P).Nodup) (h : (lt P).reverse[j]? = some a) (hi : j ≤ e) (he : e ≤ (st P).reverse.length)
    (hk : ∀ k t, j ≤ k → k < e → (st P).reverse[k]? = some t → w < t) (hs : e = (st P).reverse.length ∨ ∃ t, (st P).reverse[e]? = some t ∧ t ≤ w) :
    ((lt P).reverse.take (e + 1) ++ x :: (lt P).reverse.drop (e + 1)).reverse = lt (insB a w x P) ∧ ((st P).reverse.take e ++ w :: (st P).reverse.drop e).reverse = st (insB a w x P) := by
  have lL := lt_len P
  have lS := st_len P
  rw [List.length_reverse] at he hs
  have hj : j < (lt P).length := by
    have := (List.getElem?_eq_some_iff.mp h).1
    rwa [List.length_reverse] at this
  rw [List.getElem?_reverse hj] at h
  have hm : ∀ m, m < (lt P).length - 1 - j → (lt P)[m]? ≠ some a := fun m h1 h2 => by
    have := nodup_at hn h2 h
    omega
  obtain ⟨q1, q2⟩ := insB_idx (a := a) (x := x) (w := w) (P := P) (i := (lt P).length - 1 - j) (e := (st P).length - e) h hm (by omega)
    (fun k t h1 h2 h3 => hk ((st P).length - 1 - k) t (by omega) (by omega) (by
      rw [List.getElem?_reverse (by omega)]
      have : (st P).length - 1 - ((st P).length - 1 - k) = k := by omega
      rw [this]; exact h3)) (by
    by_cases h0 : e = (st P).length
    · exact .inl (by omega)
    · rcases hs with h1 | ⟨t, h1, h2⟩
      · exact absurd h1 h0
      · rw [List.getElem?_reverse (by omega)] at h1
        refine .inr ⟨t, ?_, h2⟩
        have : (st P).length - e - 1 = (st P).length - 1 - e := by omega
        rw [this]; exact h1)
  rw [q1, q2, rev_put _ _ _ (by omega), rev_put _ _ _ he]
  have : (lt P).length - (e + 1) = (st P).length - e := by omega
  rw [this]
  exact ⟨rfl, rfl⟩
/-- the chain of an order -/
def enc : List α → List Int → Ch α
  | [], _ => []
  | y :: L, S => (0, y) :: (S.zip L)
theorem lt_zip : ∀ (S : List Int) (L : List α), S.length = L.length → lt (S.zip L) = L
  | [], [], _ => rfl
  | s :: S, y :: L, h => by
    show y :: lt (S.zip L) = y :: L
    rw [lt_zip S L (by simpa using h)]
  | [], _ :: _, h => by simp at h
  | _ :: _, [], h => by simp at h
theorem fst_zip : ∀ (S : List Int) (L : List α), S.length = L.length → (S.zip L).map (·.1) = S
  | [], [], _ => rfl
  | s :: S, y :: L, h => by
    show s :: (S.zip L).map (·.1) = s :: S
    rw [fst_zip S L (by simpa using h)]
  | [], _ :: _, h => by simp at h
  | _ :: _, [], h => by simp at h
theorem lt_enc {L : List α} {S : List Int} (h : S.length = L.length - 1) : lt (enc L S) = L := by
  cases L with
  | nil => rfl
  | cons y L =>
    show y :: lt (S.zip L) = y :: L
    rw [lt_zip S L (by simpa using h)]
theorem st_enc {L : List α} {S : List Int} (h : S.length = L.length - 1) : st (enc L S) = S := by
  cases L with
  | nil =>
    have : S = [] := List.length_eq_zero_iff.mp (by simpa using h)
    rw [this]; rfl
  | cons y L =>
    show (S.zip L).map (·.1) = S
    rw [fst_zip S L (by simpa using h)]
theorem hd0_enc (L : List α) (S : List Int) : hd0 (enc L S) := by
  cases L with
  | nil => exact True.intro
  | cons y L => exact Int.le_refl 0
end FR
namespace FrP
open PySem PySem.Spec PyProof.Rows L2 FrR FR
theorem inV_str (z : Str) : ∀ L : List Str, inV (.str z) (L.map V.str) = decide (z ∈ L)
  | [] => by simp [inV]
  | y :: L => by
    have ih := inV_str z L
    unfold inV at ih ⊢
    rw [List.map_cons, List.any_cons, ih]
    show ((y == z) || decide (z ∈ L)) = _
    by_cases e : y = z
    · subst e
      simp
    · have e' : ¬ z = y := fun q => e q.symm
      have e2 : (y == z) = false := beq_eq_false_iff_ne.mpr e
      simp [e2, e']
/-- «put behind» at e: what the two lists become -/
def pL (L : List Str) (e : Nat) (x : Str) : List Str := L.take (e + 1) ++ x :: L.drop (e + 1)
def pS (S : List Int) (e : Nat) (w : Int) : List Int := S.take e ++ w :: S.drop e
/-- e is where a letter goes that is put behind the one at i with the strength w -/
structure EndA (S : List Int) (w : Int) (i e : Nat) : Prop where
  lo : i ≤ e
  hi : e ≤ S.length
  run : ∀ k t, i ≤ k → k < e → S[k]? = some t → w < t
  stop : e = S.length ∨ ∃ t, S[e]? = some t ∧ t ≤ w
section
variable {P : Program} {w : World} {K : PySem.W.Frag} {mg : Str → Option Value} {base : Heap}
/-! ### why_not -/
def spWhy : Sp := fun vs H Q _ => ∃ (v r : V) (L : List Str) (S : List Int) (q : R), vs = [v, r] ∧ OrdR H v L S ∧ RulR H r q ∧ q.anchor ∈ L ∧ L.length ≤ 11 ∧ Q (.str "") H
theorem ok_why (D : Df K mg "why_not" (topS 23) ["order", "rule"]) (G : Gn K mg) : Cal P w K mg base "why_not" ["order", "rule"] 1 spWhy := by
  refine D.cal fun f fd F => ?_
  have sc : FnScope ["order", "rule"] ["order", "rule"] (defScope (topS 23)) := ⟨rfl, rfl, rfl, by decide +kernel, rfl, by decide +kernel, by decide +kernel⟩
  refine F.ok sc (fun vs H Q E h => ?_) (fun cdv A outer s H vs Q E hr h => ?_)
  · obtain ⟨v, r, L, S, q, rfl, _⟩ := h
    rfl
  · obtain ⟨v, r, L, S, q, rfl, ⟨p, a, b, rfl, hp, ha, hb⟩, ⟨pr, rfl, hr'⟩, hm, hl, hq⟩ := h
    refine ⟨_, pss_cons
      (ps_if (pt_cmpR op_notIn_seq (pe_ix ix_tup (pv 1) pe_int (fun _ _ => rfl)) (pe_ix ix_tup (pv 0) pe_int (fun _ _ => rfl)) (by rfl)) (pss_one (ps_ret pe_str)) pss_nil)
      (pss_one (ps_ret (pe_ifExp (PW.pt (pw_and (pt_cmpR op_ge (x_len G.len (pe_ix ix_tup (pv 0) pe_int (fun _ _ => rfl))) (pe_const (v := .int 12) G.mostLetters fun t => ⟨_, rfl⟩) (nomark _))
        (pw_and1 (pt_cmpR op_notIn_seq (pe_ix ix_tup (pv 1) pe_int (fun _ _ => rfl)) (pe_ix ix_tup (pv 0) pe_int (fun _ _ => rfl)) (by rfl))))) pe_str pe_str))), ?_⟩
    have lV : (L.map V.str).length = L.length := List.length_map _
    refine ⟨_, rfl, pr, _, _, _, rfl, rfl, hr'.seq, atI_nat (j := 1) rfl, _, rfl, p, _, _, _, rfl, rfl, hp.seq, atI_nat (j := 0) rfl, a, _, rfl, .inr ha.seq, rfl, flat_strs L, false, ?_, iteF ?_⟩
    · show V.bl (!inV (.str q.anchor) (L.map V.str)) = V.bl false
      rw [inV_str, decide_eq_true hm]
      rfl
    refine ⟨_, rfl, p, _, _, _, rfl, rfl, hp.seq, atI_nat (j := 0) rfl, a, _, rfl, .inr ha.seq, _, _, rfl, rfl, false, ?_, iteF hq⟩
    show V.bl (decide ((12 : Int) ≤ ((L.map V.str).length : Int))) = V.bl false
    rw [lV, decide_eq_false (by omega)]
/-! ### turned_around -/
def spTurn : Sp := fun vs H Q _ => ∃ (v : V) (L : List Str) (S : List Int), vs = [v] ∧ OrdR H v L S ∧ ∀ v' H', Same H H' → OrdR H' v' L.reverse S.reverse → Q v' H'
theorem ok_turn (D : Df K mg "turned_around" (topS 24) ["order"]) : Cal P w K mg base "turned_around" ["order"] 1 spTurn := by
  refine D.cal fun f fd F => ?_
  have sc : FnScope ["order"] ["order"] (defScope (topS 24)) := ⟨rfl, rfl, rfl, by decide +kernel, rfl, by decide +kernel, by decide +kernel⟩
  refine F.ok sc (fun vs H Q E h => ?_) (fun cdv A outer s H vs Q E hr h => ?_)
  · obtain ⟨v, L, S, rfl, _⟩ := h
    rfl
  · obtain ⟨v, L, S, rfl, ⟨p, a, b, rfl, hp, ha, hb⟩, q⟩ := h
    refine ⟨_, pss_one (ps_ret (pe_tupF (pa_cons (pe_revF (pe_ix ix_tup (pv 0) pe_int (fun _ _ => rfl))) (pa_cons (pe_revF (pe_ix ix_tup (pv 0) pe_int (fun _ _ => rfl))) pa_nil)))), ?_⟩
    refine ⟨_, rfl, p, _, _, _, rfl, rfl, hp.seq, atI_nat (j := 0) rfl, a, _, rfl, ha, fun p1 H1 s1 t1 => ?_⟩
    refine ⟨_, rfl, p, _, _, _, rfl, rfl, (hp.same s1).seq, atI_nat (j := 1) rfl, b, _, rfl, hb.same s1, fun p2 H2 s2 t2 => ⟨by show 2 ≤ sizeLine; decide, fun p3 H3 s3 t3 => ?_⟩⟩
    rw [← List.map_reverse] at t1 t2
    exact q _ H3 (s1.trans (s2.trans s3)) ⟨p3, p1, p2, rfl, t3, t1.same (s2.trans s3), t2.same s3⟩
/-! ### put_after -/
def spPutAfter : Sp := fun vs H Q _ => ∃ (v : V) (a x : Str) (ww : Int) (L : List Str) (S : List Int), vs = [v, .str a, .int ww, .str x] ∧ OrdR H v L S ∧ a ∈ L ∧ S.length = L.length - 1 ∧ L.length ≤ 100 ∧
  ∀ (i e : Nat) v' H', Same H H' → L[i]? = some a → (∀ m, m < i → L[m]? ≠ some a) → EndA S ww i e → OrdR H' v' (pL L e x) (pS S e ww) → Q v' H'
theorem ok_putAfter (D : Df K mg "put_after" (topS 25) ["order", "anchor", "strength", "letter"]) (G : Gn K mg) : Cal P w K mg base "put_after" ["order", "anchor", "strength", "letter"] 1 spPutAfter := by
  refine D.cal fun f fd F => ?_
  have sc : FnScope ["order", "anchor", "strength", "letter", "letters", "strengths", "at", "row"] ["order", "anchor", "strength", "letter"] (defScope (topS 25)) := ⟨rfl, rfl, rfl, by decide +kernel, rfl, by decide +kernel, by decide +kernel⟩
  refine F.ok sc (fun vs H Q E h => ?_) (fun cdv A outer s H vs Q E hr h => ?_)
  · obtain ⟨v, a, x, ww, L, S, rfl, _⟩ := h
    rfl
  · obtain ⟨v, an, x, ww, L, S, rfl, ⟨p, a, b, rfl, hp, ha, hb⟩, hm, hls, hl, q⟩ := h
    refine ⟨_, pss_cons (ps_asg (pv 0) (pg_tup rfl (pgs_cons (pg_name (i := 4) sc.nd rfl (.inl rfl)) (pgs_cons (pg_name (i := 5) sc.nd rfl (.inl rfl)) pgs_nil))))
      (pss_cons (ps_set (i := 6) sc.nd rfl (.inl rfl) (pe_bmT PySem.F.slot_tuple_index PySem.F.type_tuple_index mt_tup_idx (pv 4) (pa_cons (pv 1) pa_nil)))
      (pss_cons (ps_while PassesOwn.never (PW.pt (pw_and (pt_cmpR op_lt (pv 6) (x_len G.len (pv 5)) (nomark _)) (pw_and1 (pt_cmpR op_gt (pe_ix ix_tup (pv 5) (pv 6) (fun _ _ => rfl)) (pv 2) (nomark _)))))
        (pss_one (ps_set (i := 6) sc.nd rfl (.inl rfl) (pe_op op_add (pv 6) pe_int))))
      (pss_cons (ps_set (i := 7) sc.nd rfl (.inl rfl) (pe_op op_catF (pe_op op_catF (pe_slice sl_tupF (pv 4) po_none (po_some (pe_op op_add (pv 6) pe_int))) (pe_tupF (pa_cons (pv 3) pa_nil))) (pe_slice sl_tupF (pv 4) (po_some (pe_op op_add (pv 6) pe_int)) po_none)))
      (pss_one (ps_ret (pe_tupF (pa_cons (pv 7) (pa_cons (pe_op op_catF (pe_op op_catF (pe_slice sl_tupF (pv 5) po_none (po_some (pv 6))) (pe_tupF (pa_cons (pv 2) pa_nil))) (pe_slice sl_tupF (pv 5) (po_some (pv 6)) po_none)) pa_nil)))))))), ?_⟩
    obtain ⟨i, hi, hm'⟩ := first_at hm
    have lV : (L.map V.str).length = L.length := List.length_map _
    have lW : (S.map V.int).length = S.length := List.length_map _
    have hil : i < L.length := (List.getElem?_eq_some_iff.mp hi).1
    refine ⟨_, rfl, p, _, rfl, hp.seq, rfl, _, _, rfl, _, _, rfl, rfl, ?_⟩
    refine ⟨_, rfl, ⟨a, _, rfl, ha⟩, _, rfl, a, L, an, i, rfl, rfl, ha.seq, hi, hm', ?_⟩
    refine ⟨fun m σ H' => H' = H ∧ ∃ e : Nat, σ = [some (.ref p), some (.str an), some (.int ww), some (.str x), some (.ref a), some (.ref b), some (.int (e : Int)), none] ∧ i ≤ e ∧ e ≤ S.length ∧ (∀ k t, i ≤ k → k < e → S[k]? = some t → ww < t) ∧ m = S.length - e,
      ⟨_, rfl, i, rfl, Nat.le_refl _, by omega, fun k t h1 h2 => absurd h2 (by omega), rfl⟩, ?_⟩
    rintro m σ H' ⟨rfl, e, rfl, h1, h2, h3, rfl⟩
    -- what follows the loop
    have fin : EndA S ww i e → tSeq (tAsg (tOp rCatF (tOp rCatF (tSl rSlF (tVar 4) tNoPart (tPart (tOp (rI0 fun i j => .int (i + j)) (tVar 6) (tC (.int 1))))) (tTupF (tCons (tVar 3) tNil))) (tSl rSlF (tVar 4) (tPart (tOp (rI0 fun i j => .int (i + j)) (tVar 6) (tC (.int 1)))) tNoPart)) (gName 7))
        (tRet (tTupF (tCons (tVar 7) (tCons (tOp rCatF (tOp rCatF (tSl rSlF (tVar 5) tNoPart (tPart (tVar 6))) (tTupF (tCons (tVar 2) tNil))) (tSl rSlF (tVar 5) (tPart (tVar 6)) tNoPart)) tNil)))) { nx := fun _ H' => Q .non H', rt := Q }
        [some (.ref p), some (.str an), some (.int ww), some (.str x), some (.ref a), some (.ref b), some (.int (e : Int)), none] H' := by
      intro hE
      have e1 : ((e : Int) + 1) = ((e + 1 : Nat) : Int) := by omega
      refine ⟨_, rfl, _, rfl, _, _, rfl, rfl, _, rfl, a, _, rfl, ha, fun p1 H1 s1 t1 => ?_⟩
      rw [e1, cut_to] at t1
      refine ⟨_, rfl, by show 1 ≤ sizeLine; decide, fun p2 H2 s2 t2 => ?_⟩
      refine ⟨p1, p2, _, _, rfl, rfl, t1.same s2, t2, sz (by rw [List.length_take, List.length_singleton]; omega), fun p3 H3 s3 t3 => ?_⟩
      have s03 := s1.trans (s2.trans s3)
      refine ⟨_, rfl, _, rfl, _, _, rfl, rfl, _, rfl, a, _, rfl, ha.same s03, fun p4 H4 s4 t4 => ?_⟩
      rw [e1, cut_from] at t4
      refine ⟨p3, p4, _, _, rfl, rfl, t3.same s4, t4, sz (by rw [List.length_append, List.length_take, List.length_drop, List.length_singleton]; omega), fun p5 H5 s5 t5 => ?_⟩
      have s05 := s03.trans (s4.trans s5)
      have t5' : Tp H5 p5 ((pL L e x).map V.str) := by
        refine toI t5 ?_
        unfold pL
        rw [List.map_append, List.map_cons, List.map_take, List.map_drop, List.append_assoc]
        rfl
      refine ⟨_, rfl, _, rfl, _, rfl, _, rfl, b, _, rfl, hb.same s05, fun p6 H6 s6 t6 => ?_⟩
      rw [cut_to] at t6
      refine ⟨_, rfl, by show 1 ≤ sizeLine; decide, fun p7 H7 s7 t7 => ?_⟩
      refine ⟨p6, p7, _, _, rfl, rfl, t6.same s7, t7, sz (by rw [List.length_take, List.length_singleton]; omega), fun p8 H8 s8 t8 => ?_⟩
      have s08 := s05.trans (s6.trans (s7.trans s8))
      refine ⟨_, rfl, _, rfl, _, rfl, b, _, rfl, hb.same s08, fun p9 H9 s9 t9 => ?_⟩
      rw [cut_from] at t9
      refine ⟨p8, p9, _, _, rfl, rfl, t8.same s9, t9, sz (by rw [List.length_append, List.length_take, List.length_drop, List.length_singleton]; omega), fun p10 H10 s10 t10 => ⟨by show 2 ≤ sizeLine; decide, fun p11 H11 s11 t11 => ?_⟩⟩
      have s5b := s6.trans (s7.trans (s8.trans (s9.trans (s10.trans s11))))
      refine q i e _ H11 (s05.trans s5b) hi hm' hE ⟨p11, p5, p10, rfl, t11, t5'.same s5b, (toI t10 ?_).same s11⟩
      unfold pS
      rw [List.map_append, List.map_cons, List.map_take, List.map_drop, List.append_assoc]
      rfl
    refine ⟨_, rfl, _, rfl, b, _, rfl, .inr hb.seq, _, _, rfl, rfl, _, rfl, ite2 (fun c => ?_) (fun c => ?_)⟩
    · have c' : (e : Int) < ((S.map V.int).length : Int) := of_decide_eq_true c
      rw [lW] at c'
      obtain ⟨t, ht⟩ : ∃ t, S[e]? = some t := ⟨_, List.getElem?_eq_getElem (by omega)⟩
      have gt : (S.map V.int)[e]? = some (.int t) := by rw [List.getElem?_map, ht]; rfl
      refine ⟨_, rfl, _, rfl, b, _, _, _, rfl, rfl, hb.seq, atI_nat gt, _, rfl, _, _, rfl, rfl, _, rfl, ite2 (fun c2 => ?_) (fun c2 => ?_)⟩
      · have c2' : ww < t := of_decide_eq_true c2
        refine ⟨fun σ' H'' => ∃ m', m' < S.length - e ∧ (H'' = H' ∧ ∃ e : Nat, σ' = [some (.ref p), some (.str an), some (.int ww), some (.str x), some (.ref a), some (.ref b), some (.int (e : Int)), none] ∧ i ≤ e ∧ e ≤ S.length ∧ (∀ k t, i ≤ k → k < e → S[k]? = some t → ww < t) ∧ m' = S.length - e), fun σ' H'' h => h, ?_⟩
        refine ⟨_, rfl, _, _, rfl, rfl, S.length - (e + 1), by omega, rfl, e + 1, rfl, by omega, by omega, fun k u k1 k2 k3 => ?_, rfl⟩
        by_cases ke : k = e
        · subst ke
          rw [ht] at k3
          cases k3
          exact c2'
        · exact h3 k u k1 (by omega) k3
      · have c2' : ¬ ww < t := fun z => c2 (decide_eq_true z)
        exact fin ⟨h1, h2, h3, .inr ⟨t, ht, by omega⟩⟩
    · have c' : ¬ (e : Int) < ((S.map V.int).length : Int) := fun z => c (decide_eq_true z)
      rw [lW] at c'
      exact fin ⟨h1, h2, h3, .inl (by omega)⟩
end
end FrP
namespace FrP
open PySem PySem.Spec PyProof.Rows L2 FrR FR
section
variable {P : Program} {w : World} {K : PySem.W.Frag} {mg : Str → Option Value} {base : Heap}
theorem insA_end {a x : Str} {ww : Int} {P : C} {i e : Nat} (hi : (lt P)[i]? = some a) (hm : ∀ m, m < i → (lt P)[m]? ≠ some a) (h : EndA (st P) ww i e) : lt (insA a ww x P) = pL (lt P) e x ∧ st (insA a ww x P) = pS (st P) e ww :=
  insA_idx hi hm h.lo h.hi h.run h.stop
/-! ### put -/
def spPut : Sp := fun vs H Q _ => ∃ (v r : V) (P : C) (q : R), vs = [v, r] ∧ OrdC H v P ∧ RulR H r q ∧ q.anchor ∈ lt P ∧ q.anchor ≠ q.letter ∧ (lt P).Nodup ∧ P.length ≤ 20 ∧ ∀ v' H', Same H H' → OrdC H' v' (putC q P) → Q v' H'
theorem rm_len (x : Str) (P : C) : (rm x P).length ≤ P.length := by
  have h1 := lt_len (rm x P)
  have h2 := lt_len P
  rw [lt_rm] at h1
  have h3 := List.length_erase_le (l := lt P) (a := x)
  omega
theorem ok_put (D : Df K mg "put" (topS 26) ["order", "rule"]) (CR : Cal P w K mg base "removed" ["order", "letter"] 1 spRemoved) (CA : Cal P w K mg base "put_after" ["order", "anchor", "strength", "letter"] 1 spPutAfter) (CT : Cal P w K mg base "turned_around" ["order"] 1 spTurn) :
    Cal P w K mg base "put" ["order", "rule"] 2 spPut := by
  refine D.cal fun f fd F => ?_
  have sc : FnScope ["order", "rule", "side", "anchor", "strength", "letter"] ["order", "rule"] (defScope (topS 26)) := ⟨rfl, rfl, rfl, by decide +kernel, rfl, by decide +kernel, by decide +kernel⟩
  refine F.ok sc (fun vs H Q E h => ?_) (fun cdv A outer s H vs Q E hr h => ?_)
  · obtain ⟨v, r, P, q, rfl, _⟩ := h
    rfl
  · obtain ⟨v, r, P, q, rfl, ho, ⟨pr, rfl, hq⟩, hm, hne, hn, hl, hQ⟩ := h
    refine ⟨_, pss_cons (ps_asg (pv 1) (pg_tup rfl (pgs_cons (pg_name (i := 2) sc.nd rfl (.inl rfl)) (pgs_cons (pg_name (i := 3) sc.nd rfl (.inl rfl)) (pgs_cons (pg_name (i := 4) sc.nd rfl (.inl rfl)) (pgs_cons (pg_name (i := 5) sc.nd rfl (.inl rfl)) pgs_nil))))))
      (pss_cons (ps_if (pt_cmpR op_in_seq (pv 5) (pe_ix ix_tup (pv 0) pe_int (fun _ _ => rfl)) (by rfl)) (pss_one (ps_set (i := 0) sc.nd rfl (.inl rfl) (pe_cal CR hr (pa_cons (pv 0) (pa_cons (pv 5) pa_nil))))) pss_nil)
      (pss_cons (ps_if (pt_cmpR op_eq (pv 2) pe_str (nomark _)) (pss_one (ps_ret (pe_cal CA hr (pa_cons (pv 0) (pa_cons (pv 3) (pa_cons (pv 4) (pa_cons (pv 5) pa_nil))))))) pss_nil)
      (pss_one (ps_ret (pe_cal CT hr (pa_cons (pe_cal CA hr (pa_cons (pe_cal CT hr (pa_cons (pv 0) pa_nil)) (pa_cons (pv 3) (pa_cons (pv 4) (pa_cons (pv 5) pa_nil))))) pa_nil)))))), ?_⟩
    have fin : ∀ v' H', Same H H' → OrdC H' v' (rm q.letter P) → tSeq (tIfS (tTest (tOp rEq (tVar 2) (tC (.str "after")))) (tRet (tCall spPutAfter [] E0 (tCons (tVar 0) (tCons (tVar 3) (tCons (tVar 4) (tCons (tVar 5) tNil)))))) tNext)
        (tRet (tCall spTurn [] E0 (tCons (tCall spPutAfter [] E0 (tCons (tCall spTurn [] E0 (tCons (tVar 0) tNil)) (tCons (tVar 3) (tCons (tVar 4) (tCons (tVar 5) tNil))))) tNil))) { nx := fun _ H' => Q .non H', rt := Q }
        [some v', some (.ref pr), some (sideV q.after), some (.str q.anchor), some (.int q.w), some (.str q.letter)] H' := by
      intro v' H' hS ho'
      have hm' : q.anchor ∈ lt (rm q.letter P) := (mem_rm hne P).mpr hm
      have hl' := rm_len q.letter P
      have lL := lt_len (rm q.letter P)
      have lS := st_len (rm q.letter P)
      refine ⟨_, rfl, rfl, _, rfl, ite2 (fun c => ?_) (fun c => ?_)⟩
      · have ha : q.after = true := by
          have c' : sideV q.after = V.str "after" := of_decide_eq_true c
          cases h : q.after with
          | true => rfl
          | false =>
            rw [h] at c'
            exact absurd (V.str.inj c') (by decide +kernel)
        refine ⟨_, rfl, _, rfl, _, rfl, _, rfl, v', q.anchor, q.letter, q.w, _, _, rfl, ho', hm', by omega, by omega, fun i e v2 H2 s2 h1 h2 h3 o2 => hQ v2 H2 (hS.trans s2) ?_⟩
        have e2 := insA_end (x := q.letter) h1 h2 h3
        unfold putC ins OrdC
        rw [if_pos ha, e2.1, e2.2]
        exact o2
      · have ha : ¬ q.after = true := fun h => c (decide_eq_true (by rw [h]; rfl))
        refine ⟨_, rfl, v', _, _, rfl, ho', fun v2 H2 s2 o2 => ?_⟩
        refine ⟨_, rfl, _, rfl, _, rfl, v2, q.anchor, q.letter, q.w, _, _, rfl, o2, List.mem_reverse.mpr hm', by rw [List.length_reverse, List.length_reverse]; omega, by rw [List.length_reverse]; omega, fun i e v3 H3 s3 h1 h2 h3 o3 => ?_⟩
        refine ⟨v3, _, _, rfl, o3, fun v4 H4 s4 o4 => hQ v4 H4 (hS.trans (s2.trans (s3.trans s4))) ?_⟩
        have e2 := insB_rev (x := q.letter) (w := q.w) (nodup_rm hn) h1 h3.lo h3.hi h3.run h3.stop
        unfold pL pS at o4
        rw [e2.1, e2.2] at o4
        unfold putC ins OrdC
        rw [if_neg ha]
        exact o4
    obtain ⟨p, a, b, rfl, hp, ha, hb⟩ := id ho
    refine ⟨_, rfl, pr, _, rfl, hq.seq, rfl, _, _, rfl, _, _, rfl, _, _, rfl, _, _, rfl, rfl, ?_⟩
    refine ⟨_, rfl, _, rfl, p, _, _, _, rfl, rfl, hp.seq, atI_nat (j := 0) rfl, a, _, rfl, .inr ha.seq, rfl, flat_strs _, _, rfl, ite2 (fun c => ?_) (fun c => ?_)⟩
    · have c' : inV (.str q.letter) ((lt P).map V.str) = true := c
      rw [inV_str] at c'
      exact ⟨_, rfl, _, rfl, _, q.letter, P, rfl, ho, of_decide_eq_true c', by omega, fun v' H' s' o' => fin v' H' s' o'⟩
    · have c' : ¬ inV (.str q.letter) ((lt P).map V.str) = true := c
      rw [inV_str] at c'
      have hx : q.letter ∉ lt P := fun h => c' (decide_eq_true h)
      exact fin (.ref p) H (Same.refl H) (by rw [rm_not_mem hx]; exact ho)
/-! ### led -/
def spLed : Sp := fun vs H Q _ => ∃ (v r : V) (U : List Str) (P D : C) (qs : List R), vs = [v, r] ∧ OrdC H v P ∧ GoodO (lt P) (st P) ∧ RulsT H r qs ∧ qs.length ≤ 20 ∧ (∀ q ∈ qs, OkR q) ∧ (∀ q ∈ qs, GoodR U q) ∧ Good U P ∧ (∀ P' : C, Good U P' → P'.length ≤ 11) ∧ ledC P qs = some D ∧
  ∀ v' H', Same H H' → OrdC H' v' D → Q v' H'
theorem ok_led (D : Df K mg "led" (topS 27) ["order", "rules"]) (G : Gn K mg) (CO : Cal P w K mg base "check_order" ["order", "name"] 4 spCheckO) (CR : Cal P w K mg base "is_rule_list" ["value"] 3 spIsRules) (CW : Cal P w K mg base "why_not" ["order", "rule"] 1 spWhy) (CP : Cal P w K mg base "put" ["order", "rule"] 2 spPut) :
    Cal P w K mg base "led" ["order", "rules"] 5 spLed := by
  refine D.cal fun f fd F => ?_
  have sc : FnScope ["order", "rules", "index", "rule", "why"] ["order", "rules"] (defScope (topS 27)) := ⟨rfl, rfl, rfl, by decide +kernel, rfl, by decide +kernel, by decide +kernel⟩
  refine F.ok sc (fun vs H Q E h => ?_) (fun cdv A outer s H vs Q E hr h => ?_)
  · obtain ⟨v, r, U, P, D, qs, rfl, _⟩ := h
    rfl
  · obtain ⟨v, r, U, P, Dd, qs, rfl, ho, hgo, hR, h20, hok, hgr, hg, h11, hled, hQ⟩ := h
    refine ⟨_, pss_cons (ps_expr (pe_cal CO hr (pa_cons (pv 0) (pa_cons pe_str pa_nil))))
      (pss_cons (ps_if (pt_not (pt_val (pe_cal CR hr (pa_cons (pv 1) pa_nil)))) (pss_one ps_never) pss_nil)
      (pss_cons (ps_for PassesOwn.never rfl (pi_enumT (by rfl) G.enumerate (pa_cons (pv 1) pa_nil)) (pg_tup rfl (pgs_cons (pg_name (i := 2) sc.nd rfl (.inl rfl)) (pgs_cons (pg_name (i := 3) sc.nd rfl (.inl rfl)) pgs_nil)))
        (pss_cons (ps_set (i := 4) sc.nd rfl (.inl rfl) (pe_cal CW hr (pa_cons (pv 0) (pa_cons (pv 3) pa_nil))))
        (pss_cons (ps_if (pt_cmpR op_ne (pv 4) pe_str (nomark _)) (pss_one ps_never) pss_nil)
        (pss_one (ps_set (i := 0) sc.nd rfl (.inl rfl) (pe_cal CP hr (pa_cons (pv 0) (pa_cons (pv 3) pa_nil))))))))
      (pss_one (ps_ret (pv 0))))), ?_⟩
    refine ⟨_, rfl, v, _, _, _, rfl, ho, hgo, fun H1 s1 => ?_⟩
    refine ⟨_, rfl, r, qs, rfl, hR.same s1, h20, hok, fun H2 s2 => ⟨true, rfl, iteF ?_⟩⟩
    obtain ⟨pr, vs, rfl, hp, hv⟩ := hR
    have s02 := s1.trans s2
    have lv : vs.length = qs.length := Paired.length hv
    refine ⟨_, rfl, pr, vs, rfl, (hp.same s02).seq, ?_⟩
    refine for_it walk_enumT (fun i σ H' => ∃ v' P' x y z, σ = [some v', some (.ref pr), x, y, z] ∧ Same H H' ∧ OrdC H' v' P' ∧ Good U P' ∧ ledC P' (qs.drop i) = some Dd) ⟨v, P, _, _, _, rfl, s02, ho.same s02, hg, by rw [List.drop_zero]; exact hled⟩ (fun i σ H' _ ⟨v', P', x, y, z, _, s', _⟩ => (hp.same s').seq) ?_ ?_
    · rintro i xv σ H3 H4 hi ⟨v', P', x, y, z, rfl, s3, o3, g3, l3⟩ ⟨T, e1, e2, rfl, nT, rfl, h1, h2⟩
      have sT := same_upd (o := .tup [e1, e2]) nT
      cases h1
      obtain ⟨q, hq, hrq⟩ := get_ref hv h2
      have hrq4 := hrq.same (s3.trans sT)
      have o4 := o3.same sT
      have hi' : i < qs.length := by omega
      have hqm : q ∈ qs := List.mem_of_getElem? hq
      have hgq := hgr q hqm
      have ed : qs.drop i = q :: qs.drop (i + 1) := by
        rw [List.drop_eq_getElem_cons hi']
        rw [List.getElem?_eq_getElem hi'] at hq
        rw [Option.some.inj hq]
      rw [ed] at l3
      have ha : q.anchor ∈ lt P' := by
        simp only [ledC] at l3
        by_cases h : q.anchor ∈ lt P'
        · exact h
        · rw [if_neg h] at l3
          cases l3
      simp only [ledC, if_pos ha] at l3
      have lP := h11 P' g3
      refine ⟨T, _, rfl, .inl (.inl upd_same), rfl, _, _, rfl, _, _, rfl, rfl, ?_⟩
      refine ⟨_, rfl, _, rfl, v', e2, lt P', st P', q, rfl, o4, hrq4, ha, by rw [lt_len]; exact lP, ?_⟩
      refine ⟨_, rfl, rfl, false, rfl, iteF ?_⟩
      refine ⟨_, rfl, _, rfl, v', e2, P', q, rfl, o4, hrq4, ha, hgq.ne, g3.nd, by omega, fun v5 H5 s5 o5 => ?_⟩
      exact ⟨v5, putC q P', _, _, _, rfl, s3.trans (sT.trans s5), o5, g3.put hgq ha, l3⟩
    · rintro σ H3 ⟨v', P', x, y, z, rfl, s3, o3, g3, l3⟩
      have e0 : qs.drop vs.length = [] := List.drop_of_length_le (by omega)
      rw [e0] at l3
      cases l3
      exact ⟨v', rfl, hQ v' H3 s3 o3⟩
end
end FrP
namespace FrP
open PySem PySem.Spec PyProof.Rows L2 FrR FR
def covV : Option Nat → V
  | some k => .int (k : Int)
  | none => .non
theorem covV_none (o : Option Nat) : decide (covV o = .non) = decide (o = none) := by
  cases o with
  | none => rfl
  | some k => rfl
theorem cov_step {x : Str} {q : R} {qs : List R} {i : Nat} (hq : qs[i]? = some q) (c : cov x qs = (cov x (qs.drop i)).map (· + i)) :
    (q.letter = x → cov x qs = some i) ∧ (q.letter ≠ x → q.anchor = x → cov x qs = none) ∧ (q.letter ≠ x → q.anchor ≠ x → cov x qs = (cov x (qs.drop (i + 1))).map (· + (i + 1))) := by
  have hi := (List.getElem?_eq_some_iff.mp hq).1
  have ed : qs.drop i = q :: qs.drop (i + 1) := by
    rw [List.drop_eq_getElem_cons hi]
    rw [List.getElem?_eq_getElem hi] at hq
    rw [Option.some.inj hq]
  rw [ed] at c
  refine ⟨fun h => ?_, fun h1 h2 => ?_, fun h1 h2 => ?_⟩
  · rw [c]
    simp only [cov, if_pos h, Option.map_some, Nat.zero_add]
  · rw [c]
    simp only [cov, if_neg h1, if_pos h2, Option.map_none]
  · rw [c]
    simp only [cov, if_neg h1, if_neg h2, Option.map_map]
    congr 1
    funext n
    show n + 1 + i = n + (i + 1)
    omega
theorem cov_end {x : Str} {qs : List R} {i : Nat} (hi : qs.length ≤ i) (c : cov x qs = (cov x (qs.drop i)).map (· + i)) : cov x qs = none := by
  rw [c, List.drop_of_length_le hi]
  rfl
section
variable {P : Program} {w : World} {K : PySem.W.Frag} {mg : Str → Option Value} {base : Heap}
/-! ### covering, over a list and over a tuple -/
def spCovL : Sp := fun vs H Q _ => ∃ (r : V) (l : Addr) (ws : List V) (q : R) (qs : List R), vs = [r, .ref l] ∧ RulR H r q ∧ H l = some (.lst ws) ∧ RulsV H ws qs ∧ ∀ H', Same H H' → Q (covV (cov q.letter qs)) H'
def spCovT : Sp := fun vs H Q _ => ∃ (r : V) (l : Addr) (ws : List V) (q : R) (qs : List R), vs = [r, .ref l] ∧ RulR H r q ∧ Tp H l ws ∧ RulsV H ws qs ∧ ∀ H', Same H H' → Q (covV (cov q.letter qs)) H'
theorem scCov : FnScope ["rule", "later", "letter", "place", "other"] ["rule", "later"] (defScope (topS 30)) := ⟨rfl, rfl, rfl, by decide +kernel, rfl, by decide +kernel, by decide +kernel⟩
theorem ok_covL (D : Df K mg "covering" (topS 30) ["rule", "later"]) (G : Gn K mg) : Cal P w K mg base "covering" ["rule", "later"] 1 spCovL := by
  refine D.cal fun f fd F => ?_
  refine F.ok scCov (fun vs H Q E h => ?_) (fun cdv A outer s H vs Q E hr h => ?_)
  · obtain ⟨r, l, ws, q, qs, rfl, _⟩ := h
    rfl
  · obtain ⟨r, l, ws, q, qs, rfl, ⟨pr, rfl, hr'⟩, hL, hv, hQ⟩ := h
    have lv : ws.length = qs.length := Paired.length hv
    refine ⟨_, pss_cons (ps_set (i := 2) scCov.nd rfl (.inl rfl) (pe_ix ix_tup (pv 0) pe_int (fun _ _ => rfl)))
      (pss_cons (ps_for PassesOwn.never rfl (pi_enum (by rfl) G.enumerate (pa_cons (pv 1) pa_nil)) (pg_tup rfl (pgs_cons (pg_name (i := 3) scCov.nd rfl (.inl rfl)) (pgs_cons (pg_name (i := 4) scCov.nd rfl (.inl rfl)) pgs_nil)))
        (pss_cons (ps_if (pt_cmpR op_eq (pe_ix ix_tup (pv 4) pe_int (fun _ _ => rfl)) (pv 2) (nomark _)) (pss_one (ps_ret (pv 3))) pss_nil)
        (pss_one (ps_if (pt_cmpR op_eq (pe_ix ix_tup (pv 4) pe_int (fun _ _ => rfl)) (pv 2) (nomark _)) (pss_one (ps_ret pe_non)) pss_nil))))
      (pss_one (ps_ret pe_non))), ?_⟩
    refine ⟨_, rfl, pr, _, _, _, rfl, rfl, hr'.seq, atI_nat (j := 3) rfl, _, rfl, l, ws, rfl, SqL.of hL, ?_⟩
    refine for_it walk_enum (fun i σ H' => ∃ x y, σ = [some (.ref pr), some (.ref l), some (.str q.letter), x, y] ∧ Same H H' ∧ cov q.letter qs = (cov q.letter (qs.drop i)).map (· + i)) ⟨none, none, rfl, Same.refl H, by rw [List.drop_zero]; cases cov q.letter qs <;> rfl⟩ (fun i σ H' _ ⟨x, y, _, s', _⟩ => SqL.of (s' _ _ hL)) ?_ ?_
    · rintro i xv σ H3 H4 hi ⟨x, y, rfl, s3, c3⟩ ⟨T, e1, e2, rfl, nT, rfl, h1, h2⟩
      have sT := same_upd (o := .tup [e1, e2]) nT
      cases h1
      obtain ⟨q2, hq2, hrq⟩ := get_ref hv h2
      obtain ⟨p2, rfl, hp2⟩ := hrq.same (s3.trans sT)
      obtain ⟨k1, k2, k3⟩ := cov_step hq2 c3
      refine ⟨T, _, rfl, .inl (.inl upd_same), rfl, _, _, rfl, _, _, rfl, rfl, ?_⟩
      refine ⟨_, rfl, p2, _, _, _, rfl, rfl, hp2.seq, atI_nat (j := 3) rfl, _, rfl, rfl, _, rfl, ite2 (fun c => ?_) (fun c => ?_)⟩
      · have e := k1 (V.str.inj (of_decide_eq_true c))
        have := hQ _ (s3.trans sT)
        rw [e] at this
        exact ⟨_, rfl, this⟩
      · have n1 : q2.letter ≠ q.letter := fun e => c (decide_eq_true (by rw [e]))
        refine ⟨_, rfl, p2, _, _, _, rfl, rfl, hp2.seq, atI_nat (j := 1) rfl, _, rfl, rfl, _, rfl, ite2 (fun c => ?_) (fun c => ?_)⟩
        · have e := k2 n1 (V.str.inj (of_decide_eq_true c))
          have := hQ _ (s3.trans sT)
          rw [e] at this
          exact this
        · exact ⟨_, _, rfl, s3.trans sT, k3 n1 fun e => c (decide_eq_true (by rw [e]))⟩
    · rintro σ H3 ⟨x, y, rfl, s3, c3⟩
      have e := cov_end (by omega) c3
      have := hQ _ s3
      rw [e] at this
      exact this
theorem ok_covT (D : Df K mg "covering" (topS 30) ["rule", "later"]) (G : Gn K mg) : Cal P w K mg base "covering" ["rule", "later"] 1 spCovT := by
  refine D.cal fun f fd F => ?_
  refine F.ok scCov (fun vs H Q E h => ?_) (fun cdv A outer s H vs Q E hr h => ?_)
  · obtain ⟨r, l, ws, q, qs, rfl, _⟩ := h
    rfl
  · obtain ⟨r, l, ws, q, qs, rfl, ⟨pr, rfl, hr'⟩, hL, hv, hQ⟩ := h
    have lv : ws.length = qs.length := Paired.length hv
    refine ⟨_, pss_cons (ps_set (i := 2) scCov.nd rfl (.inl rfl) (pe_ix ix_tup (pv 0) pe_int (fun _ _ => rfl)))
      (pss_cons (ps_for PassesOwn.never rfl (pi_enumT (by rfl) G.enumerate (pa_cons (pv 1) pa_nil)) (pg_tup rfl (pgs_cons (pg_name (i := 3) scCov.nd rfl (.inl rfl)) (pgs_cons (pg_name (i := 4) scCov.nd rfl (.inl rfl)) pgs_nil)))
        (pss_cons (ps_if (pt_cmpR op_eq (pe_ix ix_tup (pv 4) pe_int (fun _ _ => rfl)) (pv 2) (nomark _)) (pss_one (ps_ret (pv 3))) pss_nil)
        (pss_one (ps_if (pt_cmpR op_eq (pe_ix ix_tup (pv 4) pe_int (fun _ _ => rfl)) (pv 2) (nomark _)) (pss_one (ps_ret pe_non)) pss_nil))))
      (pss_one (ps_ret pe_non))), ?_⟩
    refine ⟨_, rfl, pr, _, _, _, rfl, rfl, hr'.seq, atI_nat (j := 3) rfl, _, rfl, l, ws, rfl, hL.seq, ?_⟩
    refine for_it walk_enumT (fun i σ H' => ∃ x y, σ = [some (.ref pr), some (.ref l), some (.str q.letter), x, y] ∧ Same H H' ∧ cov q.letter qs = (cov q.letter (qs.drop i)).map (· + i)) ⟨none, none, rfl, Same.refl H, by rw [List.drop_zero]; cases cov q.letter qs <;> rfl⟩ (fun i σ H' _ ⟨x, y, _, s', _⟩ => (hL.same s').seq) ?_ ?_
    · rintro i xv σ H3 H4 hi ⟨x, y, rfl, s3, c3⟩ ⟨T, e1, e2, rfl, nT, rfl, h1, h2⟩
      have sT := same_upd (o := .tup [e1, e2]) nT
      cases h1
      obtain ⟨q2, hq2, hrq⟩ := get_ref hv h2
      obtain ⟨p2, rfl, hp2⟩ := hrq.same (s3.trans sT)
      obtain ⟨k1, k2, k3⟩ := cov_step hq2 c3
      refine ⟨T, _, rfl, .inl (.inl upd_same), rfl, _, _, rfl, _, _, rfl, rfl, ?_⟩
      refine ⟨_, rfl, p2, _, _, _, rfl, rfl, hp2.seq, atI_nat (j := 3) rfl, _, rfl, rfl, _, rfl, ite2 (fun c => ?_) (fun c => ?_)⟩
      · have e := k1 (V.str.inj (of_decide_eq_true c))
        have := hQ _ (s3.trans sT)
        rw [e] at this
        exact ⟨_, rfl, this⟩
      · have n1 : q2.letter ≠ q.letter := fun e => c (decide_eq_true (by rw [e]))
        refine ⟨_, rfl, p2, _, _, _, rfl, rfl, hp2.seq, atI_nat (j := 1) rfl, _, rfl, rfl, _, rfl, ite2 (fun c => ?_) (fun c => ?_)⟩
        · have e := k2 n1 (V.str.inj (of_decide_eq_true c))
          have := hQ _ (s3.trans sT)
          rw [e] at this
          exact this
        · exact ⟨_, _, rfl, s3.trans sT, k3 n1 fun e => c (decide_eq_true (by rw [e]))⟩
    · rintro σ H3 ⟨x, y, rfl, s3, c3⟩
      have e := cov_end (by omega) c3
      have := hQ _ s3
      rw [e] at this
      exact this
end
end FrP
namespace FrP
open PySem PySem.Spec PyProof.Rows L2 FrR FR
/-- the rules at these places are those -/
def KeptOf (qs : List R) (ks : List Nat) (ps : List R) : Prop := Paired (fun k q => qs[k]? = some q) ks ps
theorem kept_lt {qs : List R} : ∀ {ks : List Nat} {ps : List R}, KeptOf qs ks ps → ∀ k ∈ ks, k < qs.length
  | _, _, .nil, _, h => by simp at h
  | _, _, .cons r t, k, h => by
    rcases List.mem_cons.mp h with e | h
    · rw [e]; exact (List.getElem?_eq_some_iff.mp r).1
    · exact kept_lt t k h
/-- their values -/
theorem kept_vals {H : Hp} {vs : List V} {qs : List R} (hv : RulsV H vs qs) : ∀ {ks : List Nat} {ps : List R}, KeptOf qs ks ps → RulsV H (ks.map fun k => vs.getD k .non) ps
  | _, _, .nil => .nil
  | k :: ks, q :: ps, .cons r t => by
    obtain ⟨x, h1, h2⟩ := paired_get hv r
    have e : vs.getD k .non = x := by
      rw [List.getD_eq_getElem?_getD, h1]; rfl
    show Paired (RulR H) (vs.getD k .non :: ks.map fun k => vs.getD k .non) (q :: ps)
    rw [e]
    exact .cons h2 (kept_vals hv t)
def kV' (k : Nat) : V := .int (k : Int)
theorem get_k {ks : List Nat} {i : Nat} {x : V} (h : (ks.map kV')[i]? = some x) : ∃ k, x = .int ((k : Nat) : Int) ∧ ks[i]? = some k := by
  rw [List.getElem?_map] at h
  cases e : ks[i]? with
  | none => rw [e] at h; cases h
  | some z => rw [e] at h; exact ⟨z, (Option.some.inj h).symm, rfl⟩
theorem prn_len : ∀ qs : List R, (prn qs).length ≤ qs.length
  | [] => Nat.le_refl _
  | q :: qs => by
    have := prn_len qs
    simp only [prn]
    split
    · exact Nat.succ_le_succ this
    · exact Nat.le_succ_of_le this
theorem take_snoc {α : Type} {l : List α} {i : Nat} {x : α} (h : l[i]? = some x) : l.take i ++ [x] = l.take (i + 1) := by
  rw [List.take_add_one, h]
  rfl
section
variable {P : Program} {w : World} {K : PySem.W.Frag} {mg : Str → Option Value} {base : Heap}
/-! ### kept_places -/
def spKept : Sp := fun vs H Q _ => ∃ (a : Addr) (ws : List V) (qs : List R), vs = [.ref a] ∧ Tp H a ws ∧ RulsV H ws qs ∧ qs.length ≤ 20 ∧ ∀ l ks H', Same H H' → H' l = some (.lst (ks.map kV')) → KeptOf qs ks (prn qs) → Q (.ref l) H'
theorem ok_kept (D : Df K mg "kept_places" (topS 31) ["rules"]) (G : Gn K mg) (CC : Cal P w K mg base "covering" ["rule", "later"] 1 spCovL) : Cal P w K mg base "kept_places" ["rules"] 2 spKept := by
  refine D.cal fun f fd F => ?_
  have sc : FnScope ["rules", "kept", "index", "place"] ["rules"] (defScope (topS 31)) := ⟨rfl, rfl, rfl, by decide +kernel, rfl, by decide +kernel, by decide +kernel⟩
  refine F.ok sc (fun vs H Q E h => ?_) (fun cdv A outer s H vs Q E hr h => ?_)
  · obtain ⟨a, ws, qs, rfl, _⟩ := h
    rfl
  · obtain ⟨a, ws, qs, rfl, ha, hv, h20, hQ⟩ := h
    have lv : ws.length = qs.length := Paired.length hv
    refine ⟨_, pss_cons (ps_set (i := 1) sc.nd rfl (.inl rfl) (pe_lst pa_nil))
      (pss_cons (ps_for PassesOwn.never rfl (pi_revR (by rfl) G.reversed (prg_1 (by rfl) G.range (x_len G.len (pv 0)))) (pg_name (i := 2) sc.nd rfl (.inl rfl))
        (pss_one (ps_if (pt_cmpR op_isN (pe_cal CC hr (pa_cons (pe_ix ix_tup (pv 0) (pv 2) (fun _ _ => rfl))
            (pa_cons (pe_lc (own := [("place", 3)]) (g := gName 3) (tt := tYes) (te := tOp (rIxT K) (tVar 0) (tVar 3)) rfl sc.nd (pi_list (pv 1)) (blkOk_by (N := ["rules", "kept", "index", "place"]) (sc := defScope (topS 31)) (by decide +kernel))
              (fun _ _ _ _ _ => pg_name (i := 3) sc.nd rfl (Or.inl rfl)) (fun _ _ _ _ _ => pts_nil) (fun _ _ _ _ _ => pe_ix ix_tup (pv 0) (pv 3) (fun _ _ => rfl))) pa_nil))) pe_non (nomark _))
          (pss_one (ps_set (i := 1) sc.nd rfl (.inl rfl) (pe_op op_cat (pe_lst (pa_cons (pv 2) pa_nil)) (pv 1)))) pss_nil)))
      (pss_one (ps_ret (pv 1)))), ?_⟩
    refine ⟨Nat.zero_le _, fun l0 n0 => ?_⟩
    have s0 := same_upd (o := .lst []) n0
    refine ⟨_, rfl, a, _, rfl, .inr (ha.same s0).seq, _, rfl, by omega, by omega, by omega, by omega, ?_⟩
    have en : (((ws.length : Nat) : Int) - 0).toNat = ws.length := by omega
    rw [en]
    refine for_it walk_rangeC (fun i σ H' => ∃ l ks x y, σ = [some (.ref a), some (.ref l), x, y] ∧ Same H H' ∧ H' l = some (.lst (ks.map kV')) ∧ KeptOf qs ks (prn (qs.drop (qs.length - i)))) ⟨l0, [], none, none, rfl, s0, upd_same, by rw [Nat.sub_zero, List.drop_length]; exact .nil⟩ (fun _ _ _ _ _ => trivial) ?_ ?_
    · rintro i xv σ H3 H4 hi ⟨l, ks, x, y, rfl, s3, hl, hk⟩ ⟨rfl, hxv⟩
      have hi' : i < qs.length := by omega
      have ex : (0 : Int) + ((ws.length : Nat) : Int) - 1 + ((i : Nat) : Int) * (-1) = ((qs.length - 1 - i : Nat) : Int) := by omega
      have hxv' : xv = V.int ((qs.length - 1 - i : Nat) : Int) := hxv.trans (congrArg V.int ex)
      subst hxv'
      clear hxv
      obtain ⟨q, hq⟩ : ∃ q, qs[qs.length - 1 - i]? = some q := ⟨_, List.getElem?_eq_getElem (by omega)⟩
      obtain ⟨rv, hx, hrx⟩ := paired_get hv hq
      have hks := kept_lt hk
      have hlk : ks.length ≤ 20 := by
        have h1 := Paired.length hk
        have h2 := prn_len (qs.drop (qs.length - i))
        rw [List.length_drop] at h2
        omega
      refine ⟨_, rfl, _, rfl, a, _, _, _, rfl, rfl, (ha.same s3).seq, atI_nat hx, ?_⟩
      refine ⟨_, rfl, l, rfl, ⟨_, SqL.of hl⟩, fun Dl nD => ?_⟩
      -- the rules that are kept so far, as a list
      refine lc_list (K := K) (a := l) (xs := ks.map kV') (fun j H' => Same H4 H' ∧ H' Dl = some (.lst ((ks.map fun k => ws.getD k .non).take j))) ⟨same_upd nD, by rw [upd_same]; rfl⟩ (fun j H' _ hP => SqL.of (hP.1 _ _ hl)) ?_ ?_
      · rintro j xj H5 hj ⟨s5, h5⟩
        obtain ⟨k, rfl, hkj⟩ := get_k hj
        have hkl : k < ws.length := by rw [lv]; exact hks k (List.mem_of_getElem? hkj)
        have hjl := (List.getElem?_eq_some_iff.mp hkj).1
        have hwk : ws[k]? = some (ws.getD k .non) := by
          rw [List.getD_eq_getElem?_getD, List.getElem?_eq_getElem hkl]; rfl
        refine ⟨rfl, _, rfl, _, rfl, a, _, _, _, rfl, rfl, ((ha.same s3).same s5).seq, atI_nat hwk, _, h5, ?_, same_new s5 nD, ?_⟩
        · rw [List.length_take]
          exact small1000 (by omega)
        · rw [upd_same, take_snoc]
          rw [List.getElem?_map, hkj]
          rfl
      · rintro H5 ⟨s5, h5⟩
        have ek : (ks.map fun k => ws.getD k .non).take (ks.map kV').length = ks.map fun k => ws.getD k .non := List.take_of_length_le (by rw [List.length_map, List.length_map]; exact Nat.le_refl _)
        rw [ek] at h5
        have s05 := s3.trans s5
        refine ⟨rv, Dl, _, q, _, rfl, hrx.same s05, h5, (kept_vals hv hk).same s05, fun H6 s6 => ⟨rfl, _, rfl, ?_⟩⟩
        rw [covV_none]
        have s06 := s05.trans s6
        have hl6 := s6 _ _ (s5 _ _ hl)
        have ed : qs.drop (qs.length - (i + 1)) = q :: qs.drop (qs.length - i) := by
          have e1 : qs.length - (i + 1) = qs.length - 1 - i := by omega
          have e2 : qs.length - i = qs.length - 1 - i + 1 := by omega
          rw [e1, e2, List.drop_eq_getElem_cons (by omega)]
          rw [List.getElem?_eq_getElem (by omega)] at hq
          rw [Option.some.inj hq]
        refine ite2 (fun c => ?_) (fun c => ?_)
        · have c' := of_decide_eq_true c
          refine ⟨_, rfl, by show 1 ≤ sizeLine; decide, fun p1 n1 => ?_⟩
          have s7 := same_upd (o := .lst [V.int ((qs.length - 1 - i : Nat) : Int)]) n1
          refine ⟨_, rfl, p1, l, _, _, rfl, rfl, upd_same, s7 _ _ hl6, sz (by rw [List.length_map, List.length_singleton]; omega), fun p2 n2 => ?_⟩
          have s8 := same_upd (o := .lst ([V.int ((qs.length - 1 - i : Nat) : Int)] ++ ks.map kV')) n2
          refine ⟨p2, (qs.length - 1 - i) :: ks, _, _, rfl, s06.trans (s7.trans s8), upd_same, ?_⟩
          rw [ed]
          simp only [prn, if_pos c']
          exact .cons hq hk
        · have c' : ¬ cov q.letter (prn (qs.drop (qs.length - i))) = none := fun e => c (decide_eq_true e)
          refine ⟨l, ks, _, _, rfl, s06, hl6, ?_⟩
          rw [ed]
          simp only [prn, if_neg c']
          exact hk
    · rintro σ H3 ⟨l, ks, x, y, rfl, s3, hl, hk⟩
      rw [lv, Nat.sub_self, List.drop_zero] at hk
      exact ⟨_, rfl, hQ l ks H3 s3 hl hk⟩
/-! ### pruned_list, pruned -/
def spPrL : Sp := fun vs H Q _ => ∃ (v : V) (qs : List R), vs = [v] ∧ RulsT H v qs ∧ qs.length ≤ 20 ∧ ∀ v' H', Same H H' → RulsT H' v' (prn qs) → Q v' H'
theorem ok_prunedList (D : Df K mg "pruned_list" (topS 33) ["rules"]) (G : Gn K mg) (CK : Cal P w K mg base "kept_places" ["rules"] 2 spKept) : Cal P w K mg base "pruned_list" ["rules"] 3 spPrL := by
  refine D.cal fun f fd F => ?_
  have sc : FnScope ["rules", "index"] ["rules"] (defScope (topS 33)) := ⟨rfl, rfl, rfl, by decide +kernel, rfl, by decide +kernel, by decide +kernel⟩
  refine F.ok sc (fun vs H Q E h => ?_) (fun cdv A outer s H vs Q E hr h => ?_)
  · obtain ⟨v, qs, rfl, _⟩ := h
    rfl
  · obtain ⟨v, qs, rfl, ⟨a, ws, rfl, ha, hv⟩, h20, hQ⟩ := h
    have lv : ws.length = qs.length := Paired.length hv
    refine ⟨_, pss_one (ps_ret (pe_callTy call_tupleF (by rfl) G.tuple PyProof.Rows.boot_tuple (pa_cons (pe_lc (own := [("index", 1)]) (g := gName 1) (tt := tYes) (te := tOp (rIxT K) (tVar 0) (tVar 1)) rfl sc.nd (pi_list (pe_cal CK hr (pa_cons (pv 0) pa_nil))) (blkOk_by (N := ["rules", "index"]) (sc := defScope (topS 33)) (by decide +kernel))
        (fun _ _ _ _ _ => pg_name (i := 1) sc.nd rfl (Or.inl rfl)) (fun _ _ _ _ _ => pts_nil) (fun _ _ _ _ _ => pe_ix ix_tup (pv 0) (pv 1) (fun _ _ => rfl))) pa_nil))), ?_⟩
    refine ⟨_, rfl, a, ws, qs, rfl, ha, hv, h20, fun l ks H1 s1 hl hk => ⟨l, rfl, ⟨_, SqL.of hl⟩, fun Dl nD => ?_⟩⟩
    have hks := kept_lt hk
    have hlk : ks.length ≤ 20 := by
      have h1 := Paired.length hk
      have h2 := prn_len qs
      omega
    refine lc_list (K := K) (a := l) (xs := ks.map kV') (fun j H' => Same H1 H' ∧ H' Dl = some (.lst ((ks.map fun k => ws.getD k .non).take j))) ⟨same_upd nD, by rw [upd_same]; rfl⟩ (fun j H' _ hP => SqL.of (hP.1 _ _ hl)) ?_ ?_
    · rintro j xj H5 hj ⟨s5, h5⟩
      obtain ⟨k, rfl, hkj⟩ := get_k hj
      have hkl : k < ws.length := by rw [lv]; exact hks k (List.mem_of_getElem? hkj)
      have hjl := (List.getElem?_eq_some_iff.mp hkj).1
      have hwk : ws[k]? = some (ws.getD k .non) := by
        rw [List.getD_eq_getElem?_getD, List.getElem?_eq_getElem hkl]; rfl
      refine ⟨rfl, _, rfl, _, rfl, a, _, _, _, rfl, rfl, ((ha.same s1).same s5).seq, atI_nat hwk, _, h5, ?_, same_new s5 nD, ?_⟩
      · rw [List.length_take]
        exact small1000 (by omega)
      · rw [upd_same, take_snoc]
        rw [List.getElem?_map, hkj]
        rfl
    · rintro H5 ⟨s5, h5⟩
      have ek : (ks.map fun k => ws.getD k .non).take (ks.map kV').length = ks.map fun k => ws.getD k .non := List.take_of_length_le (by rw [List.length_map, List.length_map]; exact Nat.le_refl _)
      rw [ek] at h5
      have s05 := s1.trans s5
      refine ⟨Dl, _, rfl, SqL.of h5, fun p H6 s6 t6 => hQ _ H6 (s05.trans s6) ⟨p, _, rfl, t6, (kept_vals hv hk).same (s05.trans s6)⟩⟩
def spPruned : Sp := fun vs H Q _ => ∃ (v : V) (qs : List R), vs = [v] ∧ RulsT H v qs ∧ qs.length ≤ 20 ∧ (∀ q ∈ qs, OkR q) ∧ ∀ v' H', Same H H' → RulsT H' v' (prn qs) → Q v' H'
theorem ok_pruned (D : Df K mg "pruned" (topS 34) ["rules"]) (CR : Cal P w K mg base "check_rules" ["value", "name"] 4 spCheckR) (CP : Cal P w K mg base "pruned_list" ["rules"] 3 spPrL) : Cal P w K mg base "pruned" ["rules"] 5 spPruned := by
  refine D.cal fun f fd F => ?_
  have sc : FnScope ["rules"] ["rules"] (defScope (topS 34)) := ⟨rfl, rfl, rfl, by decide +kernel, rfl, by decide +kernel, by decide +kernel⟩
  refine F.ok sc (fun vs H Q E h => ?_) (fun cdv A outer s H vs Q E hr h => ?_)
  · obtain ⟨v, qs, rfl, _⟩ := h
    rfl
  · obtain ⟨v, qs, rfl, hR, h20, hok, hQ⟩ := h
    refine ⟨_, pss_cons (ps_expr (pe_cal CR hr (pa_cons (pv 0) (pa_cons pe_str pa_nil)))) (pss_one (ps_ret (pe_cal CP hr (pa_cons (pv 0) pa_nil)))), ?_⟩
    exact ⟨_, rfl, v, _, qs, rfl, hR, h20, hok, fun H1 s1 => ⟨_, rfl, v, qs, rfl, hR.same s1, h20, fun v' H' s' t' => hQ v' H' (s1.trans s') t'⟩⟩
/-! ### redundant -/
def spRed : Sp := fun vs H Q _ => ∃ (v : V) (qs : List R), vs = [v] ∧ RulsT H v qs ∧ qs.length ≤ 20 ∧ (∀ q ∈ qs, OkR q) ∧ ∀ l (js : List Nat) H', Same H H' → H' l = some (.lst (js.map kV')) → (∀ j ∈ js, ∃ q, qs[j]? = some q ∧ cov q.letter (qs.drop (j + 1)) ≠ none) → Q (.ref l) H'
theorem ok_redundant (D : Df K mg "redundant" (topS 32) ["rules"]) (G : Gn K mg) (CR : Cal P w K mg base "check_rules" ["value", "name"] 4 spCheckR) (CC : Cal P w K mg base "covering" ["rule", "later"] 1 spCovT) : Cal P w K mg base "redundant" ["rules"] 5 spRed := by
  refine D.cal fun f fd F => ?_
  have sc : FnScope ["rules", "index", "rule"] ["rules"] (defScope (topS 32)) := ⟨rfl, rfl, rfl, by decide +kernel, rfl, by decide +kernel, by decide +kernel⟩
  refine F.ok sc (fun vs H Q E h => ?_) (fun cdv A outer s H vs Q E hr h => ?_)
  · obtain ⟨v, qs, rfl, _⟩ := h
    rfl
  · obtain ⟨v, qs, rfl, hR, h20, hok, hQ⟩ := h
    refine ⟨_, pss_cons (ps_expr (pe_cal CR hr (pa_cons (pv 0) (pa_cons pe_str pa_nil))))
      (pss_one (ps_ret (pe_lc (own := [("index", 1), ("rule", 2)]) (g := gTup K 2 (gCons (gName 1) (gCons (gName 2) gNil))) rfl sc.nd (pi_enumT (by rfl) G.enumerate (pa_cons (pv 0) pa_nil)) (blkOk_by (N := ["rules", "index", "rule"]) (sc := defScope (topS 32)) (by decide +kernel))
        (fun _ _ _ _ _ => pg_tup rfl (pgs_cons (pg_name (i := 1) sc.nd rfl (Or.inl rfl)) (pgs_cons (pg_name (i := 2) sc.nd rfl (Or.inl rfl)) pgs_nil)))
        (fun _ _ _ _ _ => pts_one (pt_cmpR op_notN (pe_cal CC hr (pa_cons (pv 2) (pa_cons (pe_slice sl_tupF (pv 0) (po_some (pe_op op_add (pv 1) pe_int)) po_none) pa_nil))) pe_non (nomark _)))
        (fun _ _ _ _ _ => pv 1)))), ?_⟩
    refine ⟨_, rfl, v, _, qs, rfl, hR, h20, hok, fun H1 s1 => ?_⟩
    obtain ⟨a, ws, rfl, ha, hv⟩ := hR
    have lv : ws.length = qs.length := Paired.length hv
    refine ⟨_, rfl, a, ws, rfl, (ha.same s1).seq, fun Dl nD => ?_⟩
    refine lc_it walk_enumT (fun i H' => Same H1 H' ∧ ∃ js : List Nat, H' Dl = some (.lst (js.map kV')) ∧ js.length ≤ i ∧ ∀ j ∈ js, ∃ q, qs[j]? = some q ∧ cov q.letter (qs.drop (j + 1)) ≠ none) ⟨same_upd nD, [], by rw [upd_same]; rfl, Nat.le_refl _, fun j hj => by simp at hj⟩ (fun i H' _ hP => ((ha.same s1).same hP.1).seq) ?_ ?_
    · rintro i xv H3 H4 hi ⟨s3, js, hj, hjl, hjs⟩ ⟨T, e1, e2, rfl, nT, rfl, h1, h2⟩
      have sT := same_upd (o := .tup [e1, e2]) nT
      cases h1
      obtain ⟨q, hq, hrq⟩ := get_ref hv h2
      have s04 := s1.trans (s3.trans sT)
      have e1 : ((i : Int) + 1) = ((i + 1 : Nat) : Int) := by omega
      refine ⟨T, _, rfl, .inl (.inl upd_same), rfl, _, _, rfl, _, _, rfl, rfl, rfl, ?_⟩
      refine ⟨_, rfl, _, rfl, _, rfl, _, _, rfl, rfl, _, rfl, a, _, rfl, ha.same s04, fun p5 H5 s5 t5 => ?_⟩
      rw [e1, cut_from] at t5
      have s05 := s04.trans s5
      refine ⟨e2, p5, _, q, qs.drop (i + 1), rfl, hrq.same s05, t5, paired_drop (i + 1) (hv.same s05), fun H6 s6 => ⟨rfl, _, rfl, ?_⟩⟩
      rw [covV_none]
      have s36 : Same H1 H6 := s3.trans (sT.trans (s5.trans s6))
      have hj6 := s6 _ _ (s5 _ _ (sT _ _ hj))
      refine ite2 (fun c => ?_) (fun c => ?_)
      · have c' : cov q.letter (qs.drop (i + 1)) ≠ none := fun e => by
          rw [decide_eq_true e] at c
          cases c
        refine ⟨_, rfl, _, hj6, ?_, same_new s36 nD, js ++ [i], ?_, ?_, fun j hm => ?_⟩
        · rw [List.length_map]
          exact small1000 (by omega)
        · rw [upd_same, List.map_append]
          rfl
        · rw [List.length_append, List.length_singleton]
          omega
        · rcases List.mem_append.mp hm with hm | hm
          · exact hjs j hm
          · have : j = i := by simpa using hm
            subst this
            exact ⟨q, hq, c'⟩
      · exact ⟨s36, js, hj6, by omega, hjs⟩
    · rintro H3 ⟨s3, js, hj, hjl, hjs⟩
      exact hQ Dl js H3 (s1.trans s3) hj hjs
end
end FrP
namespace FrP
open PySem PySem.Spec PyProof.Rows L2 FrR FR
/-! ### the stream: the one thing that the law's helpers change -/
def SameB (p : Addr) (H H' : Hp) : Prop := ∀ b o, b ≠ p → H b = some o → H' b = some o
theorem SameB.refl (p : Addr) (H : Hp) : SameB p H H := fun _ _ _ h => h
theorem SameB.trans {p : Addr} {H H1 H2 : Hp} (a : SameB p H H1) (b : SameB p H1 H2) : SameB p H H2 := fun c o n h => b c o n (a c o n h)
theorem SameB.of {p : Addr} {H H' : Hp} (e : Same H H') : SameB p H H' := fun b o _ h => e b o h
theorem sameB_set {p : Addr} {H : Hp} {o : HO} : SameB p H (upd H p o) := fun b x n e => by rw [upd_ne n]; exact e
/-- the stream at p, over the script's own list at l -/
def Strm (H : Hp) (p l : Addr) (ns : List Int) : Prop := ∃ c k : Int, 0 ≤ c ∧ 0 ≤ k ∧ H p = some (.lst [.ref l, .int c, .int k]) ∧ H l = some (.lst (ns.map V.int)) ∧ l ≠ p
theorem Strm.at {H : Hp} {p l : Addr} {ns : List Int} (h : Strm H p l ns) : ∃ xs, H p = some (.lst xs) := by
  obtain ⟨c, k, _, _, h, _⟩ := h
  exact ⟨_, h⟩
theorem Strm.same {H H' : Hp} {p l : Addr} {ns : List Int} (e : Same H H') (h : Strm H p l ns) : Strm H' p l ns := by
  obtain ⟨c, k, h0, h1, h2, h3, h4⟩ := h
  exact ⟨c, k, h0, h1, e _ _ h2, e _ _ h3, h4⟩
theorem _root_.FrR.Tp.ne {H : Hp} {p a : Addr} {xs : List V} (h : ∃ xs, H p = some (.lst xs)) (t : Tp H a xs) : a ≠ p := by
  obtain ⟨ys, h⟩ := h
  obtain ⟨o, e, _⟩ := t
  exact ne_of e h (by intro z; cases z)
theorem _root_.FrR.Tp.sameB {H H' : Hp} {p a : Addr} {xs : List V} (h : ∃ xs, H p = some (.lst xs)) (e : SameB p H H') (t : Tp H a xs) : Tp H' a xs := by
  have n := Tp.ne h t
  obtain ⟨o, h1, h2⟩ := t
  exact ⟨o, e _ _ n h1, h2⟩
theorem RulR.sameB {H H' : Hp} {p : Addr} {v : V} {q : R} (h : ∃ xs, H p = some (.lst xs)) (e : SameB p H H') (t : RulR H v q) : RulR H' v q := by
  obtain ⟨a, h1, h2⟩ := t
  exact ⟨a, h1, h2.sameB h e⟩
theorem RulsV.sameB {H H' : Hp} {p : Addr} {vs : List V} {qs : List R} (h : ∃ xs, H p = some (.lst xs)) (e : SameB p H H') (t : RulsV H vs qs) : RulsV H' vs qs := Paired.mapP t fun _ _ r => r.sameB h e
theorem RulsT.sameB {H H' : Hp} {p : Addr} {v : V} {qs : List R} (h : ∃ xs, H p = some (.lst xs)) (e : SameB p H H') (t : RulsT H v qs) : RulsT H' v qs := by
  obtain ⟨a, vs, h1, h2, h3⟩ := t
  exact ⟨a, vs, h1, h2.sameB h e, RulsV.sameB h e h3⟩
theorem OrdR.sameB {H H' : Hp} {p : Addr} {v : V} {L : List Str} {S : List Int} (h : ∃ xs, H p = some (.lst xs)) (e : SameB p H H') (t : OrdR H v L S) : OrdR H' v L S := by
  obtain ⟨q, a, b, h1, h2, h3, h4⟩ := t
  exact ⟨q, a, b, h1, h2.sameB h e, h3.sameB h e, h4.sameB h e⟩
section
variable {X : Cx} {e : Expr} {te : TE} {p pos : Pos}
def rInt1 : List V → Hp → VK → Prop := fun xs H Q => ∃ i, xs = [.int i] ∧ Q (.int i) H
theorem call_int2 : CallR X (.type "int") rInt1 := by
  intro pins s σ H xs us Q I r h
  exact call_int1 pins s σ H xs us Q I r (.inl h)
theorem x_int (hm : X.mg "int" = none) (h : PE X e te) (hg : Gl X "int" := by rfl) (he : starEach [e] X.env = (false, eval e X.env) :: starEach [] X.env := by rfl) (hpl : (backTo pos (starEach [] X.env)).any (·.1) = false := by rfl) :
    PE X (.Call (.Name "int" p) [e] [] pos) (tCB rInt1 (tCons te tNil)) :=
  pe_callTy call_int2 hg hm PyProof.Rows.boot_int (pa_cons h pa_nil he) (by decide) (by decide) he hpl
end
section
variable {P : Program} {w : World} {K : PySem.W.Frag} {mg : Str → Option Value} {base : Heap}
/-! ### _law_stream -/
def spStream (K : PySem.W.Frag) : Sp := fun vs H Q _ => ∃ (a : Addr) (ns : List Int), vs = [.ref a] ∧ SqL K H a (ns.map V.int) ∧ ∀ p l H', Same H H' → H p = none → Strm H' p l ns → Q (.ref p) H'
theorem ok_stream (D : Df K mg "_law_stream" (topS 36) ["_law_script"]) (G : Gn K mg) : Cal P w K mg base "_law_stream" ["_law_script"] 1 (spStream K) := by
  refine D.cal fun f fd F => ?_
  have sc : FnScope ["_law_script"] ["_law_script"] (defScope (topS 36)) := ⟨rfl, rfl, rfl, by decide +kernel, rfl, by decide +kernel, by decide +kernel⟩
  refine F.ok sc (fun vs H Q E h => ?_) (fun cdv A outer s H vs Q E hr h => ?_)
  · obtain ⟨a, ns, rfl, _⟩ := h
    rfl
  · obtain ⟨a, ns, rfl, hS, hQ⟩ := h
    refine ⟨_, pss_one (ps_ret (pe_lst (pa_cons (pe_callTy call_list_of (by rfl) G.list PyProof.Rows.boot_list (pa_cons (pv 0) pa_nil)) (pa_cons pe_int (pa_cons pe_int pa_nil))))), ?_⟩
    refine ⟨_, rfl, a, _, rfl, .inl hS, fun l nl => ⟨by show 3 ≤ sizeLine; decide, fun p np => ?_⟩⟩
    have s1 := same_upd (o := .lst (ns.map V.int)) nl
    have s2 := same_upd (o := .lst [.ref l, .int 0, .int 0]) np
    have nlp : l ≠ p := ne_of_none (upd_same (H := H) (a := l) (o := .lst (ns.map V.int))) np
    refine hQ p l _ (s1.trans s2) (s1.free np) ⟨0, 0, Int.le_refl 0, Int.le_refl 0, upd_same, ?_, nlp⟩
    exact s2 _ _ upd_same
/-! ### _law_next -/
def spNext : Sp := fun vs H Q _ => ∃ (p l : Addr) (many : Int) (ns : List Int), vs = [.ref p, .int many] ∧ Strm H p l ns ∧ 1 ≤ many ∧ many < 1000 ∧ ∀ d H', 0 ≤ d → d < many → SameB p H H' → Strm H' p l ns → Q (.int d) H'
theorem ok_next (D : Df K mg "_law_next" (topS 37) ["_law_stream_here", "_law_many"]) (G : Gn K mg) : Cal P w K mg base "_law_next" ["_law_stream_here", "_law_many"] 1 spNext := by
  refine D.cal fun f fd F => ?_
  have sc : FnScope ["_law_stream_here", "_law_many", "_law_k", "_law_cell", "_law_digit"] ["_law_stream_here", "_law_many"] (defScope (topS 37)) := ⟨rfl, rfl, rfl, by decide +kernel, rfl, by decide +kernel, by decide +kernel⟩
  refine F.ok sc (fun vs H Q E h => ?_) (fun cdv A outer s H vs Q E hr h => ?_)
  · obtain ⟨p, l, m, ns, rfl, _⟩ := h
    rfl
  · obtain ⟨p, l, m, ns, rfl, hS, hm1, hm2, hQ⟩ := h
    refine ⟨_, pss_cons (ps_if (pt_cmpR op_eq (pe_ix ix_list (pv 0) pe_int (fun _ _ => rfl)) pe_int (nomark _))
        (pss_cons (ps_set (i := 2) sc.nd rfl (.inl rfl) (pe_ix ix_list (pv 0) pe_int (fun _ _ => rfl)))
        (pss_cons (ps_set (i := 3) sc.nd rfl (.inl rfl) (pe_op op_add pe_int (pv 2)))
        (pss_cons (ps_if (pt_cmpR op_lt (pv 2) (x_len G.len (pe_ix ix_list (pv 0) pe_int (fun _ _ => rfl))) (nomark _))
          (pss_one (ps_set (i := 3) sc.nd rfl (.inl rfl) (pe_callB call_abs (by rfl) G.abs boot_abs (pa_cons (pe_ix ix_list (pe_ix ix_list (pv 0) pe_int (fun _ _ => rfl)) (pv 2) (fun _ _ => rfl)) pa_nil)))) pss_nil)
        (pss_cons (ps_if (pt_cmpR op_lt (pv 3) (pe_op op_pow pe_int pe_int) (nomark _))
          (pss_cons (ps_set (i := 3) sc.nd rfl (.inl rfl) (pe_op op_mod (x_int G.int (pe_op op_add (pe_op op_add (pe_op op_mul (pv 3) pe_int) (pe_op op_mul (pv 2) pe_int)) pe_int)) pe_int))
          (pss_one (ps_set (i := 3) sc.nd rfl (.inl rfl) (pe_op op_add (pe_op op_mul (pe_op op_mod (x_int G.int (pe_op op_add (pe_op op_mul (pv 3) pe_int) pe_int)) pe_int) pe_int) (pv 3))))) pss_nil)
        (pss_cons (ps_asg (pv 3) (pg_sub (pv 0) pe_int set_list))
        (pss_one (ps_asg (pe_op op_add (pv 2) pe_int) (pg_sub (pv 0) pe_int set_list)))))))) pss_nil)
      (pss_cons (ps_set (i := 4) sc.nd rfl (.inl rfl) (pe_op op_mod (x_int G.int (pe_ix ix_list (pv 0) pe_int (fun _ _ => rfl))) (pv 1)))
      (pss_cons (ps_asg (pe_op op_fdiv (pe_ix ix_list (pv 0) pe_int (fun _ _ => rfl)) (pv 1)) (pg_sub (pv 0) pe_int set_list))
      (pss_one (ps_ret (pv 4))))), ?_⟩
    -- the digit, whatever stood before
    have fin : ∀ x y z H', SameB p H H' → Strm H' p l ns → tSeq (tAsg (tOp (rI (fun _ j => 0 < j) fun i j => .int (i % j)) (tCB rInt1 (tCons (tOp (rIxL K) (tVar 0) (tC (.int 1))) tNil)) (tVar 1)) (gName 4))
        (tSeq (tAsg (tOp (rI CDiv fun i j => .int (i / j)) (tOp (rIxL K) (tVar 0) (tC (.int 1))) (tVar 1)) (gSub (tVar 0) (tC (.int 1)) rSetL)) (tRet (tVar 4))) { nx := fun _ H' => Q .non H', rt := Q }
        [some (.ref p), some (.int m), x, y, z] H' := by
      intro x y z H' hB hS'
      obtain ⟨c, k, hc, hk, hp, hl, hne⟩ := hS'
      refine ⟨_, rfl, p, _, _, _, rfl, rfl, SqL.of hp, atI_nat (j := 1) rfl, c, rfl, _, rfl, c, m, rfl, rfl, by omega, ?_⟩
      refine ⟨_, rfl, p, _, _, _, rfl, rfl, SqL.of hp, atI_nat (j := 1) rfl, _, rfl, c, m, rfl, rfl, ⟨by omega, by omega⟩, ?_⟩
      refine ⟨_, rfl, p, _, _, 1, rfl, rfl, hp, rfl, ?_⟩
      refine ⟨_, rfl, hQ (c % m) _ (Int.emod_nonneg _ (by omega)) (Int.emod_lt_of_pos _ (by omega)) (hB.trans sameB_set) ⟨c / m, k, Int.ediv_nonneg hc (by omega), hk, upd_same, ?_, hne⟩⟩
      rw [upd_ne hne]
      exact hl
    obtain ⟨c, k, hc, hk, hp, hl, hne⟩ := id hS
    refine ⟨_, rfl, p, _, _, _, rfl, rfl, SqL.of hp, atI_nat (j := 1) rfl, rfl, _, rfl, ite2 (fun _ => ?_) (fun _ => fin _ _ _ H (SameB.refl p H) hS)⟩
    -- a new cell
    have fin2 : ∀ cell : Int, 0 ≤ cell → tSeq (tAsg (tVar 3) (gSub (tVar 0) (tC (.int 1)) rSetL)) (tAsg (tOp (rI0 fun i j => .int (i + j)) (tVar 2) (tC (.int 1))) (gSub (tVar 0) (tC (.int 2)) rSetL))
        { nx := tSeq (tAsg (tOp (rI (fun _ j => 0 < j) fun i j => .int (i % j)) (tCB rInt1 (tCons (tOp (rIxL K) (tVar 0) (tC (.int 1))) tNil)) (tVar 1)) (gName 4))
            (tSeq (tAsg (tOp (rI CDiv fun i j => .int (i / j)) (tOp (rIxL K) (tVar 0) (tC (.int 1))) (tVar 1)) (gSub (tVar 0) (tC (.int 1)) rSetL)) (tRet (tVar 4))) { nx := fun _ H' => Q .non H', rt := Q }, rt := Q }
        [some (.ref p), some (.int m), some (.int k), some (.int cell), none] H := by
      intro cell h0
      refine ⟨_, rfl, _, rfl, p, _, _, 1, rfl, rfl, hp, rfl, ?_⟩
      refine ⟨_, rfl, _, _, rfl, rfl, _, rfl, p, _, _, 2, rfl, rfl, upd_same, rfl, ?_⟩
      refine fin _ _ _ _ (sameB_set.trans sameB_set) ⟨cell, k + 1, h0, by omega, upd_same, ?_, hne⟩
      rw [upd_ne hne, upd_ne hne]
      exact hl
    -- the cell is mixed, or not
    have fin3 : ∀ cell : Int, 0 ≤ cell → tSeq (tIfS (tTest (tOp (rI0 fun i j => .bl (decide (i < j))) (tVar 3) (tOp (rI CPow fun i j => .int (i ^ j.toNat)) (tC (.int 10)) (tC (.int 18)))))
          (tSeq (tAsg (tOp (rI (fun _ j => 0 < j) fun i j => .int (i % j)) (tCB rInt1 (tCons (tOp (rI0 fun i j => .int (i + j)) (tOp (rI0 fun i j => .int (i + j)) (tOp (rI CMul fun i j => .int (i * j)) (tVar 3) (tC (.int 48271))) (tOp (rI CMul fun i j => .int (i * j)) (tVar 2) (tC (.int 69621)))) (tC (.int 11))) tNil)) (tC (.int 2147483647))) (gName 3))
            (tAsg (tOp (rI0 fun i j => .int (i + j)) (tOp (rI CMul fun i j => .int (i * j)) (tOp (rI (fun _ j => 0 < j) fun i j => .int (i % j)) (tCB rInt1 (tCons (tOp (rI0 fun i j => .int (i + j)) (tOp (rI CMul fun i j => .int (i * j)) (tVar 3) (tC (.int 16807))) (tC (.int 13))) tNil)) (tC (.int 2147483647))) (tC (.int 65537))) (tVar 3)) (gName 3))) tNext)
        (tSeq (tAsg (tVar 3) (gSub (tVar 0) (tC (.int 1)) rSetL)) (tAsg (tOp (rI0 fun i j => .int (i + j)) (tVar 2) (tC (.int 1))) (gSub (tVar 0) (tC (.int 2)) rSetL)))
        { nx := tSeq (tAsg (tOp (rI (fun _ j => 0 < j) fun i j => .int (i % j)) (tCB rInt1 (tCons (tOp (rIxL K) (tVar 0) (tC (.int 1))) tNil)) (tVar 1)) (gName 4))
            (tSeq (tAsg (tOp (rI CDiv fun i j => .int (i / j)) (tOp (rIxL K) (tVar 0) (tC (.int 1))) (tVar 1)) (gSub (tVar 0) (tC (.int 1)) rSetL)) (tRet (tVar 4))) { nx := fun _ H' => Q .non H', rt := Q }, rt := Q }
        [some (.ref p), some (.int m), some (.int k), some (.int cell), none] H := by
      intro cell h0
      refine ⟨_, rfl, _, _, rfl, rfl, ⟨by decide, by decide, by decide⟩, _, _, rfl, rfl, _, rfl, ite2 (fun _ => ?_) (fun _ => fin2 cell h0)⟩
      refine ⟨_, rfl, _, _, rfl, rfl, .inr ⟨by decide, by decide⟩, _, rfl, _, _, rfl, rfl, .inr ⟨by decide, by decide⟩, _, _, rfl, rfl, _, _, rfl, rfl, _, rfl, _, _, rfl, rfl, by show (0 : Int) < 2147483647; decide, ?_⟩
      refine ⟨_, rfl, _, _, rfl, rfl, .inr ⟨by decide, by decide⟩, _, _, rfl, rfl, _, rfl, _, _, rfl, rfl, by show (0 : Int) < 2147483647; decide, _, _, rfl, rfl, .inr ⟨by decide, by decide⟩, _, rfl, _, _, rfl, rfl, ?_⟩
      refine fin2 _ ?_
      have h1 := Int.emod_nonneg (cell * 48271 + k * 69621 + 11) (b := 2147483647) (by decide)
      have h2 := Int.emod_nonneg ((cell * 48271 + k * 69621 + 11) % 2147483647 * 16807 + 13) (b := 2147483647) (by decide)
      omega
    refine ⟨_, rfl, p, _, _, _, rfl, rfl, SqL.of hp, atI_nat (j := 2) rfl, ?_⟩
    refine ⟨_, rfl, _, _, rfl, rfl, ?_⟩
    refine ⟨_, rfl, _, rfl, p, _, _, _, rfl, rfl, SqL.of hp, atI_nat (j := 0) rfl, l, _, rfl, .inl (SqL.of hl), _, _, rfl, rfl, _, rfl, ite2 (fun c1 => ?_) (fun _ => fin3 (7 + k) (by omega))⟩
    have c1' : k < ((ns.map V.int).length : Int) := of_decide_eq_true c1
    rw [List.length_map] at c1'
    obtain ⟨z, hz⟩ : ∃ z, ns[k.toNat]? = some z := ⟨_, List.getElem?_eq_getElem (by omega)⟩
    have gz : (ns.map V.int)[k.toNat]? = some (.int z) := by rw [List.getElem?_map, hz]; rfl
    refine ⟨_, rfl, p, _, _, _, rfl, rfl, SqL.of hp, atI_nat (j := 0) rfl, _, rfl, l, _, _, _, rfl, rfl, SqL.of hl, at_of (j := k.toNat) (by omega) gz, z, rfl, ?_⟩
    refine fin3 _ ?_
    split <;> omega
end
end FrP
namespace FrP
open PySem PySem.Spec PyProof.Rows L2 FrR FR
/-- the letters drawn so far: a sign and the place -/
def Lets (U : List Str) : Prop := ∀ (j : Nat) (z : Str), U[j]? = some z → ∃ c : Nat, 97 ≤ c ∧ c ≤ 122 ∧ z = ⟨#[c, 48 + j]⟩
theorem str_of (i : Nat) (h : i < 10) : Str.ofString (toString ((0 : Int) + (i : Int))) = ⟨#[48 + i]⟩ := by
  have e : ∀ k : Fin 10, Str.ofString (toString ((0 : Int) + ((k.val : Nat) : Int))) = ⟨#[48 + k.val]⟩ := by decide +kernel
  exact e ⟨i, h⟩
theorem log_of (i : Nat) (h : i < 10) : ((0 : Int) + (i : Int)).natAbs.log2 < 1920 := by
  have e : ∀ k : Fin 10, ((0 : Int) + ((k.val : Nat) : Int)).natAbs.log2 < 1920 := by decide +kernel
  exact e ⟨i, h⟩
theorem sign_of (d : Nat) (h : d < 26) : (Str.ofString "abcdefghijklmnopqrstuvwxyz").cps.toList[d]? = some (97 + d) := by
  have e : ∀ k : Fin 26, (Str.ofString "abcdefghijklmnopqrstuvwxyz").cps.toList[k.val]? = some (97 + k.val) := by decide +kernel
  exact e ⟨d, h⟩
theorem Lets.isL {U : List Str} (h : Lets U) (h10 : U.length ≤ 10) : ∀ z ∈ U, IsL z := fun z hz => by
  obtain ⟨j, hj, e⟩ := List.getElem_of_mem hz
  obtain ⟨c, h1, h2, h3⟩ := h j z (by rw [List.getElem?_eq_getElem hj, e])
  exact ⟨c, 48 + j, h3, h1, h2, by omega, by omega⟩
theorem Lets.nd {U : List Str} (h : Lets U) : U.Nodup := by
  rw [List.nodup_iff_pairwise_ne, List.pairwise_iff_getElem]
  intro i j hi hj hij e
  obtain ⟨c, _, _, h3⟩ := h i _ (List.getElem?_eq_getElem hi)
  obtain ⟨d, _, _, h4⟩ := h j _ (List.getElem?_eq_getElem hj)
  rw [h3, h4] at e
  simp at e
  omega
theorem Lets.snoc {U : List Str} (h : Lets U) {c : Nat} (h1 : 97 ≤ c) (h2 : c ≤ 122) : Lets (U ++ [⟨#[c, 48 + U.length]⟩]) := fun j z hz => by
  by_cases hj : j < U.length
  · rw [List.getElem?_append_left hj] at hz
    exact h j z hz
  · rw [List.getElem?_append_right (by omega)] at hz
    have e : j - U.length = 0 := by
      have := (List.getElem?_eq_some_iff.mp hz).1
      simp at this
      omega
    rw [e] at hz
    have ej : j = U.length := by omega
    subst ej
    exact ⟨c, h1, h2, by simpa using hz.symm⟩
theorem erase_map {α β : Type} (f : α → β) : ∀ (l : List α) (i : Nat), (l.map f).eraseIdx i = (l.eraseIdx i).map f
  | [], _ => rfl
  | _ :: _, 0 => rfl
  | x :: l, i + 1 => by
    show f x :: (l.map f).eraseIdx i = f x :: (l.eraseIdx i).map f
    rw [erase_map f l i]
theorem erase_perm {α : Type} : ∀ (l : List α) (i : Nat) (h : i < l.length), (l[i] :: l.eraseIdx i).Perm l
  | [], _, h => by simp at h
  | x :: l, 0, _ => List.Perm.refl _
  | x :: l, i + 1, h => by
    have h' : i < l.length := by simpa using h
    have ih := erase_perm l i h'
    show (l[i] :: x :: l.eraseIdx i).Perm (x :: l)
    exact (List.Perm.swap x l[i] (l.eraseIdx i)).trans (List.Perm.cons x ih)
theorem sameB_new {p : Addr} {H H' : Hp} {D : Addr} {o : HO} (e : SameB p H H') (h : H D = none) : SameB p H (upd H' D o) := fun b x n q => by
  rw [upd_ne (ne_of_none q h)]
  exact e _ _ n q
theorem Strm.new {H : Hp} {p l D : Addr} {ns : List Int} {o : HO} (h : Strm H p l ns) (h1 : D ≠ p) (h2 : D ≠ l) : Strm (upd H D o) p l ns := by
  obtain ⟨c, k, a, b, hp, hl, n⟩ := h
  exact ⟨c, k, a, b, by rw [upd_ne (Ne.symm h1)]; exact hp, by rw [upd_ne (Ne.symm h2)]; exact hl, n⟩
theorem Strm.free {H : Hp} {p l D : Addr} {ns : List Int} (h : Strm H p l ns) (n : H D = none) : D ≠ p ∧ D ≠ l := by
  obtain ⟨c, k, a, b, hp, hl, _⟩ := h
  exact ⟨fun e => (by rw [e, hp] at n; cases n), fun e => (by rw [e, hl] at n; cases n)⟩
theorem seq_at {d : Int} {n : Nat} (h0 : 0 ≤ d) (h1 : d < n) : seqIndex? d n = some d.toNat := (ixN_seq (by
  unfold ixN
  rw [if_pos h0, if_pos h1])).1
section
variable {P : Program} {w : World} {K : PySem.W.Frag} {mg : Str → Option Value} {base : Heap}
/-! ### _law_letters -/
def spLets : Sp := fun vs H Q _ => ∃ (p l : Addr) (n : Nat) (ns : List Int), vs = [.ref p, .int (n : Int)] ∧ Strm H p l ns ∧ n ≤ 10 ∧ ∀ r (U : List Str) H', SameB p H H' → Strm H' p l ns → H' r = some (.lst (U.map V.str)) → U.length = n → Lets U → Q (.ref r) H'
theorem ok_letters (D : Df K mg "_law_letters" (topS 40) ["_law_stream_here", "_law_count"]) (G : Gn K mg) (CN : Cal P w K mg base "_law_next" ["_law_stream_here", "_law_many"] 1 spNext) : Cal P w K mg base "_law_letters" ["_law_stream_here", "_law_count"] 2 spLets := by
  refine D.cal fun f fd F => ?_
  have sc : FnScope ["_law_stream_here", "_law_count", "_law_letters_here", "_law_k"] ["_law_stream_here", "_law_count"] (defScope (topS 40)) := ⟨rfl, rfl, rfl, by decide +kernel, rfl, by decide +kernel, by decide +kernel⟩
  refine F.ok sc (fun vs H Q E h => ?_) (fun cdv A outer s H vs Q E hr h => ?_)
  · obtain ⟨p, l, n, ns, rfl, _⟩ := h
    rfl
  · obtain ⟨p, l, n, ns, rfl, hS, h10, hQ⟩ := h
    refine ⟨_, pss_cons (ps_set (i := 2) sc.nd rfl (.inr rfl) pe_str)
      (pss_one (ps_ret (pe_lc (own := [("_law_k", 3)]) (g := gName 3) (tt := tYes) rfl sc.nd (pi_range1 (by rfl) G.range (pa_cons (pv 1) pa_nil)) (blkOk_by (N := ["_law_stream_here", "_law_count", "_law_letters_here", "_law_k"]) (sc := defScope (topS 40)) (by decide +kernel))
        (fun _ _ _ _ _ => pg_name (i := 3) sc.nd rfl (Or.inl rfl)) (fun _ _ _ _ _ => pts_nil)
        (fun _ _ _ _ _ => pe_op op_add_str (pe_ix ix_str (pv 2) (pe_cal CN hr (pa_cons (pv 0) (pa_cons pe_int pa_nil))) (fun _ _ => rfl)) (pe_callTy call_str_int (by rfl) G.str PyProof.Rows.boot_str (pa_cons (pv 3) pa_nil)))))), ?_⟩
    refine ⟨_, rfl, _, rfl, by omega, by omega, fun Dl nD => ?_⟩
    have en : ((n : Nat) : Int).toNat = n := by omega
    obtain ⟨nDp, nDl⟩ := hS.free nD
    rw [en]
    refine lc_range (lo := 0) (n := n) (fun i H' => SameB p H H' ∧ Strm H' p l ns ∧ ∃ U : List Str, H' Dl = some (.lst (U.map V.str)) ∧ U.length = i ∧ Lets U) ⟨SameB.of (same_upd nD), hS.new nDp nDl, [], by rw [upd_same]; rfl, rfl, fun j z h => by simp at h⟩ ?_ ?_
    · rintro i H3 hi ⟨s3, t3, U, hU, hUl, hL⟩
      refine ⟨rfl, _, rfl, _, rfl, p, l, _, ns, rfl, t3, by decide, by decide, fun d H4 h0 h1 s4 t4 => ?_⟩
      have hU4 := s4 _ _ nDp hU
      have hd : d = ((d.toNat : Nat) : Int) := by omega
      refine ⟨_, _, 97 + d.toNat, rfl, rfl, (by show 26 ≤ sizeLine; decide), ?_, ?_⟩
      · have q := atI_nat (sign_of d.toNat (by omega))
        rw [← hd] at q
        exact q
      refine ⟨_, rfl, _, rfl, log_of i (by omega), _, _, rfl, rfl, ?_, ?_⟩
      · rw [str_of i (by omega)]
        show 2 ≤ sizeLine
        decide
      rw [str_of i (by omega)]
      refine ⟨_, hU4, ?_, sameB_new (s3.trans s4) nD, t4.new nDp nDl, U ++ [⟨#[97 + d.toNat, 48 + U.length]⟩], ?_, ?_, hL.snoc (by omega) (by omega)⟩
      · rw [List.length_map]
        exact small1000 (by omega)
      · rw [upd_same, List.map_append, hUl]
        rfl
      · rw [List.length_append, List.length_singleton, hUl]
    · rintro H3 ⟨s3, t3, U, hU, hUl, hL⟩
      exact hQ Dl U H3 s3 t3 hU hUl hL
/-! ### _law_order -/
def spOrder : Sp := fun vs H Q _ => ∃ (p l a : Addr) (U : List Str) (ns : List Int), vs = [.ref p, .ref a] ∧ Strm H p l ns ∧ a ≠ p ∧ H a = some (.lst (U.map V.str)) ∧ U.length ≤ 10 ∧
  ∀ v' (L : List Str) (S : List Int) H', SameB p H H' → Strm H' p l ns → OrdR H' v' L S → L.Perm U → S.length = L.length - 1 → (∀ s ∈ S, (1 : Int) ≤ s ∧ s ≤ 3) → Q v' H'
theorem ok_order (D : Df K mg "_law_order" (topS 41) ["_law_stream_here", "_law_letters_here"]) (G : Gn K mg) (CN : Cal P w K mg base "_law_next" ["_law_stream_here", "_law_many"] 1 spNext) : Cal P w K mg base "_law_order" ["_law_stream_here", "_law_letters_here"] 2 spOrder := by
  refine D.cal fun f fd F => ?_
  have sc : FnScope ["_law_stream_here", "_law_letters_here", "_law_left", "_law_row", "_law_turn", "_law_k"] ["_law_stream_here", "_law_letters_here"] (defScope (topS 41)) := ⟨rfl, rfl, rfl, by decide +kernel, rfl, by decide +kernel, by decide +kernel⟩
  refine F.ok sc (fun vs H Q E h => ?_) (fun cdv A outer s H vs Q E hr h => ?_)
  · obtain ⟨p, l, a, U, ns, rfl, _⟩ := h
    rfl
  · obtain ⟨p, l, a, U, ns, rfl, hS, hap, ha, h10, hQ⟩ := h
    refine ⟨_, pss_cons (ps_set (i := 2) sc.nd rfl (.inl rfl) (pe_callTy call_list_of (by rfl) G.list PyProof.Rows.boot_list (pa_cons (pv 1) pa_nil)))
      (pss_cons (ps_set (i := 3) sc.nd rfl (.inl rfl) (pe_lst pa_nil))
      (pss_cons (ps_for PassesOwn.never rfl (pi_range1 (by rfl) G.range (pa_cons (x_len G.len (pv 1)) pa_nil)) (pg_name (i := 4) sc.nd rfl (.inl rfl))
        (pss_one (ps_expr (pe_bm PySem.F.plainAttrs_list PySem.F.slot_list_append PySem.F.type_list_append mt_append (pv 3)
          (pa_cons (pe_bm PySem.F.plainAttrs_list PySem.F.slot_list_pop PySem.F.type_list_pop mt_popAt (pv 2) (pa_cons (pe_cal CN hr (pa_cons (pv 0) (pa_cons (x_len G.len (pv 2)) pa_nil))) pa_nil)) pa_nil)))))
      (pss_one (ps_ret (pe_tupF (pa_cons (pe_callTy call_tupleF (by rfl) G.tuple PyProof.Rows.boot_tuple (pa_cons (pv 3) pa_nil))
        (pa_cons (pe_callTy call_tupleF (by rfl) G.tuple PyProof.Rows.boot_tuple (pa_cons
          (pe_lc (own := [("_law_k", 5)]) (g := gName 5) (tt := tYes) rfl sc.nd (pi_range1 (by rfl) G.range (pa_cons (pe_callB (call_max2 rfl) (by rfl) G.max boot_max (pa_cons pe_int (pa_cons (pe_op op_sub (x_len G.len (pv 3)) pe_int) pa_nil))) pa_nil))
            (blkOk_by (N := ["_law_stream_here", "_law_letters_here", "_law_left", "_law_row", "_law_turn", "_law_k"]) (sc := defScope (topS 41)) (by decide +kernel))
            (fun _ _ _ _ _ => pg_name (i := 5) sc.nd rfl (Or.inl rfl)) (fun _ _ _ _ _ => pts_nil)
            (fun _ _ _ _ _ => pe_op op_add pe_int (pe_cal CN hr (pa_cons (pv 0) (pa_cons pe_int pa_nil))))) pa_nil)) pa_nil))))))), ?_⟩
    refine ⟨_, rfl, a, _, rfl, .inl (SqL.of ha), fun ll nl => ⟨Nat.zero_le _, fun lr nr => ?_⟩⟩
    have s1 := same_upd (o := .lst (U.map V.str)) nl
    have s2 := same_upd (o := .lst []) nr
    have s02 := s1.trans s2
    have nlr : H lr = none := s1.free nr
    have hlr : ll ≠ lr := ne_of_none (upd_same (H := H) (a := ll) (o := .lst (U.map V.str))) nr
    obtain ⟨nlp, nll⟩ := hS.free nl
    obtain ⟨nrp, nrl⟩ := hS.free nlr
    refine ⟨_, rfl, a, _, rfl, .inl (SqL.of (s02 _ _ ha)), _, rfl, ?_, ?_, ?_⟩
    · rw [List.length_map]; omega
    · rw [List.length_map]; omega
    have en : (((U.map V.str).length : Nat) : Int).toNat = U.length := by rw [List.length_map]; omega
    rw [en]
    refine for_range (lo := 0) (n := U.length) (fun i σ H' => ∃ (t : Option V) (A B : List Str), σ = [some (.ref p), some (.ref a), some (.ref ll), some (.ref lr), t, none] ∧ SameB p H H' ∧ Strm H' p l ns ∧ H' ll = some (.lst (B.map V.str)) ∧ H' lr = some (.lst (A.map V.str)) ∧ A.length = i ∧ (A ++ B).Perm U)
      ⟨none, [], U, rfl, SameB.of s02, hS.same s02, s2 _ _ upd_same, upd_same, rfl, List.Perm.refl _⟩ ?_ ?_
    · rintro i σ H3 hi ⟨t, A, B, rfl, s3, t3, hB, hA, hAl, hp⟩
      have hlen := hp.length_eq
      rw [List.length_append] at hlen
      have lB : (B.map V.str).length = B.length := List.length_map _
      refine ⟨_, rfl, .inl ⟨rfl, _, SqL.of hA⟩, _, rfl, .inl ⟨rfl, _, SqL.of hB⟩, _, rfl, _, rfl, ll, _, rfl, .inl (SqL.of hB), p, l, _, ns, rfl, t3, by omega, by omega, fun d H4 h0 h1 s4 t4 => ?_⟩
      have hB4 := s4 _ _ nlp hB
      have hA4 := s4 _ _ nrp hA
      rw [lB] at h1
      have hd : d.toNat < B.length := by omega
      have gB : (B.map V.str)[d.toNat]? = some (.str B[d.toNat]) := by rw [List.getElem?_map, List.getElem?_eq_getElem hd]; rfl
      refine ⟨ll, _, d, d.toNat, _, rfl, rfl, hB4, by omega, by omega, seq_at h0 (by rw [lB]; exact h1), gB, ?_⟩
      have hA5 : (upd H4 ll (.lst ((B.map V.str).eraseIdx d.toNat))) lr = some (.lst (A.map V.str)) := by rw [upd_ne (Ne.symm hlr)]; exact hA4
      refine ⟨lr, _, _, rfl, rfl, hA5, ?_, ?_⟩
      · rw [List.length_map]
        exact small1000 (by omega)
      refine ⟨_, A ++ [B[d.toNat]], B.eraseIdx d.toNat, rfl, sameB_new (sameB_new (s3.trans s4) nl) nlr, (t4.new nlp nll).new nrp nrl, ?_, ?_, ?_, ?_⟩
      · rw [upd_ne hlr, upd_same, erase_map]
      · rw [upd_same, List.map_append]
        rfl
      · rw [List.length_append, List.length_singleton, hAl]
      · refine List.Perm.trans ?_ hp
        rw [List.append_assoc]
        refine List.Perm.append_left A ?_
        exact erase_perm B d.toNat hd
    · rintro σ H3 ⟨t, A, B, rfl, s3, t3, hB, hA, hAl, hp⟩
      have hlen := hp.length_eq
      rw [List.length_append] at hlen
      have hBn : B = [] := List.length_eq_zero_iff.mp (by omega)
      subst hBn
      rw [List.append_nil] at hp
      have lA : (A.map V.str).length = A.length := List.length_map _
      refine ⟨_, rfl, lr, _, rfl, SqL.of hA, fun pa H4 s4 t4 => ?_⟩
      have t4s := t3.same s4
      have hA4 := s4 _ _ hA
      refine ⟨_, rfl, lr, _, rfl, .inl (SqL.of hA4), _, _, rfl, rfl, _, _, rfl, _, rfl, ?_, ?_, fun Dl nD => ?_⟩
      · rw [lA]; split <;> omega
      · rw [lA]; split <;> omega
      have em : (if (((A.map V.str).length : Nat) : Int) - 1 > 0 then (((A.map V.str).length : Nat) : Int) - 1 else 0).toNat = A.length - 1 := by
        rw [lA]; split <;> omega
      rw [em]
      obtain ⟨nDp, nDl⟩ := t4s.free nD
      refine lc_range (lo := 0) (n := A.length - 1) (fun i H' => SameB p H4 H' ∧ Strm H' p l ns ∧ ∃ S : List Int, H' Dl = some (.lst (S.map V.int)) ∧ S.length = i ∧ ∀ s ∈ S, (1 : Int) ≤ s ∧ s ≤ 3) ⟨SameB.of (same_upd nD), t4s.new nDp nDl, [], by rw [upd_same]; rfl, rfl, fun s h => by simp at h⟩ ?_ ?_
      · rintro i H5 hi ⟨s5, t5, S, hS5, hSl, hb⟩
        refine ⟨rfl, _, rfl, p, l, _, ns, rfl, t5, by decide, by decide, fun d H6 h0 h1 s6 t6 => ?_⟩
        refine ⟨_, _, rfl, rfl, _, s6 _ _ nDp hS5, ?_, sameB_new (s5.trans s6) nD, t6.new nDp nDl, S ++ [1 + d], ?_, ?_, fun s hs => ?_⟩
        · rw [List.length_map]
          exact small1000 (by omega)
        · rw [upd_same, List.map_append]
          rfl
        · rw [List.length_append, List.length_singleton, hSl]
        · rcases List.mem_append.mp hs with hs | hs
          · exact hb s hs
          · have : s = 1 + d := by simpa using hs
            omega
      · rintro H5 ⟨s5, t5, S, hS5, hSl, hb⟩
        refine ⟨Dl, _, rfl, SqL.of hS5, fun pb H6 s6 t6 => ⟨by show 2 ≤ sizeLine; decide, fun pp H7 s7 t7 => ?_⟩⟩
        have hx : ∃ xs, H4 p = some (.lst xs) := t4s.at
        refine hQ _ A S H7 (s3.trans ((SameB.of s4).trans (s5.trans (SameB.of (s6.trans s7))))) (t5.same (s6.trans s7)) ⟨pp, pa, pb, rfl, t7, ((t4.sameB hx s5).same s6).same s7, t6.same s7⟩ hp hSl hb
end
end FrP
namespace FrP
open PySem PySem.Spec PyProof.Rows L2 FrR FR
/-- a rule over the letters U -/
structure InU (U : List Str) (q : R) : Prop where
  a : q.anchor ∈ U
  x : q.letter ∈ U
  ne : q.anchor ≠ q.letter
  lo : 1 ≤ q.w
  hi : q.w ≤ 3
theorem other_ne {n d1 d2 : Int} (h0 : 0 ≤ d1) (h1 : d1 < n) (h2 : 0 ≤ d2) (h3 : d2 < n - 1) : (d1 + 1 + d2) % n ≠ d1 := by
  by_cases h : d1 + 1 + d2 < n
  · rw [Int.emod_eq_of_lt (by omega) h]
    omega
  · have e : (d1 + 1 + d2) % n = d1 + 1 + d2 - n := by
      rw [← Int.sub_emod_right, Int.emod_eq_of_lt (by omega) (by omega)]
    rw [e]
    omega
section
variable {P : Program} {w : World} {K : PySem.W.Frag} {mg : Str → Option Value} {base : Heap}
/-! ### _law_rule -/
def spRule : Sp := fun vs H Q _ => ∃ (p l a : Addr) (U : List Str) (ns : List Int), vs = [.ref p, .ref a] ∧ Strm H p l ns ∧ a ≠ p ∧ H a = some (.lst (U.map V.str)) ∧ 2 ≤ U.length ∧ U.length ≤ 10 ∧ U.Nodup ∧
  ∀ v' q H', SameB p H H' → Strm H' p l ns → RulR H' v' q → InU U q → Q v' H'
theorem ok_rule (D : Df K mg "_law_rule" (topS 42) ["_law_stream_here", "_law_letters_here"]) (G : Gn K mg) (CN : Cal P w K mg base "_law_next" ["_law_stream_here", "_law_many"] 1 spNext) : Cal P w K mg base "_law_rule" ["_law_stream_here", "_law_letters_here"] 2 spRule := by
  refine D.cal fun f fd F => ?_
  have sc : FnScope ["_law_stream_here", "_law_letters_here", "_law_anchor", "_law_letter"] ["_law_stream_here", "_law_letters_here"] (defScope (topS 42)) := ⟨rfl, rfl, rfl, by decide +kernel, rfl, by decide +kernel, by decide +kernel⟩
  refine F.ok sc (fun vs H Q E h => ?_) (fun cdv A outer s H vs Q E hr h => ?_)
  · obtain ⟨p, l, a, U, ns, rfl, _⟩ := h
    rfl
  · obtain ⟨p, l, a, U, ns, rfl, hS, hap, ha, h2, h10, hn, hQ⟩ := h
    refine ⟨_, pss_cons (ps_set (i := 2) sc.nd rfl (.inl rfl) (pe_cal CN hr (pa_cons (pv 0) (pa_cons (x_len G.len (pv 1)) pa_nil))))
      (pss_cons (ps_set (i := 3) sc.nd rfl (.inl rfl) (pe_op op_mod (pe_op op_add (pe_op op_add (pv 2) pe_int) (pe_cal CN hr (pa_cons (pv 0) (pa_cons (pe_op op_sub (x_len G.len (pv 1)) pe_int) pa_nil)))) (x_len G.len (pv 1))))
      (pss_one (ps_ret (pe_tupF (pa_cons (pe_ix ix_list (pe_lst (pa_cons pe_str (pa_cons pe_str pa_nil))) (pe_cal CN hr (pa_cons (pv 0) (pa_cons pe_int pa_nil))) (fun _ _ => rfl))
        (pa_cons (pe_ix ix_list (pv 1) (pv 2) (fun _ _ => rfl))
        (pa_cons (pe_op op_add pe_int (pe_cal CN hr (pa_cons (pv 0) (pa_cons pe_int pa_nil))))
        (pa_cons (pe_ix ix_list (pv 1) (pv 3) (fun _ _ => rfl)) pa_nil)))))))), ?_⟩
    have lU : (U.map V.str).length = U.length := List.length_map _
    refine ⟨_, rfl, _, rfl, a, _, rfl, .inl (SqL.of ha), p, l, _, ns, rfl, hS, by omega, by omega, fun d1 H1 a0 a1 s1 t1 => ?_⟩
    rw [lU] at a1
    have ha1 := s1 _ _ hap ha
    refine ⟨_, rfl, _, _, rfl, rfl, _, rfl, _, rfl, a, _, rfl, .inl (SqL.of ha1), _, _, rfl, rfl, p, l, _, ns, rfl, t1, by omega, by omega, fun d2 H2 b0 b1 s2 t2 => ?_⟩
    rw [lU] at b1
    have ha2 := s2 _ _ hap ha1
    refine ⟨_, _, rfl, rfl, _, rfl, a, _, rfl, .inl (SqL.of ha2), _, _, rfl, rfl, by omega, ?_⟩
    have s02 := s1.trans s2
    have c0 := Int.emod_nonneg (d1 + 1 + d2) (b := (U.length : Int)) (by omega)
    have c1 := Int.emod_lt_of_pos (d1 + 1 + d2) (b := (U.length : Int)) (by omega)
    have cn := other_ne (n := (U.length : Int)) a0 a1 b0 b1
    obtain ⟨x, hx⟩ : ∃ x, x = (d1 + 1 + d2) % (U.length : Int) := ⟨_, rfl⟩
    rw [← hx] at c0 c1 cn
    -- the tuple
    refine ⟨by show 2 ≤ sizeLine; decide, fun ls nls => ?_⟩
    have sls := same_upd (o := .lst [V.str "after", V.str "before"]) nls
    obtain ⟨nlp, nll⟩ := t2.free nls
    refine ⟨_, rfl, p, l, _, ns, rfl, t2.same sls, by decide, by decide, fun d3 H3 e0 e1 s3 t3 => ?_⟩
    have hls := s3 _ _ nlp (upd_same (H := H2) (a := ls) (o := .lst [V.str "after", V.str "before"]))
    have s03 := s02.trans ((SameB.of sls).trans s3)
    have ha3 := s03 _ _ hap ha
    obtain ⟨b, hb⟩ : ∃ b : Bool, atI [V.str "after", V.str "before"] d3 = some (sideV b) := by
      have h : d3 = ((0 : Nat) : Int) ∨ d3 = ((1 : Nat) : Int) := by omega
      rcases h with h | h
      · exact ⟨true, by rw [h]; rfl⟩
      · exact ⟨false, by rw [h]; rfl⟩
    have g1 : (U.map V.str)[d1.toNat]? = some (.str U[d1.toNat]) := by rw [List.getElem?_map, List.getElem?_eq_getElem (by omega)]; rfl
    have g2 : (U.map V.str)[x.toNat]? = some (.str U[x.toNat]) := by rw [List.getElem?_map, List.getElem?_eq_getElem (by omega)]; rfl
    refine ⟨ls, _, d3, sideV b, rfl, rfl, SqL.of hls, hb, ?_⟩
    refine ⟨_, rfl, _, rfl, a, _, _, _, rfl, rfl, SqL.of ha3, at_of (j := d1.toNat) (by omega) g1, ?_⟩
    refine ⟨_, rfl, p, l, _, ns, rfl, t3, by decide, by decide, fun d4 H4 f0 f1 s4 t4 => ?_⟩
    have ha4 := s4 _ _ hap ha3
    refine ⟨_, _, rfl, rfl, _, rfl, _, rfl, a, _, _, _, rfl, rfl, SqL.of ha4, at_of (j := x.toNat) (show (d1 + 1 + d2) % (((U.map V.str).length : Nat) : Int) = ((x.toNat : Nat) : Int) from by rw [lU, ← hx]; omega) g2, by show 4 ≤ sizeLine; decide, fun pt H5 s5 t5 => ?_⟩
    refine hQ _ ⟨b, U[d1.toNat], 1 + d4, U[x.toNat]⟩ H5 (s03.trans (s4.trans (SameB.of s5))) (t4.same s5) ⟨pt, rfl, t5⟩ ⟨List.getElem_mem _, List.getElem_mem _, fun e => ?_, ?_, ?_⟩
    · have := (List.getElem_inj hn).mp e
      omega
    · show 1 ≤ 1 + d4
      omega
    · show 1 + d4 ≤ 3
      omega
/-! ### _law_rules -/
def spRules : Sp := fun vs H Q _ => ∃ (p l a : Addr) (U : List Str) (ns : List Int), vs = [.ref p, .ref a, .int 8] ∧ Strm H p l ns ∧ a ≠ p ∧ H a = some (.lst (U.map V.str)) ∧ 2 ≤ U.length ∧ U.length ≤ 10 ∧ U.Nodup ∧
  ∀ v' (qs : List R) H', SameB p H H' → Strm H' p l ns → RulsT H' v' qs → qs.length ≤ 8 → (∀ q ∈ qs, InU U q) → Q v' H'
theorem ok_rules (D : Df K mg "_law_rules" (topS 43) ["_law_stream_here", "_law_letters_here", "_law_most"]) (G : Gn K mg) (CN : Cal P w K mg base "_law_next" ["_law_stream_here", "_law_many"] 1 spNext) (CR : Cal P w K mg base "_law_rule" ["_law_stream_here", "_law_letters_here"] 2 spRule) :
    Cal P w K mg base "_law_rules" ["_law_stream_here", "_law_letters_here", "_law_most"] 3 spRules := by
  refine D.cal fun f fd F => ?_
  have sc : FnScope ["_law_stream_here", "_law_letters_here", "_law_most", "_law_k"] ["_law_stream_here", "_law_letters_here", "_law_most"] (defScope (topS 43)) := ⟨rfl, rfl, rfl, by decide +kernel, rfl, by decide +kernel, by decide +kernel⟩
  refine F.ok sc (fun vs H Q E h => ?_) (fun cdv A outer s H vs Q E hr h => ?_)
  · obtain ⟨p, l, a, U, ns, rfl, _⟩ := h
    rfl
  · obtain ⟨p, l, a, U, ns, rfl, hS, hap, ha, h2, h10, hn, hQ⟩ := h
    refine ⟨_, pss_one (ps_ret (pe_callTy call_tupleF (by rfl) G.tuple PyProof.Rows.boot_tuple (pa_cons
          (pe_lc (own := [("_law_k", 3)]) (g := gName 3) (tt := tYes) rfl sc.nd (pi_range1 (by rfl) G.range (pa_cons (pe_cal CN hr (pa_cons (pv 0) (pa_cons (pe_op op_add (pv 2) pe_int) pa_nil))) pa_nil))
            (blkOk_by (N := ["_law_stream_here", "_law_letters_here", "_law_most", "_law_k"]) (sc := defScope (topS 43)) (by decide +kernel))
            (fun _ _ _ _ _ => pg_name (i := 3) sc.nd rfl (Or.inl rfl)) (fun _ _ _ _ _ => pts_nil)
            (fun _ _ _ _ _ => pe_cal CR hr (pa_cons (pv 0) (pa_cons (pv 1) pa_nil)))) pa_nil))), ?_⟩
    refine ⟨_, rfl, _, rfl, _, _, rfl, rfl, p, l, _, ns, rfl, hS, by decide, by decide, fun d H1 d0 d1 s1 t1 => ⟨_, rfl, by omega, by omega, fun Dl nD => ?_⟩⟩
    have ha1 := s1 _ _ hap ha
    obtain ⟨nDp, nDl⟩ := t1.free nD
    refine lc_range (lo := 0) (n := d.toNat) (fun i H' => SameB p H1 H' ∧ Strm H' p l ns ∧ ∃ (vs : List V) (qs : List R), H' Dl = some (.lst vs) ∧ RulsV H' vs qs ∧ qs.length = i ∧ ∀ q ∈ qs, InU U q) ⟨SameB.of (same_upd nD), t1.new nDp nDl, [], [], upd_same, .nil, rfl, fun q h => by simp at h⟩ ?_ ?_
    · rintro i H3 hi ⟨s3, t3, vs, qs, hvs, hR, hl, hg⟩
      have ha3 := s3 _ _ hap ha1
      refine ⟨rfl, _, rfl, _, rfl, p, l, a, U, ns, rfl, t3, hap, ha3, h2, h10, hn, fun v' q H4 s4 t4 hq hu => ?_⟩
      have hv4 := s4 _ _ nDp hvs
      have lv : vs.length = qs.length := Paired.length hR
      have hR4 := RulsV.sameB t3.at s4 hR
      have nDl4 : H1 Dl = none := nD
      refine ⟨_, hv4, ?_, sameB_new (s3.trans s4) nD, t4.new nDp nDl, vs ++ [v'], qs ++ [q], upd_same, ?_, ?_, fun r hr => ?_⟩
      · exact small1000 (by omega)
      · -- the list at Dl has grown: the rules' tuples stand elsewhere
        have hx : ∃ xs, H4 Dl = some (.lst xs) := ⟨_, hv4⟩
        have sD : SameB Dl H4 (upd H4 Dl (.lst (vs ++ [v']))) := sameB_set
        exact paired_app (RulsV.sameB hx sD hR4) (.cons (hq.sameB hx sD) .nil)
      · rw [List.length_append, List.length_singleton, hl]
      · rcases List.mem_append.mp hr with hr | hr
        · exact hg r hr
        · have : r = q := by simpa using hr
          rw [this]; exact hu
    · rintro H3 ⟨s3, t3, vs, qs, hvs, hR, hl, hg⟩
      exact ⟨Dl, _, rfl, SqL.of hvs, fun pt H4 s4 t4 => hQ _ qs H4 (s1.trans (s3.trans (SameB.of s4))) (t3.same s4) ⟨pt, vs, rfl, t4, RulsV.same s4 hR⟩ (by omega) hg⟩
end
end FrP
namespace FrP
open PySem PySem.Spec PyProof.Rows L2 FrR FR
theorem cut_mid (xs : List V) (a b : Nat) (h : b ≤ xs.length) : cutV xs (some (a : Int)) (some (b : Int)) = (xs.drop a).take (b - a) := by
  unfold cutV
  rw [HT.sIx_nat, HT.sIx_nat, Nat.min_eq_left h]
  by_cases ha : a ≤ xs.length
  · rw [Nat.min_eq_left ha]
  · rw [Nat.min_eq_right (by omega), List.drop_of_length_le (Nat.le_refl _), List.drop_of_length_le (by omega), List.take_nil, List.take_nil]
/-- e is where a letter goes that is put in front of the one at i with the strength w -/
structure EndB (S : List Int) (w : Int) (i e : Nat) : Prop where
  hi : e ≤ i
  run : ∀ k t, e ≤ k → k < i → S[k]? = some t → w < t
  stop : e = 0 ∨ ∃ t, S[e - 1]? = some t ∧ t ≤ w
theorem min_mem {S : List Int} {a b : Nat} {m : Int} (hm : m ∈ (S.drop a).take (b - a)) : ∃ k, a ≤ k ∧ k < b ∧ S[k]? = some m := by
  obtain ⟨j, hj, e⟩ := List.getElem_of_mem hm
  rw [List.length_take, List.length_drop] at hj
  refine ⟨a + j, by omega, by omega, ?_⟩
  rw [List.getElem_take, List.getElem_drop] at e
  rw [List.getElem?_eq_getElem (by omega), e]
theorem mem_mid {S : List Int} {a b k : Nat} {t : Int} (h1 : a ≤ k) (h2 : k < b) (h : S[k]? = some t) : t ∈ (S.drop a).take (b - a) := by
  refine List.mem_of_getElem? (i := k - a) ?_
  rw [List.getElem?_take_of_lt (by omega), List.getElem?_drop]
  have e : a + (k - a) = k := by omega
  rw [e]
  exact h
section
variable {P : Program} {w : World} {K : PySem.W.Frag} {mg : Str → Option Value} {base : Heap}
/-! ### _law_without -/
def spWithout : Sp := fun vs H Q _ => ∃ (v : V) (x : Str) (P : C), vs = [v, .str x] ∧ OrdC H v P ∧ P.length ≤ 100 ∧ ∀ v' H', Same H H' → OrdC H' v' (rm x P) → Q v' H'
theorem ok_without (D : Df K mg "_law_without" (topS 44) ["_law_order_here", "_law_letter"]) (G : Gn K mg) : Cal P w K mg base "_law_without" ["_law_order_here", "_law_letter"] 1 spWithout := by
  refine D.cal fun f fd F => ?_
  have sc : FnScope ["_law_order_here", "_law_letter", "_law_letters_here", "_law_strengths", "_law_k", "_law_rest"] ["_law_order_here", "_law_letter"] (defScope (topS 44)) := ⟨rfl, rfl, rfl, by decide +kernel, rfl, by decide +kernel, by decide +kernel⟩
  refine F.ok sc (fun vs H Q E h => ?_) (fun cdv A outer s H vs Q E hr h => ?_)
  · obtain ⟨v, x, P, rfl, _⟩ := h
    rfl
  · obtain ⟨v, x, P, rfl, ho, hl, q⟩ := h
    obtain ⟨p, a, b, rfl, hp, ha, hb⟩ := id ho
    refine ⟨_, pss_cons (ps_asg (pv 0) (pg_tup rfl (pgs_cons (pg_name (i := 2) sc.nd rfl (.inl rfl)) (pgs_cons (pg_name (i := 3) sc.nd rfl (.inl rfl)) pgs_nil))))
      (pss_cons (ps_if (pt_cmpR op_notIn_seq (pv 1) (pv 2) (by rfl)) (pss_one (ps_ret (pv 0))) pss_nil)
      (pss_cons (ps_set (i := 4) sc.nd rfl (.inl rfl) (pe_bmT PySem.F.slot_tuple_index PySem.F.type_tuple_index mt_tup_idx (pv 2) (pa_cons (pv 1) pa_nil)))
      (pss_cons (ps_set (i := 5) sc.nd rfl (.inl rfl) (pe_op op_catF (pe_slice sl_tupF (pv 2) po_none (po_some (pv 4))) (pe_slice sl_tupF (pv 2) (po_some (pe_op op_add (pv 4) pe_int)) po_none)))
      (pss_cons (ps_if (pt_cmpR op_eq (pv 4) pe_int (nomark _)) (pss_one (ps_ret (pe_tupF (pa_cons (pv 5) (pa_cons (pe_slice sl_tupF (pv 3) (po_some pe_int) po_none) pa_nil))))) pss_nil)
      (pss_cons (ps_if (pt_cmpR op_eq (pv 4) (pe_op op_sub (x_len G.len (pv 2)) pe_int) (nomark _)) (pss_one (ps_ret (pe_tupF (pa_cons (pv 5) (pa_cons (pe_slice sl_tupF (pv 3) po_none (po_some (pe_op op_sub (pv 4) pe_int))) pa_nil))))) pss_nil)
      (pss_one (ps_ret (pe_tupF (pa_cons (pv 5) (pa_cons (pe_op op_catF (pe_op op_catF (pe_slice sl_tupF (pv 3) po_none (po_some (pe_op op_sub (pv 4) pe_int)))
          (pe_tupF (pa_cons (pe_callB (call_min2 rfl) (by rfl) G.min boot_min (pa_cons (pe_ix ix_tup (pv 3) (pe_op op_sub (pv 4) pe_int) (fun _ _ => rfl)) (pa_cons (pe_ix ix_tup (pv 3) (pv 4) (fun _ _ => rfl)) pa_nil))) pa_nil)))
          (pe_slice sl_tupF (pv 3) (po_some (pe_op op_add (pv 4) pe_int)) po_none)) pa_nil)))))))))), ?_⟩
    refine ⟨_, rfl, p, _, rfl, hp.seq, rfl, _, _, rfl, _, _, rfl, rfl, ?_⟩
    refine ⟨_, rfl, _, rfl, a, _, rfl, .inr ha.seq, rfl, flat_strs _, _, rfl, ite2 (fun c => ?_) (fun c => ?_)⟩
    · have c' : (!inV (.str x) ((lt P).map V.str)) = true := c
      rw [inV_str] at c'
      have hx : x ∉ lt P := fun h => by
        rw [decide_eq_true h] at c'
        cases c'
      exact ⟨_, rfl, q _ H (Same.refl H) (by rw [rm_not_mem hx]; exact ho)⟩
    have c' : ¬ (!inV (.str x) ((lt P).map V.str)) = true := c
    rw [inV_str] at c'
    have hx : x ∈ lt P := Decidable.byContradiction fun h => c' (by rw [decide_eq_false h]; rfl)
    obtain ⟨j, hj, hm⟩ := first_at hx
    have lP : (lt P).length = P.length := lt_len P
    have lS : (st P).length = P.length - 1 := st_len P
    have lV : ((lt P).map V.str).length = (lt P).length := List.length_map _
    have lW : ((st P).map V.int).length = (st P).length := List.length_map _
    have hjl : j < P.length := by
      have := (List.getElem?_eq_some_iff.mp hj).1
      omega
    have e1 : ((j : Int) + 1) = ((j + 1 : Nat) : Int) := by omega
    refine ⟨_, rfl, ⟨a, _, rfl, ha⟩, _, rfl, a, lt P, x, j, rfl, rfl, ha.seq, hj, hm, ?_⟩
    refine ⟨_, rfl, _, rfl, _, rfl, a, _, rfl, ha, fun p1 H1 s1 t1 => ?_⟩
    refine ⟨_, rfl, _, rfl, _, _, rfl, rfl, _, rfl, a, _, rfl, ha.same s1, fun p2 H2 s2 t2 => ?_⟩
    rw [cut_to] at t1
    rw [e1, cut_from] at t2
    refine ⟨p1, p2, _, _, rfl, rfl, t1.same s2, t2, sz (by rw [List.length_take, List.length_drop]; omega), fun p3 H3 s3 t3 => ?_⟩
    have t3' : Tp H3 p3 ((lt (rm x P)).map V.str) := by
      refine toI t3 ?_
      rw [lt_rm_at hj hm, List.map_append, List.map_take, List.map_drop]
    have s03 : Same H H3 := s1.trans (s2.trans s3)
    have fin : ∀ (H4 : Hp) (b' : Addr), Same H3 H4 → Tp H4 b' ((st (rm x P)).map V.int) → Gives [.ref p3, .ref b'] Q H4 := fun H4 b' s4 t4 p5 H5 s5 t5 =>
      q _ H5 (s03.trans (s4.trans s5)) ⟨p5, p3, b', rfl, t5, t3'.same (s4.trans s5), t4.same s5⟩
    have hb3 := hb.same s03
    refine ⟨_, rfl, rfl, _, rfl, ite2 (fun c => ?_) (fun c => ?_)⟩
    · have j0 : j = 0 := by
        have := V.int.inj (of_decide_eq_true c)
        omega
      subst j0
      refine ⟨_, rfl, _, rfl, 1, rfl, b, _, rfl, hb3, fun b' H4 s4 t4 => ⟨by show 2 ≤ sizeLine; decide, fin H4 b' s4 (toI t4 ?_)⟩⟩
      rw [show (1 : Int) = ((1 : Nat) : Int) from rfl, cut_from, st_rm_first hj, List.map_drop]
    · have j0 : j ≠ 0 := fun e => c (decide_eq_true (by rw [e]; rfl))
      have e2 : ((j : Int) - 1) = ((j - 1 : Nat) : Int) := by omega
      refine ⟨_, rfl, _, rfl, a, _, rfl, .inr (ha.same s03).seq, _, _, rfl, rfl, rfl, _, rfl, ite2 (fun c2 => ?_) (fun c2 => ?_)⟩
      · have jl : j + 1 = (lt P).length := by
          have := V.int.inj (of_decide_eq_true c2)
          omega
        refine ⟨_, rfl, _, rfl, _, rfl, _, _, rfl, rfl, _, rfl, b, _, rfl, hb3, fun b' H4 s4 t4 => ⟨by show 2 ≤ sizeLine; decide, fin H4 b' s4 (toI t4 ?_)⟩⟩
        rw [e2, cut_to, st_rm_last hj hm j0 jl, List.map_take]
      · have jl : j + 1 ≠ (lt P).length := fun e => c2 (decide_eq_true (by
          show V.int (j : Int) = V.int ((((lt P).map V.str).length : Int) - 1)
          congr 1
          omega))
        obtain ⟨u, hu⟩ : ∃ u, (st P)[j - 1]? = some u := ⟨_, List.getElem?_eq_getElem (by omega)⟩
        obtain ⟨v, hv⟩ : ∃ v, (st P)[j]? = some v := ⟨_, List.getElem?_eq_getElem (by omega)⟩
        have gu : ((st P).map V.int)[j - 1]? = some (.int u) := by rw [List.getElem?_map, hu]; rfl
        have gv : ((st P).map V.int)[j]? = some (.int v) := by rw [List.getElem?_map, hv]; rfl
        refine ⟨_, rfl, _, rfl, _, rfl, _, _, rfl, rfl, _, rfl, b, _, rfl, hb3, fun b1 H4 s4 t4 => ?_⟩
        have hb4 := hb3.same s4
        refine ⟨_, rfl, _, rfl, _, _, rfl, rfl, b, _, _, _, rfl, rfl, hb4.seq, at_of e2 gu, _, rfl, _, rfl, b, _, _, _, rfl, rfl, hb4.seq, atI_nat gv, u, v, rfl, by show 1 ≤ sizeLine; decide, fun b2 H5 s5 t5 => ?_⟩
        rw [e2, cut_to] at t4
        refine ⟨b1, b2, _, _, rfl, rfl, t4.same s5, t5, sz (by rw [List.length_take, List.length_singleton]; omega), fun b3 H6 s6 t6 => ?_⟩
        refine ⟨_, rfl, _, rfl, _, _, rfl, rfl, _, rfl, b, _, rfl, hb4.same (s5.trans s6), fun b4 H7 s7 t7 => ?_⟩
        rw [e1, cut_from] at t7
        refine ⟨b3, b4, _, _, rfl, rfl, t6.same s7, t7, sz (by rw [List.length_append, List.length_take, List.length_drop, List.length_singleton]; omega), fun b5 H8 s8 t8 => ⟨by show 2 ≤ sizeLine; decide, ?_⟩⟩
        refine fin H8 b5 (s4.trans (s5.trans (s6.trans (s7.trans s8)))) (toI t8 ?_)
        rw [st_rm_mid hj hm j0 jl hu hv, List.map_append, List.map_cons, List.map_take, List.map_drop, List.append_assoc]
        have e3 : (if v < u then v else u) = min u v := by
          split <;> omega
        rw [e3]
        rfl
/-! ### _law_put -/
def spLPut : Sp := fun vs H Q _ => ∃ (v r : V) (P : C) (q : R), vs = [v, r] ∧ OrdC H v P ∧ RulR H r q ∧ q.anchor ≠ q.letter ∧ (lt P).Nodup ∧ P.length ≤ 11 ∧ ∀ v' H', Same H H' → (q.anchor ∈ lt P → OrdC H' v' (putC q P)) → (q.anchor ∉ lt P → v' = .non) → Q v' H'
theorem ok_lput (D : Df K mg "_law_put" (topS 45) ["_law_order_here", "_law_rule_here"]) (G : Gn K mg) (CW : Cal P w K mg base "_law_without" ["_law_order_here", "_law_letter"] 1 spWithout) :
    Cal P w K mg base "_law_put" ["_law_order_here", "_law_rule_here"] 2 spLPut := by
  refine D.cal fun f fd F => ?_
  have sc : FnScope ["_law_order_here", "_law_rule_here", "_law_side", "_law_anchor", "_law_strength", "_law_letter", "_law_letters_here", "_law_strengths", "_law_at", "_law_end", "_law_k"] ["_law_order_here", "_law_rule_here"] (defScope (topS 45)) := ⟨rfl, rfl, rfl, by decide +kernel, rfl, by decide +kernel, by decide +kernel⟩
  refine F.ok sc (fun vs H Q E h => ?_) (fun cdv A outer s H vs Q E hr h => ?_)
  · obtain ⟨v, r, P, q, rfl, _⟩ := h
    rfl
  · obtain ⟨v, r, P, q, rfl, ho, ⟨pr, rfl, hq⟩, hne, hn, hl, hQ⟩ := h
    have hu64 := hr.units
    refine ⟨_, pss_cons (ps_asg (pv 1) (pg_tup rfl (pgs_cons (pg_name (i := 2) sc.nd rfl (.inl rfl)) (pgs_cons (pg_name (i := 3) sc.nd rfl (.inl rfl)) (pgs_cons (pg_name (i := 4) sc.nd rfl (.inl rfl)) (pgs_cons (pg_name (i := 5) sc.nd rfl (.inl rfl)) pgs_nil))))))
      (pss_cons (ps_if (PW.pt (pw_or (pt_cmpR op_notIn_seq (pv 3) (pe_ix ix_tup (pv 0) pe_int (fun _ _ => rfl)) (by rfl))
          (pw_or1 (PW.pt (pw_and (pt_cmpR op_notIn_seq (pv 5) (pe_ix ix_tup (pv 0) pe_int (fun _ _ => rfl)) (by rfl)) (pw_and1 (pt_cmpR op_eq (x_len G.len (pe_ix ix_tup (pv 0) pe_int (fun _ _ => rfl))) pe_int (nomark _))))))))
        (pss_one (ps_ret pe_non)) pss_nil)
      (pss_cons (ps_asg (pe_cal CW hr (pa_cons (pv 0) (pa_cons (pv 5) pa_nil))) (pg_tup rfl (pgs_cons (pg_name (i := 6) sc.nd rfl (.inl rfl)) (pgs_cons (pg_name (i := 7) sc.nd rfl (.inl rfl)) pgs_nil))))
      (pss_cons (ps_set (i := 8) sc.nd rfl (.inl rfl) (pe_bmT PySem.F.slot_tuple_index PySem.F.type_tuple_index mt_tup_idx (pv 6) (pa_cons (pv 3) pa_nil)))
      (pss_cons (ps_set (i := 9) sc.nd rfl (.inl rfl) (pv 8))
      (pss_cons (ps_if (pt_cmpR op_eq (pv 2) pe_str (nomark _))
        (pss_cons (ps_for PassesOwn.never rfl (pi_range2 (by rfl) G.range (pa_cons (pv 8) (pa_cons (x_len G.len (pv 7)) pa_nil))) (pg_name (i := 10) sc.nd rfl (.inl rfl))
          (pss_cons (ps_if (pt_cmpR op_le (pe_callB (cr_minT rfl hu64) (by rfl) G.min boot_min (pa_cons (pe_slice sl_tupF (pv 7) (po_some (pv 8)) (po_some (pe_op op_add (pv 10) pe_int))) pa_nil)) (pv 4) (nomark _)) (pss_one ps_break) pss_nil)
          (pss_one (ps_set (i := 9) sc.nd rfl (.inl rfl) (pe_op op_add (pv 10) pe_int)))))
        (pss_one (ps_ret (pe_tupF (pa_cons (pe_op op_catF (pe_op op_catF (pe_slice sl_tupF (pv 6) po_none (po_some (pe_op op_add (pv 9) pe_int))) (pe_tupF (pa_cons (pv 5) pa_nil))) (pe_slice sl_tupF (pv 6) (po_some (pe_op op_add (pv 9) pe_int)) po_none))
          (pa_cons (pe_op op_catF (pe_op op_catF (pe_slice sl_tupF (pv 7) po_none (po_some (pv 9))) (pe_tupF (pa_cons (pv 4) pa_nil))) (pe_slice sl_tupF (pv 7) (po_some (pv 9)) po_none)) pa_nil)))))) pss_nil)
      (pss_cons (ps_for PassesOwn.never rfl (pi_range3 (by rfl) G.range (pa_cons (pe_op op_sub (pv 8) pe_int) (pa_cons (pe_un un_neg pe_int) (pa_cons (pe_un un_neg pe_int) pa_nil)))) (pg_name (i := 10) sc.nd rfl (.inl rfl))
          (pss_cons (ps_if (pt_cmpR op_le (pe_callB (cr_minT rfl hu64) (by rfl) G.min boot_min (pa_cons (pe_slice sl_tupF (pv 7) (po_some (pv 10)) (po_some (pv 8))) pa_nil)) (pv 4) (nomark _)) (pss_one ps_break) pss_nil)
          (pss_one (ps_set (i := 9) sc.nd rfl (.inl rfl) (pv 10)))))
        (pss_one (ps_ret (pe_tupF (pa_cons (pe_op op_catF (pe_op op_catF (pe_slice sl_tupF (pv 6) po_none (po_some (pv 9))) (pe_tupF (pa_cons (pv 5) pa_nil))) (pe_slice sl_tupF (pv 6) (po_some (pv 9)) po_none))
          (pa_cons (pe_op op_catF (pe_op op_catF (pe_slice sl_tupF (pv 7) po_none (po_some (pv 9))) (pe_tupF (pa_cons (pv 4) pa_nil))) (pe_slice sl_tupF (pv 7) (po_some (pv 9)) po_none)) pa_nil))))))))))), ?_⟩
    obtain ⟨p, a0, b0, rfl, hp, ha, hb⟩ := id ho
    have l0 : (lt P).length = P.length := lt_len P
    have lV0 : ((lt P).map V.str).length = (lt P).length := List.length_map _
    refine ⟨_, rfl, pr, _, rfl, hq.seq, rfl, _, _, rfl, _, _, rfl, _, _, rfl, _, _, rfl, rfl, ?_⟩
    refine ⟨_, rfl, _, rfl, p, _, _, _, rfl, rfl, hp.seq, atI_nat (j := 0) rfl, a0, _, rfl, .inr ha.seq, rfl, flat_strs _, _, rfl, ite2 (fun c => ?_) (fun c => ?_)⟩
    · have c' : (!inV (.str q.anchor) ((lt P).map V.str)) = true := c
      rw [inV_str] at c'
      have hx : q.anchor ∉ lt P := fun h => by
        rw [decide_eq_true h] at c'
        cases c'
      exact hQ .non H (Same.refl H) (fun h => absurd h hx) (fun _ => rfl)
    have c' : ¬ (!inV (.str q.anchor) ((lt P).map V.str)) = true := c
    rw [inV_str] at c'
    have hm : q.anchor ∈ lt P := Decidable.byContradiction fun h => c' (by rw [decide_eq_false h]; rfl)
    have e12 : V.bl (decide (V.int ((((lt P).map V.str).length : Nat) : Int) = V.int 12)) = V.bl false := by
      rw [decide_eq_false fun e => by
        have := V.int.inj e
        omega]
    refine (fun rest => ⟨_, rfl, _, rfl, p, _, _, _, rfl, rfl, hp.seq, atI_nat (j := 0) rfl, a0, _, rfl, .inr ha.seq, rfl, flat_strs _, _, rfl, ite2 (fun c2 => ⟨_, rfl, p, _, _, _, rfl, rfl, hp.seq, atI_nat (j := 0) rfl, a0, _, rfl, .inr ha.seq, rfl, false, e12, iteF rest⟩) (fun c2 => iteF rest)⟩) ?_
    refine ⟨_, rfl, _, rfl, _, q.letter, P, rfl, ho, by omega, fun v1 H1 s1 o1 => ?_⟩
    obtain ⟨p1, a, b, rfl, hp1, ha1, hb1⟩ := o1
    have hm' : q.anchor ∈ lt (rm q.letter P) := (mem_rm hne P).mpr hm
    have hl' := rm_len q.letter P
    have hn' := nodup_rm (x := q.letter) hn
    have lL := lt_len (rm q.letter P)
    have lS := st_len (rm q.letter P)
    have hput : ins q (rm q.letter P) = putC q P := rfl
    generalize rm q.letter P = P' at hp1 ha1 hb1 hm' hl' hn' lL lS hput
    obtain ⟨i, hi, hmi⟩ := first_at hm'
    have hil : i < (lt P').length := (List.getElem?_eq_some_iff.mp hi).1
    have lV : ((lt P').map V.str).length = (lt P').length := List.length_map _
    have lW : ((st P').map V.int).length = (st P').length := List.length_map _
    refine ⟨p1, _, rfl, hp1.seq, rfl, _, _, rfl, _, _, rfl, rfl, ?_⟩
    refine ⟨_, rfl, ⟨a, _, rfl, ha1⟩, _, rfl, a, lt P', q.anchor, i, rfl, rfl, ha1.seq, hi, hmi, ?_⟩
    refine ⟨_, rfl, ?_⟩
    refine ⟨_, rfl, rfl, _, rfl, ite2 (fun c => ?_) (fun c => ?_)⟩
    · -- behind
      have haf : q.after = true := by
        have c' : sideV q.after = V.str "after" := of_decide_eq_true c
        cases h : q.after with
        | true => rfl
        | false =>
          rw [h] at c'
          exact absurd (V.str.inj c') (by decide +kernel)
      have finA : ∀ (e : Nat) (y : Option V) (H' : Hp), EndA (st P') q.w i e → Same H1 H' → tRet (tTupF (tCons (tOp rCatF (tOp rCatF (tSl rSlF (tVar 6) tNoPart (tPart (tOp (rI0 fun i j => .int (i + j)) (tVar 9) (tC (.int 1))))) (tTupF (tCons (tVar 5) tNil))) (tSl rSlF (tVar 6) (tPart (tOp (rI0 fun i j => .int (i + j)) (tVar 9) (tC (.int 1)))) tNoPart))
          (tCons (tOp rCatF (tOp rCatF (tSl rSlF (tVar 7) tNoPart (tPart (tVar 9))) (tTupF (tCons (tVar 4) tNil))) (tSl rSlF (tVar 7) (tPart (tVar 9)) tNoPart)) tNil))) { nx := fun _ H' => Q .non H', rt := Q }
          [some (.ref p), some (.ref pr), some (sideV q.after), some (.str q.anchor), some (.int q.w), some (.str q.letter), some (.ref a), some (.ref b), some (.int (i : Int)), some (.int (e : Int)), y] H' := by
        intro e y H' hE sH
        have hE2 := hE.hi
        have e1 : ((e : Int) + 1) = ((e + 1 : Nat) : Int) := by omega
        have haH := ha1.same sH
        have hbH := hb1.same sH
        refine ⟨_, rfl, _, rfl, _, _, rfl, rfl, _, rfl, a, _, rfl, haH, fun q1 G1 r1 t1 => ?_⟩
        rw [e1, cut_to] at t1
        refine ⟨_, rfl, by show 1 ≤ sizeLine; decide, fun q2 G2 r2 t2 => ?_⟩
        refine ⟨q1, q2, _, _, rfl, rfl, t1.same r2, t2, sz (by rw [List.length_take, List.length_singleton]; omega), fun q3 G3 r3 t3 => ?_⟩
        refine ⟨_, rfl, _, rfl, _, _, rfl, rfl, _, rfl, a, _, rfl, haH.same (r1.trans (r2.trans r3)), fun q4 G4 r4 t4 => ?_⟩
        rw [e1, cut_from] at t4
        refine ⟨q3, q4, _, _, rfl, rfl, t3.same r4, t4, sz (by rw [List.length_append, List.length_take, List.length_drop, List.length_singleton]; omega), fun q5 G5 r5 t5 => ?_⟩
        have r05 := r1.trans (r2.trans (r3.trans (r4.trans r5)))
        refine ⟨_, rfl, _, rfl, _, rfl, b, _, rfl, hbH.same r05, fun q6 G6 r6 t6 => ?_⟩
        rw [cut_to] at t6
        refine ⟨_, rfl, by show 1 ≤ sizeLine; decide, fun q7 G7 r7 t7 => ?_⟩
        refine ⟨q6, q7, _, _, rfl, rfl, t6.same r7, t7, sz (by rw [List.length_take, List.length_singleton]; omega), fun q8 G8 r8 t8 => ?_⟩
        refine ⟨_, rfl, _, rfl, _, rfl, b, _, rfl, hbH.same (r05.trans (r6.trans (r7.trans r8))), fun q9 G9 r9 t9 => ?_⟩
        rw [cut_from] at t9
        refine ⟨q8, q9, _, _, rfl, rfl, t8.same r9, t9, sz (by rw [List.length_append, List.length_take, List.length_drop, List.length_singleton]; omega), fun q10 G10 r10 t10 => ⟨by show 2 ≤ sizeLine; decide, fun q11 G11 r11 t11 => ?_⟩⟩
        have r5b := r6.trans (r7.trans (r8.trans (r9.trans (r10.trans r11))))
        have e2 := insA_end (x := q.letter) hi hmi hE
        refine hQ _ G11 (s1.trans (sH.trans (r05.trans r5b))) (fun _ => ?_) (fun h => absurd hm h)
        rw [← hput]
        unfold ins OrdC
        rw [if_pos haf, e2.1, e2.2]
        refine ⟨q11, q5, q10, rfl, t11, (toI t5 ?_).same r5b, (toI t10 ?_).same r11⟩
        · unfold pL
          rw [List.map_append, List.map_cons, List.map_take, List.map_drop, List.append_assoc]
          rfl
        · unfold pS
          rw [List.map_append, List.map_cons, List.map_take, List.map_drop, List.append_assoc]
          rfl
      refine ⟨_, rfl, _, rfl, b, _, rfl, .inr hb1.seq, _, _, rfl, ⟨by omega, by omega, by rw [lW]; omega, by rw [lW]; omega⟩, ?_⟩
      have en : ((((st P').map V.int).length : Nat) : Int) - (i : Int) = ((st P').length - i : Nat) := by rw [lW]; omega
      have en2 : (((((st P').map V.int).length : Nat) : Int) - (i : Int)).toNat = (st P').length - i := by omega
      rw [en2]
      refine for_range (lo := (i : Int)) (n := (st P').length - i) (fun j σ H' => ∃ (e : Nat) (y : Option V), σ = [some (.ref p), some (.ref pr), some (sideV q.after), some (.str q.anchor), some (.int q.w), some (.str q.letter), some (.ref a), some (.ref b), some (.int (i : Int)), some (.int (e : Int)), y] ∧ e = i + j ∧ Same H1 H' ∧ (∀ k t, i ≤ k → k < e → (st P')[k]? = some t → q.w < t))
        ⟨i, none, rfl, rfl, Same.refl H1, fun k t h1 h2 => absurd h2 (by omega)⟩ ?_ ?_
      · rintro j σ H' hj ⟨e, y, rfl, rfl, sH, run⟩
        have e1 : ((i : Int) + (j : Int) + 1) = ((i + j + 1 : Nat) : Int) := by omega
        refine ⟨_, rfl, _, rfl, _, rfl, _, rfl, _, _, rfl, rfl, _, rfl, b, _, rfl, hb1.same sH, fun pc H3 s3 t3 => ?_⟩
        rw [e1, cut_mid _ _ _ (by rw [lW]; omega), ← List.map_drop, ← List.map_take] at t3
        refine ⟨pc, _, rfl, t3.seq, ?_, fun m hm1 hm2 => ?_⟩
        · rw [List.length_take, List.length_drop]
          omega
        obtain ⟨k, k1, k2, k3⟩ := min_mem hm1
        refine ⟨_, rfl, _, _, rfl, rfl, _, rfl, ite2 (fun c3 => ?_) (fun c3 => ?_)⟩
        · have c3' : m ≤ q.w := of_decide_eq_true c3
          have ke : k = i + j := by
            by_cases h : k < i + j
            · have := run k m k1 h k3
              omega
            · omega
          subst ke
          exact finA (i + j) _ H3 ⟨by omega, by omega, run, .inr ⟨m, k3, c3'⟩⟩ (sH.trans s3)
        · have c3' : ¬ m ≤ q.w := fun z => c3 (decide_eq_true z)
          refine ⟨_, rfl, _, _, rfl, rfl, i + j + 1, _, (by rw [← e1] <;> rfl), by omega, sH.trans s3, fun k t h1 h2 h3 => ?_⟩
          have := hm2 t (mem_mid h1 h2 h3)
          omega
      · rintro σ H' ⟨e, y, rfl, rfl, sH, run⟩
        exact finA _ _ H' ⟨by omega, by omega, run, .inl (by omega)⟩ sH
    · -- in front
      have haf : ¬ q.after = true := fun h => c (decide_eq_true (by rw [h]; rfl))
      have finB : ∀ (e : Nat) (y : Option V) (H' : Hp), EndB (st P') q.w i e → Same H1 H' → tRet (tTupF (tCons (tOp rCatF (tOp rCatF (tSl rSlF (tVar 6) tNoPart (tPart (tVar 9))) (tTupF (tCons (tVar 5) tNil))) (tSl rSlF (tVar 6) (tPart (tVar 9)) tNoPart))
          (tCons (tOp rCatF (tOp rCatF (tSl rSlF (tVar 7) tNoPart (tPart (tVar 9))) (tTupF (tCons (tVar 4) tNil))) (tSl rSlF (tVar 7) (tPart (tVar 9)) tNoPart)) tNil))) { nx := fun _ H' => Q .non H', rt := Q }
          [some (.ref p), some (.ref pr), some (sideV q.after), some (.str q.anchor), some (.int q.w), some (.str q.letter), some (.ref a), some (.ref b), some (.int (i : Int)), some (.int (e : Int)), y] H' := by
        intro e y H' hE sH
        have hE2 := hE.hi
        have haH := ha1.same sH
        have hbH := hb1.same sH
        refine ⟨_, rfl, _, rfl, _, rfl, a, _, rfl, haH, fun q1 G1 r1 t1 => ?_⟩
        rw [cut_to] at t1
        refine ⟨_, rfl, by show 1 ≤ sizeLine; decide, fun q2 G2 r2 t2 => ?_⟩
        refine ⟨q1, q2, _, _, rfl, rfl, t1.same r2, t2, sz (by rw [List.length_take, List.length_singleton]; omega), fun q3 G3 r3 t3 => ?_⟩
        refine ⟨_, rfl, _, rfl, _, rfl, a, _, rfl, haH.same (r1.trans (r2.trans r3)), fun q4 G4 r4 t4 => ?_⟩
        rw [cut_from] at t4
        refine ⟨q3, q4, _, _, rfl, rfl, t3.same r4, t4, sz (by rw [List.length_append, List.length_take, List.length_drop, List.length_singleton]; omega), fun q5 G5 r5 t5 => ?_⟩
        have r05 := r1.trans (r2.trans (r3.trans (r4.trans r5)))
        refine ⟨_, rfl, _, rfl, _, rfl, b, _, rfl, hbH.same r05, fun q6 G6 r6 t6 => ?_⟩
        rw [cut_to] at t6
        refine ⟨_, rfl, by show 1 ≤ sizeLine; decide, fun q7 G7 r7 t7 => ?_⟩
        refine ⟨q6, q7, _, _, rfl, rfl, t6.same r7, t7, sz (by rw [List.length_take, List.length_singleton]; omega), fun q8 G8 r8 t8 => ?_⟩
        refine ⟨_, rfl, _, rfl, _, rfl, b, _, rfl, hbH.same (r05.trans (r6.trans (r7.trans r8))), fun q9 G9 r9 t9 => ?_⟩
        rw [cut_from] at t9
        refine ⟨q8, q9, _, _, rfl, rfl, t8.same r9, t9, sz (by rw [List.length_append, List.length_take, List.length_drop, List.length_singleton]; omega), fun q10 G10 r10 t10 => ⟨by show 2 ≤ sizeLine; decide, fun q11 G11 r11 t11 => ?_⟩⟩
        have r5b := r6.trans (r7.trans (r8.trans (r9.trans (r10.trans r11))))
        have e2 := insB_idx (x := q.letter) (w := q.w) hi hmi hE.hi hE.run hE.stop
        refine hQ _ G11 (s1.trans (sH.trans (r05.trans r5b))) (fun _ => ?_) (fun h => absurd hm h)
        rw [← hput]
        unfold ins OrdC
        rw [if_neg haf, e2.1, e2.2]
        refine ⟨q11, q5, q10, rfl, t11, (toI t5 ?_).same r5b, (toI t10 ?_).same r11⟩
        · rw [List.map_append, List.map_cons, List.map_take, List.map_drop, List.append_assoc]
          rfl
        · rw [List.map_append, List.map_cons, List.map_take, List.map_drop, List.append_assoc]
          rfl
      refine ⟨_, rfl, _, _, rfl, rfl, _, rfl, _, rfl, _, _, _, i, rfl, ?_, ?_⟩
      · have g := RgC.neg (i := (i : Int) - 1) (j := -1) (by omega) (by omega) (by omega) (by omega)
        have e : ((i : Int) - 1 - (-1)).toNat = i := by omega
        rw [e] at g
        exact g
      refine for_rangeC (lo := (i : Int) - 1) (c := -1) (n := i) (fun j σ H' => ∃ (e : Nat) (y : Option V), σ = [some (.ref p), some (.ref pr), some (sideV q.after), some (.str q.anchor), some (.int q.w), some (.str q.letter), some (.ref a), some (.ref b), some (.int (i : Int)), some (.int (e : Int)), y] ∧ e = i - j ∧ Same H1 H' ∧ (∀ k t, e ≤ k → k < i → (st P')[k]? = some t → q.w < t))
        ⟨i, none, rfl, rfl, Same.refl H1, fun k t h1 h2 => absurd h2 (by omega)⟩ ?_ ?_
      · rintro j σ H' hj ⟨e, y, rfl, rfl, sH, run⟩
        have e1 : ((i : Int) - 1 + ((j : Nat) : Int) * (-1)) = ((i - 1 - j : Nat) : Int) := by omega
        rw [e1]
        refine ⟨_, rfl, _, rfl, _, rfl, _, rfl, _, rfl, b, _, rfl, hb1.same sH, fun pc H3 s3 t3 => ?_⟩
        rw [cut_mid _ _ _ (by rw [lW]; omega), ← List.map_drop, ← List.map_take] at t3
        refine ⟨pc, _, rfl, t3.seq, ?_, fun m hm1 hm2 => ?_⟩
        · rw [List.length_take, List.length_drop]
          omega
        obtain ⟨k, k1, k2, k3⟩ := min_mem hm1
        refine ⟨_, rfl, _, _, rfl, rfl, _, rfl, ite2 (fun c3 => ?_) (fun c3 => ?_)⟩
        · have c3' : m ≤ q.w := of_decide_eq_true c3
          have ke : k = i - 1 - j := by
            by_cases h : i - j ≤ k
            · have := run k m h k2 k3
              omega
            · omega
          subst ke
          refine finB (i - j) _ H3 ⟨by omega, run, .inr ⟨m, ?_, c3'⟩⟩ (sH.trans s3)
          have : i - j - 1 = i - 1 - j := by omega
          rw [this]
          exact k3
        · have c3' : ¬ m ≤ q.w := fun z => c3 (decide_eq_true z)
          refine ⟨_, rfl, i - 1 - j, _, rfl, by omega, sH.trans s3, fun k t h1 h2 h3 => ?_⟩
          have := hm2 t (mem_mid h1 h2 h3)
          omega
      · rintro σ H' ⟨e, y, rfl, rfl, sH, run⟩
        exact finB _ _ H' ⟨by omega, run, .inl (by omega)⟩ sH
end
end FrP
namespace FrP
open PySem PySem.Spec PyProof.Rows L2 FrR FR
/-! ### equal data, to a depth -/
def EqV : Nat → Hp → V → V → Prop
  | 0, _, x, y => (∃ z, x = .str z ∧ y = .str z) ∨ (∃ i, x = .int i ∧ y = .int i)
  | n + 1, H, x, y => (∃ z, x = .str z ∧ y = .str z) ∨ (∃ i, x = .int i ∧ y = .int i) ∨ ∃ a b xs ys, x = .ref a ∧ y = .ref b ∧ Tp H a xs ∧ Tp H b ys ∧ Paired (EqV n H) xs ys ∧ xs.length ≤ 100
theorem EqV.same : ∀ {n : Nat} {H H' : Hp} {x y : V}, Same H H' → EqV n H x y → EqV n H' x y
  | 0, _, _, _, _, _, h => h
  | n + 1, _, _, _, _, e, h => by
    rcases h with h | h | ⟨a, b, xs, ys, h1, h2, h3, h4, h5, h6⟩
    · exact .inl h
    · exact .inr (.inl h)
    · exact .inr (.inr ⟨a, b, xs, ys, h1, h2, h3.same e, h4.same e, Paired.mapP h5 fun _ _ r => EqV.same e r, h6⟩)
theorem EqV.strs (H : Hp) : ∀ L : List Str, Paired (EqV 0 H) (L.map V.str) (L.map V.str)
  | [] => .nil
  | z :: L => .cons (.inl ⟨z, rfl, rfl⟩) (EqV.strs H L)
theorem EqV.ints (H : Hp) : ∀ L : List Int, Paired (EqV 0 H) (L.map V.int) (L.map V.int)
  | [] => .nil
  | z :: L => .cons (.inr ⟨z, rfl, rfl⟩) (EqV.ints H L)
theorem EqV.ord {H : Hp} {v v' : V} {L : List Str} {S : List Int} (h : OrdR H v L S) (h' : OrdR H v' L S) (l : L.length ≤ 100) (l2 : S.length ≤ 100) : EqV 2 H v v' := by
  obtain ⟨p, a, b, rfl, h1, h2, h3⟩ := h
  obtain ⟨p', a', b', rfl, h4, h5, h6⟩ := h'
  exact .inr (.inr ⟨p, p', _, _, rfl, rfl, h1, h4, .cons (.inr (.inr ⟨a, a', _, _, rfl, rfl, h2, h5, EqV.strs H L, by rw [List.length_map]; exact l⟩)) (.cons (.inr (.inr ⟨b, b', _, _, rfl, rfl, h3, h6, EqV.ints H S, by rw [List.length_map]; exact l2⟩)) .nil), by show 2 ≤ 100; decide⟩)
section
variable {P : Program} {w : World} {K : PySem.W.Frag} {mg : Str → Option Value} {base : Heap}
theorem ok_lawInteger (D : Df K mg "_law_is_integer" (topS 38) ["_law_actual"]) (G : Gn K mg) : Cal P w K mg base "_law_is_integer" ["_law_actual"] 1 spInt := by
  refine D.cal fun f fd F => ?_
  have sc : FnScope ["_law_actual"] ["_law_actual"] (defScope (topS 38)) := ⟨rfl, rfl, rfl, by decide +kernel, rfl, by decide +kernel, by decide +kernel⟩
  refine F.ok sc (fun vs H Q E h => ?_) (fun cdv A outer s H vs Q E hr h => ?_)
  · obtain ⟨i, rfl, _⟩ := h
    rfl
  · obtain ⟨i, rfl, q⟩ := h
    refine ⟨_, pss_one (ps_ret (pe_and (x_isi G.isinstance G.int PyProof.Rows.boot_int (pv 0)) (pe_one (pe_not (x_isi G.isinstance G.bool PyProof.Rows.boot_bool (pv 0)))))), ?_⟩
    refine ⟨_, rfl, _, _, "int", true, rfl, .base (.int i), by decide +kernel, true, rfl, iteT ⟨_, rfl, _, _, "int", false, rfl, .base (.int i), by decide +kernel, false, rfl, q⟩⟩
/-! ### _law_equal -/
def spEq : Nat → Sp
  | 0 => fun _ _ _ _ => False
  | n + 1 => fun vs H Q _ => ∃ x y, vs = [x, y] ∧ EqV n H x y ∧ ∀ H', Same H H' → Q (.bl true) H'
theorem eq_zero (D : Df K mg "_law_equal" (topS 39) ["_law_actual", "_law_due"]) : Cal P w K mg base "_law_equal" ["_law_actual", "_law_due"] 1 (spEq 0) :=
  D.cal fun f fd F => ⟨fun vs H Q E h => h.elim, fun A outer s H args us vs Q E _ _ _ _ h => h.elim⟩
theorem eq_next {n : Nat} (D : Df K mg "_law_equal" (topS 39) ["_law_actual", "_law_due"]) (G : Gn K mg) (CI : Cal P w K mg base "_law_is_integer" ["_law_actual"] 1 spInt) (CE : Cal P w K mg base "_law_equal" ["_law_actual", "_law_due"] (n + 1) (spEq n)) :
    Cal P w K mg base "_law_equal" ["_law_actual", "_law_due"] (n + 2) (spEq (n + 1)) := by
  refine D.cal fun f fd F => ?_
  have sc : FnScope ["_law_actual", "_law_due", "_law_at"] ["_law_actual", "_law_due"] (defScope (topS 39)) := ⟨rfl, rfl, rfl, by decide +kernel, rfl, by decide +kernel, by decide +kernel⟩
  refine F.ok sc (fun vs H Q E h => ?_) (fun cdv A outer s H vs Q E hr h => ?_)
  · obtain ⟨x, y, rfl, _⟩ := h
    rfl
  · obtain ⟨x, y, rfl, he, hQ⟩ := h
    refine ⟨_, pss_cons (ps_if (pt_cmpR op_isN (pv 1) pe_non (nomark _)) (pss_one (ps_ret (pe_cmpR op_isN (pv 0) pe_non (nomark _)))) pss_nil)
      (pss_cons (ps_if (pt_val (x_isi G.isinstance G.bool PyProof.Rows.boot_bool (pv 1))) (pss_one (ps_ret (pe_and (x_isi G.isinstance G.bool PyProof.Rows.boot_bool (pv 0)) (pe_one (pe_cmpR op_eq (pv 0) (pv 1) (nomark _)))))) pss_nil)
      (pss_cons (ps_if (pt_val (x_isi G.isinstance G.int PyProof.Rows.boot_int (pv 1))) (pss_one (ps_ret (pe_and (pe_cal CI hr (pa_cons (pv 0) pa_nil) (hj := Nat.succ_le_succ (Nat.zero_le n))) (pe_one (pe_cmpR op_eq (pv 0) (pv 1) (nomark _)))))) pss_nil)
      (pss_cons (ps_if (pt_val (x_isi G.isinstance G.str PyProof.Rows.boot_str (pv 1))) (pss_one (ps_ret (pe_and (x_isi G.isinstance G.str PyProof.Rows.boot_str (pv 0)) (pe_one (pe_cmpR op_eq (pv 0) (pv 1) (nomark _)))))) pss_nil)
      (pss_cons (ps_if (PW.pt (pw_and (pt_val (x_isi G.isinstance G.tuple PyProof.Rows.boot_tuple (pv 1))) (pw_and1 (pt_not (pt_val (x_isi G.isinstance G.tuple PyProof.Rows.boot_tuple (pv 0))))))) (pss_one (ps_ret pe_bl)) pss_nil)
      (pss_cons (ps_if (PW.pt (pw_and (pt_val (x_isi G.isinstance G.list PyProof.Rows.boot_list (pv 1))) (pw_and1 (pt_not (pt_val (x_isi G.isinstance G.list PyProof.Rows.boot_list (pv 0))))))) (pss_one (ps_ret pe_bl)) pss_nil)
      (pss_cons (ps_if (pt_cmpR op_ne (x_len G.len (pv 0)) (x_len G.len (pv 1)) (nomark _)) (pss_one (ps_ret pe_bl)) pss_nil)
      (pss_one (ps_ret (x_all G.all rfl (pe_lc (own := [("_law_at", 2)]) (g := gName 2) (tt := tYes) (te := tCall (spEq n) [] E0 (tCons (tOp (rIxT K) (tVar 0) (tVar 2)) (tCons (tOp (rIxT K) (tVar 1) (tVar 2)) tNil))) rfl sc.nd (pi_range1 (by rfl) G.range (pa_cons (x_len G.len (pv 1)) pa_nil))
          (blkOk_by (N := ["_law_actual", "_law_due", "_law_at"]) (sc := defScope (topS 39)) (by decide +kernel))
          (fun _ _ _ _ _ => pg_name (i := 2) sc.nd rfl (Or.inl rfl)) (fun _ _ _ _ _ => pts_nil)
          (fun _ _ _ _ _ => pe_cal CE hr (pa_cons (pe_ix ix_tup (pv 0) (pv 2) (fun _ _ => rfl)) (pa_cons (pe_ix ix_tup (pv 1) (pv 2) (fun _ _ => rfl)) pa_nil)) (hj := Nat.le_refl _)))))))))))), ?_⟩
    have h3 : (∃ z, x = .str z ∧ y = .str z) ∨ (∃ i, x = .int i ∧ y = .int i) ∨ (∃ m a b xs ys, n = m + 1 ∧ x = .ref a ∧ y = .ref b ∧ Tp H a xs ∧ Tp H b ys ∧ Paired (EqV m H) xs ys ∧ xs.length ≤ 100) := by
      cases n with
      | zero =>
        rcases he with h | h
        · exact .inl h
        · exact .inr (.inl h)
      | succ m =>
        rcases he with h | h | ⟨a, b, xs, ys, h1, h2, h3, h4, h5, h6⟩
        · exact .inl h
        · exact .inr (.inl h)
        · exact .inr (.inr ⟨m, a, b, xs, ys, rfl, h1, h2, h3, h4, h5, h6⟩)
    rcases h3 with ⟨z, rfl, rfl⟩ | ⟨i, rfl, rfl⟩ | ⟨m, a, b, xs, ys, rfl, rfl, rfl, ha, hb, hp, hl⟩
    · refine ⟨_, rfl, rfl, false, rfl, iteF ⟨_, rfl, _, _, "str", false, rfl, .base (.str z), by decide +kernel, false, rfl, iteF ⟨_, rfl, _, _, "str", false, rfl, .base (.str z), by decide +kernel, false, rfl, iteF ⟨_, rfl, _, _, "str", true, rfl, .base (.str z), by decide +kernel, true, rfl,
        iteT ⟨_, rfl, _, _, "str", true, rfl, .base (.str z), by decide +kernel, true, rfl, iteT ⟨_, rfl, _, rfl, rfl, ?_⟩⟩⟩⟩⟩⟩
      rw [decide_eq_true rfl]
      exact hQ H (Same.refl H)
    · refine ⟨_, rfl, rfl, false, rfl, iteF ⟨_, rfl, _, _, "int", false, rfl, .base (.int i), by decide +kernel, false, rfl, iteF ⟨_, rfl, _, _, "int", true, rfl, .base (.int i), by decide +kernel, true, rfl,
        iteT ⟨_, rfl, i, rfl, true, rfl, iteT ⟨_, rfl, _, rfl, rfl, ?_⟩⟩⟩⟩⟩
      rw [decide_eq_true rfl]
      exact hQ H (Same.refl H)
    · have ll : xs.length = ys.length := Paired.length hp
      refine ⟨_, rfl, rfl, false, rfl, iteF ⟨_, rfl, _, _, "tuple", false, rfl, hb.ty, by decide +kernel, false, rfl, iteF ⟨_, rfl, _, _, "tuple", false, rfl, hb.ty, by decide +kernel, false, rfl, iteF ⟨_, rfl, _, _, "tuple", false, rfl, hb.ty, by decide +kernel, false, rfl, iteF ?_⟩⟩⟩⟩
      refine ⟨_, rfl, _, _, "tuple", true, rfl, hb.ty, by decide +kernel, true, rfl, iteT ⟨_, rfl, _, _, "tuple", true, rfl, ha.ty, by decide +kernel, true, rfl, iteF ?_⟩⟩
      refine ⟨_, rfl, _, _, "tuple", false, rfl, hb.ty, by decide +kernel, false, rfl, iteF ?_⟩
      refine ⟨_, rfl, a, _, rfl, .inr ha.seq, _, rfl, b, _, rfl, .inr hb.seq, rfl, false, ?_, iteF ?_⟩
      · rw [ll, decide_eq_true rfl]
        rfl
      refine ⟨_, rfl, b, _, rfl, .inr hb.seq, _, rfl, by omega, by omega, fun Dl nD => ?_⟩
      have en : ((ys.length : Nat) : Int).toNat = ys.length := by omega
      rw [en]
      refine lc_range (lo := 0) (n := ys.length) (fun i H' => Same H H' ∧ H' Dl = some (.lst (List.replicate i (V.bl true)))) ⟨same_upd nD, upd_same⟩ ?_ ?_
      · rintro i H3 hi ⟨s3, h3⟩
        have e0 : (0 : Int) + (i : Int) = ((i : Nat) : Int) := by omega
        obtain ⟨yv, hy⟩ : ∃ yv, ys[i]? = some yv := ⟨_, List.getElem?_eq_getElem hi⟩
        obtain ⟨xv, hx, hxy⟩ := paired_get hp hy
        refine ⟨rfl, _, rfl, _, rfl, a, _, _, _, rfl, rfl, (ha.same s3).seq, at_of e0 hx, _, rfl, _, rfl, b, _, _, _, rfl, rfl, (hb.same s3).seq, at_of e0 hy, xv, yv, rfl, EqV.same s3 hxy, fun H4 s4 => ⟨_, s4 _ _ h3, ?_, same_new (s3.trans s4) nD, by rw [upd_same, rep_snoc]⟩⟩
        rw [List.length_replicate]
        exact small1000 (by omega)
      · rintro H3 ⟨s3, h3⟩
        refine ⟨Dl, List.replicate ys.length true, rfl, by rw [map_rep]; exact SqL.of h3, ?_⟩
        rw [all_true]
        exact hQ H3 s3
theorem ok_equal (D : Df K mg "_law_equal" (topS 39) ["_law_actual", "_law_due"]) (G : Gn K mg) (CI : Cal P w K mg base "_law_is_integer" ["_law_actual"] 1 spInt) : Cal P w K mg base "_law_equal" ["_law_actual", "_law_due"] 4 (spEq 3) :=
  eq_next D G CI (eq_next D G CI (eq_next D G CI (eq_zero D)))
/-! ### _law_led -/
def spLLed : Sp := fun vs H Q _ => ∃ (v r : V) (U : List Str) (P : C) (qs : List R), vs = [v, r] ∧ OrdC H v P ∧ RulsT H r qs ∧ (∀ q ∈ qs, GoodR U q) ∧ Good U P ∧ (∀ P' : C, Good U P' → P'.length ≤ 11) ∧
  ∀ v' H', Same H H' → (∀ D, ledC P qs = some D → OrdC H' v' D) → (ledC P qs = none → v' = .non) → Q v' H'
theorem ok_lled (D : Df K mg "_law_led" (topS 46) ["_law_order_here", "_law_rules_here"]) (CP : Cal P w K mg base "_law_put" ["_law_order_here", "_law_rule_here"] 2 spLPut) : Cal P w K mg base "_law_led" ["_law_order_here", "_law_rules_here"] 3 spLLed := by
  refine D.cal fun f fd F => ?_
  have sc : FnScope ["_law_order_here", "_law_rules_here", "_law_rule_here"] ["_law_order_here", "_law_rules_here"] (defScope (topS 46)) := ⟨rfl, rfl, rfl, by decide +kernel, rfl, by decide +kernel, by decide +kernel⟩
  refine F.ok sc (fun vs H Q E h => ?_) (fun cdv A outer s H vs Q E hr h => ?_)
  · obtain ⟨v, r, U, P, qs, rfl, _⟩ := h
    rfl
  · obtain ⟨v, r, U, P, qs, rfl, ho, ⟨pr, ws, rfl, hp, hv⟩, hgr, hg, h11, hQ⟩ := h
    have lv : ws.length = qs.length := Paired.length hv
    refine ⟨_, pss_cons (ps_for PassesOwn.never rfl (pi_tup (pv 1)) (pg_name (i := 2) sc.nd rfl (.inl rfl))
        (pss_one (ps_if (pt_cmpR op_notN (pv 0) pe_non (nomark _)) (pss_one (ps_set (i := 0) sc.nd rfl (.inl rfl) (pe_cal CP hr (pa_cons (pv 0) (pa_cons (pv 2) pa_nil))))) pss_nil)))
      (pss_one (ps_ret (pv 0))), ?_⟩
    refine ⟨_, rfl, pr, rfl, ⟨_, hp.seq⟩, ?_⟩
    refine for_tup (K := K) (a := pr) (xs := ws) (fun i σ H' => ∃ (v' : V) (x : Option V), σ = [some v', some (.ref pr), x] ∧ Same H H' ∧ ((∃ P' : C, OrdC H' v' P' ∧ Good U P' ∧ ledC P' (qs.drop i) = ledC P qs) ∨ (v' = .non ∧ ledC P qs = none)))
      ⟨v, none, rfl, Same.refl H, .inl ⟨P, ho, hg, by rw [List.drop_zero]⟩⟩ (fun i σ H' _ ⟨v', x, _, s', _⟩ => (hp.same s').seq) ?_ ?_
    · rintro i xv σ H3 hx ⟨v', x, rfl, s3, hc⟩
      obtain ⟨q, hq, hrq⟩ := get_ref hv hx
      have hi' := (List.getElem?_eq_some_iff.mp hq).1
      have hgq := hgr q (List.mem_of_getElem? hq)
      rcases hc with ⟨P', o3, g3, l3⟩ | ⟨rfl, l3⟩
      · have ed : qs.drop i = q :: qs.drop (i + 1) := by
          rw [List.drop_eq_getElem_cons hi']
          rw [List.getElem?_eq_getElem hi'] at hq
          rw [Option.some.inj hq]
        rw [ed] at l3
        have lP := h11 P' g3
        have hnn : decide (v' = V.non) = false := by
          obtain ⟨p, a, b, rfl, _⟩ := o3
          rfl
        refine ⟨_, rfl, rfl, true, by rw [hnn]; rfl, iteT ?_⟩
        refine ⟨_, rfl, _, rfl, v', xv, P', q, rfl, o3, hrq.same s3, hgq.ne, g3.nd, lP, fun v5 H5 s5 h1 h2 => ?_⟩
        refine ⟨v5, _, rfl, s3.trans s5, ?_⟩
        by_cases ha : q.anchor ∈ lt P'
        · simp only [ledC, if_pos ha] at l3
          exact .inl ⟨_, h1 ha, g3.put hgq ha, l3⟩
        · simp only [ledC, if_neg ha] at l3
          exact .inr ⟨h2 ha, l3.symm⟩
      · exact ⟨_, rfl, rfl, false, rfl, iteF ⟨_, _, rfl, s3, .inr ⟨rfl, l3⟩⟩⟩
    · rintro σ H3 ⟨v', x, rfl, s3, hc⟩
      refine ⟨_, rfl, hQ v' H3 s3 (fun Dd hD => ?_) (fun hN => ?_)⟩
      · rcases hc with ⟨P', o3, g3, l3⟩ | ⟨rfl, l3⟩
        · rw [List.drop_of_length_le (by omega), hD] at l3
          cases l3
          exact o3
        · rw [hD] at l3
          cases l3
      · rcases hc with ⟨P', o3, g3, l3⟩ | ⟨rfl, l3⟩
        · rw [List.drop_of_length_le (by omega), hN] at l3
          cases l3
        · rfl
end
end FrP
namespace FrP
open PySem PySem.Spec PyProof.Rows L2 FrR FR
/-! ### orders as data -/
def strD (L : List Str) : PyData := .tuple (L.map PyData.str)
def intD (S : List Int) : PyData := .tuple (S.map PyData.int)
def ordD (L : List Str) (S : List Int) : PyData := .tuple [strD L, intD S]
theorem dpStrs {K : PySem.W.Frag} {H : Hp} : ∀ L : List Str, DpAll K H (L.map V.str) (L.map PyData.str)
  | [] => .nil
  | z :: L => .cons (.str z) (dpStrs L)
theorem dpInts {K : PySem.W.Frag} {H : Hp} : ∀ L : List Int, DpAll K H (L.map V.int) (L.map PyData.int)
  | [] => .nil
  | z :: L => .cons (.int z) (dpInts L)
theorem OrdR.dp {K : PySem.W.Frag} {H : Hp} {v : V} {L : List Str} {S : List Int} (h : OrdR H v L S) : Dp K H v (ordD L S) := by
  obtain ⟨p, a, b, rfl, h1, h2, h3⟩ := h
  exact .tup h1.seq (.cons (.tup h2.seq (dpStrs L)) (.cons (.tup h3.seq (dpInts S)) .nil))
theorem layStr {z : Str} (h : IsL z) : PyData.canLay0 (.str z) = true := by
  obtain ⟨c, d, rfl, h1, h2, h3, h4⟩ := h
  simp only [PyData.canLay0]
  show Array.all #[c, d] (fun x => decide (x < 0x110000)) = true
  simp
  omega
theorem layStrs : ∀ L : List Str, (∀ z ∈ L, IsL z) → PyData.canLayAll0 (L.map PyData.str) = true
  | [], _ => by simp only [List.map_nil, PyData.canLayAll0]
  | z :: L, h => by
    rw [List.map_cons, PyData.canLayAll0, layStr (h z List.mem_cons_self), layStrs L fun y hy => h y (List.mem_cons_of_mem _ hy)]
    rfl
theorem layInts : ∀ L : List Int, PyData.canLayAll0 (L.map PyData.int) = true
  | [] => by simp only [List.map_nil, PyData.canLayAll0]
  | z :: L => by
    rw [List.map_cons, PyData.canLayAll0, layInts L, PyData.canLay0]
    rfl
theorem depStrs : ∀ L : List Str, PyData.depthAll (L.map PyData.str) = 0
  | [] => by simp only [List.map_nil, PyData.depthAll]
  | z :: L => by
    rw [List.map_cons, PyData.depthAll, depStrs L, PyData.depth]
    rfl
theorem depInts : ∀ L : List Int, PyData.depthAll (L.map PyData.int) = 0
  | [] => by simp only [List.map_nil, PyData.depthAll]
  | z :: L => by
    rw [List.map_cons, PyData.depthAll, depInts L, PyData.depth]
    rfl
theorem ordLay {L : List Str} {S : List Int} (h : ∀ z ∈ L, IsL z) : (ordD L S).canLay0 = true := by
  simp only [ordD, strD, intD, PyData.canLay0, PyData.canLayAll0, layStrs L h, layInts S]
  rfl
theorem ordShaped {L : List Str} {S : List Int} (h : ∀ z ∈ L, IsL z) : SeqAt.shaped (ordD L S) = true := by
  have hd : (ordD L S).depth ≤ 64 := by
    simp only [ordD, strD, intD, PyData.depth, PyData.depthAll, depStrs, depInts]
    omega
  show ((ordD L S).canLay0 && decide ((ordD L S).depth ≤ 64)) = true
  rw [ordLay h, decide_eq_true hd]
  rfl
theorem len_sub : ∀ {L U : List Str}, L.Nodup → (∀ y ∈ L, y ∈ U) → L.length ≤ U.length
  | [], _, _, _ => Nat.zero_le _
  | y :: L, U, hn, hs => by
    obtain ⟨h1, h2⟩ := List.nodup_cons.mp hn
    have hy := hs y List.mem_cons_self
    have ih := len_sub (U := U.erase y) h2 fun z hz => (List.mem_erase_of_ne (fun e => h1 (by rw [← e]; exact hz))).mpr (hs z (List.mem_cons_of_mem _ hz))
    rw [List.length_erase_of_mem hy] at ih
    have : 0 < U.length := List.length_pos_of_mem hy
    rw [List.length_cons]
    omega
theorem seq_join {a b : TS} {D : Ends} {σ : L2.St} {H : Hp} (Fa : L2.St → Hp → Prop) (h1 : ∀ σ' H', Fa σ' H' → b D σ' H') (h2 : ∀ D' : Ends, (∀ σ' H', Fa σ' H' → D'.nx σ' H') → a D' σ H) : tSeq a b D σ H := h2 _ h1
/-- the order and the rules that the law draws: what is known of them -/
theorem good_of {U L : List Str} {S : List Int} (hU : Lets U) (h10 : U.length ≤ 10) (hn : L.Nodup) (hs : ∀ y ∈ L, y ∈ U) (hl : S.length = L.length - 1) (hb : ∀ s ∈ S, (1 : Int) ≤ s ∧ s ≤ 3) :
    Good U (enc L S) ∧ GoodO (lt (enc L S)) (st (enc L S)) := by
  rw [lt_enc hl, st_enc hl]
  refine ⟨⟨by rw [lt_enc hl]; exact hn, hd0_enc L S, by rw [lt_enc hl]; exact hs⟩, ⟨?_, fun z hz => hU.isL h10 z (hs z hz), hn, hl, hb⟩⟩
  have := len_sub hn hs
  omega
theorem Strm.ne_strs {H : Hp} {p l a : Addr} {ns : List Int} {U : List Str} (h : Strm H p l ns) (e : H a = some (.lst (U.map V.str))) : a ≠ p := by
  rintro rfl
  obtain ⟨c, k, _, _, h2, _, _⟩ := h
  rw [h2] at e
  cases U with
  | nil => cases e
  | cons z U => cases e
theorem InU.good {U : List Str} {q : R} (h : InU U q) : GoodR U q := ⟨h.lo, h.ne, h.x⟩
theorem InU.ok {U : List Str} {q : R} (hU : ∀ z ∈ U, IsL z) (h : InU U q) : OkR q := ⟨hU _ h.a, hU _ h.x, h.ne, h.lo, h.hi⟩
section
variable {P : Program} {w : World} {K : PySem.W.Frag} {mg : Str → Option Value} {base : Heap}
def spLaw (K : PySem.W.Frag) : Sp := fun vs H Q _ => ∃ (a : Addr) (ns : List Int), vs = [.ref a] ∧ SqL K H a (ns.map V.int) ∧ ∀ H', Q (.bl true) H'
theorem ok_law {f : Addr} {fd : FuncData} (F : Fun K "law" "law" (topS 47) f fd) (G : Gn K mg)
    (CS : Cal P w K mg base "_law_stream" ["_law_script"] 1 (spStream K))
    (CN : Cal P w K mg base "_law_next" ["_law_stream_here", "_law_many"] 1 spNext)
    (CL : Cal P w K mg base "_law_letters" ["_law_stream_here", "_law_count"] 2 spLets)
    (CR : Cal P w K mg base "_law_rules" ["_law_stream_here", "_law_letters_here", "_law_most"] 3 spRules)
    (CO : Cal P w K mg base "_law_order" ["_law_stream_here", "_law_letters_here"] 2 spOrder)
    (CLL : Cal P w K mg base "_law_led" ["_law_order_here", "_law_rules_here"] 3 spLLed)
    (CE : Cal P w K mg base "_law_equal" ["_law_actual", "_law_due"] 4 (spEq 3))
    (CD : Cal P w K mg base "led" ["order", "rules"] 5 spLed)
    (CP : Cal P w K mg base "pruned" ["rules"] 5 spPruned)
    (CX : Cal P w K mg base "redundant" ["rules"] 5 spRed) : FnOk P w K mg base CX0 6 f fd ["_law_script"] (spLaw K) := by
  have sc : FnScope ["_law_script", "_law_stream_here", "_law_letters_here", "_law_rules_here", "_law_order_here", "_law_due", "_law_short", "_law_index"] ["_law_script"] (defScope (topS 47)) := ⟨rfl, rfl, rfl, by decide +kernel, rfl, by decide +kernel, by decide +kernel⟩
  refine F.ok sc (fun vs H Q E h => ?_) (fun cdv A outer s H vs Q E hr h => ?_)
  · obtain ⟨a, ns, rfl, _⟩ := h
    rfl
  · obtain ⟨a, ns, rfl, hS, hQ⟩ := h
    refine ⟨_, pss_cons (ps_set (i := 1) sc.nd rfl (.inl rfl) (pe_cal CS hr (pa_cons (pv 0) pa_nil)))
      (pss_cons (ps_set (i := 2) sc.nd rfl (.inl rfl) (pe_cal CL hr (pa_cons (pv 1) (pa_cons (pe_op op_add pe_int (pe_cal CN hr (pa_cons (pv 1) (pa_cons pe_int pa_nil)))) pa_nil))))
      (pss_cons (ps_set (i := 3) sc.nd rfl (.inl rfl) (pe_cal CR hr (pa_cons (pv 1) (pa_cons (pv 2) (pa_cons pe_int pa_nil)))))
      (pss_cons (ps_set (i := 4) sc.nd rfl (.inl rfl) (pe_cal CO hr (pa_cons (pv 1) (pa_cons (pe_slice sl_list (pv 2) po_none (po_some (pe_op op_add pe_int (pe_cal CN hr (pa_cons (pv 1) (pa_cons (x_len G.len (pv 2)) pa_nil)))))) pa_nil))))
      (pss_cons (ps_if (pt_cmpR op_gt (pe_cal CN hr (pa_cons (pv 1) (pa_cons pe_int pa_nil))) pe_int (nomark _)) (pss_one (ps_set (i := 4) sc.nd rfl (.inl rfl) (pe_cal CO hr (pa_cons (pv 1) (pa_cons (pv 2) pa_nil))))) pss_nil)
      (pss_cons (ps_set (i := 5) sc.nd rfl (.inl rfl) (pe_cal CLL hr (pa_cons (pv 4) (pa_cons (pv 3) pa_nil))))
      (pss_cons (ps_if (pt_cmpR op_isN (pv 5) pe_non (nomark _)) (pss_one (ps_ret pe_bl)) pss_nil)
      (pss_cons (ps_set (i := 6) sc.nd rfl (.inl rfl) (pe_cal CP hr (pa_cons (pv 3) pa_nil)))
      (pss_cons (ps_if (PW.pt (pw_or (pt_cmpR (op_neD hr.units) (pe_cal CLL hr (pa_cons (pv 4) (pa_cons (pv 6) pa_nil))) (pv 5) (nomark _)) (pw_or1 (pt_not (pt_val (pe_cal CE hr (pa_cons (pe_cal CD hr (pa_cons (pv 4) (pa_cons (pv 6) pa_nil))) (pa_cons (pv 5) pa_nil)))))))) (pss_one (ps_ret pe_bl)) pss_nil)
      (pss_cons (ps_for PassesOwn.never rfl (pi_list (pe_cal CX hr (pa_cons (pv 3) pa_nil))) (pg_name (i := 7) sc.nd rfl (.inl rfl))
        (pss_one (ps_if (pt_not (pt_val (pe_cal CE hr (pa_cons (pe_cal CD hr (pa_cons (pv 4) (pa_cons (pe_op op_catF (pe_slice sl_tupF (pv 3) po_none (po_some (pv 7))) (pe_slice sl_tupF (pv 3) (po_some (pe_op op_add (pv 7) pe_int)) po_none)) pa_nil))) (pa_cons (pv 5) pa_nil))))) (pss_one (ps_ret pe_bl)) pss_nil)))
      (pss_one (ps_ret pe_bl))))))))))), ?_⟩
    refine ⟨_, rfl, a, ns, rfl, hS, fun p l H1 s1 n1 t1 => ?_⟩
    refine ⟨_, rfl, _, rfl, p, l, _, ns, rfl, t1, by decide, by decide, fun d H2 d0 d1 s2 t2 => ?_⟩
    refine ⟨_, _, rfl, rfl, p, l, (2 + d).toNat, ns, ?_, t2, by omega, fun la U H3 s3 t3 hU3 hUl hL => ?_⟩
    · rw [show (((2 + d).toNat : Nat) : Int) = 2 + d from by omega]
      rfl
    have h5 : U.length ≤ 5 := by omega
    have h2 : 2 ≤ U.length := by omega
    have lU : (U.map V.str).length = U.length := List.length_map _
    have isU := hL.isL (by omega)
    have nU := hL.nd
    have nap := t3.ne_strs hU3
    refine ⟨_, rfl, _, rfl, p, l, la, U, ns, rfl, t3, nap, hU3, h2, by omega, nU, fun r qs H4 s4 t4 hR hq8 hin => ?_⟩
    have hU4 := s4 _ _ nap hU3
    have hgr : ∀ q ∈ qs, GoodR U q := fun q hq => (hin q hq).good
    have hok : ∀ q ∈ qs, OkR q := fun q hq => (hin q hq).ok isU
    refine ⟨_, rfl, _, rfl, _, rfl, _, rfl, la, _, rfl, .inl (SqL.of hU4), p, l, _, ns, rfl, t4, by omega, by omega, fun d4 H5 e0 e1 s5 t5 => ?_⟩
    rw [lU] at e1
    have hU5 := s5 _ _ nap hU4
    have hR5 := hR.sameB t4.at s5
    refine ⟨_, _, rfl, rfl, _, rfl, la, _, rfl, SqL.of hU5, fun lb nb => ?_⟩
    rw [show (1 + d4 : Int) = (((1 + d4).toNat : Nat) : Int) from by omega, cut_to, ← List.map_take]
    obtain ⟨nbp, nbl⟩ := t5.free nb
    have sb := same_upd (o := .lst ((U.take (1 + d4).toNat).map V.str)) nb
    refine ⟨p, l, lb, U.take (1 + d4).toNat, ns, rfl, t5.same sb, nbp, upd_same, by rw [List.length_take]; omega, fun ov L S H6 s6 t6 ho hp hl hb => ?_⟩
    have hU6 := s6 _ _ nap (sb _ _ hU5)
    have hR6 := (hR5.same sb).sameB (t5.same sb).at s6
    dsimp only [gName]
    refine seq_join (fun σ' H' => ∃ ov L S, σ' = [some (.ref a), some (.ref p), some (.ref la), some r, some ov, none, none, none] ∧ RulsT H' r qs ∧ OrdR H' ov L S ∧ L.Nodup ∧ (∀ y ∈ L, y ∈ U) ∧ S.length = L.length - 1 ∧ (∀ s ∈ S, (1 : Int) ≤ s ∧ s ≤ 3)) ?_ ?_
    · rintro σ' H8 ⟨ov, L, S, rfl, hR, ho, hn, hs, hl, hb⟩
      obtain ⟨g, go⟩ := good_of hL (by omega) hn hs hl hb
      obtain ⟨P0, hP0⟩ : ∃ P0, P0 = enc L S := ⟨_, rfl⟩
      have hoC : OrdC H8 ov P0 := by
        show OrdR H8 ov (lt P0) (st P0)
        rw [hP0, lt_enc hl, st_enc hl]
        exact ho
      rw [← hP0] at g go
      have h11 : ∀ P' : C, Good U P' → P'.length ≤ 11 := fun P' g' => by
        have := len_sub g'.nd g'.sub
        rw [lt_len] at this
        omega
      refine ⟨_, rfl, _, rfl, ov, r, U, P0, qs, rfl, hoC, hR, hgr, g, h11, fun due H9 s9 hsome hnone => ?_⟩
      cases hD : ledC P0 qs with
      | none =>
        have e := hnone hD
        subst e
        exact ⟨_, rfl, rfl, true, rfl, iteT (hQ H9)⟩
      | some Dd =>
        have hdue := hsome Dd hD
        have hnn : decide (due = V.non) = false := by
          obtain ⟨_, _, _, rfl, _⟩ := hdue
          rfl
        have gD := led_good hgr g hD
        have lD := h11 Dd gD
        have lL : (lt Dd).length ≤ 100 := by rw [lt_len]; omega
        have lS : (st Dd).length ≤ 100 := by rw [st_len]; omega
        have isD : ∀ z ∈ lt Dd, IsL z := fun z hz => isU z (gD.sub z hz)
        refine ⟨_, rfl, rfl, false, by rw [hnn], iteF ?_⟩
        refine ⟨_, rfl, r, qs, rfl, hR.same s9, by omega, hok, fun sh H10 s10 hsh => ?_⟩
        have pl := prn_len qs
        have s810 := s9.trans s10
        have hd10 := hdue.same s10
        refine ⟨_, rfl, _, rfl, ov, sh, U, P0, prn qs, rfl, hoC.same s810, hsh, fun q hq => hgr q (prn_sub qs q hq), g, h11, fun v' H11 s11 hs11 _ => ?_⟩
        have hv' := hs11 Dd (led_prn hgr g hD)
        refine ⟨_, rfl, ordD (lt Dd) (st Dd), ordD (lt Dd) (st Dd), hv'.dp, (hd10.same s11).dp, ordShaped isD, ordShaped isD, false, by rw [SeqAt.eqv_refl _ (ordLay isD)]; rfl, iteF ?_⟩
        have s811 := s810.trans s11
        refine ⟨_, rfl, _, rfl, ov, sh, U, P0, Dd, prn qs, rfl, hoC.same s811, go, hsh.same s11, by omega, fun q hq => hok q (prn_sub qs q hq), fun q hq => hgr q (prn_sub qs q hq), g, h11, led_prn hgr g hD, fun v2 H12 s12 o12 => ?_⟩
        refine ⟨_, rfl, v2, _, rfl, EqV.ord o12 (hd10.same (s11.trans s12)) lL lS, fun H13 s13 => ⟨true, rfl, iteF ?_⟩⟩
        have s813 := s811.trans (s12.trans s13)
        have hd13 := hd10.same (s11.trans (s12.trans s13))
        refine ⟨_, rfl, r, qs, rfl, hR.same s813, by omega, hok, fun l2 js H14 s14 hl14 hjs => ?_⟩
        have s814 := s813.trans s14
        have hd14 := hd13.same s14
        obtain ⟨pr, ws, rfl, hp, hv⟩ := hR
        refine ⟨l2, rfl, ⟨_, SqL.of hl14⟩, ?_⟩
        refine for_list (K := K) (a := l2) (xs := js.map kV') (fun i σ H' => ∃ y, σ = [some (.ref a), some (.ref p), some (.ref la), some (.ref pr), some ov, some due, some sh, y] ∧ Same H14 H') ⟨none, rfl, Same.refl _⟩ (fun i σ H' _ ⟨y, _, s'⟩ => SqL.of (s' _ _ hl14)) ?_ ?_
        · rintro i x σ H15 hx ⟨y, rfl, s15⟩
          obtain ⟨k, rfl, hk⟩ := get_k hx
          obtain ⟨q, hq, hc⟩ := hjs k (List.mem_of_getElem? hk)
          have hkl := (List.getElem?_eq_some_iff.mp hq).1
          have lv : ws.length = qs.length := Paired.length hv
          have e1 : ((k : Int) + 1) = ((k + 1 : Nat) : Int) := by omega
          have s815 := s814.trans s15
          have hp15 := hp.same s815
          refine ⟨_, rfl, _, rfl, _, rfl, _, rfl, pr, _, rfl, hp15, fun p1 H16 s16 t16 => ?_⟩
          refine ⟨_, rfl, _, rfl, _, _, rfl, rfl, _, rfl, pr, _, rfl, hp15.same s16, fun p2 H17 s17 t17 => ?_⟩
          rw [cut_to] at t16
          rw [e1, cut_from] at t17
          refine ⟨p1, p2, _, _, rfl, rfl, t16.same s17, t17, sz (by rw [List.length_take, List.length_drop]; omega), fun p3 H18 s18 t18 => ?_⟩
          have s818 := s815.trans (s16.trans (s17.trans s18))
          have sub : ∀ q ∈ qs.take k ++ qs.drop (k + 1), q ∈ qs := fun q hq => by
            rcases List.mem_append.mp hq with h | h
            · exact List.mem_of_mem_take h
            · exact List.mem_of_mem_drop h
          have es : qs = qs.take k ++ q :: qs.drop (k + 1) := by
            have e2 : qs.drop k = q :: qs.drop (k + 1) := by
              rw [List.drop_eq_getElem_cons hkl]
              rw [List.getElem?_eq_getElem hkl] at hq
              rw [Option.some.inj hq]
            rw [← e2, List.take_append_drop]
          have hled : ledC P0 (qs.take k ++ qs.drop (k + 1)) = some Dd := by
            refine drop_at (r := q) (hgr q (List.mem_of_getElem? hq)) (fun z hz => hgr z (List.mem_of_mem_drop hz)) hc (fun z hz => hgr z (List.mem_of_mem_take hz)) g ?_
            rw [← es]
            exact hD
          refine ⟨ov, .ref p3, U, P0, Dd, _, rfl, hoC.same s818, go, ⟨p3, _, rfl, t18, RulsV.same s818 (paired_app (paired_take k hv) (paired_drop (k + 1) hv))⟩, ?_, fun z hz => hok z (sub z hz), fun z hz => hgr z (sub z hz), g, h11, hled, fun v5 H19 s19 o19 => ?_⟩
          · rw [List.length_append, List.length_take, List.length_drop]
            omega
          refine ⟨_, rfl, v5, _, rfl, EqV.ord o19 (hd14.same (s15.trans (s16.trans (s17.trans (s18.trans s19))))) lL lS, fun H20 s20 => ⟨true, rfl, iteF ⟨_, rfl, s15.trans (s16.trans (s17.trans (s18.trans (s19.trans s20))))⟩⟩⟩
        · rintro σ H15 ⟨y, rfl, s15⟩
          exact hQ _
    · intro D' hD'
      refine ⟨_, rfl, p, l, _, ns, rfl, t6, by decide, by decide, fun d5 H7 f0 f1 s7 t7 => ⟨_, _, rfl, rfl, _, rfl, ite2 (fun _ => ?_) (fun _ => ?_)⟩⟩
      · refine ⟨_, rfl, _, rfl, p, l, la, U, ns, rfl, t7, nap, s7 _ _ nap hU6, by omega, fun ov2 L2 S2 H8 s8 t8 ho2 hp2 hl2 hb2 => hD' _ H8 ⟨ov2, L2, S2, rfl, (hR6.sameB t6.at s7).sameB t7.at s8, ho2, hp2.symm.nodup nU, fun y hy => hp2.mem_iff.mp hy, hl2, hb2⟩⟩
      · exact hD' _ H7 ⟨ov, L, S, rfl, hR6.sameB t6.at s7, ho.sameB t6.at s7, hp.symm.nodup (List.Nodup.sublist (List.take_sublist _ _) nU), fun y hy => List.mem_of_mem_take (hp.mem_iff.mp hy), hl, hb⟩
end
end FrP
/-! The head: what the top leaves, read as facts by names; the law at its end. -/
namespace FrH
open PySem PySem.Spec PyProof.Rows L2 FrP
def mkD (x : Str) (i : Nat) : He.DefD := ⟨(x, none), x, x, defArgs (topS i), defBody (topS i), defScope (topS i), [], []⟩
def fnA : List He.DefD := [mkD "is_whole" 9, mkD "is_level" 10, mkD "is_letter" 11, mkD "are_letters" 12, mkD "is_order" 13, mkD "removed" 14, mkD "is_integer" 19, mkD "is_rule" 20, mkD "is_rule_list" 21, mkD "check_order" 22, mkD "why_not" 23, mkD "turned_around" 24, mkD "put_after" 25, mkD "put" 26, mkD "led" 27, mkD "check_rules" 29]
def fnB : List He.DefD := [mkD "covering" 30, mkD "kept_places" 31, mkD "redundant" 32, mkD "pruned_list" 33, mkD "pruned" 34, mkD "_law_stream" 36, mkD "_law_next" 37, mkD "_law_is_integer" 38, mkD "_law_equal" 39, mkD "_law_letters" 40, mkD "_law_order" 41, mkD "_law_rule" 42, mkD "_law_rules" 43, mkD "_law_without" 44, mkD "_law_put" 45, mkD "_law_led" 46, mkD "law" 47]
def fns : List He.DefD := fnA ++ fnB
def faA : List He.Fa := [.glo "is_whole", .glo "is_level", .glo "is_letter", .glo "are_letters", .glo "is_order", .glo "removed", .glo "is_integer", .glo "is_rule", .glo "is_rule_list", .glo "check_order", .glo "why_not", .glo "turned_around", .glo "put_after", .glo "put", .glo "led", .glo "check_rules"]
def faB : List He.Fa := [.glo "covering", .glo "kept_places", .glo "redundant", .glo "pruned_list", .glo "pruned", .glo "_law_stream", .glo "_law_next", .glo "_law_is_integer", .glo "_law_equal", .glo "_law_letters", .glo "_law_order", .glo "_law_rule", .glo "_law_rules", .glo "_law_without", .glo "_law_put", .glo "_law_led", .glo "law"]
def faC : List He.Fa := [.free "isinstance", .free "int", .free "bool", .free "str", .free "tuple", .free "list", .free "len", .free "all", .free "max", .free "min", .free "abs", .free "range", .free "enumerate", .free "reversed", .str "CHARACTERS" "abcdefghijklmnopqrstuvwxyz", .str "DIGITS" "0123456789", .int "LONGEST" 12, .int "MOST" 12, .int "MOST_LETTERS" 12, .int "MOST_RULES" 20, .glo "SIDES"]
def fas : List He.Fa := faA ++ (faB ++ faC)
/-- the facts, and that SIDES is the pair of side words -/
def obsF (K : PySem.W.Frag) : He.AlD × Bool := (He.obsD fas fns K, He.tupB K "SIDES" [.str "after", .str "before"])
def valF : He.AlD × Bool := (He.valD fns, true)
def partG (g : Addr → Option Obj) : PySem.W.Frag := He.frG g (He.asD g 4)
def hk : PySem.W.Hook where
  α := He.AlD × Bool
  obs := fun s => obsF (partG s.heap.get?)
  val := fun _ => valF
  says := fun _ h => ∃ K : PySem.W.Frag, K.In h ∧ obsF K = valF
  of := fun _ _ e => ⟨_, He.frG_in, e⟩
  keeps := fun _ _ _ ⟨K, a, b⟩ k => ⟨K, PySem.W.Frag.In.keeps a k, b⟩
def ob (s : PySem.W.SharedT) : He.AlD × Bool := obsF (partG (HandSHeadRun.getT s))
theorem ob_eq (s : PySem.W.SharedT) : ob s = hk.obs s.abs := by
  have e : HandSHeadRun.getT s = s.abs.heap.get? := funext (HandSHeadRun.getT_eq s)
  unfold ob
  rw [e]
  rfl
abbrev Rw : PySem.W.OpenRow := PySem.W.OpenLaw.row PySem.Challenge.rw_fewestrules_k47_whole_pruned_lists_lead
def looseA : List Str := ["RulesError", "BadValue", "NotApplicable", "CHARACTERS", "DIGITS", "LONGEST", "MOST", "is_whole", "is_level", "is_letter", "are_letters", "is_order", "removed", "SIDES", "MOST_LETTERS", "MOST_RULES", "is_integer", "is_rule", "is_rule_list", "check_order", "why_not"]
def looseB : List Str := ["turned_around", "put_after", "put", "led", "check_rules", "covering", "kept_places", "redundant", "pruned_list", "pruned", "_law_stream", "_law_next", "_law_is_integer", "_law_equal", "_law_letters", "_law_order", "_law_rule", "_law_rules", "_law_without", "_law_put", "_law_led"]
abbrev loose : List Str := looseA ++ looseB
theorem run (w : World) : HandSHeadRun.RunEq Rw (PySem.W.view Rw.prog [47]) hk ob 3000 loose w := by
  intro os
  kernel_rfl
section
variable {K : PySem.W.Frag} {h : Heap} {mg : Str → Option Value} {base : Heap}
theorem fun_of {x : Str} {i j : Nat} (c : He.SaysD fas fns K) (hd : fns[j]? = some (mkD x i)) : ∃ fd, Fun K x x (topS i) (He.ga K x) fd := by
  obtain ⟨fd, F⟩ := c.def_ j hd
  obtain ⟨oc, od, dV, kV, doc, pm, an, cdv, ct, osl, e, lk, hcd, hD, _⟩ := F.ex
  rcases hD with ⟨_, hd⟩ | ⟨hd, _⟩
  · subst hd
    exact ⟨fd, ⟨oc, od, kV, doc, pm, an, cdv, ct, osl, e, lk, hcd⟩, F.kp⟩
  · exact absurd rfl hd
theorem df_of (X : K.In h) (G : h.Ns mainGlobals mg) (c : He.SaysD fas fns K) {x : Str} {i : Nat} {ps : List Str} (j : Nat) (hd : fns[j]? = some (mkD x i)) (hf : fas[j]? = some (.glo x))
    (hb : ∀ (kV doc pm : Value) (an : Option Addr) (cdv ct : Value) (us : List Value), us.length = ps.length → bindArgs (PySem.W.fnOf x x (defArgs (topS i)) (defBody (topS i)) (defScope (topS i)) .none kV doc pm an cdv ct) ⟨us, []⟩ = pure (ps.zip us)) : Df K mg x (topS i) ps := by
  obtain ⟨fd, F⟩ := fun_of c hd
  exact ⟨_, fd, F, He.glo_ok X G (c.fact j hf), F.binds hb⟩
theorem gn_of (X : K.In h) (G : h.Ns mainGlobals mg) (c : He.SaysD fas fns K) (t : He.tupB K "SIDES" [.str "after", .str "before"] = true) : Gn K mg :=
  ⟨He.free_ok X G (c.fact 33 (f := .free "isinstance") rfl), He.free_ok X G (c.fact 34 (f := .free "int") rfl), He.free_ok X G (c.fact 35 (f := .free "bool") rfl), He.free_ok X G (c.fact 36 (f := .free "str") rfl), He.free_ok X G (c.fact 37 (f := .free "tuple") rfl), He.free_ok X G (c.fact 38 (f := .free "list") rfl), He.free_ok X G (c.fact 39 (f := .free "len") rfl), He.free_ok X G (c.fact 40 (f := .free "all") rfl), He.free_ok X G (c.fact 41 (f := .free "max") rfl), He.free_ok X G (c.fact 42 (f := .free "min") rfl), He.free_ok X G (c.fact 43 (f := .free "abs") rfl), He.free_ok X G (c.fact 44 (f := .free "range") rfl), He.free_ok X G (c.fact 45 (f := .free "enumerate") rfl), He.free_ok X G (c.fact 46 (f := .free "reversed") rfl),
   He.str_ok X G (c.fact 47 rfl), He.str_ok X G (c.fact 48 rfl), He.int_ok X G (c.fact 49 rfl), He.int_ok X G (c.fact 50 rfl), He.int_ok X G (c.fact 51 rfl), He.int_ok X G (c.fact 52 rfl),
   ⟨_, He.glo_ok X G (c.fact 53 (f := .glo "SIDES") rfl), fun H => He.tupB_ok t H⟩⟩
theorem df_is_whole (X : K.In h) (G : h.Ns mainGlobals mg) (c : He.SaysD fas fns K) : Df K mg "is_whole" (topS 9) ["value"] :=
  df_of X G c 0 rfl rfl fun _ _ _ _ _ _ us hl => match us, hl with | [_], _ => rfl
theorem df_is_level (X : K.In h) (G : h.Ns mainGlobals mg) (c : He.SaysD fas fns K) : Df K mg "is_level" (topS 10) ["value"] :=
  df_of X G c 1 rfl rfl fun _ _ _ _ _ _ us hl => match us, hl with | [_], _ => rfl
theorem df_is_letter (X : K.In h) (G : h.Ns mainGlobals mg) (c : He.SaysD fas fns K) : Df K mg "is_letter" (topS 11) ["value"] :=
  df_of X G c 2 rfl rfl fun _ _ _ _ _ _ us hl => match us, hl with | [_], _ => rfl
theorem df_are_letters (X : K.In h) (G : h.Ns mainGlobals mg) (c : He.SaysD fas fns K) : Df K mg "are_letters" (topS 12) ["value"] :=
  df_of X G c 3 rfl rfl fun _ _ _ _ _ _ us hl => match us, hl with | [_], _ => rfl
theorem df_is_order (X : K.In h) (G : h.Ns mainGlobals mg) (c : He.SaysD fas fns K) : Df K mg "is_order" (topS 13) ["value"] :=
  df_of X G c 4 rfl rfl fun _ _ _ _ _ _ us hl => match us, hl with | [_], _ => rfl
theorem df_removed (X : K.In h) (G : h.Ns mainGlobals mg) (c : He.SaysD fas fns K) : Df K mg "removed" (topS 14) ["order", "letter"] :=
  df_of X G c 5 rfl rfl fun _ _ _ _ _ _ us hl => match us, hl with | [_, _], _ => rfl
theorem df_is_integer (X : K.In h) (G : h.Ns mainGlobals mg) (c : He.SaysD fas fns K) : Df K mg "is_integer" (topS 19) ["value"] :=
  df_of X G c 6 rfl rfl fun _ _ _ _ _ _ us hl => match us, hl with | [_], _ => rfl
theorem df_is_rule (X : K.In h) (G : h.Ns mainGlobals mg) (c : He.SaysD fas fns K) : Df K mg "is_rule" (topS 20) ["value"] :=
  df_of X G c 7 rfl rfl fun _ _ _ _ _ _ us hl => match us, hl with | [_], _ => rfl
theorem df_is_rule_list (X : K.In h) (G : h.Ns mainGlobals mg) (c : He.SaysD fas fns K) : Df K mg "is_rule_list" (topS 21) ["value"] :=
  df_of X G c 8 rfl rfl fun _ _ _ _ _ _ us hl => match us, hl with | [_], _ => rfl
theorem df_check_order (X : K.In h) (G : h.Ns mainGlobals mg) (c : He.SaysD fas fns K) : Df K mg "check_order" (topS 22) ["order", "name"] :=
  df_of X G c 9 rfl rfl fun _ _ _ _ _ _ us hl => match us, hl with | [_, _], _ => rfl
theorem df_why_not (X : K.In h) (G : h.Ns mainGlobals mg) (c : He.SaysD fas fns K) : Df K mg "why_not" (topS 23) ["order", "rule"] :=
  df_of X G c 10 rfl rfl fun _ _ _ _ _ _ us hl => match us, hl with | [_, _], _ => rfl
theorem df_turned_around (X : K.In h) (G : h.Ns mainGlobals mg) (c : He.SaysD fas fns K) : Df K mg "turned_around" (topS 24) ["order"] :=
  df_of X G c 11 rfl rfl fun _ _ _ _ _ _ us hl => match us, hl with | [_], _ => rfl
theorem df_put_after (X : K.In h) (G : h.Ns mainGlobals mg) (c : He.SaysD fas fns K) : Df K mg "put_after" (topS 25) ["order", "anchor", "strength", "letter"] :=
  df_of X G c 12 rfl rfl fun _ _ _ _ _ _ us hl => match us, hl with | [_, _, _, _], _ => rfl
theorem df_put (X : K.In h) (G : h.Ns mainGlobals mg) (c : He.SaysD fas fns K) : Df K mg "put" (topS 26) ["order", "rule"] :=
  df_of X G c 13 rfl rfl fun _ _ _ _ _ _ us hl => match us, hl with | [_, _], _ => rfl
theorem df_led (X : K.In h) (G : h.Ns mainGlobals mg) (c : He.SaysD fas fns K) : Df K mg "led" (topS 27) ["order", "rules"] :=
  df_of X G c 14 rfl rfl fun _ _ _ _ _ _ us hl => match us, hl with | [_, _], _ => rfl
theorem df_check_rules (X : K.In h) (G : h.Ns mainGlobals mg) (c : He.SaysD fas fns K) : Df K mg "check_rules" (topS 29) ["value", "name"] :=
  df_of X G c 15 rfl rfl fun _ _ _ _ _ _ us hl => match us, hl with | [_, _], _ => rfl
theorem df_covering (X : K.In h) (G : h.Ns mainGlobals mg) (c : He.SaysD fas fns K) : Df K mg "covering" (topS 30) ["rule", "later"] :=
  df_of X G c 16 rfl rfl fun _ _ _ _ _ _ us hl => match us, hl with | [_, _], _ => rfl
theorem df_kept_places (X : K.In h) (G : h.Ns mainGlobals mg) (c : He.SaysD fas fns K) : Df K mg "kept_places" (topS 31) ["rules"] :=
  df_of X G c 17 rfl rfl fun _ _ _ _ _ _ us hl => match us, hl with | [_], _ => rfl
theorem df_redundant (X : K.In h) (G : h.Ns mainGlobals mg) (c : He.SaysD fas fns K) : Df K mg "redundant" (topS 32) ["rules"] :=
  df_of X G c 18 rfl rfl fun _ _ _ _ _ _ us hl => match us, hl with | [_], _ => rfl
theorem df_pruned_list (X : K.In h) (G : h.Ns mainGlobals mg) (c : He.SaysD fas fns K) : Df K mg "pruned_list" (topS 33) ["rules"] :=
  df_of X G c 19 rfl rfl fun _ _ _ _ _ _ us hl => match us, hl with | [_], _ => rfl
theorem df_pruned (X : K.In h) (G : h.Ns mainGlobals mg) (c : He.SaysD fas fns K) : Df K mg "pruned" (topS 34) ["rules"] :=
  df_of X G c 20 rfl rfl fun _ _ _ _ _ _ us hl => match us, hl with | [_], _ => rfl
theorem df_law_stream (X : K.In h) (G : h.Ns mainGlobals mg) (c : He.SaysD fas fns K) : Df K mg "_law_stream" (topS 36) ["_law_script"] :=
  df_of X G c 21 rfl rfl fun _ _ _ _ _ _ us hl => match us, hl with | [_], _ => rfl
theorem df_law_next (X : K.In h) (G : h.Ns mainGlobals mg) (c : He.SaysD fas fns K) : Df K mg "_law_next" (topS 37) ["_law_stream_here", "_law_many"] :=
  df_of X G c 22 rfl rfl fun _ _ _ _ _ _ us hl => match us, hl with | [_, _], _ => rfl
theorem df_law_is_integer (X : K.In h) (G : h.Ns mainGlobals mg) (c : He.SaysD fas fns K) : Df K mg "_law_is_integer" (topS 38) ["_law_actual"] :=
  df_of X G c 23 rfl rfl fun _ _ _ _ _ _ us hl => match us, hl with | [_], _ => rfl
theorem df_law_equal (X : K.In h) (G : h.Ns mainGlobals mg) (c : He.SaysD fas fns K) : Df K mg "_law_equal" (topS 39) ["_law_actual", "_law_due"] :=
  df_of X G c 24 rfl rfl fun _ _ _ _ _ _ us hl => match us, hl with | [_, _], _ => rfl
theorem df_law_letters (X : K.In h) (G : h.Ns mainGlobals mg) (c : He.SaysD fas fns K) : Df K mg "_law_letters" (topS 40) ["_law_stream_here", "_law_count"] :=
  df_of X G c 25 rfl rfl fun _ _ _ _ _ _ us hl => match us, hl with | [_, _], _ => rfl
theorem df_law_order (X : K.In h) (G : h.Ns mainGlobals mg) (c : He.SaysD fas fns K) : Df K mg "_law_order" (topS 41) ["_law_stream_here", "_law_letters_here"] :=
  df_of X G c 26 rfl rfl fun _ _ _ _ _ _ us hl => match us, hl with | [_, _], _ => rfl
theorem df_law_rule (X : K.In h) (G : h.Ns mainGlobals mg) (c : He.SaysD fas fns K) : Df K mg "_law_rule" (topS 42) ["_law_stream_here", "_law_letters_here"] :=
  df_of X G c 27 rfl rfl fun _ _ _ _ _ _ us hl => match us, hl with | [_, _], _ => rfl
theorem df_law_rules (X : K.In h) (G : h.Ns mainGlobals mg) (c : He.SaysD fas fns K) : Df K mg "_law_rules" (topS 43) ["_law_stream_here", "_law_letters_here", "_law_most"] :=
  df_of X G c 28 rfl rfl fun _ _ _ _ _ _ us hl => match us, hl with | [_, _, _], _ => rfl
theorem df_law_without (X : K.In h) (G : h.Ns mainGlobals mg) (c : He.SaysD fas fns K) : Df K mg "_law_without" (topS 44) ["_law_order_here", "_law_letter"] :=
  df_of X G c 29 rfl rfl fun _ _ _ _ _ _ us hl => match us, hl with | [_, _], _ => rfl
theorem df_law_put (X : K.In h) (G : h.Ns mainGlobals mg) (c : He.SaysD fas fns K) : Df K mg "_law_put" (topS 45) ["_law_order_here", "_law_rule_here"] :=
  df_of X G c 30 rfl rfl fun _ _ _ _ _ _ us hl => match us, hl with | [_, _], _ => rfl
theorem df_law_led (X : K.In h) (G : h.Ns mainGlobals mg) (c : He.SaysD fas fns K) : Df K mg "_law_led" (topS 46) ["_law_order_here", "_law_rules_here"] :=
  df_of X G c 31 rfl rfl fun _ _ _ _ _ _ us hl => match us, hl with | [_, _], _ => rfl
theorem facts {P : Program} {w : World} {f : Addr} (X : K.In h) (G : h.Ns mainGlobals mg) (hfa : mg ("law" : Str) = some (.ref f)) (cc : obsF K = valF) :
    ∃ fd : FuncData, (∀ (s : Shared) (v : Value), BindsTo s fd ⟨[v], []⟩ [("_law_script", v)]) ∧ ∀ base : Heap, K.In base → base.Ns mainGlobals mg → FnOk P w K mg base CX0 6 f fd ["_law_script"] (spLaw K) := by
  have c : He.SaysD fas fns K := congrArg (fun z : He.AlD × Bool => z.1) cc
  have t : He.tupB K "SIDES" [.str "after", .str "before"] = true := congrArg (fun z : He.AlD × Bool => z.2) cc
  have N := gn_of X G c t
  obtain ⟨fd0, F0⟩ := c.def_ 32 (d := mkD "law" 47) rfl
  obtain ⟨oc, od, dV, kV, doc, pm, an, cdv, ct, osl, e, lk, hcd, hD, _⟩ := F0.ex
  have F : Fun K "law" "law" (topS 47) (He.ga K "law") fd0 := by
    rcases hD with ⟨_, hd⟩ | ⟨hd, _⟩
    · subst hd
      exact ⟨⟨oc, od, kV, doc, pm, an, cdv, ct, osl, e, lk, hcd⟩, F0.kp⟩
    · exact absurd rfl hd
  have e2 := hfa.symm.trans (He.glo_ok X G (c.fact 32 (f := .glo "law") rfl))
  cases e2
  have b := FunD.bindsA (ps := ["_law_script"]) F0 fun _ _ _ _ _ _ us hl => match us, hl with | [_], _ => rfl
  refine ⟨fd0, fun s v => b s [v] rfl, fun base _ _ => ?_⟩
  have c_whole := ok_isWhole (P := P) (w := w) (base := base) (df_is_whole X G c) N
  have c_level := ok_isLevel (P := P) (w := w) (base := base) (df_is_level X G c) c_whole
  have c_letter := ok_isLetter (P := P) (w := w) (base := base) (df_is_letter X G c) N
  have c_letters := ok_areLetters (P := P) (w := w) (base := base) (df_are_letters X G c) N c_letter
  have c_order := ok_isOrder (P := P) (w := w) (base := base) (df_is_order X G c) N c_letters c_level
  have c_removed := ok_removed (P := P) (w := w) (base := base) (df_removed X G c) N
  have c_integer := ok_isInteger (P := P) (w := w) (base := base) (df_is_integer X G c) N
  have c_rule := ok_isRule (P := P) (w := w) (base := base) (df_is_rule X G c) N c_letter c_integer
  have c_rules := ok_isRules (P := P) (w := w) (base := base) (df_is_rule_list X G c) N c_rule
  have c_checkO := ok_checkOrder (P := P) (w := w) (base := base) (df_check_order X G c) c_order
  have c_checkR := ok_checkRules (P := P) (w := w) (base := base) (df_check_rules X G c) c_rules
  have c_why := ok_why (P := P) (w := w) (base := base) (df_why_not X G c) N
  have c_turn := ok_turn (P := P) (w := w) (base := base) (df_turned_around X G c)
  have c_after := ok_putAfter (P := P) (w := w) (base := base) (df_put_after X G c) N
  have c_put := ok_put (P := P) (w := w) (base := base) (df_put X G c) c_removed c_after c_turn
  have c_led := ok_led (P := P) (w := w) (base := base) (df_led X G c) N c_checkO c_rules c_why c_put
  have c_covL := ok_covL (P := P) (w := w) (base := base) (df_covering X G c) N
  have c_covT := ok_covT (P := P) (w := w) (base := base) (df_covering X G c) N
  have c_kept := ok_kept (P := P) (w := w) (base := base) (df_kept_places X G c) N c_covL
  have c_prl := ok_prunedList (P := P) (w := w) (base := base) (df_pruned_list X G c) N c_kept
  have c_pruned := ok_pruned (P := P) (w := w) (base := base) (df_pruned X G c) c_checkR c_prl
  have c_red := ok_redundant (P := P) (w := w) (base := base) (df_redundant X G c) N c_checkR c_covT
  have c_stream := ok_stream (P := P) (w := w) (base := base) (df_law_stream X G c) N
  have c_next := ok_next (P := P) (w := w) (base := base) (df_law_next X G c) N
  have c_lint := ok_lawInteger (P := P) (w := w) (base := base) (df_law_is_integer X G c) N
  have c_eq := ok_equal (P := P) (w := w) (base := base) (df_law_equal X G c) N c_lint
  have c_lets := ok_letters (P := P) (w := w) (base := base) (df_law_letters X G c) N c_next
  have c_lorder := ok_order (P := P) (w := w) (base := base) (df_law_order X G c) N c_next
  have c_lrule := ok_rule (P := P) (w := w) (base := base) (df_law_rule X G c) N c_next
  have c_lrules := ok_rules (P := P) (w := w) (base := base) (df_law_rules X G c) N c_next c_lrule
  have c_without := ok_without (P := P) (w := w) (base := base) (df_law_without X G c) N
  have c_lput := ok_lput (P := P) (w := w) (base := base) (df_law_put X G c) N c_without
  have c_lled := ok_lled (P := P) (w := w) (base := base) (df_law_led X G c) c_lput
  exact ok_law F N c_stream c_next c_lets c_lrules c_lorder c_lled c_eq c_led c_pruned c_red
end
end FrH
open PySem PySem.W PySem.Calls PyProof.Rows
theorem PySem.Challenge.cw_fewestrules_k47_whole_pruned_lists_lead_holds : PySem.Challenge.rw_fewestrules_k47_whole_pruned_lists_lead.Holds := by
  w_on; o_law
  refine HandSHeadRun.head_any (r := FrH.Rw) (q := view FrH.Rw.prog [47]) (H := FrH.hk) (ob := FrH.ob) (M := 3000) (loose := FrH.loose) (d := HandSHeadRun.topDef FrH.Rw.prog 47) (kwd := []) FrH.ob_eq
    (by kernel_rfl) (fun s => by kernel_rfl) FrH.run (by kernel_rfl) (by kernel_rfl) (by kernel_rfl) (by rfl) (by first | assumption | decide +kernel) (by decide +kernel) ⟨rfl, rfl, rfl, rfl, rfl, by decide +kernel⟩ ?hw ?hc
  case hw => w_witness2
  case hc =>
    refine L2.walk_ofE (l := PySem.Challenge.rw_fewestrules_k47_whole_pruned_lists_lead) (n := 63) (k := 6) (x := "_law_script") (CX := L2.CX0) rfl (by decide) (by kernel_rfl) ⟨rfl, by decide, by decide⟩ ?F (fun _ _ _ _ z => z)
    intro w mg fa h Y G hmg0
    obtain ⟨K, KX, c⟩ := Y
    have hmg : mg ("law" : PySem.Str) = some (.ref fa) := by
      have e : (HandSHeadRun.topDef FrH.Rw.prog 47).name = ("law" : PySem.Str) := by kernel_rfl
      rw [← e]
      exact hmg0
    obtain ⟨fd, hb, hF⟩ := FrH.facts (P := (PySem.Challenge.rw_fewestrules_k47_whole_pruned_lists_lead).prog) (w := w) KX G hmg c
    exact ⟨K, fd, FrP.spLaw K, KX, hb, fun H a ns hl _ hS => ⟨a, ns, rfl, hS, fun _ => rfl⟩, hF⟩
