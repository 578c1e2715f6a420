/- Part 1 of the proof: modelNone holds: a model that is nil, or that nobody made, answers every call with ErrNil and nothing else, for every list of calls; without conditions. -/
import Derived.WalkKit
import Derived.IntWalk
import Derived.Laws.CopyRow
import Derived.Deep.Quiet
import Derived.StillTail
import Derived.Maps.RangeRun
import Derived.Laws.OwnMore
section
namespace Go.SL

/-- A part of memory: blocks by number. -/
abbrev Hp := Nat → Option Obj
abbrev Asn := Hp → Prop

open Classical in
noncomputable def cutHp (own : Nat → Nat) (i : Nat) (h : Hp) : Hp := fun b => if own b = i then h b else none

/-- Assertions that hold of parts of memory that share no block. -/
def grp (l : List Asn) : Asn := fun h => ∃ own : Nat → Nat, ∀ (i : Nat) (A : Asn), l[i]? = some A → A (cutHp own i h)

def emp : Asn := fun _ => True
def pt (b : Nat) (o : Obj) : Asn := fun h => h b = some o
def updHp (h : Hp) (b : Nat) (o : Obj) : Hp := fun x => if x = b then some o else h x

theorem cutHp_some {own : Nat → Nat} {i b : Nat} {h : Hp} {o : Obj} (hc : cutHp own i h b = some o) : own b = i ∧ h b = some o := by
  unfold cutHp at hc
  split at hc
  · exact ⟨‹_›, hc⟩
  · cases hc

theorem grp_pt {l : List Asn} {h : Hp} (hg : grp l h) {i b : Nat} {o : Obj} (hi : l[i]? = some (pt b o)) : h b = some o := by
  obtain ⟨own, H⟩ := hg
  exact (cutHp_some (H i _ hi)).2

theorem grp_ne {l : List Asn} {h : Hp} (hg : grp l h) {i j b c : Nat} {o u : Obj} (hi : l[i]? = some (pt b o)) (hj : l[j]? = some (pt c u)) (hne : i ≠ j) : b ≠ c := by
  obtain ⟨own, H⟩ := hg
  have h1 := (cutHp_some (H i _ hi)).1
  have h2 := (cutHp_some (H j _ hj)).1
  intro e
  subst e
  exact hne (h1.symm.trans h2)

/-- One assertion is turned together with the part of memory that it owns. -/
theorem grp_upd {l : List Asn} {h h' : Hp} {i : Nat} {A' : Asn} (hg : grp l h) (hl : i < l.length)
    (hA : ∀ own : Nat → Nat, (∀ A, l[i]? = some A → A (cutHp own i h)) → (∀ x, own x ≠ i → h' x = h x) ∧ A' (cutHp own i h')) : grp (l.set i A') h' := by
  obtain ⟨own, H⟩ := hg
  obtain ⟨h1, h2⟩ := hA own (H i)
  refine ⟨own, fun j B hj => ?_⟩
  rw [List.getElem?_set] at hj
  by_cases e : i = j
  · subst e
    simp only [if_true, hl] at hj
    cases hj
    exact h2
  · rw [if_neg e] at hj
    have : cutHp own j h' = cutHp own j h := by
      funext x
      unfold cutHp
      by_cases ho : own x = j
      · rw [if_pos ho, if_pos ho]; exact h1 x (fun hh => e (hh.symm.trans ho))
      · rw [if_neg ho, if_neg ho]
    rw [this]; exact H j B hj

theorem lt_of_get {α : Type _} {l : List α} {i : Nat} {x : α} (h : l[i]? = some x) : i < l.length := by
  rcases Nat.lt_or_ge i l.length with g | g
  · exact g
  · rw [List.getElem?_eq_none g] at h; cases h

theorem grp_set_pt {l : List Asn} {h : Hp} (hg : grp l h) {i b : Nat} {o o' : Obj} (hi : l[i]? = some (pt b o)) : grp (l.set i (pt b o')) (updHp h b o') := by
  refine grp_upd hg (lt_of_get hi) fun own ho => ?_
  have := (cutHp_some (ho _ hi)).1
  refine ⟨fun x hx => ?_, ?_⟩
  · unfold updHp; rw [if_neg]; intro e; subst e; exact hx this
  · unfold pt cutHp updHp; rw [if_pos this, if_pos rfl]

theorem grp_conseq {l : List Asn} {h : Hp} (hg : grp l h) {i : Nat} {A A' : Asn} (hi : l[i]? = some A) (himp : ∀ g, A g → A' g) : grp (l.set i A') h :=
  grp_upd hg (lt_of_get hi) fun _ ho => ⟨fun _ _ => rfl, himp _ (ho _ hi)⟩

theorem grp_ex {α : Sort _} {l : List Asn} {h : Hp} (hg : grp l h) {i : Nat} {A : α → Asn} (hi : l[i]? = some (fun g => ∃ x, A x g)) : ∃ x, grp (l.set i (A x)) h := by
  obtain ⟨own, H⟩ := hg
  obtain ⟨x, hx⟩ := H i _ hi
  refine ⟨x, own, fun j B hj => ?_⟩
  rw [List.getElem?_set] at hj
  by_cases e : i = j
  · subst e
    simp only [if_true, lt_of_get hi] at hj
    cases hj
    exact hx
  · rw [if_neg e] at hj
    exact H j B hj

theorem grp_pure {l : List Asn} {h : Hp} (hg : grp l h) {i : Nat} {A : Asn} {p : Prop} (hi : l[i]? = some A) (himp : ∀ g, A g → p) : p := by
  obtain ⟨own, H⟩ := hg
  exact himp _ (H i _ hi)

/-- A new block. -/
theorem grp_new {l : List Asn} {h : Hp} (hg : grp l h) {b : Nat} {o : Obj} (hb : h b = none) : grp (l ++ [pt b o]) (updHp h b o) := by
  obtain ⟨own, H⟩ := hg
  refine ⟨fun x => if x = b then l.length else if own x = l.length then l.length + 1 else own x, fun j B hj => ?_⟩
  rcases Nat.lt_trichotomy j l.length with g | g | g
  · rw [List.getElem?_append_left g] at hj
    have : cutHp (fun x => if x = b then l.length else if own x = l.length then l.length + 1 else own x) j (updHp h b o) = cutHp own j h := by
      funext x
      unfold cutHp updHp
      by_cases hx : x = b
      · subst hx
        simp only [if_true]
        rw [if_neg (by omega), hb]
        split <;> rfl
      · simp only [if_neg hx]
        by_cases ho : own x = l.length
        · simp only [if_pos ho]; rw [if_neg (by omega), if_neg (by omega)]
        · simp only [if_neg ho]
    rw [this]; exact H j B hj
  · subst g
    simp at hj
    subst hj
    unfold pt cutHp updHp
    simp
  · rw [List.getElem?_eq_none (by simp; omega)] at hj
    cases hj

/-- Some of the assertions, in whatever order; the others are let go. -/
def pick (l : List Asn) (is : List Nat) : List Asn := is.map fun i => (l[i]?).getD emp

theorem grp_pick {l : List Asn} {h : Hp} (hg : grp l h) (is : List Nat) (hn : is.Nodup) : grp (pick l is) h := by
  obtain ⟨own, H⟩ := hg
  refine ⟨fun x => is.idxOf (own x), fun j B hj => ?_⟩
  unfold pick at hj
  rw [List.getElem?_map] at hj
  cases hi : is[j]? with
  | none => rw [hi] at hj; cases hj
  | some i =>
    rw [hi] at hj
    simp only [Option.map_some, Option.some.injEq] at hj
    have hjl : j < is.length := lt_of_get hi
    have hgi : is[j] = i := by rw [List.getElem?_eq_getElem hjl] at hi; exact Option.some.inj hi
    have hc : cutHp (fun x => is.idxOf (own x)) j h = cutHp own i h := by
      funext x
      unfold cutHp
      by_cases ho : own x = i
      · rw [if_pos ho, if_pos]
        show is.idxOf (own x) = j
        have hm : is.idxOf (own x) < is.length := List.idxOf_lt_length_iff.2 (by rw [ho, ← hgi]; exact List.getElem_mem hjl)
        have h2 := List.getElem_idxOf hm
        exact (List.getElem_inj hn).1 (h2.trans (ho.trans hgi.symm))
      · rw [if_neg ho, if_neg]
        intro e
        apply ho
        replace e : is.idxOf (own x) = j := e
        have hmem : is.idxOf (own x) < is.length := by rw [e]; exact hjl
        have := List.getElem_idxOf hmem
        rw [← this]
        simp only [e]; exact hgi
    rw [hc]
    cases hl : l[i]? with
    | none => rw [hl] at hj; simp at hj; subst hj; trivial
    | some A => rw [hl] at hj; simp at hj; subst hj; exact H i A hl

/-- What is owned together, apart: the group at i is let go of as one, its parts stand at the end. -/
theorem grp_open {l l2 : List Asn} {h : Hp} (hg : grp l h) {i : Nat} (hi : l[i]? = some (grp l2)) : grp (l.set i emp ++ l2) h := by
  obtain ⟨own, H⟩ := hg
  obtain ⟨own2, H2⟩ := H i _ hi
  have hil := lt_of_get hi
  refine ⟨fun x => if own x = i then l.length + own2 x else if own x < l.length then own x else i, fun j B hj => ?_⟩
  rcases Nat.lt_or_ge j l.length with g | g
  · rw [List.getElem?_append_left (by simpa using g)] at hj
    rw [List.getElem?_set] at hj
    by_cases e : i = j
    · subst e; simp only [if_true, hil] at hj; cases hj; trivial
    · rw [if_neg e] at hj
      have : cutHp (fun x => if own x = i then l.length + own2 x else if own x < l.length then own x else i) j h = cutHp own j h := by
        funext x
        unfold cutHp
        by_cases h1 : own x = i
        · simp only [if_pos h1]; rw [if_neg (by omega), if_neg (by omega)]
        · simp only [if_neg h1]
          by_cases h2 : own x < l.length
          · simp only [if_pos h2]
          · simp only [if_neg h2]; rw [if_neg e, if_neg (by omega)]
      rw [this]; exact H j B hj
  · rw [List.getElem?_append_right (by simpa using g)] at hj
    simp only [List.length_set] at hj
    have : cutHp (fun x => if own x = i then l.length + own2 x else if own x < l.length then own x else i) j h = cutHp own2 (j - l.length) (cutHp own i h) := by
      funext x
      unfold cutHp
      by_cases h1 : own x = i
      · simp only [if_pos h1]
        by_cases h2 : own2 x = j - l.length
        · rw [if_pos (by omega), if_pos h2]
        · rw [if_neg (by omega), if_neg h2]
      · simp only [if_neg h1]
        have : ¬ (if own x < l.length then own x else i) = j := by split <;> omega
        rw [if_neg this]
        split <;> rfl
    rw [this]; exact H2 _ B hj

/-- The last ones, owned together. -/
theorem grp_close {l l2 : List Asn} {h : Hp} (hg : grp (l ++ l2) h) : grp (l ++ [grp l2]) h := by
  obtain ⟨own, H⟩ := hg
  refine ⟨fun x => if own x < l.length then own x else l.length, fun j B hj => ?_⟩
  rcases Nat.lt_trichotomy j l.length with g | g | g
  · rw [List.getElem?_append_left g] at hj
    have : cutHp (fun x => if own x < l.length then own x else l.length) j h = cutHp own j h := by
      funext x
      unfold cutHp
      by_cases h1 : own x < l.length
      · simp only [if_pos h1]
      · simp only [if_neg h1]; rw [if_neg (by omega), if_neg (by omega)]
    rw [this]; exact H j B (by rw [List.getElem?_append_left g]; exact hj)
  · subst g
    simp at hj
    subst hj
    refine ⟨fun x => own x - l.length, fun k C hk => ?_⟩
    have : cutHp (fun x => own x - l.length) k (cutHp (fun x => if own x < l.length then own x else l.length) l.length h) = cutHp own (l.length + k) h := by
      funext x
      unfold cutHp
      by_cases h1 : own x < l.length
      · simp only [if_pos h1]
        rw [if_neg (show ¬ own x = l.length from by omega), if_neg (show ¬ own x = l.length + k from by omega)]
        split <;> rfl
      · simp only [if_neg h1, if_true]
        by_cases h2 : own x - l.length = k
        · rw [if_pos h2, if_pos (by omega)]
        · rw [if_neg h2, if_neg (by omega)]
    rw [this]
    exact H _ C (by rw [List.getElem?_append_right (by omega)]; simpa using hk)
  · rw [List.getElem?_eq_none (by simp; omega)] at hj
    cases hj

theorem grp_comm {A B : List Asn} {h : Hp} (hg : grp (A ++ B) h) : grp (B ++ A) h := by
  obtain ⟨own, H⟩ := hg
  refine ⟨fun x => if own x < A.length then own x + B.length else if own x < A.length + B.length then own x - A.length else own x, fun j X hj => ?_⟩
  have key : ∀ q, (∀ x, (if own x < A.length then own x + B.length else if own x < A.length + B.length then own x - A.length else own x) = j ↔ own x = q) → (A ++ B)[q]? = some X →
      X (cutHp (fun x => if own x < A.length then own x + B.length else if own x < A.length + B.length then own x - A.length else own x) j h) := fun q hq hX => by
    have := H q X hX
    have e : cutHp (fun x => if own x < A.length then own x + B.length else if own x < A.length + B.length then own x - A.length else own x) j h = cutHp own q h := by
      funext x; unfold cutHp
      by_cases h1 : own x = q
      · rw [if_pos h1, if_pos ((hq x).2 h1)]
      · rw [if_neg h1, if_neg (fun h2 => h1 ((hq x).1 h2))]
    rw [e]; exact this
  rcases Nat.lt_or_ge j B.length with g | g
  · rw [List.getElem?_append_left g] at hj
    refine key (A.length + j) (fun x => ?_) (by rw [List.getElem?_append_right (by omega)]; simpa using hj)
    by_cases h1 : own x < A.length
    · rw [if_pos h1]; omega
    · rw [if_neg h1]
      by_cases h2 : own x < A.length + B.length
      · rw [if_pos h2]; omega
      · rw [if_neg h2]; omega
  · rw [List.getElem?_append_right g] at hj
    have hl := lt_of_get hj
    refine key (j - B.length) (fun x => ?_) (by rw [List.getElem?_append_left hl]; exact hj)
    by_cases h1 : own x < A.length
    · rw [if_pos h1]; omega
    · rw [if_neg h1]
      by_cases h2 : own x < A.length + B.length
      · rw [if_pos h2]; omega
      · rw [if_neg h2]; omega

/-- One of them to the front. -/
theorem grp_bring {l : List Asn} {h : Hp} (hg : grp l h) {i : Nat} {A : Asn} (hi : l[i]? = some A) : grp (A :: l.eraseIdx i) h := by
  obtain ⟨own, H⟩ := hg
  refine ⟨fun x => if own x = i then 0 else if own x < i then own x + 1 else own x, fun j X hj => ?_⟩
  have key : ∀ q, (∀ x, (if own x = i then 0 else if own x < i then own x + 1 else own x) = j → own x = q ∨ own x = 0 ∧ j = 0 ∧ q = i) → (∀ x, own x = q → (if own x = i then 0 else if own x < i then own x + 1 else own x) = j) → l[q]? = some X →
      (∀ x, own x = 0 → j = 0 → q = i → i = 0 ∨ (if own x = i then 0 else if own x < i then own x + 1 else own x) ≠ j) →
      X (cutHp (fun x => if own x = i then 0 else if own x < i then own x + 1 else own x) j h) := fun q h1 h2 hX h3 => by
    have := H q X hX
    have e : cutHp (fun x => if own x = i then 0 else if own x < i then own x + 1 else own x) j h = cutHp own q h := by
      funext x; unfold cutHp
      by_cases h4 : own x = q
      · rw [if_pos h4, if_pos (h2 x h4)]
      · rw [if_neg h4, if_neg fun h5 => ?_]
        rcases h1 x h5 with h6 | ⟨h6, h7, h8⟩
        · exact h4 h6
        · rcases h3 x h6 h7 h8 with h9 | h9
          · omega
          · exact h9 h5
    rw [e]; exact this
  cases j with
  | zero =>
    simp at hj; subst hj
    refine key i (fun x hx => ?_) (fun x hx => by rw [if_pos hx]) hi (fun x h1 _ _ => ?_)
    · by_cases h1 : own x = i
      · exact .inl h1
      · rw [if_neg h1] at hx
        by_cases h2 : own x < i
        · rw [if_pos h2] at hx; omega
        · rw [if_neg h2] at hx; omega
    · by_cases h2 : i = 0
      · exact .inl h2
      · right; rw [if_neg (by omega), if_pos (by omega)]; omega
  | succ j =>
    simp only [List.getElem?_cons_succ, List.getElem?_eraseIdx] at hj
    by_cases hji : j < i
    · rw [if_pos hji] at hj
      refine key j (fun x hx => .inl ?_) (fun x hx => ?_) hj (fun x _ h0 => by omega)
      · by_cases h1 : own x = i
        · rw [if_pos h1] at hx; omega
        · rw [if_neg h1] at hx
          by_cases h2 : own x < i
          · rw [if_pos h2] at hx; omega
          · rw [if_neg h2] at hx; omega
      · rw [if_neg (by omega), if_pos (by omega)]; omega
    · rw [if_neg hji] at hj
      refine key (j + 1) (fun x hx => .inl ?_) (fun x hx => ?_) hj (fun x _ h0 => by omega)
      · by_cases h1 : own x = i
        · rw [if_pos h1] at hx; omega
        · rw [if_neg h1] at hx
          by_cases h2 : own x < i
          · rw [if_pos h2] at hx; omega
          · rw [if_neg h2] at hx; omega
      · rw [if_neg (by omega), if_neg (by omega)]; omega

theorem grp_nil {h : Hp} : grp [] h := ⟨fun _ => 0, fun _ _ hi => by simp at hi⟩

/-- The streams stand, the heap has not shrunk. -/
structure Keep (w0 w : World) : Prop where
  os : w.os = w0.os
  tape : w.tape = w0.tape
  output : w.output = w0.output
  size : w0.heap.size ≤ w.heap.size

def hpOf (w : World) : Hp := fun b => w.heap[b]?

/-- WHAT HOLDS OF A WORLD: the assertions of the list, each of blocks of its own; else as 'Keep' says. -/
def Sat (w0 w : World) (l : List Asn) : Prop := Keep w0 w ∧ grp l (hpOf w)

/-- All that there was is as it was. -/
def old (w0 : World) : Asn := fun h => ∀ b, b < w0.heap.size → h b = w0.heap[b]?

theorem Keep.refl (w : World) : Keep w w := ⟨rfl, rfl, rfl, Nat.le_refl _⟩

theorem Sat.start (w : World) : Sat w w [old w] := by
  refine ⟨Keep.refl w, fun _ => 0, fun i A hi => ?_⟩
  cases i with
  | zero => simp at hi; subst hi; intro b hb; rfl
  | succ n => simp at hi

section
variable {w0 w : World} {l : List Asn}

theorem Sat.block (h : Sat w0 w l) {i b : Nat} {o : Obj} (hi : l[i]? = some (pt b o)) : w.heap[b]? = some o := grp_pt h.2 hi
theorem Sat.ne (h : Sat w0 w l) {i j b c : Nat} {o u : Obj} (hi : l[i]? = some (pt b o)) (hj : l[j]? = some (pt c u)) (hne : i ≠ j) : b ≠ c := grp_ne h.2 hi hj hne
theorem Sat.conseq (h : Sat w0 w l) {i : Nat} {A A' : Asn} (hi : l[i]? = some A) (himp : ∀ g, A g → A' g) : Sat w0 w (l.set i A') := ⟨h.1, grp_conseq h.2 hi himp⟩
theorem Sat.ex {α : Sort _} (h : Sat w0 w l) {i : Nat} {A : α → Asn} (hi : l[i]? = some (fun g => ∃ x, A x g)) : ∃ x, Sat w0 w (l.set i (A x)) :=
  let ⟨x, hx⟩ := grp_ex h.2 hi; ⟨x, h.1, hx⟩
theorem Sat.pure (h : Sat w0 w l) {i : Nat} {A : Asn} {p : Prop} (hi : l[i]? = some A) (himp : ∀ g, A g → p) : p := grp_pure h.2 hi himp
theorem Sat.pick (h : Sat w0 w l) (is : List Nat) (hn : is.Nodup) : Sat w0 w (SL.pick l is) := ⟨h.1, grp_pick h.2 is hn⟩
theorem Sat.unfold (h : Sat w0 w l) {i : Nat} {A : Asn} {l2 : List Asn} (hi : l[i]? = some A) (himp : ∀ g, A g → grp l2 g) : Sat w0 w (l.set i emp ++ l2) := by
  have h2 := grp_conseq h.2 hi himp
  have := grp_open h2 (i := i) (l2 := l2) (by rw [List.getElem?_set_self (lt_of_get hi)])
  rw [List.set_set] at this
  exact ⟨h.1, this⟩
theorem Sat.fold {l2 : List Asn} {A : Asn} (h : Sat w0 w (l ++ l2)) (himp : ∀ g, grp l2 g → A g) : Sat w0 w (l ++ [A]) := by
  have := grp_conseq (grp_close h.2) (i := l.length) (A := grp l2) (A' := A) (by simp) himp
  simp at this
  exact ⟨h.1, this⟩

theorem Sat.drew (h : Sat w0 w l) : Sat w0 w.drew l := ⟨⟨h.1.os, h.1.tape, h.1.output, h.1.size⟩, h.2⟩

theorem hpOf_alloc (w : World) (o : Obj) : hpOf (w.alloc o) = updHp (hpOf w) w.heap.size o := by
  funext x
  unfold hpOf updHp World.alloc
  simp only [Array.getElem?_push]

theorem Sat.alloc (h : Sat w0 w l) (o : Obj) : Sat w0 (w.alloc o) (l ++ [pt w.heap.size o]) := by
  refine ⟨⟨h.1.os, h.1.tape, h.1.output, by have := h.1.size; simp; omega⟩, ?_⟩
  rw [hpOf_alloc]
  exact grp_new h.2 (by simp [hpOf])

theorem hpOf_setBlock (w : World) (b : Nat) (o o' : Obj) (hb : w.heap[b]? = some o) : hpOf (Go.ChangeMaps.setBlock w b o') = updHp (hpOf w) b o' := by
  funext x
  unfold hpOf updHp Go.ChangeMaps.setBlock
  simp only [Array.getElem?_setIfInBounds]
  by_cases e : x = b
  · subst e
    have : x < w.heap.size := by
      rcases Nat.lt_or_ge x w.heap.size with g | g
      · exact g
      · simp [Array.getElem?_eq_none g] at hb
    simp [this]
  · simp [e, Ne.symm e]

theorem Sat.setBlock (h : Sat w0 w l) {i b : Nat} {o : Obj} (hi : l[i]? = some (pt b o)) (o' : Obj) : Sat w0 (Go.ChangeMaps.setBlock w b o') (l.set i (pt b o')) := by
  refine ⟨⟨h.1.os, h.1.tape, h.1.output, by have := h.1.size; simpa [Go.ChangeMaps.setBlock] using this⟩, ?_⟩
  rw [hpOf_setBlock w b o o' (h.block hi)]
  exact grp_set_pt h.2 hi

theorem hpOf_setCell (w : World) (b k : Nat) (v : Value) (cs : Array Value) (T : TypeId) (fz : Nat × Nat) (hb : w.heap[b]? = some (.cells cs T fz)) :
    hpOf (w.setCell ⟨b, k, none⟩ v) = updHp (hpOf w) b (.cells (cs.setIfInBounds k v) T fz) := by
  funext x
  unfold hpOf updHp World.setCell
  simp only [Array.getElem?_modify]
  by_cases e : x = b
  · subst e; simp [hb]
  · rw [if_neg e, if_neg (Ne.symm e)]

theorem Sat.setCell (h : Sat w0 w l) {i b : Nat} {cs : Array Value} {T : TypeId} {fz : Nat × Nat} (hi : l[i]? = some (pt b (.cells cs T fz))) (k : Nat) (v : Value) :
    Sat w0 (w.setCell ⟨b, k, none⟩ v) (l.set i (pt b (.cells (cs.setIfInBounds k v) T fz))) := by
  refine ⟨⟨h.1.os, h.1.tape, h.1.output, by have := h.1.size; simpa using this⟩, ?_⟩
  rw [hpOf_setCell w b k v cs T fz (h.block hi)]
  exact grp_set_pt h.2 hi

theorem Sat.cell (h : Sat w0 w l) {i b k : Nat} {cs : Array Value} {T : TypeId} {fz : Nat × Nat} {v : Value} (hi : l[i]? = some (pt b (.cells cs T fz))) (hk : cs[k]? = some v) :
    w.cell? ⟨b, k, none⟩ = some v := by
  unfold World.cell?
  simp [h.block hi, hk]

theorem Sat.frozen (h : Sat w0 w l) {i b k : Nat} {cs : Array Value} {T : TypeId} (hi : l[i]? = some (pt b (.cells cs T (0, 0)))) : w.frozen? ⟨b, k, none⟩ = false := by
  unfold World.frozen?
  simp [h.block hi]

theorem Sat.oldBlock (h : Sat w0 w l) {i b : Nat} {w1 : World} (hi : l[i]? = some (old w1)) (hb : b < w1.heap.size) : w.heap[b]? = w1.heap[b]? := by
  obtain ⟨own, H⟩ := h.2
  have := H i _ hi b hb
  have hs : ∃ o, w1.heap[b]? = some o := ⟨w1.heap[b], by simp [hb]⟩
  obtain ⟨o, ho⟩ := hs
  rw [ho] at this ⊢
  exact (cutHp_some this).2

theorem Sat.below (h : Sat w0 w l) {i : Nat} (hi : l[i]? = some (old w0)) : RowKit.Below w0.heap.size w0 w :=
  ⟨h.1.os, h.1.tape, h.1.output, h.1.size, fun _ hb => h.oldBlock hi hb⟩

theorem Sat.comm {A B : List Asn} (h : Sat w0 w (A ++ B)) : Sat w0 w (B ++ A) := ⟨h.1, grp_comm h.2⟩
theorem Sat.rot {A : Asn} (h : Sat w0 w (l ++ [A])) : Sat w0 w (A :: l) := h.comm
theorem Sat.new (h : Sat w0 w l) (o : Obj) : Sat w0 (w.alloc o) (pt w.heap.size o :: l) := (h.alloc o).comm
/-- The one at i comes to the front. -/
theorem Sat.bring (h : Sat w0 w l) (i : Nat) {A : Asn} (hi : l[i]? = some A) : Sat w0 w (A :: l.eraseIdx i) := ⟨h.1, grp_bring h.2 hi⟩
theorem Sat.tail {A : Asn} (h : Sat w0 w (A :: l)) : Sat w0 w l := by
  have := (Sat.comm (A := [A]) (B := l) h).pick (List.range l.length) List.nodup_range
  have e : SL.pick (l ++ [A]) (List.range l.length) = l := by
    unfold SL.pick
    apply List.ext_getElem?
    intro j
    rcases Nat.lt_or_ge j l.length with g | g
    · have h1 : (l ++ [A])[j]? = some l[j] := by rw [List.getElem?_append_left g]; simp [g]
      simp [g, h1]
    · simp [g]
  rwa [e] at this
/-- The first one into its parts; the first ones as one. -/
theorem Sat.openH {C : Asn} (As : List Asn) (h : Sat w0 w (C :: l)) (himp : ∀ g, C g → grp As g) : Sat w0 w (As ++ l) := by
  have := h.unfold (i := 0) (l2 := As) rfl himp
  exact (Sat.tail (A := emp) this).comm
theorem Sat.closeH {C : Asn} (As : List Asn) (h : Sat w0 w (As ++ l)) (himp : ∀ g, grp As g → C g) : Sat w0 w (C :: l) := by
  have := Sat.fold h.comm himp
  exact this.rot
theorem Sat.weakH {C D : Asn} (h : Sat w0 w (C :: l)) (himp : ∀ g, C g → D g) : Sat w0 w (D :: l) := h.conseq (i := 0) rfl himp
theorem Sat.exH {α : Sort _} {F : α → Asn} (h : Sat w0 w ((fun g => ∃ x, F x g) :: l)) : ∃ x, Sat w0 w (F x :: l) := h.ex (i := 0) rfl
theorem Sat.pureH {C : Asn} {p : Prop} (h : Sat w0 w (C :: l)) (himp : ∀ g, C g → p) : p := h.pure (i := 0) rfl himp
end
end Go.SL
end

section
namespace Go.SL

/-! ## Frames as functions -/

def upd (f : Nat → Value) (d : Nat) (v : Value) : Nat → Value := fun x => bif Nat.beq x d then v else f x

theorem upd_same (f : Nat → Value) (d : Nat) (v : Value) : upd f d v d = v := by simp [upd]
theorem upd_other (f : Nat → Value) (d x : Nat) (v : Value) (h : x ≠ d) : upd f d v x = f x := by
  have : Nat.beq x d = false := by cases hb : Nat.beq x d with
    | false => rfl
    | true => exact absurd (Nat.eq_of_beq_eq_true hb) h
  simp [upd, this]
theorem upd_self (f : Nat → Value) (d : Nat) (v : Value) (h : f d = v) : upd f d v = f := by
  funext x
  by_cases e : x = d
  · subst e; rw [upd_same, h]
  · rw [upd_other _ _ _ _ e]

/-- The frame of n slots whose slot t holds 'f t'. -/
def fr (n : Nat) (f : Nat → Value) : Act := ⟨Array.ofFn fun i : Fin n => f i.1, []⟩

/-- What an operand is in it. -/
def ev (n : Nat) (f : Nat → Value) : Operand → Value
  | .tmp t => bif Nat.blt t n then f t else undef
  | .const v => v
  | .global g => .pointer (some ⟨g, 0, none⟩)
  | .func g => .func (.func g) #[] #[]

theorem getD_ofFn (n : Nat) (f : Nat → Value) (t : Nat) : (Array.ofFn fun i : Fin n => f i.1).getD t undef = bif Nat.blt t n then f t else undef := by
  by_cases h : t < n
  · have : Nat.blt t n = true := by simpa [Nat.blt_eq] using h
    simp [Array.getD, h, this]
  · have : Nat.blt t n = false := by
      cases hb : Nat.blt t n with
      | false => rfl
      | true => exact absurd (by simpa [Nat.blt_eq] using hb) h
    simp [Array.getD, h, this]

theorem fr_eval (n : Nat) (f : Nat → Value) : (fr n f).eval = ev n f := by
  funext x
  cases x with
  | tmp t => exact getD_ofFn n f t
  | const v => rfl
  | global g => rfl
  | func g => rfl

theorem fr_put (n : Nat) (f : Nat → Value) (d : Nat) (v : Value) : (fr n f).put (some d) v = fr n (upd f d v) := by
  unfold fr Act.put
  simp only [Act.mk.injEq, and_true]
  apply Array.ext
  · simp
  · intro i h1 h2
    simp only [Array.size_setIfInBounds, Array.size_ofFn] at h1
    rw [Array.getElem_setIfInBounds (by simpa using h1)]
    simp only [Array.getElem_ofFn]
    by_cases e : d = i
    · subst e; rw [if_pos rfl, upd_same]
    · rw [if_neg e, upd_other _ _ _ _ (Ne.symm e)]

theorem fr_put_none (n : Nat) (f : Nat → Value) (v : Value) : (fr n f).put none v = fr n f := rfl

/-- A frame of which some slots are known. -/
theorem fr_known (n : Nat) (f : Nat → Value) (d : Nat) (v : Value) (h : f d = v) : fr n f = fr n (upd f d v) := by rw [upd_self f d v h]

/-! ## Tables of the program -/

def Callable (P : Program) (F : FuncId) : Prop := ∃ fn, P.funcs[F]? = some fn ∧ (fn.name == "runtime.NumGoroutine") = false ∧ fn.body.isNone = false

structure Tab where
  u : Nat → Option TypeDesc
  sz : Nat → Option Nat
  zero : Nat → Option Value
  bytes : Nat → Option Nat
  fn : Nat → Bool

structure TabOk (P : Program) (tb : Tab) : Prop where
  u : ∀ t d, tb.u t = some d → P.underlying t = some d
  sz : ∀ t n, tb.sz t = some n → (P.info? t).map (·.size) = some n
  zero : ∀ t z, tb.zero t = some z → (P.info? t).map (·.zero) = some (some z)
  bytes : ∀ t n, tb.bytes t = some n → (P.info? t).map (·.bytes) = some n
  fn : ∀ F, tb.fn F = true → Callable P F

section
variable {P : Program} {tb : Tab} (ok : TabOk P tb)
include ok

theorem run_u {t : Nat} {d : TypeDesc} (h : tb.u t = some d) (w : World) : (underlying t).run P w = .ok d w := by
  simp [underlying, program, Sem.run, ok.u t d h]
theorem run_sz {t n : Nat} (h : tb.sz t = some n) (w : World) : (sizeOf t).run P w = .ok n w := by
  have := ok.sz t n h
  cases hi : P.info? t with
  | none => rw [hi] at this; cases this
  | some i => rw [hi] at this; simp at this; simp [sizeOf, typeInfo, program, Sem.run, hi, this]
theorem run_zero {t : Nat} {z : Value} (h : tb.zero t = some z) (w : World) : (zeroValue t).run P w = .ok z w := by
  have := ok.zero t z h
  cases hi : P.info? t with
  | none => rw [hi] at this; cases this
  | some i => rw [hi] at this; simp at this; simp [zeroValue, typeInfo, program, Sem.run, hi, this]

/-- Is it a struct or an array? -/
def aggT : TypeDesc → Bool
  | .struct _ | .array _ _ => true
  | _ => false

theorem run_isAgg {t : Nat} {d : TypeDesc} (h : tb.u t = some d) (w : World) : (isAgg t).run P w = .ok (aggT d) w := by
  unfold isAgg
  rw [Sem.run_bind, run_u ok h]
  cases d <;> rfl

/-! ## Operations that only compute -/

def partOf (tb : Tab) (t : Nat) (cs : Array Value) (off : Nat) : Option Value :=
  match tb.u t with
  | some (.struct _) | some (.array _ _) => match tb.sz t with
    | some n => some (.agg (cs.extract off (off + n)))
    | none => none
  | some _ => cs[off]?
  | none => none

theorem run_part {t : Nat} {cs : Array Value} {off : Nat} {v : Value} (h : partOf tb t cs off = some v) (w : World) : (part t cs off).run P w = .ok v w := by
  unfold partOf at h
  unfold part
  rw [Sem.run_bind]
  cases hd : tb.u t with
  | none => rw [hd] at h; cases h
  | some d =>
    rw [run_isAgg ok hd]
    rw [hd] at h
    by_cases ha : aggT d = true
    · have hs : ∃ n, tb.sz t = some n ∧ v = .agg (cs.extract off (off + n)) := by
        cases d <;> simp [aggT] at ha <;> (simp only at h; split at h <;> simp_all)
      obtain ⟨n, hn, rfl⟩ := hs
      simp [ha, run_sz ok hn]
    · have : cs[off]? = some v := by
        cases d <;> simp [aggT] at ha <;> simpa using h
      have ha' : aggT d = false := by simpa using ha
      simp [ha', this]

end

def evalInt (op : BinOp) (k : IntKind) (x y : Int) : Option Value :=
  match op with
  | .add => some (.int k (k.wrap (x + y)))
  | .sub => some (.int k (k.wrap (x - y)))
  | .mul => some (.int k (k.wrap (x * y)))
  | .eql => some (.bool (decide (x = y)))
  | .neq => some (.bool (decide (x ≠ y)))
  | .lss => some (.bool (decide (x < y)))
  | .leq => some (.bool (decide (x ≤ y)))
  | .gtr => some (.bool (decide (y < x)))
  | .geq => some (.bool (decide (y ≤ x)))
  | .and => some (.int k (k.wrap (BitVec.ofInt k.bits x &&& BitVec.ofInt k.bits y).toNat))
  | .or => some (.int k (k.wrap (BitVec.ofInt k.bits x ||| BitVec.ofInt k.bits y).toNat))
  | .andNot => some (.int k (k.wrap (BitVec.ofInt k.bits x &&& ~~~(BitVec.ofInt k.bits y)).toNat))
  | _ => none

def evalStr (op : BinOp) (x y : ByteArray) : Option Value :=
  match op with
  | .eql => some (.bool (decide (x = y)))
  | .neq => some (.bool (decide (x ≠ y)))
  | _ => none

def intOp (k : IntKind) : IntKind → Bool := fun k' => match k, k' with
  | .i64, .i64 | .u16, .u16 | .u8, .u8 | .u32, .u32 | .u64, .u64 | .i32, .i32 | .i16, .i16 | .i8, .i8 => true
  | _, _ => false

theorem intOp_eq {k k' : IntKind} (h : intOp k k' = true) : k = k' := by cases k <;> cases k' <;> simp_all [intOp]

def evalEq (op : BinOp) (b : Bool) : Option Value :=
  match op with
  | .eql => some (.bool b)
  | .neq => some (.bool (!b))
  | _ => none

def evalBin (op : BinOp) (x y : Value) : Option Value :=
  match x, y with
  | .int k a, .int k' b => bif intOp k k' then evalInt op k a b else none
  | .string a, .string b => evalStr op a b
  | .pointer none, .pointer none => evalEq op true
  | .pointer (some _), .pointer none => evalEq op false
  | .pointer none, .pointer (some _) => evalEq op false
  | .slice none _ _, .slice none _ _ => evalEq op true
  | .slice (some _) _ _, .slice none _ _ => evalEq op false
  | .map none, .map none => evalEq op true
  | .map (some _), .map none => evalEq op false
  | .bool a, .bool b => evalEq op (a == b)
  | _, _ => none

/-- What the type of a comparison must be. -/
def binTy (tb : Tab) (t : Nat) (x : Value) : Bool :=
  match x, tb.u t with
  | .int _ _, _ => true
  | .string _, _ => true
  | .pointer _, some (.pointer _) => true
  | .slice _ _ _, some (.slice _) => true
  | .map _, some (.map _ _) => true
  | .bool _, some .bool => true
  | _, _ => false

theorem int_beq (a b : Int) : (a == b) = decide (a = b) := by rw [Bool.eq_iff_iff]; simp

theorem run_intOp {P : Program} (op : BinOp) (t : Nat) (k : IntKind) (a b : Int) {v : Value} (h : evalInt op k a b = some v) (w : World) : (binOp op t (.int k a) (.int k b)).run P w = .ok v w := by
  cases op <;> simp only [evalInt, Option.some.injEq, reduceCtorEq] at h <;> subst h <;> simp [binOp, Op.intArith, Op.intCmp, Op.intBits, bne, int_beq]

theorem toList_inj {a b : ByteArray} : (a.toList == b.toList) = decide (a = b) := by
  rw [Bool.eq_iff_iff]
  simp only [beq_iff_eq, decide_eq_true_eq, ByteArray.toList_eq]
  constructor
  · intro h
    cases a; cases b; simp_all
  · intro h; rw [h]

theorem run_strOp {P : Program} (op : BinOp) (t : Nat) (a b : ByteArray) {v : Value} (h : evalStr op a b = some v) (w : World) : (binOp op t (.string a) (.string b)).run P w = .ok v w := by
  cases op <;> simp only [evalStr, Option.some.injEq, reduceCtorEq] at h <;> subst h <;> simp [binOp, Op.stringOp, toList_inj]

theorem run_evalEq {P : Program} {op : BinOp} {t : Nat} {x y v : Value} {b : Bool} (h : evalEq op b = some v) (he : ∀ d w, (Op.equalIn (d + 1) t x y).run P w = .ok b w) (w : World)
    (hx : binOp .eql t x y = (do pure (.bool (← Op.equal t x y)))) (hy : binOp .neq t x y = (do pure (.bool (!(← Op.equal t x y))))) :
    (binOp op t x y).run P w = .ok v w := by
  have h1 : (Op.equal t x y).run P w = .ok b w := he 9999 w
  clear he
  cases op <;> simp only [evalEq, Option.some.injEq, reduceCtorEq] at h
  · subst h; rw [hx, Sem.run_bind, h1]; rfl
  · subst h; rw [hy, Sem.run_bind, h1]; rfl

theorem binTy_ptr {tb : Tab} {t : Nat} {a : Option Addr} (h : binTy tb t (.pointer a) = true) : ∃ e, tb.u t = some (.pointer e) := by
  unfold binTy at h; split at h <;> first | (cases h; done) | simp_all
theorem binTy_slice {tb : Tab} {t : Nat} {a : Option Addr} {n m : Nat} (h : binTy tb t (.slice a n m) = true) : ∃ e, tb.u t = some (.slice e) := by
  unfold binTy at h; split at h <;> first | (cases h; done) | simp_all
theorem binTy_map {tb : Tab} {t : Nat} {a : Option Nat} (h : binTy tb t (.map a) = true) : ∃ k e, tb.u t = some (.map k e) := by
  unfold binTy at h; split at h <;> first | (cases h; done) | simp_all
theorem binTy_bool {tb : Tab} {t : Nat} {a : Bool} (h : binTy tb t (.bool a) = true) : tb.u t = some .bool := by
  unfold binTy at h; split at h <;> first | (cases h; done) | simp_all

section
variable {P : Program} {tb : Tab} (ok : TabOk P tb)
include ok
theorem run_bin {op : BinOp} {t : Nat} {x y v : Value} (h : evalBin op x y = some v) (ht : binTy tb t x = true) (w : World) : (binOp op t x y).run P w = .ok v w := by
  unfold evalBin at h
  split at h
  · rename_i k a k' b
    cases hk : intOp k k' with
    | false => rw [hk] at h; cases h
    | true => rw [hk] at h; obtain rfl := intOp_eq hk; exact run_intOp op t k a b h w
  · exact run_strOp op t _ _ h w
  · obtain ⟨e, hu⟩ := binTy_ptr ht
    exact run_evalEq h (fun d w => by simp only [Op.equalIn, Sem.run_bind, run_u ok hu, Result.andThen_ok]; rfl) w rfl rfl
  · obtain ⟨e, hu⟩ := binTy_ptr ht
    exact run_evalEq h (fun d w => by simp only [Op.equalIn, Sem.run_bind, run_u ok hu, Result.andThen_ok]; rfl) w rfl rfl
  · obtain ⟨e, hu⟩ := binTy_ptr ht
    exact run_evalEq h (fun d w => by simp only [Op.equalIn, Sem.run_bind, run_u ok hu, Result.andThen_ok]; rfl) w rfl rfl
  · obtain ⟨e, hu⟩ := binTy_slice ht
    exact run_evalEq h (fun d w => by simp only [Op.equalIn, Sem.run_bind, run_u ok hu, Result.andThen_ok]; rfl) w rfl rfl
  · obtain ⟨e, hu⟩ := binTy_slice ht
    exact run_evalEq h (fun d w => by simp only [Op.equalIn, Sem.run_bind, run_u ok hu, Result.andThen_ok]; rfl) w rfl rfl
  · obtain ⟨k, e, hu⟩ := binTy_map ht
    exact run_evalEq h (fun d w => by simp only [Op.equalIn, Sem.run_bind, run_u ok hu, Result.andThen_ok]; rfl) w rfl rfl
  · obtain ⟨k, e, hu⟩ := binTy_map ht
    exact run_evalEq h (fun d w => by simp only [Op.equalIn, Sem.run_bind, run_u ok hu, Result.andThen_ok]; rfl) w rfl rfl
  · have hu := binTy_bool ht
    exact run_evalEq h (fun d w => by simp only [Op.equalIn, Sem.run_bind, run_u ok hu, Result.andThen_ok]; rfl) w rfl rfl
  · cases h
end
end Go.SL
end

section
namespace Go.SL

def minV : Option Value → Value → Option Value
  | some (.int k x), .int _ y => some (.int k (min x y))
  | _, _ => none
def maxV : Option Value → Value → Option Value
  | some (.int k x), .int _ y => some (.int k (max x y))
  | _, _ => none
def foldV (g : Option Value → Value → Option Value) : List Value → Option Value
  | [] => none
  | x :: rest => rest.foldl g (some x)

def evalLen (tb : Tab) (t : Nat) (x : Value) : Option Value :=
  match tb.u t, x with
  | some .string, .string s => some (.int .i64 s.size)
  | some (.slice _), .slice _ n _ => some (.int .i64 n)
  | some (.array n _), _ => some (.int .i64 n)
  | _, _ => none

def evalCall (tb : Tab) (ρ : Operand → Value) (c : Call) : Option Value :=
  match c.callee with
  | .builtin .len => match c.argTypes[0]?, c.args[0]? with
    | some t, some x => evalLen tb t (ρ x)
    | _, _ => none
  | .builtin .min => foldV minV (c.args.toList.map ρ)
  | .builtin .max => foldV maxV (c.args.toList.map ρ)
  | _ => none

def evalField (tb : Tab) (s : Nat) (x : Value) (i : Nat) : Option Value :=
  match tb.u s, x with
  | some (.struct fs), .agg cs => match fs[i]? with
    | some f => partOf tb f.type cs f.offset
    | none => none
  | _, _ => none

def evalFieldAddr (tb : Tab) (s : Nat) (x : Value) (i : Nat) : Option Value :=
  match tb.u s, x with
  | some (.struct fs), .pointer (some ⟨b, k, none⟩) => match fs[i]? with
    | some f => match tb.sz f.type with
      | some (_ + 1) => some (.pointer (some ⟨b, k + f.offset, none⟩))
      | _ => none
    | none => none
  | _, _ => none

def evalConv (tb : Tab) (src dst : Nat) (x : Value) : Option Value :=
  match tb.u src, tb.u dst, x with
  | some _, some (.int k), .int _ n => some (.int k (k.wrap n))
  | some _, some .string, .string s => some (.string s)
  | _, _, _ => none

def evalNil : Value → Option Value
  | .pointer (some a) => some (.pointer (some a))
  | .func (.func g) f c => some (.func (.func g) f c)
  | _ => none

def evalNot : Value → Option Value
  | .bool b => some (.bool (!b))
  | _ => none
def evalNeg : Value → Option Value
  | .int k n => some (.int k (k.wrap (0 - n)))
  | _ => none
def evalExtract : Value → Nat → Option Value
  | .tuple vs, i => vs[i]?
  | _, _ => none
def evalPick : Value → Value → Value → Option Value
  | .bool true, a, _ => some a
  | .bool false, _, b => some b
  | _, _, _ => none

/-- What an operation that only computes comes to. -/
def evalOp (tb : Tab) (ρ : Operand → Value) : Op → Option Value
  | .move x => some (ρ x)
  | .assign x => some (ρ x)
  | .pick c a b => evalPick (ρ c) (ρ a) (ρ b)
  | .nilCheck x => evalNil (ρ x)
  | .binOp op t x y _ => bif binTy tb t (ρ x) then evalBin op (ρ x) (ρ y) else none
  | .unOp .not _ x => evalNot (ρ x)
  | .unOp .neg _ x => evalNeg (ρ x)
  | .convert src dst x => evalConv tb src dst (ρ x)
  | .makeFunc g first captured => some (.func g (first.map ρ) (captured.map ρ))
  | .fieldAddr s x i => evalFieldAddr tb s (ρ x) i
  | .field s x i => evalField tb s (ρ x) i
  | .extract t i => evalExtract (ρ t) i
  | .call c => evalCall tb ρ c
  | _ => none

theorem fold_min {P : Program} (w : World) : ∀ (l : List Value) (x v : Value), l.foldl minV (some x) = some v → (l.foldlM Builtin.min2 x).run P w = .ok v w := by
  intro l
  induction l with
  | nil => intro x v h; simp at h; subst h; rfl
  | cons y l ih =>
    intro x v h
    have hn : ∀ l : List Value, l.foldl minV none = none := by intro l; induction l with
      | nil => rfl
      | cons a l ih => exact ih
    simp only [List.foldl_cons] at h
    cases x <;> (try (simp only [minV, hn, reduceCtorEq] at h))
    cases y <;> (try (simp only [hn, reduceCtorEq] at h))
    rename_i k a k' b
    simp only [List.foldlM_cons, Sem.run_bind, Builtin.min2, Sem.run_pure, Result.andThen_ok]
    have e : (if b < a then b else a) = min a b := by
      rw [Int.min_def]; split <;> split <;> omega
    rw [e]; exact ih _ _ h
theorem fold_max {P : Program} (w : World) : ∀ (l : List Value) (x v : Value), l.foldl maxV (some x) = some v → (l.foldlM Builtin.max2 x).run P w = .ok v w := by
  intro l
  induction l with
  | nil => intro x v h; simp at h; subst h; rfl
  | cons y l ih =>
    intro x v h
    have hn : ∀ l : List Value, l.foldl maxV none = none := by intro l; induction l with
      | nil => rfl
      | cons a l ih => exact ih
    simp only [List.foldl_cons] at h
    cases x <;> (try (simp only [maxV, hn, reduceCtorEq] at h))
    cases y <;> (try (simp only [hn, reduceCtorEq] at h))
    rename_i k a k' b
    simp only [List.foldlM_cons, Sem.run_bind, Builtin.max2, Sem.run_pure, Result.andThen_ok]
    have e : (if b > a then b else a) = max a b := by
      rw [Int.max_def]; split <;> split <;> omega
    rw [e]; exact ih _ _ h

theorem run_eqGuard {P : Program} (op : BinOp) (t : Nat) (x y : Operand) (X Y : Value) (h1 : ∀ cs, X ≠ .agg cs) (h2 : X ≠ .nilIface) (w : World) : (eqGuard op t x y X Y).run P w = .ok () w := by
  unfold eqGuard
  cases op <;> cases X <;> first | rfl | exact absurd rfl h2 | exact absurd rfl (h1 _)

section
variable {P : Program} {tb : Tab} (ok : TabOk P tb)
include ok

theorem evalOp_run {ρ : Operand → Value} {o : Oper} {v : Value} (h : evalOp tb ρ o.op = some v) (w : World) : (execOp ρ o).run P w = .ok (.value v) w := by
  cases o with
  | mk dst op type pos after guard =>
  dsimp only at h
  unfold evalOp at h
  split at h
  · simp only [Option.some.injEq] at h; subst h; rfl
  · simp only [Option.some.injEq] at h; subst h; rfl
  · rename_i c a b
    unfold evalPick at h
    split at h
    · rename_i h1; simp only [Option.some.injEq] at h; subst h; simp [execOp, h1, asBool]
    · rename_i h1; simp only [Option.some.injEq] at h; subst h; simp [execOp, h1, asBool]
    · cases h
  · rename_i x
    unfold evalNil at h
    split at h
    · rename_i h1; simp only [Option.some.injEq] at h; subst h; simp [execOp, h1]
    · rename_i h1; simp only [Option.some.injEq] at h; subst h; simp [execOp, h1]
    · cases h
  · rename_i op t x y yt
    cases hb : binTy tb t (ρ x) with
    | false => rw [hb] at h; cases h
    | true =>
      rw [hb] at h
      have hr := run_bin ok h hb w
      have hg : (eqGuard op t x y (ρ x) (ρ y)).run P w = .ok () w := by
        have hx : ∀ cs, ρ x ≠ .agg cs := by intro cs e; rw [e] at hb; simp [binTy] at hb
        have hn : ρ x ≠ .nilIface := by intro e; rw [e] at hb; simp [binTy] at hb
        exact run_eqGuard op t x y (ρ x) (ρ y) hx hn w
      simp only [execOp, Sem.run_bind, hg, Result.andThen_ok, hr]; rfl
  · rename_i x
    unfold evalNot at h
    split at h
    · rename_i h1; simp only [Option.some.injEq] at h; subst h; simp [execOp, h1, Op.unary]
    · cases h
  · rename_i x
    unfold evalNeg at h
    split at h
    · rename_i h1; simp only [Option.some.injEq] at h; subst h; simp [execOp, h1, Op.unary, Op.intArith]
    · cases h
  · rename_i src dst x
    unfold evalConv at h
    split at h
    · rename_i h1 h2 h3
      simp only [Option.some.injEq] at h; subst h
      simp only [execOp, convert, Sem.run_bind, run_u ok h1, run_u ok h2, Result.andThen_ok, h3]; rfl
    · rename_i h1 h2 h3
      simp only [Option.some.injEq] at h; subst h
      simp only [execOp, convert, Sem.run_bind, run_u ok h1, run_u ok h2, Result.andThen_ok, h3]; rfl
    · cases h
  · simp only [Option.some.injEq] at h; subst h; rfl
  · rename_i s x i
    unfold evalFieldAddr at h
    split at h
    · rename_i h1 h2
      split at h
      · rename_i f hf
        split at h
        · rename_i n hn
          simp only [Option.some.injEq] at h; subst h
          simp only [execOp, Instr.fieldAt, Sem.run_bind, run_u ok h1, Result.andThen_ok, h2, hf, Instr.sureAddr, Sem.run_pure, fieldPlace, run_sz ok hn]
          have : ∀ (b k q : Nat), (⟨b, k, none⟩ : Addr).add q = ⟨b, k + q, none⟩ := by
            intro b k q; unfold Addr.add; split
            · rename_i e; subst e; rfl
            · rfl
          simp [this]
        · cases h
      · cases h
    · cases h
  · rename_i s x i
    unfold evalField at h
    split at h
    · rename_i h1 h2
      split at h
      · rename_i f hf
        have := run_part ok h w
        simp only [execOp, Instr.field, Sem.run_bind, run_u ok h1, Result.andThen_ok, h2, hf, asAgg, Sem.run_pure, this]
      · cases h
    · cases h
  · rename_i t i
    unfold evalExtract at h
    split at h
    · rename_i h1
      simp only [execOp, Instr.extract, h1, h]; rfl
    · cases h
  · rename_i c
    cases c with
    | mk callee args argTypes =>
    unfold evalCall at h
    dsimp only at h
    split at h
    · split at h
      · rename_i t x h1 h2
        unfold evalLen at h
        have ha : (args.map ρ)[0]? = some (ρ x) := by simp [h2]
        split at h
        · rename_i h3 h4
          simp only [Option.some.injEq] at h; subst h
          simp only [execOp, resolve, invoke, Sem.run_bind, Sem.run_pure, Result.andThen_ok, builtin, Builtin.len_, h1, ha, run_u ok h3, h4]; rfl
        · rename_i h3 h4
          simp only [Option.some.injEq] at h; subst h
          simp only [execOp, resolve, invoke, Sem.run_bind, Sem.run_pure, Result.andThen_ok, builtin, Builtin.len_, h1, ha, run_u ok h3, h4]; rfl
        · rename_i h3
          simp only [Option.some.injEq] at h; subst h
          simp only [execOp, resolve, invoke, Sem.run_bind, Sem.run_pure, Result.andThen_ok, builtin, Builtin.len_, h1, ha, run_u ok h3]; rfl
        · cases h
      · cases h
    · cases hl : args.toList.map ρ with
      | nil => rw [hl] at h; cases h
      | cons x l =>
        rw [hl] at h
        have hl' : (args.map ρ).toList = x :: l := by simpa using hl
        simp only [execOp, resolve, invoke, Sem.run_bind, Sem.run_pure, Result.andThen_ok, builtin, Builtin.min_, hl', fold_min w l x v h]
    · cases hl : args.toList.map ρ with
      | nil => rw [hl] at h; cases h
      | cons x l =>
        rw [hl] at h
        have hl' : (args.map ρ).toList = x :: l := by simpa using hl
        simp only [execOp, resolve, invoke, Sem.run_bind, Sem.run_pure, Result.andThen_ok, builtin, Builtin.max_, hl', fold_max w l x v h]
    · cases h
  · cases h
end

/-! ## Tables as lists -/
def lookT {α : Type} : List (Nat × α) → Nat → Option α
  | [], _ => none
  | (k, x) :: r, t => bif Nat.beq t k then some x else lookT r t

theorem lookT_mem {α : Type} {l : List (Nat × α)} {t : Nat} {x : α} (h : lookT l t = some x) : (t, x) ∈ l := by
  induction l with
  | nil => cases h
  | cons p r ih =>
    obtain ⟨k, y⟩ := p
    unfold lookT at h
    cases hb : Nat.beq t k with
    | true =>
      rw [hb] at h
      simp only [cond_true, Option.some.injEq] at h
      have : t = k := Nat.eq_of_beq_eq_true hb
      subst this; subst h; exact List.mem_cons_self
    | false => rw [hb] at h; exact List.mem_cons_of_mem _ (ih h)

theorem sz_of {o : Option TypeInfo} {s b : Nat} (h : o.map (fun i => (i.size, i.bytes)) = some (s, b)) : o.map (·.size) = some s := by
  cases o <;> simp_all
theorem by_of {o : Option TypeInfo} {s b : Nat} (h : o.map (fun i => (i.size, i.bytes)) = some (s, b)) : o.map (·.bytes) = some b := by
  cases o <;> simp_all
end Go.SL
end

section
namespace Go.SL

/-- It returns, and of the result and the world R holds. -/
def Ret (R : Value → World → Prop) : Ending → World → Prop
  | .returned v, w => R v w
  | .outgrown, _ => False
  | .panicked _, _ => False

theorem Ret.mono {R R' : Value → World → Prop} (h : ∀ v w, R v w → R' v w) : ∀ e w, Ret R e w → Ret R' e w
  | .returned v, w, hr => h v w hr
  | .outgrown, _, hr => hr
  | .panicked _, _, hr => hr

/-! ## The judgements: structures, so that nothing is unfolded by accident -/

/-- What is asked where a piece of code is left: by which way, in which frame and world. -/
abbrev QF := Exit → (Nat → Value) → World → Prop
def toQ (n : Nat) (Q : QF) : Exit → Act → World → Prop := fun e a w => ∃ f, a = fr n f ∧ Q e f w
structure QA (Q : QF) (e : Exit) (f : Nat → Value) (w : World) : Prop where
  out : Q e f w
/-- A piece of code, begun in this frame and world, ends in Q. -/
structure CW (P : Program) (c : Code) (Q : QF) (n : Nat) (f : Nat → Value) (w : World) : Prop where
  out : c.wp P (toQ n Q) (fr n f) w
/-- So do these operations. -/
structure WL (P : Program) (ops : Array Oper) (Q : QF) (l : List Oper) (n : Nat) (f : Nat → Value) (w : World) : Prop where
  out : wpList P ops (toQ n Q) l (fr n f) w
/-- The call returns, and R holds. -/
structure CR (P : Program) (F : FuncId) (l : List Value) (w : World) (R : Value → World → Prop) : Prop where
  out : Calls P F l.toArray w (Ret R)

theorem CR.mono {P : Program} {F : FuncId} {l : List Value} {w : World} {R R' : Value → World → Prop} (h : CR P F l w R) (hr : ∀ v w, R v w → R' v w) : CR P F l w R' := ⟨h.out.mono (Ret.mono hr)⟩

def thenF (K : (Nat → Value) → World → Prop) (Q : QF) : QF
  | .normal, f, w => K f w
  | e, f, w => Q e f w
def blockF (id : Nat) (Q : QF) : QF
  | .exit id', f, w => if id' = id then Q .normal f w else Q (.exit id') f w
  | e, f, w => Q e f w
/-- Out of a function: its results are handed on. -/
def doneF (P : Program) (fn : Func) (R : Value → World → Prop) (n : Nat) : QF := fun e f w => bodyPost P fn (Ret R) e (fr n f) w

section
variable {K : (Nat → Value) → World → Prop} {Q : QF} {f : Nat → Value} {w : World} {i id : Nat}
theorem q_then (h : K f w) : QA (thenF K Q) .normal f w := ⟨h⟩
theorem q_then_e (h : QA Q (.exit i) f w) : QA (thenF K Q) (.exit i) f w := ⟨h.out⟩
theorem q_then_r (h : QA Q .ret f w) : QA (thenF K Q) .ret f w := ⟨h.out⟩
theorem q_blk_n (h : QA Q .normal f w) : QA (blockF id Q) .normal f w := ⟨h.out⟩
theorem q_blk_r (h : QA Q .ret f w) : QA (blockF id Q) .ret f w := ⟨h.out⟩
theorem q_blk_e (h : QA Q .normal f w) : QA (blockF id Q) (.exit id) f w := ⟨by show (if id = id then Q .normal f w else Q (.exit id) f w); rw [if_pos rfl]; exact h.out⟩
theorem q_blk_o (hne : Nat.beq i id = false) (h : QA Q (.exit i) f w) : QA (blockF id Q) (.exit i) f w := ⟨by
  have : i ≠ id := fun e => by subst e; simp at hne
  show (if i = id then Q .normal f w else Q (.exit i) f w); rw [if_neg this]; exact h.out⟩
end

/-! ## Into a function, out of it -/

def argsF (l : List Value) : Nat → Value := fun t => l.getD t undef

theorem args_fr (args : Array Value) (n : Nat) (h : args.size ≤ n) : (⟨args ++ Array.replicate (n - args.size) undef, []⟩ : Act) = fr n (argsF args.toList) := by
  unfold fr
  simp only [Act.mk.injEq, and_true]
  apply Array.ext
  · simp; omega
  · intro i h1 h2
    simp only [Array.getElem_ofFn, argsF]
    by_cases hi : i < args.size
    · rw [Array.getElem_append_left hi]; simp [List.getD, hi]
    · rw [Array.getElem_append_right (by omega)]; simp [List.getD, hi]

theorem calls_enter {P : Program} {F : FuncId} {fn : Func} {c : Code} {n : Nat} {l : List Value} {w : World} {R : Value → World → Prop}
    (hf : P.funcs[F]? = some fn) (hb : fn.body = some c) (hn : fn.ntmps = n) (hl : Nat.ble l.length n = true) (h : CW P c (doneF P fn R n) n (argsF l) w) : CR P F l w R := by
  subst hn
  refine ⟨calls_of_wp hf hb ?_⟩
  have := args_fr l.toArray fn.ntmps (by simpa using Nat.le_of_ble_eq_true hl)
  rw [this]
  refine Go.wp_mono h.out ?_
  rintro e a w ⟨f, rfl, hq⟩
  exact hq

section
variable {P : Program} {fn : Func} {R : Value → World → Prop} {n : Nat} {f : Nat → Value} {w : World}

theorem out1 {t : Nat} (h : fn.results = #[.tmp t]) (hR : R (ev n f (.tmp t)) w) : QA (doneF P fn R n) .ret f w := by
  refine ⟨⟨rfl, _, results_tmp h _ _ _, ?_⟩⟩
  have : (fr n f).tmps.getD t undef = ev n f (.tmp t) := congrFun (fr_eval n f) (.tmp t)
  rw [this]; exact hR
theorem out2 {t u : Nat} (h : fn.results = #[.tmp t, .tmp u]) (hR : R (.tuple #[ev n f (.tmp t), ev n f (.tmp u)]) w) : QA (doneF P fn R n) .ret f w := by
  refine ⟨⟨rfl, _, results_tmp2 h _ _ _, ?_⟩⟩
  have h1 : (fr n f).tmps.getD t undef = ev n f (.tmp t) := congrFun (fr_eval n f) (.tmp t)
  have h2 : (fr n f).tmps.getD u undef = ev n f (.tmp u) := congrFun (fr_eval n f) (.tmp u)
  rw [h1, h2]; exact hR
theorem out3 {t u s : Nat} (h : fn.results = #[.tmp t, .tmp u, .tmp s]) (hR : R (.tuple #[ev n f (.tmp t), ev n f (.tmp u), ev n f (.tmp s)]) w) : QA (doneF P fn R n) .ret f w := by
  have h1 : (fr n f).tmps.getD t undef = ev n f (.tmp t) := congrFun (fr_eval n f) (.tmp t)
  have h2 : (fr n f).tmps.getD u undef = ev n f (.tmp u) := congrFun (fr_eval n f) (.tmp u)
  have h3 : (fr n f).tmps.getD s undef = ev n f (.tmp s) := congrFun (fr_eval n f) (.tmp s)
  refine ⟨⟨rfl, .tuple #[ev n f (.tmp t), ev n f (.tmp u), ev n f (.tmp s)], ?_, hR⟩⟩
  simp [results, h, ← h1, ← h2, ← h3]
theorem out0 (h : fn.results = #[]) (hR : R (.tuple #[]) w) : QA (doneF P fn R n) .ret f w :=
  ⟨⟨rfl, _, results_none h _ _ _, hR⟩⟩
theorem end0 (h : fn.results = #[]) (hR : R (.tuple #[]) w) : QA (doneF P fn R n) .normal f w :=
  ⟨⟨rfl, _, results_none h _ _ _, hR⟩⟩
/-- A result in a variable: it is read behind the last statement. -/
theorem outC {t : Nat} {ty : TypeId} {v : Value} {a : Addr} (h : fn.results = #[.cell t ty]) (ha : ev n f (.tmp t) = .pointer (some a)) (hv : (loadVar ty a).run P w = .ok v w) (hR : R v w) : QA (doneF P fn R n) .ret f w := by
  have h1 : (fr n f).tmps[t]?.getD undef = .pointer (some a) := by
    have := (congrFun (fr_eval n f) (.tmp t)).trans ha
    simpa [Act.eval] using this
  refine ⟨⟨rfl, v, ?_, hR⟩⟩
  simp [results, h, asAddr]
  rw [h1]; simp [hv]
theorem outC1 {t u : Nat} {ty : TypeId} {v : Value} {a : Addr} (h : fn.results = #[.cell t ty, .tmp u]) (ha : ev n f (.tmp t) = .pointer (some a)) (hv : (loadVar ty a).run P w = .ok v w) (hR : R (.tuple #[v, ev n f (.tmp u)]) w) : QA (doneF P fn R n) .ret f w := by
  have h1 : (fr n f).tmps[t]?.getD undef = .pointer (some a) := by
    have := (congrFun (fr_eval n f) (.tmp t)).trans ha
    simpa [Act.eval] using this
  have h2 : (fr n f).tmps.getD u undef = ev n f (.tmp u) := congrFun (fr_eval n f) (.tmp u)
  refine ⟨⟨rfl, .tuple #[v, ev n f (.tmp u)], ?_, hR⟩⟩
  simp [results, h, asAddr, ← h2]
  rw [h1]; simp [hv]
end

/-! ## A piece of code -/
section
variable {P : Program} {Q : QF} {n : Nat} {f : Nat → Value} {w : World}

theorem toQ_out {Q' : Exit → Act → World → Prop} {c : Code} {Q2 : QF} (h : CW P c Q2 n f w) (hq : ∀ e f w, Q2 e f w → Q' e (fr n f) w) : c.wp P Q' (fr n f) w :=
  Go.wp_mono h.out (by rintro e a w ⟨f, rfl, hh⟩; exact hq e f w hh)

theorem c_seq {x y : Code} (h : CW P x (thenF (fun f w => CW P y Q n f w) Q) n f w) : CW P (.seq x y) Q n f w := by
  refine ⟨wp_seq (toQ_out h ?_)⟩
  intro e f w hq
  cases e with
  | normal => exact hq.out
  | _ => exact ⟨f, rfl, hq⟩
theorem c_block {id : Nat} {c : Code} (h : CW P c (blockF id Q) n f w) : CW P (.block id c) Q n f w := by
  refine ⟨wp_block (toQ_out h ?_)⟩
  intro e f w hq
  cases e with
  | exit i =>
    have hq : (if i = id then Q .normal f w else Q (.exit i) f w) := hq
    show (if i = id then toQ n Q .normal (fr n f) w else toQ n Q (.exit i) (fr n f) w)
    by_cases e : i = id
    · rw [if_pos e] at hq ⊢; exact ⟨f, rfl, hq⟩
    · rw [if_neg e] at hq ⊢; exact ⟨f, rfl, hq⟩
  | _ => exact ⟨f, rfl, hq⟩
theorem c_skip (h : QA Q .normal f w) : CW P .skip Q n f w := ⟨wp_skip ⟨f, rfl, h.out⟩⟩
theorem c_ret (h : QA Q .ret f w) : CW P .ret Q n f w := ⟨wp_ret ⟨f, rfl, h.out⟩⟩
theorem c_exit {i : Nat} (h : QA Q (.exit i) f w) : CW P (.exit i) Q n f w := ⟨wp_exit ⟨f, rfl, h.out⟩⟩
theorem c_region {id : Nat} {l : List Oper} (h : WL P l.toArray Q l n f w) : CW P (.region id l.toArray false) Q n f w := ⟨wp_region_lit h.out⟩

theorem c_cond_t {c : Operand} {x y : Code} (hc : ev n f c = .bool true) (h : CW P x Q n f w) : CW P (.cond c x y) Q n f w :=
  ⟨wp_cond_true (by rw [fr_eval]; exact hc) h.out⟩
theorem c_cond_f {c : Operand} {x y : Code} (hc : ev n f c = .bool false) (h : CW P y Q n f w) : CW P (.cond c x y) Q n f w :=
  ⟨wp_cond_false (by rw [fr_eval]; exact hc) h.out⟩
theorem c_cond_p {c : Operand} {x y : Code} {p : Prop} {i : Decidable p} (hc : ev n f c = .bool (@decide p i)) (hp : p) (h : CW P x Q n f w) : CW P (.cond c x y) Q n f w :=
  c_cond_t (by rw [hc, decide_eq_true hp]) h
theorem c_cond_n {c : Operand} {x y : Code} {p : Prop} {i : Decidable p} (hc : ev n f c = .bool (@decide p i)) (hp : ¬p) (h : CW P y Q n f w) : CW P (.cond c x y) Q n f w :=
  c_cond_f (by rw [hc, decide_eq_false hp]) h
theorem c_cond_d {c : Operand} {x y : Code} {p : Prop} {i : Decidable p} (hc : ev n f c = .bool (@decide p i)) (h1 : p → CW P x Q n f w) (h2 : ¬p → CW P y Q n f w) :
    CW P (.cond c x y) Q n f w := by
  by_cases hp : p
  · exact c_cond_p hc hp (h1 hp)
  · exact c_cond_n hc hp (h2 hp)
theorem c_cond_b {c : Operand} {x y : Code} {b : Bool} (hc : ev n f c = .bool b) (h1 : b = true → CW P x Q n f w) (h2 : b = false → CW P y Q n f w) :
    CW P (.cond c x y) Q n f w := by
  cases b
  · exact c_cond_f hc (h2 rfl)
  · exact c_cond_t hc (h1 rfl)

/-- A loop: what holds at each round's head, and a number that falls. -/
theorem c_loop {c : Code} (I : Nat → (Nat → Value) → World → Prop) (k : Nat) (h₀ : I k f w)
    (round : ∀ k g w, I k g w → CW P c (thenF (fun g' w' => ∃ k', k' < k ∧ I k' g' w') Q) n g w) : CW P (.loop c) Q n f w := by
  classical
  have key : ∀ (A : Act) (w : World), (∃ k g, A = fr n g ∧ I k g w) → ∃ m, (∃ g, A = fr n g ∧ I m g w) ∧ ∀ k, (∃ g, A = fr n g ∧ I k g w) → m ≤ k := by
    intro A w ⟨k, g, hA, hI⟩
    induction k using Nat.strongRecOn generalizing g with
    | _ k ih =>
      by_cases hex : ∃ k', k' < k ∧ ∃ g, A = fr n g ∧ I k' g w
      · obtain ⟨k', hlt, g', hA', hI'⟩ := hex
        exact ih k' hlt g' hA' hI'
      · refine ⟨k, ⟨g, hA, hI⟩, fun k' hk' => ?_⟩
        rcases Nat.lt_or_ge k' k with hh | hh
        · exact absurd ⟨k', hh, hk'⟩ hex
        · exact hh
  let μ : Act → World → Nat := fun A w => if h : ∃ k g, A = fr n g ∧ I k g w then Classical.choose (key A w h) else 0
  have hμ : ∀ A w k g, A = fr n g → I k g w → μ A w ≤ k ∧ ∃ g, A = fr n g ∧ I (μ A w) g w := by
    intro A w k g hA hI
    have hex : ∃ k g, A = fr n g ∧ I k g w := ⟨k, g, hA, hI⟩
    have hd : μ A w = Classical.choose (key A w hex) := dif_pos hex
    have hs := Classical.choose_spec (key A w hex)
    rw [← hd] at hs
    exact ⟨hs.2 k ⟨g, hA, hI⟩, hs.1⟩
  refine ⟨wp_loop (fun A w => ∃ k g, A = fr n g ∧ I k g w) μ ⟨k, f, rfl, h₀⟩ ?_⟩
  rintro A w ⟨k, g, rfl, hI⟩
  obtain ⟨_, g', hg', hI'⟩ := hμ (fr n g) w k g rfl hI
  have := round (μ (fr n g) w) g' w hI'
  rw [hg']
  refine toQ_out this ?_
  intro e g'' w' hq
  cases e with
  | normal =>
    obtain ⟨k', hlt, hI''⟩ := hq
    refine ⟨⟨k', g'', rfl, hI''⟩, ?_⟩
    have := (hμ (fr n g'') w' k' g'' rfl hI'').1
    rw [← hg']
    exact Nat.lt_of_le_of_lt this hlt
  | _ => exact ⟨g'', rfl, hq⟩
end

/-! ## Operations, one behind the other -/
section
variable {P : Program} {ops : Array Oper} {Q : QF} {rest : List Oper} {n : Nat} {f : Nat → Value} {w : World}

theorem o_nil (h : QA Q .normal f w) : WL P ops Q [] n f w := ⟨⟨f, rfl, h.out⟩⟩

theorem o_run {o : Oper} {v : Value} {w' : World} {d : Nat} (hd : o.dst = some d) (hg : o.guard = none) (hr : (execOp (ev n f) o).run P w = .ok (.value v) w')
    (h : WL P ops Q rest n (upd f d v) w') : WL P ops Q (o :: rest) n f w := by
  refine ⟨?_⟩
  unfold wpList
  rw [if_pos (by simp [Region.wanted, hg])]
  refine .inl ?_
  unfold Oper.wp
  rw [fr_eval, hr]
  show wpList P ops (toQ n Q) rest ((fr n f).put o.dst v) w'
  rw [hd, fr_put]; exact h.out
theorem o_skip {o : Oper} {w' : World} (hd : o.dst = none) (hg : o.guard = none) (hr : (execOp (ev n f) o).run P w = .ok .skip w')
    (h : WL P ops Q rest n f w') : WL P ops Q (o :: rest) n f w := by
  refine ⟨?_⟩
  unfold wpList
  rw [if_pos (by simp [Region.wanted, hg])]
  refine .inl ?_
  unfold Oper.wp
  rw [fr_eval, hr]
  show wpList P ops (toQ n Q) rest ((fr n f).put o.dst undef) w'
  rw [hd]; exact h.out
theorem o_none {o : Oper} {v : Value} {w' : World} (hd : o.dst = none) (hg : o.guard = none) (hr : (execOp (ev n f) o).run P w = .ok (.value v) w')
    (h : WL P ops Q rest n f w') : WL P ops Q (o :: rest) n f w := by
  refine ⟨?_⟩
  unfold wpList
  rw [if_pos (by simp [Region.wanted, hg])]
  refine .inl ?_
  unfold Oper.wp
  rw [fr_eval, hr]
  show wpList P ops (toQ n Q) rest ((fr n f).put o.dst v) w'
  rw [hd]; exact h.out

/-- The operation's own guard, its temporary being known. -/
theorem yielded_fr {j d : Nat} {b : Bool} (hj : (ops[j]?).bind (·.dst) = some d) (hv : ev n f (.tmp d) = .bool b) (hlt : Nat.blt d n = true) : yielded ops (fr n f).tmps j = some b := by
  unfold yielded
  rw [hj]
  have h1 : d < n := by simpa [Nat.blt_eq] using hlt
  have h2 : (fr n f).tmps[d]? = some (f d) := by simp [fr, h1]
  have h3 : f d = .bool b := by simpa [ev, hlt] using hv
  simp [h2, h3]
theorem yielded_undef {j d : Nat} (hj : (ops[j]?).bind (·.dst) = some d) (hv : ev n f (.tmp d) = undef) : yielded ops (fr n f).tmps j = none := by
  unfold yielded
  rw [hj]
  simp only [Option.bind_some]
  have h3 : (fr n f).tmps.getD d undef = undef := (congrFun (fr_eval n f) (.tmp d)).trans hv
  cases h4 : (fr n f).tmps[d]? with
  | none => rfl
  | some x =>
    have : x = undef := by
      rw [← h3]
      have hlt : d < (fr n f).tmps.size := by
        rcases Nat.lt_or_ge d (fr n f).tmps.size with g | g
        · exact g
        · rw [Array.getElem?_eq_none g] at h4; cases h4
      rw [Array.getElem?_eq_getElem hlt] at h4
      simp only [Option.some.injEq] at h4
      simp [Array.getD, hlt, h4]
    subst this; rfl

variable {dst : Option Tmp} {op : Op} {ty : TypeId} {pos : String} {after : Array Edge}

theorem o_want {j d : Nat} {b : Bool} (hj : (ops[j]?).bind (·.dst) = some d) (hv : ev n f (.tmp d) = .bool b) (hlt : Nat.blt d n = true)
    (h : WL P ops Q (⟨dst, op, ty, pos, after, none⟩ :: rest) n f w) : WL P ops Q (⟨dst, op, ty, pos, after, some (j, b)⟩ :: rest) n f w := by
  have hy := yielded_fr hj hv hlt
  have h := h.out
  refine ⟨?_⟩
  unfold wpList at h ⊢
  rw [if_pos (by simp [Region.wanted])] at h
  rw [if_pos (by simp [Region.wanted, hy])]
  exact h
theorem o_pass {j d e : Nat} {b b' : Bool} (hj : (ops[j]?).bind (·.dst) = some d) (hv : ev n f (.tmp d) = .bool b') (hlt : Nat.blt d n = true) (hne : (b' == b) = false)
    (h : WL P ops Q rest n (upd f e undef) w) : WL P ops Q (⟨some e, op, ty, pos, after, some (j, b)⟩ :: rest) n f w := by
  have hy := yielded_fr hj hv hlt
  refine ⟨?_⟩
  unfold wpList
  rw [if_neg (by simp [Region.wanted, hy, hne])]
  show wpList P ops (toQ n Q) rest ((fr n f).put (some e) undef) w
  rw [fr_put]; exact h.out
theorem o_pass_none {j d : Nat} {b b' : Bool} (hj : (ops[j]?).bind (·.dst) = some d) (hv : ev n f (.tmp d) = .bool b') (hlt : Nat.blt d n = true) (hne : (b' == b) = false)
    (h : WL P ops Q rest n f w) : WL P ops Q (⟨none, op, ty, pos, after, some (j, b)⟩ :: rest) n f w := by
  have hy := yielded_fr hj hv hlt
  refine ⟨?_⟩
  unfold wpList
  rw [if_neg (by simp [Region.wanted, hy, hne])]
  exact h.out
theorem o_undef {j d e : Nat} {b : Bool} (hj : (ops[j]?).bind (·.dst) = some d) (hv : ev n f (.tmp d) = undef)
    (h : WL P ops Q rest n (upd f e undef) w) : WL P ops Q (⟨some e, op, ty, pos, after, some (j, b)⟩ :: rest) n f w := by
  have hy := yielded_undef (ops := ops) hj hv
  refine ⟨?_⟩
  unfold wpList
  rw [if_neg (by simp [Region.wanted, hy])]
  show wpList P ops (toQ n Q) rest ((fr n f).put (some e) undef) w
  rw [fr_put]; exact h.out
/-- A guard that is not decided yet: both ways, the temporary written out in each. -/
theorem o_guard_d {j d : Nat} {b : Bool} {p : Prop} {i : Decidable p} (_hj : (ops[j]?).bind (·.dst) = some d) (hv : ev n f (.tmp d) = .bool (@decide p i)) (hlt : Nat.blt d n = true)
    (h1 : p → WL P ops Q (⟨dst, op, ty, pos, after, some (j, b)⟩ :: rest) n (upd f d (.bool true)) w)
    (h2 : ¬p → WL P ops Q (⟨dst, op, ty, pos, after, some (j, b)⟩ :: rest) n (upd f d (.bool false)) w) : WL P ops Q (⟨dst, op, ty, pos, after, some (j, b)⟩ :: rest) n f w := by
  have h3 : f d = .bool (@decide p i) := by simpa [ev, hlt] using hv
  by_cases hp : p
  · have := h1 hp; rwa [upd_self f d _ (by rw [h3, decide_eq_true hp])] at this
  · have := h2 hp; rwa [upd_self f d _ (by rw [h3, decide_eq_false hp])] at this
theorem o_guard_b {j d : Nat} {b c : Bool} (_hj : (ops[j]?).bind (·.dst) = some d) (hv : ev n f (.tmp d) = .bool c) (hlt : Nat.blt d n = true)
    (h1 : c = true → WL P ops Q (⟨dst, op, ty, pos, after, some (j, b)⟩ :: rest) n (upd f d (.bool true)) w)
    (h2 : c = false → WL P ops Q (⟨dst, op, ty, pos, after, some (j, b)⟩ :: rest) n (upd f d (.bool false)) w) : WL P ops Q (⟨dst, op, ty, pos, after, some (j, b)⟩ :: rest) n f w := by
  have h3 : f d = .bool c := by simpa [ev, hlt] using hv
  cases c
  · have := h2 rfl; rwa [upd_self f d _ h3] at this
  · have := h1 rfl; rwa [upd_self f d _ h3] at this

section
variable {tb : Tab} (ok : TabOk P tb) {d : Nat}
include ok
theorem o_pure {v : Value} (hv : evalOp tb (ev n f) op = some v) (h : WL P ops Q rest n (upd f d v) w) : WL P ops Q (⟨some d, op, ty, pos, after, none⟩ :: rest) n f w :=
  o_run rfl rfl (evalOp_run ok (o := ⟨some d, op, ty, pos, after, none⟩) hv w) h
theorem o_pure0 {v : Value} (hv : evalOp tb (ev n f) op = some v) (h : WL P ops Q rest n f w) : WL P ops Q (⟨none, op, ty, pos, after, none⟩ :: rest) n f w :=
  o_none rfl rfl (evalOp_run ok (o := ⟨none, op, ty, pos, after, none⟩) hv w) h

/-- An address, its place reckoned out. -/
theorem o_ptr {b k q : Nat} (hv : evalOp tb (ev n f) op = some (.pointer (some ⟨b, k, none⟩))) (hq : k = q) (h : WL P ops Q rest n (upd f d (.pointer (some ⟨b, q, none⟩))) w) : WL P ops Q (⟨some d, op, ty, pos, after, none⟩ :: rest) n f w :=
  o_pure ok (by rw [← hq]; exact hv) h
/-- A call of a function of the program. -/
theorem o_call {F : FuncId} {args : Array Operand} {ats : Array TypeId} {l : List Value} {R : Value → World → Prop} (hF : tb.fn F = true) (hl : args.toList.map (ev n f) = l)
    (hc : CR P F l w R) (h : ∀ v w', R v w' → WL P ops Q rest n (upd f d v) w') :
    WL P ops Q (⟨some d, .call ⟨.value (.func F), args, ats⟩, ty, pos, after, none⟩ :: rest) n f w := by
  obtain ⟨fn, hfn, hname, hbody⟩ := ok.fn F hF
  refine ⟨?_⟩
  unfold wpList
  rw [if_pos (by simp [Region.wanted])]
  refine .inl ?_
  unfold Oper.wp
  rw [fr_eval]
  have hargs : args.map (ev n f) = l.toArray := by subst hl; apply Array.ext'; simp
  have hr : (execOp (ev n f) ⟨some d, .call ⟨.value (.func F), args, ats⟩, ty, pos, after, none⟩).run P w = .ok (.enter F l.toArray) w := by
    simp only [execOp, resolve, hargs, ev, Deferred.ofValue, Sem.run_bind, Sem.run_pure, Result.andThen_ok, invoke, callFunc, program, Sem.run, Array.empty_append, hfn, hname, hbody, Array.append_empty]
    rfl
  rw [hr]
  refine Calls.mono hc.out ?_
  intro e w' he
  cases e with
  | returned v =>
    show wpList P ops (toQ n Q) rest ((fr n f).put (some d) v) w'
    rw [fr_put]; exact (h v w' he).out
  | panicked c => exact he.elim
  | outgrown => exact he.elim
theorem o_call0 {F : FuncId} {args : Array Operand} {ats : Array TypeId} {l : List Value} {R : Value → World → Prop} (hF : tb.fn F = true) (hl : args.toList.map (ev n f) = l)
    (hc : CR P F l w R) (h : ∀ v w', R v w' → WL P ops Q rest n f w') :
    WL P ops Q (⟨none, .call ⟨.value (.func F), args, ats⟩, ty, pos, after, none⟩ :: rest) n f w := by
  obtain ⟨fn, hfn, hname, hbody⟩ := ok.fn F hF
  refine ⟨?_⟩
  unfold wpList
  rw [if_pos (by simp [Region.wanted])]
  refine .inl ?_
  unfold Oper.wp
  rw [fr_eval]
  have hargs : args.map (ev n f) = l.toArray := by subst hl; apply Array.ext'; simp
  have hr : (execOp (ev n f) ⟨none, .call ⟨.value (.func F), args, ats⟩, ty, pos, after, none⟩).run P w = .ok (.enter F l.toArray) w := by
    simp only [execOp, resolve, hargs, ev, Deferred.ofValue, Sem.run_bind, Sem.run_pure, Result.andThen_ok, invoke, callFunc, program, Sem.run, Array.empty_append, hfn, hname, hbody, Array.append_empty]
    rfl
  rw [hr]
  refine Calls.mono hc.out ?_
  intro e w' he
  cases e with
  | returned v => exact (h v w' he).out
  | panicked c => exact he.elim
  | outgrown => exact he.elim
end

/-! ### int arithmetic that stays within its kind -/
section
variable {d : Nat} {x y : Operand} {t u : TypeId} {a b : Int}
theorem o_add (hx : ev n f x = .int .i64 a) (hy : ev n f y = .int .i64 b) (hb : -9223372036854775808 ≤ a + b ∧ a + b ≤ 9223372036854775807) (h : WL P ops Q rest n (upd f d (.int .i64 (a + b))) w) :
    WL P ops Q (⟨some d, .binOp .add t x y u, ty, pos, after, none⟩ :: rest) n f w := by
  refine o_run rfl rfl ?_ h
  simp [execOp, eqGuard, hx, hy, binOp, Op.intArith, IntWalk.i64_in _ hb]
theorem o_sub (hx : ev n f x = .int .i64 a) (hy : ev n f y = .int .i64 b) (hb : -9223372036854775808 ≤ a - b ∧ a - b ≤ 9223372036854775807) (h : WL P ops Q rest n (upd f d (.int .i64 (a - b))) w) :
    WL P ops Q (⟨some d, .binOp .sub t x y u, ty, pos, after, none⟩ :: rest) n f w := by
  refine o_run rfl rfl ?_ h
  simp [execOp, eqGuard, hx, hy, binOp, Op.intArith, IntWalk.i64_in _ hb]
theorem o_mul (hx : ev n f x = .int .i64 a) (hy : ev n f y = .int .i64 b) (hb : -9223372036854775808 ≤ a * b ∧ a * b ≤ 9223372036854775807) (h : WL P ops Q rest n (upd f d (.int .i64 (a * b))) w) :
    WL P ops Q (⟨some d, .binOp .mul t x y u, ty, pos, after, none⟩ :: rest) n f w := by
  refine o_run rfl rfl ?_ h
  simp [execOp, eqGuard, hx, hy, binOp, Op.intArith, IntWalk.i64_in _ hb]
theorem o_quo (hx : ev n f x = .int .i64 a) (hy : ev n f y = .int .i64 b) (hb : 0 ≤ a ∧ a ≤ 9223372036854775807 ∧ 1 ≤ b) (h : WL P ops Q rest n (upd f d (.int .i64 (a / b))) w) :
    WL P ops Q (⟨some d, .binOp .quo t x y u, ty, pos, after, none⟩ :: rest) n f w := by
  refine o_run rfl rfl ?_ h
  have : b ≠ 0 := by omega
  simp [execOp, eqGuard, hx, hy, binOp, Op.intDiv, IntWalk.i64_quo _ _ hb, this]
theorem o_rem (hx : ev n f x = .int .i64 a) (hy : ev n f y = .int .i64 b) (hb : 0 ≤ a ∧ 1 ≤ b) (h : WL P ops Q rest n (upd f d (.int .i64 (a % b))) w) :
    WL P ops Q (⟨some d, .binOp .rem t x y u, ty, pos, after, none⟩ :: rest) n f w := by
  refine o_run rfl rfl ?_ h
  have : b ≠ 0 := by omega
  simp [execOp, eqGuard, hx, hy, binOp, Op.intDiv, IntWalk.rem_in _ _ hb.1, this]
theorem o_neg (hx : ev n f x = .int .i64 a) (hb : -9223372036854775808 ≤ 0 - a ∧ 0 - a ≤ 9223372036854775807) (h : WL P ops Q rest n (upd f d (.int .i64 (0 - a))) w) :
    WL P ops Q (⟨some d, .unOp .neg t x, ty, pos, after, none⟩ :: rest) n f w := by
  refine o_run rfl rfl ?_ h
  have e : (0 - a) = -a := by omega
  have := IntWalk.i64_in _ hb
  simp only [e] at this ⊢
  simp [execOp, hx, Op.unary, Op.intArith, this]
end
section
variable {tb : Tab} (ok : TabOk P tb) {d : Nat} {x : Operand} {src t : TypeId} {k k' : IntKind} {a : Int} {dsc : TypeDesc}
include ok
/-- A conversion to a kind that holds the number. -/
theorem o_conv (hs : tb.u src = some dsc) (ht : tb.u t = some (.int k)) (hx : ev n f x = .int k' a) (hb : k.wrap a = a) (h : WL P ops Q rest n (upd f d (.int k a)) w) :
    WL P ops Q (⟨some d, .convert src t x, ty, pos, after, none⟩ :: rest) n f w := by
  refine o_pure ok (v := .int k a) ?_ h
  simp only [evalOp, evalConv, hs, ht, hx, hb]
end
end
theorem w_i64 {a : Int} (h : -9223372036854775808 ≤ a ∧ a ≤ 9223372036854775807) : IntKind.i64.wrap a = a := IntWalk.i64_in a h
theorem w_u16 {a : Int} (h : 0 ≤ a ∧ a ≤ 65535) : IntKind.u16.wrap a = a := IntWalk.u16_in a h
theorem w_u8 {a : Int} (h : 0 ≤ a ∧ a ≤ 255) : IntKind.u8.wrap a = a := IntWalk.u8_in a h
theorem w_u32 {a : Int} (h : 0 ≤ a ∧ a ≤ 4294967295) : IntKind.u32.wrap a = a := IntWalk.u32_in a h
end Go.SL
end

section
namespace Go.SL

theorem addr_add (b k q : Nat) : (⟨b, k, none⟩ : Addr).add q = ⟨b, k + q, none⟩ := by
  unfold Addr.add; split
  · rename_i e; subst e; rfl
  · rfl

theorem run_loadCellsFrom {P : Program} {w : World} {b k : Nat} {cs : Array Value} {T : TypeId} {fz : Nat × Nat} (hb : w.heap[b]? = some (.cells cs T fz)) :
    ∀ (m i : Nat) (acc : Array Value), k + i + m ≤ cs.size → (loadCellsFrom ⟨b, k, none⟩ i m acc).run P w = .ok (acc ++ cs.extract (k + i) (k + i + m)) w
  | 0, i, acc, _ => by simp [loadCellsFrom]; omega
  | m + 1, i, acc, h => by
    have hc : w.cell? ⟨b, k + i, none⟩ = some cs[k + i] := by
      unfold World.cell?; simp [hb, show k + i < cs.size by omega]
    have ih := run_loadCellsFrom (P := P) (k := k) hb m (i + 1) (acc.push cs[k + i]) (by omega)
    simp only [loadCellsFrom, Sem.run_bind, addr_add, run_load, hc, Result.andThen_ok, ih]
    congr 1
    apply Array.ext'
    have e : k + (i + 1) = k + i + 1 := by omega
    simp only [e, Array.toList_append, Array.toList_push, Array.toList_extract, List.extract_eq_take_drop, List.append_assoc]
    congr 1
    have hlt : k + i < cs.toList.length := by simpa using (show k + i < cs.size by omega)
    rw [show k + i + (m + 1) - (k + i) = m + 1 by omega, show k + i + 1 + m - (k + i + 1) = m by omega]
    rw [List.drop_eq_getElem_cons hlt, List.take_succ_cons]
    simp

theorem run_loadCells {P : Program} {w : World} {b k m : Nat} {cs : Array Value} {T : TypeId} {fz : Nat × Nat} (hb : w.heap[b]? = some (.cells cs T fz)) (h : k + m ≤ cs.size) :
    (loadCells ⟨b, k, none⟩ m).run P w = .ok (cs.extract k (k + m)) w := by
  have := run_loadCellsFrom (P := P) hb (k := k) m 0 #[] (by omega)
  simpa [loadCells] using this

/-- cells with some of them written -/
def splice (cs : Array Value) (k : Nat) (vs : List Value) : Array Value := (cs.toList.take k ++ vs ++ cs.toList.drop (k + vs.length)).toArray

theorem setRow_block (w : World) (b : Nat) (cs cs' : Array Value) (T : TypeId) (hb : w.heap[b]? = some (.cells cs T (0, 0))) : w.setRow b cs' = Go.ChangeMaps.setBlock w b (.cells cs' T (0, 0)) := by
  unfold World.setRow Go.ChangeMaps.setBlock
  congr 1
  have hlt : b < w.heap.size := by
    rcases Nat.lt_or_ge b w.heap.size with g | g
    · exact g
    · simp [Array.getElem?_eq_none g] at hb
  apply Array.ext
  · simp
  · intro i h1 h2
    have hbe : w.heap[b] = .cells cs T (0, 0) := by rw [Array.getElem?_eq_getElem hlt] at hb; exact Option.some.inj hb
    rw [Array.getElem_modify, Array.getElem_setIfInBounds (by simpa using h2)]
    by_cases e : b = i
    · subst e; simp [hbe]
    · simp [e]

def oneCells (vs : List Value) : Bool := vs.all (·.oneCell')

theorem Sat.store {P : Program} {w0 w : World} {l : List Asn} (hS : Sat w0 w l) {i b k : Nat} {cs : Array Value} {T : TypeId} {vs : List Value} (hi : l[i]? = some (pt b (.cells cs T (0, 0)))) (hk : k + vs.length ≤ cs.size) (h1 : oneCells vs = true) :
    ∃ w', (storeCells ⟨b, k, none⟩ vs).run P w = .ok () w' ∧ Sat w0 w' (l.set i (pt b (.cells (splice cs k vs) T (0, 0)))) := by
  have hb := hS.block hi
  have hr := run_storeCells_at P b k T vs 0 cs w hb (by omega) (by simpa [oneCells] using h1)
  refine ⟨_, hr, ?_⟩
  rw [setRow_block w b cs _ T hb]
  exact hS.setBlock hi _

theorem splice_one (cs : Array Value) (k : Nat) (v : Value) (h : k < cs.size) : splice cs k [v] = cs.setIfInBounds k v := by
  apply Array.ext'
  simp only [splice, Array.toList_setIfInBounds, List.length_singleton]
  rw [List.set_eq_take_append_cons_drop]
  simp [h]

theorem splice_all (cs : Array Value) (vs : List Value) (h : vs.length = cs.size) : splice cs 0 vs = vs.toArray := by
  apply Array.ext'
  simp only [splice, List.take_zero, List.nil_append, Nat.zero_add]
  rw [List.drop_of_length_le (by simp [h])]
  simp

section
variable {P : Program} {ops : Array Oper} {Q : QF} {rest : List Oper} {n : Nat} {f : Nat → Value} {w w0 : World} {l : List Asn}
variable {ty : TypeId} {pos : String} {after : Array Edge} {d : Nat} {t : TypeId} {x y : Operand} {i b k : Nat} {cs : Array Value} {T : TypeId} {dsc : TypeDesc}
variable {tb : Tab} (ok : TabOk P tb)
include ok

theorem o_load (hS : Sat w0 w l) (ht : tb.u t = some dsc) (hna : aggT dsc = false) (hx : ev n f x = .pointer (some ⟨b, k, none⟩)) {fz : Nat × Nat} {v : Value} (hi : l[i]? = some (pt b (.cells cs T fz))) (hk : cs[k]? = some v)
    (h : WL P ops Q rest n (upd f d v) w) : WL P ops Q (⟨some d, .load t x, ty, pos, after, none⟩ :: rest) n f w := by
  refine o_run rfl rfl ?_ h
  have hc := hS.cell hi hk
  simp [execOp, Instr.loadAt, hx, Instr.sureAddr, loadVar, run_isAgg ok ht, hna, hc]

theorem o_loadA (hS : Sat w0 w l) (ht : tb.u t = some dsc) (ha : aggT dsc = true) {m : Nat} (hz : tb.sz t = some m) (hx : ev n f x = .pointer (some ⟨b, k, none⟩)) {fz : Nat × Nat} (hi : l[i]? = some (pt b (.cells cs T fz))) (hk : k + m ≤ cs.size)
    (h : WL P ops Q rest n (upd f d (.agg (cs.extract k (k + m)))) w) : WL P ops Q (⟨some d, .load t x, ty, pos, after, none⟩ :: rest) n f w := by
  refine o_run rfl rfl ?_ h
  have hr := run_loadCells (P := P) (hS.block hi) hk
  simp [execOp, Instr.loadAt, hx, Instr.sureAddr, loadVar, run_isAgg ok ht, ha, run_sz ok hz, hr]

theorem o_store (hS : Sat w0 w l) (hx : ev n f x = .pointer (some ⟨b, k, none⟩)) {v u : Value} (hy : ev n f y = v) (hv : v.oneCell' = true) (hz : tb.sz t = some 1) (hi : l[i]? = some (pt b (.cells cs T (0, 0)))) (hk : cs[k]? = some u)
    (h : ∀ w', Sat w0 w' (l.set i (pt b (.cells (cs.setIfInBounds k v) T (0, 0)))) → WL P ops Q rest n f w') : WL P ops Q (⟨none, .store t x y, ty, pos, after, none⟩ :: rest) n f w := by
  have hkl : k < cs.size := by
    rcases Nat.lt_or_ge k cs.size with g | g
    · exact g
    · rw [Array.getElem?_eq_none g] at hk; cases hk
  obtain ⟨w', hr, hS'⟩ := hS.store (P := P) (vs := [v]) hi (k := k) (by simp; omega) (by simp [oneCells, hv])
  rw [splice_one cs k v hkl] at hS'
  refine o_skip rfl rfl ?_ (h w' hS')
  have hc : v.cells = #[v] := by cases v <;> first | rfl | cases hv
  simp only [execOp, Instr.storeAt, hx, hy, Instr.sureAddr, Sem.run_bind, Sem.run_pure, Result.andThen_ok, storeVar, run_sz ok hz, hc]
  simp [hr]

theorem o_storeA (hS : Sat w0 w l) (hx : ev n f x = .pointer (some ⟨b, k, none⟩)) {vs : Array Value} (hy : ev n f y = .agg vs) (hv : oneCells vs.toList = true) (hz : tb.sz t = some vs.size) (hi : l[i]? = some (pt b (.cells cs T (0, 0)))) (hk : k + vs.size ≤ cs.size)
    (h : ∀ w', Sat w0 w' (l.set i (pt b (.cells (splice cs k vs.toList) T (0, 0)))) → WL P ops Q rest n f w') : WL P ops Q (⟨none, .store t x y, ty, pos, after, none⟩ :: rest) n f w := by
  obtain ⟨w', hr, hS'⟩ := hS.store (P := P) (vs := vs.toList) hi (k := k) (by simpa using hk) hv
  refine o_skip rfl rfl ?_ (h w' hS')
  simp only [execOp, Instr.storeAt, hx, hy, Instr.sureAddr, Sem.run_bind, Sem.run_pure, Result.andThen_ok, storeVar, run_sz ok hz, Value.cells]
  simp [hr]

/-- A whole variable. -/
theorem o_storeW {m : Nat} {vs : Array Value} (hS : Sat w0 w l) (hz : tb.sz t = some m) (hx : ev n f x = .pointer (some ⟨b, 0, none⟩)) (hy : ev n f y = .agg vs) (hi : l[i]? = some (pt b (.cells cs T (0, 0)))) (hv : oneCells vs.toList = true) (hm : vs.size = m) (hc : cs.size = m)
    (h : ∀ w', Sat w0 w' (l.set i (pt b (.cells vs T (0, 0)))) → WL P ops Q rest n f w') : WL P ops Q (⟨none, .store t x y, ty, pos, after, none⟩ :: rest) n f w := by
  refine o_storeA ok hS hx hy hv (by rw [hm]; exact hz) hi (by omega) fun w' hS' => h w' ?_
  rw [splice_all cs vs.toList (by simp [hm, hc])] at hS'
  simpa using hS'

theorem o_alloc (hS : Sat w0 w l) {z : Value} (hz : tb.zero t = some z) (h : ∀ b w', Sat w0 w' (pt b (.cells z.cells t) :: l) → WL P ops Q rest n (upd f d (.pointer (some ⟨b, 0, none⟩))) w') :
    WL P ops Q (⟨some d, .alloc t, ty, pos, after, none⟩ :: rest) n f w := by
  refine o_run rfl rfl ?_ (h w.heap.size _ (hS.new _))
  simp [execOp, Instr.alloc, run_zero ok hz, newVar, newRow, newObj, Sem.run]

omit ok in
theorem o_box (hS : Sat w0 w l) {v : Value} (hx : ev n f x = v) (h : ∀ b w', Sat w0 w' (pt b (.cells v.cells t) :: l) → WL P ops Q rest n (upd f d (.pointer (some ⟨b, 0, none⟩))) w') :
    WL P ops Q (⟨some d, .box t x, ty, pos, after, none⟩ :: rest) n f w := by
  refine o_run rfl rfl ?_ (h w.heap.size _ (hS.new _))
  simp [execOp, Instr.box, hx, newVar, newRow, newObj, Sem.run]

omit ok in
theorem o_makeMap (hS : Sat w0 w l) (h : ∀ b w', Sat w0 w' (pt b (.map #[] 0) :: l) → WL P ops Q rest n (upd f d (.map (some b))) w') :
    WL P ops Q (⟨some d, .makeMap t none, ty, pos, after, none⟩ :: rest) n f w := by
  refine o_run rfl rfl ?_ (h w.heap.size _ (hS.new _))
  simp [execOp, Instr.makeMap, newObj, Sem.run]

theorem o_buildSlice (hS : Sat w0 w l) {e sz len : Nat} {z : Value} {cells : Array Value} {parts : Array (Nat × Operand)} (ht : tb.u t = some (.slice e)) (hsz : tb.sz e = some sz) (hz : tb.zero e = some z) (hpos : (len * sz == 0) = false) (hle : Nat.ble (len * sz) 16777216 = true)
    (hc : Instr.fill (fun i => some (i * sz, sz)) ((Array.range (len * sz)).map (z.cells[· % z.cells.size]!)) (parts.toList.map fun p => (p.1, ev n f p.2)) = some cells)
    (h : ∀ b w', Sat w0 w' (pt b (.cells cells e) :: l) → WL P ops Q rest n (upd f d (.slice (some ⟨b, 0, none⟩) len len)) w') :
    WL P ops Q (⟨some d, .buildSlice t len parts, ty, pos, after, none⟩ :: rest) n f w := by
  refine o_run rfl rfl ?_ (h w.heap.size _ (hS.new _))
  have hp : (parts.map fun (i, x) => (i, ev n f x)).toList = parts.toList.map fun p => (p.1, ev n f p.2) := by simp
  have h1 : ¬ len * sz > 2 ^ 24 := by have := Nat.le_of_ble_eq_true hle; omega
  have h2 : ¬ len * sz = 0 := by simpa using hpos
  simp only [execOp, Instr.buildSlice, Sem.run_bind, run_u ok ht, Result.andThen_ok, run_sz ok hsz, h1, if_false, h2, run_zero ok hz, Sem.run_pure, hp, hc, newRow, newObj, Sem.run]
  rfl

/-- An element's address. -/
theorem o_indexAddr {e sz : Nat} {o len cap : Nat} {kk : IntKind} {j : Int} (ht : tb.u t = some (.slice e)) (hsz : tb.sz e = some sz) (hx : ev n f x = .slice (some ⟨b, o, none⟩) len cap) (hy : ev n f y = .int kk j) (hj : 0 ≤ j ∧ j < (len : Int))
    (h : WL P ops Q rest n (upd f d (.pointer (some ⟨b, o + j.toNat * sz, none⟩))) w) : WL P ops Q (⟨some d, .indexAddr t x y, ty, pos, after, none⟩ :: rest) n f w := by
  refine o_run rfl rfl ?_ h
  simp only [execOp, Instr.indexAt, hx, hy, asIntOf, Sem.run_bind, Sem.run_pure, run_u ok ht, Result.andThen_ok, if_pos hj, run_sz ok hsz, addr_add]

theorem o_indexAddrA {e sz : Nat} {o len : Nat} {kk : IntKind} {j : Int} (ht : tb.u t = some (.array len e)) (hsz : tb.sz e = some sz) (hx : ev n f x = .pointer (some ⟨b, o, none⟩)) (hy : ev n f y = .int kk j) (hj : 0 ≤ j ∧ j < (len : Int))
    (h : WL P ops Q rest n (upd f d (.pointer (some ⟨b, o + j.toNat * sz, none⟩))) w) : WL P ops Q (⟨some d, .indexAddr t x y, ty, pos, after, none⟩ :: rest) n f w := by
  refine o_run rfl rfl ?_ h
  simp only [execOp, Instr.indexAt, hx, hy, asIntOf, Sem.run_bind, Sem.run_pure, run_u ok ht, Result.andThen_ok, if_pos hj, run_sz ok hsz, addr_add, Instr.sureAddr]

/-- A byte of a string. -/
theorem o_indexS {s : ByteArray} {kk : IntKind} {j : Int} (ht : tb.u t = some .string) (hx : ev n f x = .string s) (hy : ev n f y = .int kk j) (hj : 0 ≤ j ∧ j < (s.size : Int))
    (h : WL P ops Q rest n (upd f d (.int .u8 ((s.data.toList.getD j.toNat 0).toNat : Int))) w) : WL P ops Q (⟨some d, .index t x y, ty, pos, after, none⟩ :: rest) n f w := by
  refine o_run rfl rfl ?_ h
  have hlt : j.toNat < s.size := by omega
  have hg : s[j.toNat]? = some (s.data.toList.getD j.toNat 0) := by
    rw [show s[j.toNat]? = some s[j.toNat] from by simp [hlt]]
    congr 1
    have : s.data.toList.getD j.toNat 0 = s.data[j.toNat]'hlt := by
      simp [List.getD, List.getElem?_eq_getElem (show j.toNat < s.data.toList.length from by simpa using hlt)]
    rw [this]; rfl
  simp only [execOp, Instr.index, hx, hy, asIntOf, Sem.run_bind, Sem.run_pure, run_u ok ht, Result.andThen_ok, if_pos hj.1, hg]

/-- A cell of an array by value. -/
theorem o_indexA {e len : Nat} {de : TypeDesc} {kk : IntKind} {j : Int} {v : Value} (ht : tb.u t = some (.array len e)) (he : tb.u e = some de) (hna : aggT de = false) (hsz : tb.sz e = some 1) (hx : ev n f x = .agg cs) (hy : ev n f y = .int kk j) (hj : 0 ≤ j ∧ j < (len : Int)) (hv : cs[j.toNat]? = some v)
    (h : WL P ops Q rest n (upd f d v) w) : WL P ops Q (⟨some d, .index t x y, ty, pos, after, none⟩ :: rest) n f w := by
  refine o_run rfl rfl ?_ h
  have hp : partOf tb e cs (j.toNat * 1) = some v := by
    unfold partOf; rw [he]; cases de <;> simp_all [aggT]
  simp only [execOp, Instr.index, hx, hy, asIntOf, Sem.run_bind, Sem.run_pure, run_u ok ht, Result.andThen_ok, if_pos hj, run_sz ok hsz, run_part ok hp]
end
end Go.SL
end

section
namespace Go.SL

/-! ## A region that draws its order: operations that read, in whatever order, perhaps one new variable among them; then a tail in its one order -/
section
variable {P : Program} {ops : Array Oper} {w0 : World} {L : List Asn} {al : Option Nat} {m : Nat}

/-- Whatever else is there, operation o yields v and turns nothing that L speaks of. -/
def quietF (P : Program) (w0 : World) (L : List Asn) (o : Oper) (a : Act) (v : Value) : Prop := ∀ (G : List Asn) (w : World), Sat w0 w (L ++ G) → o.quietAt P a (fun w' => Sat w0 w' (L ++ G)) w v

/-- What operation o leaves in its slot, guards and all. -/
def yieldsF (P : Program) (ops : Array Oper) (w0 : World) (L : List Asn) (o : Oper) (a : Act) (v : Value) : Prop :=
  (Region.wanted o (yielded ops a.tmps) = true ∧ quietF P w0 L o a v) ∨ (Region.wanted o (yielded ops a.tmps) = false ∧ v = undef)


theorem yieldsF_same {o : Oper} {a a' : Act} {v : Value} (h : yieldsF P ops w0 L o a v) (he : execOp a'.eval o = execOp a.eval o) (hw : Region.wanted o (yielded ops a'.tmps) = Region.wanted o (yielded ops a.tmps)) :
    yieldsF P ops w0 L o a' v := by
  unfold yieldsF quietF Oper.quietAt at *
  rw [he, hw]; exact h


def putF (f : Nat → Value) : Option Tmp → Value → (Nat → Value)
  | none, _ => f
  | some d, v => upd f d v
theorem fr_putF (n : Nat) (f : Nat → Value) (d : Option Tmp) (v : Value) : (fr n f).put d v = fr n (putF f d v) := by
  cases d with
  | none => rfl
  | some d => exact fr_put n f d v
theorem putF_ne {f : Nat → Value} {d : Option Tmp} {v : Value} {s : Nat} (h : d ≠ some s) : putF f d v s = f s := by
  cases d with
  | none => rfl
  | some d => show upd f d v s = f s; exact upd_other f d s v (fun e => h (by rw [e]))
theorem putF_eq {f : Nat → Value} {d : Option Tmp} {v : Value} {s : Nat} (h : d = some s) : putF f d v s = v := by
  subst h; exact upd_same f s v

/-- Frames that agree in what an operation looks at. -/
theorem execOp_like {n : Nat} {f g : Nat → Value} {o : Oper} (hs : ∀ cs b, o.op ≠ .select cs b) (h : ∀ s ∈ o.looksAt ops, f s = g s) : execOp (ev n f) o = execOp (ev n g) o := by
  refine execOp_congr o hs fun x hx => ?_
  cases x with
  | tmp t =>
    have : t ∈ o.looksAt ops := List.mem_append_left _ (List.mem_filterMap.2 ⟨.tmp t, by simpa using hx, rfl⟩)
    simp only [ev, h t this]
  | _ => rfl
theorem wanted_like {n : Nat} {f g : Nat → Value} {o : Oper} (h : ∀ s ∈ o.looksAt ops, f s = g s) : Region.wanted o (yielded ops (fr n f).tmps) = Region.wanted o (yielded ops (fr n g).tmps) := by
  unfold Region.wanted
  cases hg : o.guard with
  | none => rfl
  | some gw =>
    obtain ⟨j, want⟩ := gw
    have hy : yielded ops (fr n f).tmps j = yielded ops (fr n g).tmps j := by
      unfold yielded
      cases ht : (ops[j]?).bind (·.dst) with
      | none => rfl
      | some t =>
        have hm : t ∈ o.looksAt ops := by simp [Oper.looksAt, hg, ht]
        have : (fr n f).tmps[t]? = (fr n g).tmps[t]? := by simp [fr, Array.getElem?_ofFn, h t hm]
        simp only [Option.bind_some]; rw [this]
    simp only [hy]

def dstOf (ops : Array Oper) (i : Nat) : Option Tmp := (ops[i]?).bind (·.dst)

/-- Does an operation ahead of k look at what k turns? -/
def earlyB (ops : Array Oper) (k : Nat) : Bool :=
  match dstOf ops k with
  | none => false
  | some d => (List.range k).any fun i => ((ops[i]?).map fun o => (o.looksAt ops).contains d).getD false
theorem earlyB_of {ops : Array Oper} {k d i : Nat} {o : Oper} (hd : dstOf ops k = some d) (hi : i < k) (ho : ops[i]? = some o) (hl : d ∈ o.looksAt ops) : earlyB ops k = true := by
  unfold earlyB
  rw [hd]
  refine List.any_eq_true.2 ⟨i, List.mem_range.2 hi, ?_⟩
  simp [ho, hl]

/-- The head in the text's order: what reads yields its value; what lays a variable is passed, and of the chain's operations a value is foretold. -/
def textF (P : Program) (ops : Array Oper) (w0 : World) (L : List Asn) (n : Nat) (al : Option Nat) (ch : List Nat) (K : (Nat → Value) → Prop) : Nat → List Oper → (Nat → Value) → Prop
  | _, [], f => K f
  | k, o :: l, f => if al = some k then textF P ops w0 L n al ch K (k + 1) l f
    else if ch.contains k then ∃ v, (earlyB ops k = true → ∀ d, o.dst = some d → v = f d) ∧ textF P ops w0 L n al ch K (k + 1) l (putF f o.dst v)
    else ∃ v, yieldsF P ops w0 L o (fr n f) v ∧ textF P ops w0 L n al ch K (k + 1) l (putF f o.dst v)

/-- Is operation k's result looked at by what reads in the head? -/
def lookedB (ops : Array Oper) (m : Nat) (al : Option Nat) (ch : List Nat) (k : Nat) : Bool :=
  match dstOf ops k with
  | none => false
  | some d => (List.range m).any fun i => decide (k < i) && !decide (al = some i) && !ch.contains i && ((ops[i]?).map fun o => (o.looksAt ops).contains d).getD false

/-- The operations of the chain, one behind the other: each turns the part C of memory and leaves the rest. -/
def chainF (P : Program) (ops : Array Oper) (w0 : World) (L : List Asn) (n m : Nat) (al : Option Nat) (all : List Nat) (K : List Asn → Act → Prop) : List Nat → List Asn → Act → Prop
  | [], C, a => K C a
  | k :: r, C, a => ∀ o, ops[k]? = some o → ∀ G w, Sat w0 w (C ++ (L ++ G)) →
      wpList P ops (fun e a' w' => e = .normal ∧ (∃ f', a' = fr n f') ∧ (lookedB ops m al all k = true → a' = a) ∧ ∃ C', Sat w0 w' (C' ++ (L ++ G)) ∧ chainF P ops w0 L n m al all K r C' a') [o] a w

/-- The Bool that such a region must meet. -/
def headB (ops : Array Oper) (al : Option Nat) (ch : List Nat) (m : Nat) : Bool :=
  Region.noSelect ops && decide (m < ops.size) && Region.sinkB .any ops m && Region.chainB .any ops m &&
  Region.seqB .any ops (ops.size - m) m ((List.range ops.size).map fun i => decide (i < m)).toArray &&
  ((List.range m).all fun i => match ops[i]? with
    | none => false
    | some o => (o.after.all fun e => !Region.binds .any e || decide (e.on < i)) &&
      ((List.range m).all fun j => decide (j = i) || (match o.dst with | none => true | some d => dstOf ops j != some d)) &&
      (if al = some i then true
       else (List.range m).all fun j => match dstOf ops j with
        | none => true
        | some d => !(o.looksAt ops).contains d || (decide (j < i) && Region.waitsFor .any ops i j && decide (al ≠ some j)) || (decide (i < j) && Region.waitsFor .any ops j i && ch.contains j))) &&
  (ch.all fun i => decide (i < m) && decide (al ≠ some i)) && ch.Pairwise (fun i j => i < j) &&
  ((List.range ch.length).all fun q => decide (q = 0) || Region.waitsFor .any ops (ch.getD q 0) (ch.getD (q - 1) 0))

structure HeadOk (ops : Array Oper) (al : Option Nat) (ch : List Nat) (m : Nat) : Prop where
  sel : ∀ (i : Nat) (o : Oper) cs b, ops[i]? = some o → o.op ≠ .select cs b
  lt : m < ops.size
  sink : Region.sinkB .any ops m = true
  chain : Region.chainB .any ops m = true
  seq : Region.seqB .any ops (ops.size - m) m ((List.range ops.size).map fun i => decide (i < m)).toArray = true
  back : ∀ i o, i < m → ops[i]? = some o → ∀ e ∈ o.after, Region.binds .any e = true → e.on < i
  uniq : ∀ i j d, i < m → j < m → dstOf ops i = some d → dstOf ops j = some d → i = j
  looks : ∀ i o, i < m → al ≠ some i → ops[i]? = some o → ∀ d ∈ o.looksAt ops, ∀ j, j < m → dstOf ops j = some d → (j < i ∧ Region.waitsFor .any ops i j = true ∧ al ≠ some j) ∨ (i < j ∧ Region.waitsFor .any ops j i = true ∧ j ∈ ch)
  chlt : ∀ i ∈ ch, i < m ∧ al ≠ some i
  asc : ch.Pairwise (fun i j => i < j)
  next : ∀ q, q + 1 < ch.length → Region.waitsFor .any ops (ch.getD (q + 1) 0) (ch.getD q 0) = true

theorem headOk_of {al : Option Nat} {ch : List Nat} {m : Nat} (h : headB ops al ch m = true) : HeadOk ops al ch m := by
  simp only [headB, Bool.and_eq_true, decide_eq_true_eq] at h
  obtain ⟨⟨⟨⟨⟨⟨⟨⟨h1, h2⟩, h3⟩, h4⟩, h5⟩, h6⟩, h7⟩, h8⟩, h9⟩ := h
  have hh : ∀ i o, i < m → ops[i]? = some o → _ := fun i o hi ho => by
    have := List.all_eq_true.1 h6 i (List.mem_range.2 hi)
    rw [ho] at this
    exact this
  refine ⟨Region.noSelect_spec h1, h2, h3, h4, h5, fun i o hi ho e he hb => ?_, fun i j d hi hj hdi hdj => ?_, fun i o hi hal ho d hd j hj hdj => ?_, fun i hi => ?_, h8, fun q hq => ?_⟩
  · have := hh i o hi ho
    simp only [Bool.and_eq_true] at this
    have := Array.all_eq_true'.1 this.1.1 e he
    simpa [hb] using this
  · by_cases hij : j = i
    · exact hij.symm
    · cases ho : ops[i]? with
      | none => simp [dstOf, ho] at hdi
      | some o =>
        have := hh i o hi ho
        simp only [Bool.and_eq_true] at this
        have := List.all_eq_true.1 this.1.2 j (List.mem_range.2 hj)
        have hod : o.dst = some d := by simpa [dstOf, ho] using hdi
        simp [hij, hod, hdj] at this
  · have := hh i o hi ho
    simp only [Bool.and_eq_true, if_neg hal] at this
    have := List.all_eq_true.1 this.2 j (List.mem_range.2 hj)
    rw [hdj] at this
    simp only [Bool.or_eq_true, Bool.not_eq_true', Bool.and_eq_true, decide_eq_true_eq] at this
    rcases this with (this | this) | this
    · rw [List.contains_eq_mem] at this; simp [hd] at this
    · exact .inl ⟨this.1.1, this.1.2, this.2⟩
    · exact .inr ⟨this.1.1, this.1.2, by simpa using this.2⟩
  · have := List.all_eq_true.1 h7 i hi
    simpa using this
  · have := List.all_eq_true.1 h9 (q + 1) (List.mem_range.2 hq)
    simpa using this

/-- How many of the first m are not listed. -/
def leftN (listed : Array Bool) : Nat → Nat
  | 0 => 0
  | m + 1 => leftN listed m + if listed.getD m true = false then 1 else 0
theorem leftN_set {listed : Array Bool} {i : Nat} (hi : listed.getD i true = false) : ∀ m, leftN (listed.setIfInBounds i true) m + (if i < m then 1 else 0) = leftN listed m
  | 0 => rfl
  | m + 1 => by
    have ih := leftN_set hi m
    have hsz : i < listed.size := by
      rcases Nat.lt_or_ge i listed.size with h | h
      · exact h
      · simp [Array.getElem?_eq_none h] at hi
    unfold leftN
    by_cases e : i = m
    · subst e
      have : (listed.setIfInBounds i true).getD i true = true := by simp [hsz]
      simp only [this, hi]
      simp at ih ⊢; exact ih
    · rw [getD_set_ne true e]
      by_cases h : i < m
      · rw [if_pos h] at ih; rw [if_pos (Nat.lt_succ_of_lt h)]; omega
      · rw [if_neg h] at ih; rw [if_neg (show ¬ i < m + 1 from fun h2 => h (by omega))]; omega
theorem leftN_zero {listed : Array Bool} : ∀ {m : Nat}, leftN listed m = 0 → ∀ i, i < m → listed.getD i true = true
  | m + 1, h, i, hi => by
    unfold leftN at h
    have h1 : leftN listed m = 0 := by omega
    by_cases e : i = m
    · subst e
      cases hc : listed.getD i true with
      | true => rfl
      | false => rw [hc] at h; simp at h
    · exact leftN_zero h1 i (by omega)
theorem leftN_pos {listed : Array Bool} : ∀ {m : Nat}, 0 < leftN listed m → ∃ i, i < m ∧ listed.getD i true = false ∧ ∀ j, j < i → listed.getD j true = true
  | m + 1, h => by
    rcases Nat.eq_zero_or_pos (leftN listed m) with h1 | h1
    · refine ⟨m, by omega, ?_, fun j hj => leftN_zero h1 j hj⟩
      unfold leftN at h
      cases hc : listed.getD m true with
      | false => rfl
      | true => rw [hc, h1] at h; simp at h
    · obtain ⟨i, hi, h2⟩ := leftN_pos h1
      exact ⟨i, by omega, h2⟩
theorem leftN_le (listed : Array Bool) (h : ∀ j, listed.getD j true = false ∨ True) : ∀ m, leftN listed m ≤ m
  | 0 => Nat.le_refl _
  | m + 1 => by unfold leftN; have := leftN_le listed h m; split <;> omega
theorem leftN_all {c : Nat} : ∀ m, m ≤ c → leftN (Array.replicate c false) m = m
  | 0, _ => rfl
  | m + 1, h => by
    unfold leftN
    rw [leftN_all m (by omega), if_pos]
    exact getD_in (by simpa using (show m < c by omega)) (getD_replicate_false _ _)

/-- What the text's walk leaves: each value, and that each operation yields it in whatever frame has what it looks at. -/
structure Vals (P : Program) (ops : Array Oper) (w0 : World) (L : List Asn) (n m : Nat) (al : Option Nat) (ch : List Nat) (k : Nat) (f fF : Nat → Value) : Prop where
  base : ∀ s, (∀ i, k ≤ i → i < m → dstOf ops i ≠ some s) → fF s = f s
  val : ∀ i o, k ≤ i → i < m → ops[i]? = some o → al ≠ some i → ch.contains i = false → ∃ v, (∀ d, o.dst = some d → fF d = v) ∧ ∃ g, (∀ s ∈ o.looksAt ops, g s = fF s) ∧ yieldsF P ops w0 L o (fr n g) v
  early : ∀ i d, k ≤ i → i < m → i ∈ ch → earlyB ops i = true → dstOf ops i = some d → fF d = f d

theorem Vals.step {n k : Nat} {ch : List Nat} {f f' fF : Nat → Value} {o : Oper} (h0 : ops[k]? = some o) (hkm : k < m) (ok : HeadOk ops al ch m) (H : Vals P ops w0 L n m al ch (k + 1) f' fF) (hf : ∀ s, dstOf ops k ≠ some s → f' s = f s)
    (hq : al ≠ some k → ch.contains k = false → ∃ v, (∀ d, o.dst = some d → f' d = v) ∧ yieldsF P ops w0 L o (fr n f) v) (he : k ∈ ch → earlyB ops k = true → ∀ d, o.dst = some d → f' d = f d) : Vals P ops w0 L n m al ch k f fF := by
  have hd0 : dstOf ops k = o.dst := by simp [dstOf, h0]
  have hbase : ∀ s, (∀ i, k ≤ i → i < m → dstOf ops i ≠ some s) → fF s = f s := fun s hs => (H.base s fun i hi => hs i (by omega)).trans (hf s (hs k (Nat.le_refl _) hkm))
  have hearly : ∀ i d, k ≤ i → i < m → i ∈ ch → earlyB ops i = true → dstOf ops i = some d → fF d = f d := fun i d hi him hic hei hdi => by
    by_cases e : i = k
    · subst e
      rw [H.base d fun j hj hjm hj2 => ?_]
      · exact he hic hei d (by rw [← hd0]; exact hdi)
      · have := ok.uniq i j d hkm hjm hdi hj2; omega
    · rw [H.early i d (by omega) him hic hei hdi]
      exact hf d fun hk2 => e (ok.uniq i k d him hkm hdi hk2)
  refine ⟨hbase, fun i oi hi him hoi hali hci => ?_, hearly⟩
  by_cases e : i = k
  · subst e
    have : oi = o := Option.some.inj (hoi.symm.trans h0)
    subst this
    obtain ⟨v, hv, hy⟩ := hq hali hci
    refine ⟨v, fun d hd => ?_, f, fun s hs => ?_, hy⟩
    · rw [H.base d fun j hj hjm he => ?_]
      · exact hv d hd
      · have := ok.uniq i j d hkm hjm (by rw [hd0]; exact hd) he; omega
    · by_cases hex : ∃ j, i ≤ j ∧ j < m ∧ dstOf ops j = some s
      · obtain ⟨j, hj, hjm, hjs⟩ := hex
        rcases ok.looks i oi hkm hali h0 s hs j hjm hjs with h1 | ⟨h1, _, h3⟩
        · omega
        · exact (hearly j s hj hjm h3 (earlyB_of hjs h1 h0 hs) hjs).symm
      · exact (hbase s fun j hj hjm he => hex ⟨j, hj, hjm, he⟩).symm
  · exact H.val i oi (by omega) him hoi hali hci

theorem text_vals {n : Nat} {ch : List Nat} {K : (Nat → Value) → Prop} (ok : HeadOk ops al ch m) : ∀ (l : List Oper) (k : Nat) (f : Nat → Value), (∀ j, j < l.length → l[j]? = ops[k + j]?) → k + l.length = m → textF P ops w0 L n al ch K k l f →
    ∃ fF : Nat → Value, K fF ∧ Vals P ops w0 L n m al ch k f fF
  | [], k, f, _, hk, h => ⟨f, h, fun _ _ => rfl, fun i o h1 h2 => (by simp at hk; omega), fun i d h1 h2 => (by simp at hk; omega)⟩
  | o :: l, k, f, hl, hk, h => by
    have h0 : ops[k]? = some o := by simpa using (hl 0 (by simp)).symm
    have hkm : k < m := by simp only [List.length_cons] at hk; omega
    have hl' : ∀ j, j < l.length → l[j]? = ops[k + 1 + j]? := fun j hj => by have := hl (j + 1) (by simp; omega); simpa [Nat.add_assoc, Nat.add_comm 1 j] using this
    have hk' : k + 1 + l.length = m := by simp only [List.length_cons] at hk; omega
    have hd0 : dstOf ops k = o.dst := by simp [dstOf, h0]
    unfold textF at h
    split at h
    · rename_i ha
      obtain ⟨fF, hK, hv⟩ := text_vals ok l (k + 1) f hl' hk' h
      exact ⟨fF, hK, hv.step h0 hkm ok (fun _ _ => rfl) (fun hn => absurd ha hn) (fun _ _ _ _ => rfl)⟩
    · split at h
      · rename_i hc
        obtain ⟨v, hev, hh⟩ := h
        obtain ⟨fF, hK, hv⟩ := text_vals ok l (k + 1) _ hl' hk' hh
        exact ⟨fF, hK, hv.step h0 hkm ok (fun s hs => putF_ne (by rw [← hd0]; exact hs)) (fun _ hc' => by rw [hc] at hc'; cases hc') (fun _ he d hd => by rw [putF_eq hd]; exact hev he d hd)⟩
      · rename_i hnc
        obtain ⟨v, hy, hh⟩ := h
        obtain ⟨fF, hK, hv⟩ := text_vals ok l (k + 1) _ hl' hk' hh
        exact ⟨fF, hK, hv.step h0 hkm ok (fun s hs => putF_ne (by rw [← hd0]; exact hs)) (fun _ _ => ⟨v, fun d hd => putF_eq hd, hy⟩) (fun hc => absurd (by simpa using hc) hnc)⟩

/-! ### Every order that the region may take -/
theorem stand_wp {o : Oper} {a : Act} {v : Value} {G : List Asn} {w : World} (hS : Sat w0 w (L ++ G)) (hy : quietF P w0 L o a v) {K : Act → World → Prop} {Q : Exit → Act → World → Prop}
    (h : ∀ w', Sat w0 w' (L ++ G) → K (a.put o.dst v) w') : o.wp P a w K Q :=
  Oper.wp_of_quiet (C := fun w' => Sat w0 w' (L ++ G)) (K := fun a' => ∀ w', Sat w0 w' (L ++ G) → K a' w') hS (fun _ w' hw' hk => hk w' hw') ⟨v, fun w' hw' => hy G w' hw', h⟩

theorem wp_move {o : Oper} {n : Nat} {f g : Nat → Value} {w : World} {K1 K2 : Act → World → Prop} {Q1 Q2 : Exit → Act → World → Prop} (h : o.wp P (fr n f) w K1 Q1) (he : execOp (fr n g).eval o = execOp (fr n f).eval o)
    (hK : ∀ v w', K1 ((fr n f).put o.dst v) w' → K2 ((fr n g).put o.dst v) w') (hd : ∀ a w', K1 a w' → a.defers = []) (hQ : ∀ e a w', e ≠ .normal → ¬ Q1 e a w') : o.wp P (fr n g) w K2 Q2 := by
  unfold Oper.wp at *
  rw [he]
  generalize (execOp (fr n f).eval o).run P w = r at *
  cases r with
  | ok x w' =>
    cases x <;> simp only [Oper.upon] at h ⊢
    case value v => exact hK v w' h
    case skip => exact hK undef w' h
    case defer d =>
      have := hd _ _ h
      cases hdst : o.dst <;> simp [Act.put, hdst] at this
    case enter F args =>
      refine Calls.mono h fun e w'' hh => ?_
      cases e with
      | returned v => exact hK v w'' hh
      | panicked c => exact absurd hh (hQ _ _ _ (by simp))
      | outgrown => obtain ⟨a, w3, h3⟩ := hh; exact absurd h3 (hQ _ _ _ (by simp))
    case row R args => exact Rows.mono h fun v w'' hh => hK v w'' hh
    all_goals exact h.elim
  | halt x w' =>
    cases x <;> simp only [Oper.upon] at h ⊢
    case panic v => exact absurd h (hQ _ _ _ (by simp))
    all_goals exact h.elim

theorem getD_true_of {listed : Array Bool} {i : Nat} (h : listed.getD i false = true) : listed.getD i true = true := by
  rcases Nat.lt_or_ge i listed.size with h' | h'
  · simp [h'] at h ⊢; exact h
  · simp [Array.getElem?_eq_none h'] at h
theorem getD_false_of {listed : Array Bool} {i : Nat} (hi : i < listed.size) (h : listed.getD i true = true) : listed.getD i false = true := by
  simp [hi] at h ⊢; exact h

/-- The new variable: its operation, its slot, what it is laid with. -/
structure NewVar (P : Program) (ops : Array Oper) (m : Nat) (al : Option Nat) (da : Nat) (ta : TypeId) (z : Value) : Prop where
  op : ∀ i, al = some i → i < m ∧ ∃ o, ops[i]? = some o ∧ o.op = .alloc ta ∧ o.dst = some da ∧ o.guard = none
  zero : ∀ i, al = some i → ∀ w, (zeroValue ta).run P w = .ok z w

/-- The frame, the world and the walks at some moment of the head. -/
structure Mid (P : Program) (ops : Array Oper) (w0 : World) (L : List Asn) (n m : Nat) (al : Option Nat) (ch : List Nat) (K : List Asn → Act → Prop) (da : Nat) (ta : TypeId) (z : Value) (fF f0 : Nat → Value)
    (listed : Array Bool) (g : Nat → Value) (w : World) (r : List Nat) (C : List Asn) (fc : Nat → Value) : Prop where
  inv : HeadInv .any ops m listed
  base : ∀ s, (∀ i, i < m → dstOf ops i ≠ some s) → g s = fF s
  quiet : ∀ i, i < m → al ≠ some i → i ∉ ch → listed.getD i true = true → ∀ d, dstOf ops i = some d → g d = fF d
  chain : ∀ i ∈ ch, listed.getD i true = true → ∀ d, dstOf ops i = some d → g d = fc d
  same : ∀ s, (∀ i ∈ ch, dstOf ops i ≠ some s) → fc s = fF s
  looked : ∀ i ∈ ch, lookedB ops m al ch i = true → ∀ d, dstOf ops i = some d → fc d = fF d
  pre : ∀ i ∈ ch, listed.getD i true = false → ∀ d, dstOf ops i = some d → g d = f0 d ∧ fc d = fF d
  suffix : ∃ q, r = ch.drop q ∧ (∀ j x, j < q → ch[j]? = some x → listed.getD x true = true) ∧ ∀ x ∈ r, listed.getD x true = false
  world : ((∃ i, al = some i ∧ listed.getD i true = true) ∧ ∃ b, g da = .pointer (some ⟨b, 0, none⟩) ∧ Sat w0 w ([pt b (.cells z.cells ta)] ++ (C ++ L))) ∨ ((∀ i, al = some i → listed.getD i true = false) ∧ Sat w0 w (C ++ L))
  walk : chainF P ops w0 L n m al ch K r C (fr n fc)

section
variable {n : Nat} {ch : List Nat} {K : List Asn → Act → Prop} {da : Nat} {ta : TypeId} {z : Value} {fF : Nat → Value} {listed : Array Bool} {g : Nat → Value} {w : World} {r : List Nat} {C : List Asn} {fc f0 : Nat → Value} {i : Nat} {o : Oper}

theorem Mid.waits (hi : i ∈ Region.ready .any ops listed) {j : Nat} (h : Region.waitsFor .any ops i j = true) : listed.getD j true = true := by
  obtain ⟨_, oi, hoi, hall⟩ := mem_ready.1 hi
  obtain ⟨oj, hoj, e, he, hb, hon⟩ := Region.waitsFor_spec h
  have : oj = oi := Option.some.inj (hoj.symm.trans hoi)
  subst this; subst hon
  exact getD_true_of (hall e he hb)

/-- Who waits for one that is not listed is not listed. -/
theorem Mid.waits' (M : Mid P ops w0 L n m al ch K da ta z fF f0 listed g w r C fc) (hun : listed.getD i true = false) {j : Nat} (h : Region.waitsFor .any ops j i = true) : listed.getD j true = false := by
  cases hl : listed.getD j true with
  | false => rfl
  | true =>
    obtain ⟨oj, hoj, e, he, hb, hon⟩ := Region.waitsFor_spec h
    subst hon
    have hjs : j < listed.size := by rw [M.inv.size]; exact (Array.getElem?_eq_some_iff.1 hoj).1
    have := M.inv.closed j oj hoj (getD_false_of hjs hl) e he hb
    rw [getD_true_of this] at hun; cases hun

theorem Mid.sub (M : Mid P ops w0 L n m al ch K da ta z fF f0 listed g w r C fc) {x : Nat} (hx : x ∈ r) : x ∈ ch := by
  obtain ⟨q, rfl, _⟩ := M.suffix; exact List.mem_of_mem_drop hx

/-- What all steps share: what is listed already stays as it is. -/
theorem Mid.others (hok : HeadOk ops al ch m) (_hi : i ∈ Region.ready .any ops listed) (him : i < m) (ho : ops[i]? = some o) {d : Nat} {v : Value} {j : Nat} (hj : j < m) (hne : j ≠ i) (hd : dstOf ops j = some d) : putF g o.dst v d = g d := by
  refine putF_ne fun he => hne ?_
  exact hok.uniq j i d hj him hd (by simp [dstOf, ho, he])

theorem Mid.quietStep (hok : HeadOk ops al ch m) (hv : Vals P ops w0 L n m al ch 0 f0 fF) (hnv : NewVar P ops m al da ta z) (M : Mid P ops w0 L n m al ch K da ta z fF f0 listed g w r C fc) (hi : i ∈ Region.ready .any ops listed) (him : i < m) (hal : al ≠ some i) (hch : i ∉ ch)
    (ho : ops[i]? = some o) {K' : Act → World → Prop} {Q : Exit → Act → World → Prop}
    (h : ∀ g' w', Mid P ops w0 L n m al ch K da ta z fF f0 (listed.setIfInBounds i true) g' w' r C fc → K' (fr n g') w') : wpOp P ops Q i K' (fr n g) w := by
  obtain ⟨v, hvd, g0, hg0, hy⟩ := hv.val i o (Nat.zero_le _) him ho hal (by simpa using hch)
  have hun := (mem_ready.1 hi).1
  have hlook : ∀ s ∈ o.looksAt ops, g s = g0 s := fun s hs => by
    rw [hg0 s hs]
    by_cases hex : ∃ j, j < m ∧ dstOf ops j = some s
    · obtain ⟨j, hj, hjs⟩ := hex
      rcases hok.looks i o him hal ho s hs j hj hjs with ⟨h1, h2, h3⟩ | ⟨h1, h2, h3⟩
      · have hl := Mid.waits hi h2
        by_cases hjc : j ∈ ch
        · rw [M.chain j hjc hl s hjs]
          refine M.looked j hjc ?_ s hjs
          unfold lookedB
          rw [hjs]
          refine List.any_eq_true.2 ⟨i, List.mem_range.2 him, ?_⟩
          simp [hal, hch, ho, hs, h1]
        · exact M.quiet j hj h3 hjc hl s hjs
      · rw [(M.pre j h3 (M.waits' hun h2) s hjs).1]
        exact (hv.early j s (Nat.zero_le _) hj h3 (earlyB_of hjs h1 ho hs) hjs).symm
    · exact M.base s fun j hj he => hex ⟨j, hj, he⟩
  have hsel := fun cs b => hok.sel i o cs b ho
  have e1 : execOp (fr n g).eval o = execOp (fr n g0).eval o := by rw [fr_eval, fr_eval]; exact execOp_like hsel hlook
  have e2 := wanted_like (n := n) hlook
  have hset : ∀ q, q ≠ i → (listed.setIfInBounds i true).getD q true = listed.getD q true := fun q hq => getD_set_ne true (Ne.symm hq)
  have hnew : ∀ w', ((∃ i, al = some i ∧ listed.getD i true = true) ∧ ∃ b, g da = .pointer (some ⟨b, 0, none⟩) ∧ Sat w0 w' ([pt b (.cells z.cells ta)] ++ (C ++ L))) ∨ ((∀ i, al = some i → listed.getD i true = false) ∧ Sat w0 w' (C ++ L)) →
      Mid P ops w0 L n m al ch K da ta z fF f0 (listed.setIfInBounds i true) (putF g o.dst v) w' r C fc := fun w' hw' => by
    refine ⟨M.inv.set hi him, fun s hs => ?_, fun j hj haj hjc hl d hd => ?_, fun j hjc hl d hd => ?_, M.same, M.looked, fun j hjc hl d hd => ?_, ?_, ?_, M.walk⟩
    · rw [putF_ne fun he => hs i him (by simp [dstOf, ho, he])]; exact M.base s hs
    · by_cases hji : j = i
      · subst hji
        have hod : o.dst = some d := by simpa [dstOf, ho] using hd
        rw [putF_eq hod, hvd d hod]
      · rw [Mid.others hok hi him ho hj hji hd]
        rw [hset j hji] at hl
        exact M.quiet j hj haj hjc hl d hd
    · have hji : j ≠ i := fun e => hch (e ▸ hjc)
      rw [Mid.others hok hi him ho (hok.chlt j hjc).1 hji hd]
      rw [hset j hji] at hl
      exact M.chain j hjc hl d hd
    · have hji : j ≠ i := fun e => hch (e ▸ hjc)
      rw [Mid.others hok hi him ho (hok.chlt j hjc).1 hji hd]
      rw [hset j hji] at hl
      exact M.pre j hjc hl d hd
    · obtain ⟨q, hq, h1, h2⟩ := M.suffix
      refine ⟨q, hq, fun j x hj hx => ?_, fun x hx => ?_⟩
      · rw [hset x fun e => hch (e ▸ List.mem_of_getElem? hx)]; exact h1 j x hj hx
      · rw [hset x fun e => hch (e ▸ M.sub hx)]; exact h2 x hx
    · rcases hw' with ⟨⟨q, hq, hl⟩, b, hb, hS⟩ | ⟨hno, hS⟩
      · have hqi : q ≠ i := fun e => hal (e ▸ hq)
        obtain ⟨hqm, oq, hoq, _, hdq, _⟩ := hnv.op q hq
        exact .inl ⟨⟨q, hq, by rw [hset q hqi]; exact hl⟩, b, by rw [Mid.others hok hi him ho hqm hqi (by simp [dstOf, hoq, hdq])]; exact hb, hS⟩
      · exact .inr ⟨fun q hq => by rw [hset q fun e => hal (e ▸ hq)]; exact hno q hq, hS⟩
  unfold wpOp
  simp only [ho]
  rw [e2]
  rcases hy with ⟨hw, hqt⟩ | ⟨hw, rfl⟩
  · rw [if_pos hw]
    refine .inl ?_
    have hqt' : quietF P w0 L o (fr n g) v := by unfold quietF Oper.quietAt at *; rw [e1]; exact hqt
    rcases M.world with ⟨h1, b, hb, hS⟩ | ⟨h1, hS⟩
    · refine stand_wp (G := [pt b (.cells z.cells ta)] ++ C) ?_ hqt' fun w' hS' => ?_
      · have := hS; rw [← List.append_assoc] at this; exact this.comm
      · rw [fr_putF]; exact h _ _ (hnew w' (.inl ⟨h1, b, hb, by rw [← List.append_assoc]; exact hS'.comm⟩))
    · refine stand_wp (G := C) hS.comm hqt' fun w' hS' => ?_
      rw [fr_putF]; exact h _ _ (hnew w' (.inr ⟨h1, hS'.comm⟩))
  · rw [if_neg (by simp [hw]), fr_putF]
    exact h _ _ (hnew w M.world)

theorem Mid.newStep (hok : HeadOk ops al ch m) (hnv : NewVar P ops m al da ta z) (M : Mid P ops w0 L n m al ch K da ta z fF f0 listed g w r C fc) (hi : i ∈ Region.ready .any ops listed) (him : i < m) (hal : al = some i)
    {K' : Act → World → Prop} {Q : Exit → Act → World → Prop}
    (h : ∀ g' w', Mid P ops w0 L n m al ch K da ta z fF f0 (listed.setIfInBounds i true) g' w' r C fc → K' (fr n g') w') : wpOp P ops Q i K' (fr n g) w := by
  obtain ⟨_, o, ho, hop, hd, hg⟩ := hnv.op i hal
  have hz := hnv.zero i hal w
  have hun := (mem_ready.1 hi).1
  have hisz : i < listed.size := by rw [M.inv.size]; exact (Array.getElem?_eq_some_iff.1 ho).1
  have hset : ∀ q, q ≠ i → (listed.setIfInBounds i true).getD q true = listed.getD q true := fun q hq => getD_set_ne true (Ne.symm hq)
  have hch : i ∉ ch := fun hc => (hok.chlt i hc).2 hal
  have hS : Sat w0 w (C ++ L) := by
    rcases M.world with ⟨⟨q, hq, hl⟩, _⟩ | ⟨_, hS⟩
    · rw [hal] at hq; cases hq; rw [hun] at hl; cases hl
    · exact hS
  unfold wpOp
  simp only [ho]
  rw [if_pos (by simp [Region.wanted, hg])]
  refine .inl ?_
  unfold Oper.wp
  have hr : (execOp (fr n g).eval o).run P w = .ok (.value (.pointer (some ⟨w.heap.size, 0, none⟩))) (w.alloc (.cells z.cells ta)) := by
    simp only [execOp, hop]
    simp [Instr.alloc, hz, newVar, newRow, newObj, Sem.run]
  rw [hr]
  show K' ((fr n g).put o.dst _) _
  rw [fr_putF]
  refine h _ _ ⟨M.inv.set hi him, fun s hs => ?_, fun j hj haj hjc hl d hdj => ?_, fun j hjc hl d hdj => ?_, M.same, M.looked, fun j hjc hl d hdj => ?_, ?_, ?_, M.walk⟩
  · rw [putF_ne fun he => hs i him (by simp [dstOf, ho, he])]; exact M.base s hs
  · have hji : j ≠ i := fun e => haj (e ▸ hal)
    rw [Mid.others hok hi him ho hj hji hdj]
    rw [hset j hji] at hl
    exact M.quiet j hj haj hjc hl d hdj
  · have hji : j ≠ i := fun e => hch (e ▸ hjc)
    rw [Mid.others hok hi him ho (hok.chlt j hjc).1 hji hdj]
    rw [hset j hji] at hl
    exact M.chain j hjc hl d hdj
  · have hji : j ≠ i := fun e => hch (e ▸ hjc)
    rw [Mid.others hok hi him ho (hok.chlt j hjc).1 hji hdj]
    rw [hset j hji] at hl
    exact M.pre j hjc hl d hdj
  · obtain ⟨q, hq, h1, h2⟩ := M.suffix
    refine ⟨q, hq, fun j x hj hx => ?_, fun x hx => ?_⟩
    · rw [hset x fun e => hch (e ▸ List.mem_of_getElem? hx)]; exact h1 j x hj hx
    · rw [hset x fun e => hch (e ▸ M.sub hx)]; exact h2 x hx
  · refine .inl ⟨⟨i, hal, by simp [hisz]⟩, w.heap.size, putF_eq hd, (hS.alloc _).comm⟩

theorem Mid.chainStep (hok : HeadOk ops al ch m) (hv : Vals P ops w0 L n m al ch 0 f0 fF) (hnv : NewVar P ops m al da ta z) (M : Mid P ops w0 L n m al ch K da ta z fF f0 listed g w r C fc) (hi : i ∈ Region.ready .any ops listed) (him : i < m) (hch : i ∈ ch)
    (ho : ops[i]? = some o) {K' : Act → World → Prop} {Q : Exit → Act → World → Prop}
    (h : ∀ g' w' r' C' fc', Mid P ops w0 L n m al ch K da ta z fF f0 (listed.setIfInBounds i true) g' w' r' C' fc' → K' (fr n g') w') : wpOp P ops Q i K' (fr n g) w := by
  have hal : al ≠ some i := (hok.chlt i hch).2
  have hun := (mem_ready.1 hi).1
  have hisz : i < listed.size := by rw [M.inv.size]; exact (Array.getElem?_eq_some_iff.1 ho).1
  have hset : ∀ q, q ≠ i → (listed.setIfInBounds i true).getD q true = listed.getD q true := fun q hq => getD_set_ne true (Ne.symm hq)
  have hseti : (listed.setIfInBounds i true).getD i true = true := by simp [hisz]
  -- it is the chain's next
  obtain ⟨q, hq, h1, h2⟩ := M.suffix
  obtain ⟨j, hj⟩ := List.getElem?_of_mem hch
  have hjl := lt_of_get hj
  have hjq : j = q := by
    rcases Nat.lt_trichotomy j q with hlt | he | hgt
    · have := h1 j i hlt hj; rw [hun] at this; cases this
    · exact he
    · exfalso
      have hw := hok.next (j - 1) (by omega)
      rw [show j - 1 + 1 = j by omega] at hw
      have e1 : ch.getD j 0 = i := by simp [List.getD, hj]
      have e2 : ch[j - 1]? = some (ch.getD (j - 1) 0) := by simp [List.getD, List.getElem?_eq_getElem (show j - 1 < ch.length by omega)]
      rw [e1] at hw
      have hl := Mid.waits hi hw
      have : ch.getD (j - 1) 0 ∈ r := by
        rw [hq]
        refine List.mem_of_getElem? (i := j - 1 - q) ?_
        rw [List.getElem?_drop, show q + (j - 1 - q) = j - 1 by omega, e2]
      have := h2 _ this
      rw [hl] at this; cases this
  subst hjq
  have hr : r = i :: ch.drop (j + 1) := by
    rw [hq, List.drop_eq_getElem_cons hjl]
    congr 1
    rw [List.getElem?_eq_getElem hjl] at hj; exact Option.some.inj hj
  have hnot : ∀ x ∈ ch.drop (j + 1), x ≠ i := fun x hx e => by
    subst e
    have hp := hok.asc
    have hd : ch = ch.take j ++ x :: ch.drop (j + 1) := by rw [← hr, hq, List.take_append_drop]
    rw [hd] at hp
    have := (List.pairwise_cons.1 (List.pairwise_append.1 hp).2.1).1 x hx
    omega
  have W := M.walk
  rw [hr] at W
  have hlook : ∀ s ∈ o.looksAt ops, g s = fc s := fun s hs => by
    by_cases hex : ∃ j, j < m ∧ dstOf ops j = some s
    · obtain ⟨k, hk, hks⟩ := hex
      rcases hok.looks i o him hal ho s hs k hk hks with ⟨_, h4, h3⟩ | ⟨h1, h2, h3⟩
      · have hl := Mid.waits hi h4
        by_cases hkc : k ∈ ch
        · exact M.chain k hkc hl s hks
        · rw [M.quiet k hk h3 hkc hl s hks, M.same s fun x hx he => hkc ?_]
          have := hok.uniq x k s (hok.chlt x hx).1 hk he hks
          exact this ▸ hx
      · have := M.pre k h3 (M.waits' hun h2) s hks
        rw [this.1, this.2]
        exact (hv.early k s (Nat.zero_le _) hk h3 (earlyB_of hks h1 ho hs) hks).symm
    · rw [M.base s fun j hj he => hex ⟨j, hj, he⟩, M.same s fun x hx he => hex ⟨x, (hok.chlt x hx).1, he⟩]
  have hsel := fun cs b => hok.sel i o cs b ho
  have e1 : execOp (fr n g).eval o = execOp (fr n fc).eval o := by rw [fr_eval, fr_eval]; exact execOp_like hsel hlook
  have e2 := wanted_like (n := n) hlook
  -- the state behind it
  have hnew : ∀ (G : List Asn) (w' : World) (v : Value), ((∃ i, al = some i ∧ listed.getD i true = true) ∧ (∃ b, g da = .pointer (some ⟨b, 0, none⟩) ∧ G = [pt b (.cells z.cells ta)])) ∨ ((∀ i, al = some i → listed.getD i true = false) ∧ G = []) →
      ((lookedB ops m al ch i = true → (fr n fc).put o.dst v = fr n fc) ∧ ∃ C', Sat w0 w' (C' ++ (L ++ G)) ∧ chainF P ops w0 L n m al ch K (ch.drop (j + 1)) C' ((fr n fc).put o.dst v)) → K' ((fr n g).put o.dst v) w' := fun G w' v hG hx => by
    obtain ⟨hlk, C', hS', hW'⟩ := hx
    -- the value may be taken to be the one foretold
    have hv' : ∃ v', (fr n g).put o.dst v = fr n (putF g o.dst v') ∧ (fr n fc).put o.dst v = fr n (putF fc o.dst v') ∧ (lookedB ops m al ch i = true → ∀ d, o.dst = some d → v' = fc d) := by
      rw [fr_putF, fr_putF]
      cases hd : o.dst with
      | none => exact ⟨v, rfl, rfl, fun _ d hd => by cases hd⟩
      | some d =>
        cases hb : lookedB ops m al ch i with
        | false => exact ⟨v, rfl, rfl, fun hh => by cases hh⟩
        | true =>
          have hl := hlk hb
          rw [fr_putF, hd] at hl
          rcases Nat.lt_or_ge d n with hdn | hdn
          · have hv2 : v = fc d := by
              have := congrArg (fun a : Act => a.tmps[d]?) hl
              simp [fr, hdn, putF, upd_same] at this
              exact this
            exact ⟨v, rfl, rfl, fun _ d' hd' => by cases hd'; exact hv2⟩
          · have key : ∀ (ff : Nat → Value) (u u' : Value), fr n (putF ff (some d) u) = fr n (putF ff (some d) u') := fun ff u u' => by
              unfold fr
              congr 1
              apply Array.ext
              · simp
              · intro x hx1 hx2
                have : x < n := by simpa using hx1
                simp only [Array.getElem_ofFn]
                rw [putF_ne (fun e => by cases e; omega), putF_ne (fun e => by cases e; omega)]
            exact ⟨fc d, key _ _ _, key _ _ _, fun _ d' hd' => by cases hd'; rfl⟩
    obtain ⟨v', hgv, hfv, hvl⟩ := hv'
    rw [hgv]
    rw [hfv] at hW'
    refine h _ w' (ch.drop (j + 1)) C' (putF fc o.dst v') ⟨M.inv.set hi him, fun s hs => ?_, fun k hk hak hkc hl d hd => ?_, fun k hkc hl d hd => ?_, fun s hs => ?_, fun k hkc hkl d hd => ?_, fun k hkc hl d hd => ?_, ?_, ?_, hW'⟩
    · rw [putF_ne fun he => hs i him (by simp [dstOf, ho, he])]; exact M.base s hs
    · have hki : k ≠ i := fun e => hkc (e ▸ hch)
      rw [Mid.others hok hi him ho hk hki hd]
      rw [hset k hki] at hl
      exact M.quiet k hk hak hkc hl d hd
    · by_cases hki : k = i
      · subst hki
        have hod : o.dst = some d := by simpa [dstOf, ho] using hd
        rw [putF_eq hod, putF_eq hod]
      · rw [Mid.others hok hi him ho (hok.chlt k hkc).1 hki hd, Mid.others hok hi him ho (hok.chlt k hkc).1 hki hd]
        rw [hset k hki] at hl
        exact M.chain k hkc hl d hd
    · rw [putF_ne fun he => hs i hch (by simp [dstOf, ho, he])]; exact M.same s hs
    · by_cases hki : k = i
      · subst hki
        have hod : o.dst = some d := by simpa [dstOf, ho] using hd
        rw [putF_eq hod, hvl hkl d hod]
        exact M.looked k hkc hkl d hd
      · rw [Mid.others hok hi him ho (hok.chlt k hkc).1 hki hd]; exact M.looked k hkc hkl d hd
    · have hki : k ≠ i := fun e => by subst e; rw [hseti] at hl; cases hl
      rw [Mid.others hok hi him ho (hok.chlt k hkc).1 hki hd, Mid.others hok hi him ho (hok.chlt k hkc).1 hki hd]
      rw [hset k hki] at hl
      exact M.pre k hkc hl d hd
    · refine ⟨j + 1, rfl, fun k x hk hx => ?_, fun x hx => ?_⟩
      · by_cases hxi : x = i
        · subst hxi; exact hseti
        · rw [hset x hxi]
          rcases Nat.lt_or_ge k j with hkj | hkj
          · exact h1 k x hkj hx
          · have : k = j := by omega
            subst this
            rw [hj] at hx; cases hx; exact absurd rfl hxi
      · rw [hset x (hnot x hx)]
        exact h2 x (by rw [hr]; exact List.mem_cons_of_mem _ hx)
    · rcases hG with ⟨⟨q, hq, hl⟩, b, hb, rfl⟩ | ⟨hno, rfl⟩
      · have hqi : q ≠ i := fun e => hal (e ▸ hq)
        obtain ⟨hqm, oq, hoq, _, hdq, _⟩ := hnv.op q hq
        refine .inl ⟨⟨q, hq, by rw [hset q hqi]; exact hl⟩, b, by rw [Mid.others hok hi him ho hqm hqi (by simp [dstOf, hoq, hdq])]; exact hb, ?_⟩
        rw [← List.append_assoc] at hS'; exact hS'.comm
      · exact .inr ⟨fun q hq => by rw [hset q fun e => hal (e ▸ hq)]; exact hno q hq, by simpa using hS'⟩
  have fin : ∀ (G : List Asn), Sat w0 w (C ++ (L ++ G)) → ((∃ i, al = some i ∧ listed.getD i true = true) ∧ (∃ b, g da = .pointer (some ⟨b, 0, none⟩) ∧ G = [pt b (.cells z.cells ta)])) ∨ ((∀ i, al = some i → listed.getD i true = false) ∧ G = []) →
      wpOp P ops Q i K' (fr n g) w := fun G hS hG => by
    have H := W o ho G w hS
    unfold wpOp
    simp only [ho]
    rw [e2]
    unfold wpList at H
    split at H
    · rename_i hw
      rw [if_pos hw]
      refine .inl ?_
      rcases H with H | ⟨_, a, w3, h3, _⟩
      · refine wp_move H e1 (fun v w' hx => hnew G w' v hG ?_) (fun a w' hx => ?_) (fun e a w' hne hx => hne hx.1)
        · exact hx.2.2
        · obtain ⟨_, ⟨f', rfl⟩, _⟩ := hx; rfl
      · cases h3
    · rename_i hw
      rw [if_neg hw]
      exact hnew G w undef hG H.2.2
  rcases M.world with ⟨h3, b, hb, hS⟩ | ⟨h3, hS⟩
  · exact fin [pt b (.cells z.cells ta)] (by have := hS.comm; rwa [List.append_assoc] at this) (.inl ⟨h3, b, hb, rfl⟩)
  · exact fin [] (by simpa using hS) (.inr ⟨h3, rfl⟩)

theorem mid_sound (hok : HeadOk ops al ch m) (hv : Vals P ops w0 L n m al ch 0 f0 fF) (hnv : NewVar P ops m al da ta z) {Q : Exit → Act → World → Prop} {gc : Nat}
    (hend : ∀ listed g w C fc, leftN listed m = 0 → Mid P ops w0 L n m al ch K da ta z fF f0 listed g w [] C fc → wpAny P .any ops Q gc listed (fr n g) w) :
    ∀ (k : Nat) (listed : Array Bool) (g : Nat → Value) (w : World) (r : List Nat) (C : List Asn) (fc : Nat → Value), leftN listed m = k → Mid P ops w0 L n m al ch K da ta z fF f0 listed g w r C fc → wpAny P .any ops Q (k + gc) listed (fr n g) w
  | 0, listed, g, w, r, C, fc, hk, M => by
    rw [Nat.zero_add]
    have hr : r = [] := by
      cases hrr : r with
      | nil => rfl
      | cons x xs =>
        have hx : x ∈ r := by rw [hrr]; exact List.mem_cons_self
        have h1 := leftN_zero hk x (hok.chlt x (M.sub hx)).1
        obtain ⟨_, _, _, h2⟩ := M.suffix
        rw [h2 x hx] at h1; cases h1
    subst hr
    exact hend listed g w C fc hk M
  | k + 1, listed, g, w, r, C, fc, hk, M => by
    rw [show k + 1 + gc = (k + gc) + 1 by omega]
    obtain ⟨i0, hi0, hun0, hbefore⟩ := leftN_pos (listed := listed) (m := m) (by omega)
    have hsz := M.inv.size
    have hi0s : i0 < ops.size := by have := hok.lt; omega
    have hready : i0 ∈ Region.ready .any ops listed := by
      refine mem_ready.2 ⟨hun0, ops[i0], by simp [hi0s], fun e he hb => ?_⟩
      have hlt := hok.back i0 ops[i0] hi0 (by simp [hi0s]) e he hb
      exact getD_false_of (by omega) (hbefore e.on hlt)
    refine ⟨fun h0 => (by rw [h0] at hready; cases hready), fun i hi => ?_⟩
    have him : i < m := by
      rcases Nat.lt_or_ge i m with hh | hh
      · exact hh
      · exact absurd hi (tail_waits hok.sink hok.chain hok.lt M.inv _ i0 rfl hi0 hun0 i hh)
    have hun := (mem_ready.1 hi).1
    have hk' : leftN (listed.setIfInBounds i true) m = k := by
      have := leftN_set hun m
      rw [if_pos him] at this; omega
    obtain ⟨_, o, ho, _⟩ := mem_ready.1 hi
    by_cases hal : al = some i
    · exact M.newStep hok hnv hi him hal fun g' w' M' => mid_sound hok hv hnv hend k _ g' w' r C fc hk' M'
    · by_cases hch : i ∈ ch
      · exact M.chainStep hok hv hnv hi him hch ho fun g' w' r' C' fc' M' => mid_sound hok hv hnv hend k _ g' w' r' C' fc' hk' M'
      · exact M.quietStep hok hv hnv hi him hal hch ho fun g' w' M' => mid_sound hok hv hnv hend k _ g' w' r C fc hk' M'
end

theorem region_head {id n : Nat} {Q : Exit → Act → World → Prop} {f : Nat → Value} {w : World} {l : List Oper} {da : Nat} {ta : TypeId} {z : Value} (hm : P.follows .mixedOrders = true) (m : Nat) (ch : List Nat) (C : List Asn) (hB : headB l.toArray al ch m = true)
    (hnv : NewVar P l.toArray m al da ta z) (hS : Sat w0 w (C ++ L))
    (h : textF P l.toArray w0 L n al ch (fun fF => chainF P l.toArray w0 L n m al ch (fun C' a => ∀ a'' w', (al.isSome = true ∧ ∃ b, a'' = a.put (some da) (.pointer (some ⟨b, 0, none⟩)) ∧ Sat w0 w' (pt b (.cells z.cells ta) :: (C' ++ L))) ∨ (al = none ∧ a'' = a ∧ Sat w0 w' (C' ++ L)) →
      wpList P l.toArray Q (l.drop m) a'' w') ch C (fr n fF)) 0 (l.take m) f) :
    (Code.region id l.toArray true).wp P Q (fr n f) w := by
  have hok := headOk_of hB
  have hn' : m < l.length := by simpa using hok.lt
  have htl : (l.take m).length = m := by simp; omega
  have hdl : (l.drop m).length = l.toArray.size - m := by simp
  obtain ⟨fF, hW, hv⟩ := text_vals hok (l.take m) 0 f (fun j hj => by
    have hj' : j < m := by rw [htl] at hj; exact hj
    simp [hj']) (by simpa using htl) h
  have inv0 : HeadInv .any l.toArray m (Array.replicate l.toArray.size false) :=
    ⟨by simp, fun j oj _ hl => (by rw [getD_replicate_false] at hl; cases hl), fun t _ ht => getD_in (by simpa using ht) (getD_replicate_false _ _)⟩
  have hun0 : ∀ i, i < m → (Array.replicate l.toArray.size false).getD i true = false := fun i hi => getD_in (by simp; omega) (getD_replicate_false _ _)
  have M0 : ∀ w', Sat w0 w' (C ++ L) → Mid P l.toArray w0 L n m al ch _ da ta z fF f (Array.replicate l.toArray.size false) f w' ch C fF := fun w' hS' =>
    ⟨inv0, fun s hs => (hv.base s fun i _ hi => hs i hi).symm, fun i hi _ _ hl => (by rw [hun0 i hi] at hl; cases hl), fun i hi hl => (by rw [hun0 i (hok.chlt i hi).1] at hl; cases hl), fun _ _ => rfl, fun _ _ _ _ _ => rfl, fun _ _ _ _ _ => ⟨rfl, rfl⟩,
      ⟨0, rfl, fun j x hj => (by omega), fun x hx => hun0 x (hok.chlt x hx).1⟩, .inr ⟨fun i hi => hun0 i (hnv.op i hi).1, hS'⟩, hW⟩
  refine wp_region_any hm ?_
  have := mid_sound (Q := Q) (gc := l.toArray.size - m) hok hv hnv (fun listed g w' C' fc hz M => by
    have hall : ∀ i, i < m → listed.getD i true = true := leftN_zero hz
    have hlisted : listed = ((List.range l.toArray.size).map fun i => decide (i < m)).toArray := by
      apply Array.ext
      · simp [M.inv.size]
      · intro i h1 h2
        rcases Nat.lt_or_ge i m with hi | hi
        · have := hall i hi
          simp [h1] at this
          simp [this, hi]
        · have := M.inv.tail i hi (by rw [← M.inv.size]; exact h1)
          simp [h1] at this
          simp [this, Nat.not_lt.2 hi]
    have hseq : Region.seqB .any l.toArray (l.drop m).length m listed = true := by rw [hlisted, hdl]; exact hok.seq
    have hgf : ∀ s, al = none ∨ s ≠ da → g s = fc s := fun s hs => by
      by_cases hex : ∃ j, j < m ∧ dstOf l.toArray j = some s
      · obtain ⟨j, hj, hjs⟩ := hex
        by_cases hjc : j ∈ ch
        · exact M.chain j hjc (hall j hj) s hjs
        · by_cases haj : al = some j
          · obtain ⟨_, o, ho, _, hd, _⟩ := hnv.op j haj
            have : s = da := by simp [dstOf, ho, hd] at hjs; exact hjs.symm
            rcases hs with hs | hs
            · rw [hs] at haj; cases haj
            · exact absurd this hs
          · rw [M.quiet j hj haj hjc (hall j hj) s hjs, M.same s fun x hx he => hjc ?_]
            have := hok.uniq x j s (hok.chlt x hx).1 hj he hjs
            exact this ▸ hx
      · rw [M.base s fun j hj he => hex ⟨j, hj, he⟩, M.same s fun x hx he => hex ⟨x, (hok.chlt x hx).1, he⟩]
    have hpost : (al.isSome = true ∧ ∃ b, fr n g = (fr n fc).put (some da) (.pointer (some ⟨b, 0, none⟩)) ∧ Sat w0 w' (pt b (.cells z.cells ta) :: (C' ++ L))) ∨ (al = none ∧ fr n g = fr n fc ∧ Sat w0 w' (C' ++ L)) := by
      rcases M.world with ⟨⟨i, hi, _⟩, b, hb, hS'⟩ | ⟨hno, hS'⟩
      · refine .inl ⟨by rw [hi]; rfl, b, ?_, hS'⟩
        rw [fr_putF]
        congr 1
        funext s
        by_cases hs : s = da
        · subst hs; rw [putF_eq rfl]; exact hb
        · rw [putF_ne (fun e => hs (by cases e; rfl))]; exact hgf s (.inr hs)
      · cases hal : al with
        | none => exact .inr ⟨rfl, by congr 1; funext s; exact hgf s (.inl hal), hS'⟩
        | some i =>
          have h1 := hno i hal
          rw [hall i (hnv.op i hal).1] at h1; cases h1
    have := wpAny_of_seq (P := P) (md := .any) (Q' := Q) (l.drop m) m listed (fr n g) w' (fun j => by simp [List.getElem?_drop]) hseq (M.walk _ _ hpost)
    rwa [hdl] at this) m _ f _ ch C fF (leftN_all m (by simp; omega)) (M0 _ hS.drew)
  rw [show m + (l.toArray.size - m) = l.toArray.size by simp; omega] at this
  exact this

theorem textF_mono {n : Nat} {ch : List Nat} {K K' : (Nat → Value) → Prop} (h : ∀ f, K f → K' f) : ∀ (l : List Oper) (k : Nat) (f : Nat → Value), textF P ops w0 L n al ch K k l f → textF P ops w0 L n al ch K' k l f
  | [], _, _, hh => h _ hh
  | o :: l, k, f, hh => by
    unfold textF at hh ⊢
    split
    · rename_i ha; rw [if_pos ha] at hh; exact textF_mono h l _ _ hh
    · rename_i ha; rw [if_neg ha] at hh
      split
      · rename_i hc; rw [if_pos hc] at hh
        obtain ⟨v, hev, hh⟩ := hh
        exact ⟨v, hev, textF_mono h l _ _ hh⟩
      · rename_i hc; rw [if_neg hc] at hh
        obtain ⟨v, hy, hh⟩ := hh
        exact ⟨v, hy, textF_mono h l _ _ hh⟩
theorem wpList_mono' {Q1 Q2 : Exit → Act → World → Prop} {o : Oper} {a : Act} {w : World} (h : wpList P ops Q1 [o] a w) (hq : ∀ e a w, Q1 e a w → Q2 e a w) : wpList P ops Q2 [o] a w := by
  unfold wpList at h ⊢
  split
  · rename_i hw
    rw [if_pos hw] at h
    rcases h with h | ⟨h1, a', w', h2⟩
    · refine .inl ?_
      unfold Oper.wp at *
      generalize (execOp a.eval o).run P w = r at *
      cases r with
      | ok x w' =>
        cases x <;> simp only [Oper.upon] at h ⊢
        case value v => exact hq _ _ _ h
        case skip => exact hq _ _ _ h
        case defer d => exact hq _ _ _ h
        case enter F args =>
          refine Calls.mono h fun e w'' hh => ?_
          cases e with
          | returned v => exact hq _ _ _ hh
          | panicked c => exact hq _ _ _ hh
          | outgrown => obtain ⟨a, w3, h3⟩ := hh; exact ⟨a, w3, hq _ _ _ h3⟩
        case row R args => exact Rows.mono h fun v w'' hh => hq _ _ _ hh
        all_goals exact h.elim
      | halt x w' =>
        cases x <;> simp only [Oper.upon] at h ⊢
        case panic v => exact hq _ _ _ h
        all_goals exact h.elim
    · exact .inr ⟨h1, a', w', hq _ _ _ h2⟩
  · rename_i hw
    rw [if_neg hw] at h
    exact hq _ _ _ h
theorem chainF_mono {n m : Nat} {all : List Nat} {K K' : List Asn → Act → Prop} (h : ∀ C a, K C a → K' C a) : ∀ (r : List Nat) (C : List Asn) (a : Act), chainF P ops w0 L n m al all K r C a → chainF P ops w0 L n m al all K' r C a
  | [], _, _, hh => h _ _ hh
  | k :: r, C, a, hh => fun o ho G w hS => by
    refine wpList_mono' (hh o ho G w hS) ?_
    rintro e a' w' ⟨h1, h2, h3, C', hS', h4⟩
    exact ⟨h1, h2, h3, C', hS', chainF_mono h r C' a' h4⟩

/-! ### As the walks use it -/
/-- The head of such a region, in the text's order. -/
structure SF (P : Program) (ops : Array Oper) (w0 : World) (L : List Asn) (al : Option Nat) (ch : List Nat) (K : (Nat → Value) → Prop) (k : Nat) (l : List Oper) (n : Nat) (f : Nat → Value) : Prop where
  out : textF P ops w0 L n al ch K k l f
/-- The chain. -/
structure CH (P : Program) (ops : Array Oper) (w0 : World) (L : List Asn) (m : Nat) (al : Option Nat) (all : List Nat) (K : List Asn → (Nat → Value) → Prop) (r : List Nat) (C : List Asn) (n : Nat) (f : Nat → Value) : Prop where
  out : chainF P ops w0 L n m al all (fun C a => ∃ f', a = fr n f' ∧ K C f') r C (fr n f)

section
variable {n m : Nat} {ch all : List Nat} {KC : List Asn → (Nat → Value) → Prop} {C : List Asn} {f : Nat → Value} {r : List Nat} {k : Nat} {o : Oper}
theorem ch_nil (h : KC C f) : CH P ops w0 L m al all KC [] C n f := ⟨⟨f, rfl, h⟩⟩
/-- What one operation of the chain has to do. -/
def chQ (P : Program) (ops : Array Oper) (w0 : World) (L : List Asn) (m : Nat) (al : Option Nat) (all : List Nat) (KC : List Asn → (Nat → Value) → Prop) (r : List Nat) (n : Nat) (G : List Asn) : QF := fun e f' w' => e = .normal ∧ ∃ C', Sat w0 w' (C' ++ (L ++ G)) ∧ CH P ops w0 L m al all KC r C' n f'
theorem ch_step (ho : ops[k]? = some o) (hl : lookedB ops m al all k = false) (h : ∀ G w, Sat w0 w (C ++ (L ++ G)) → WL P ops (chQ P ops w0 L m al all KC r n G) [o] n f w) : CH P ops w0 L m al all KC (k :: r) C n f := by
  refine ⟨fun o' ho' G w hS => ?_⟩
  have : o' = o := Option.some.inj (ho'.symm.trans ho)
  subst this
  have := (h G w hS).out
  have e : toQ n (chQ P ops w0 L m al all KC r n G) = fun e a w' => ∃ f', a = fr n f' ∧ chQ P ops w0 L m al all KC r n G e f' w' := rfl
  refine wpList_mono' this ?_
  rintro e a w' ⟨f', rfl, he, C', hS', hc⟩
  exact ⟨he, ⟨f', rfl⟩, (fun hh => by rw [hl] at hh; cases hh), C', hS', hc.out⟩
/-- With a result that was foretold. -/
theorem ch_told (ho : ops[k]? = some o) (h : ∀ G w, Sat w0 w (C ++ (L ++ G)) → WL P ops (fun e f' w' => e = .normal ∧ f' = f ∧ ∃ C', Sat w0 w' (C' ++ (L ++ G)) ∧ CH P ops w0 L m al all KC r C' n f) [o] n f w) : CH P ops w0 L m al all KC (k :: r) C n f := by
  refine ⟨fun o' ho' G w hS => ?_⟩
  have : o' = o := Option.some.inj (ho'.symm.trans ho)
  subst this
  refine wpList_mono' (h G w hS).out ?_
  rintro e a w' ⟨f', rfl, he, rfl, C', hS', hc⟩
  exact ⟨he, ⟨_, rfl⟩, fun _ => rfl, C', hS', hc.out⟩
end

/-- With a chain, without a new variable. -/
theorem region_c {id : Nat} {Q : QF} {n : Nat} {f : Nat → Value} {w : World} {l : List Oper} (m : Nat) (ch : List Nat) (C : List Asn) (hm : P.follows .mixedOrders = true) (hB : headB l.toArray none ch m = true) (hS : Sat w0 w (C ++ L))
    (h : SF P l.toArray w0 L none ch (fun fF => CH P l.toArray w0 L m none ch (fun C' f' => ∀ w', Sat w0 w' (C' ++ L) → WL P l.toArray Q (l.drop m) n f' w') ch C n fF) 0 (l.take m) n f) : CW P (.region id l.toArray true) Q n f w := by
  refine ⟨region_head (al := none) (da := 0) (ta := 0) (z := undef) hm m ch C hB ⟨fun i hi => (by cases hi), fun i hi => (by cases hi)⟩ hS ?_⟩
  refine textF_mono (fun fF hk => ?_) _ _ _ h.out
  refine chainF_mono (fun C' a hk a'' w' hx => ?_) _ _ _ hk.out
  obtain ⟨f', rfl, hk⟩ := hk
  rcases hx with ⟨h0, _⟩ | ⟨_, rfl, hS'⟩
  · cases h0
  · exact (hk w' hS').out
theorem newVar_of {m a da : Nat} {ta : TypeId} {z : Value} {o : Oper} (hlt : Nat.blt a m = true) (ho : ops[a]? = some o) (h1 : o.op = .alloc ta) (h2 : o.dst = some da) (h3 : o.guard = none) (hz : ∀ w, (zeroValue ta).run P w = .ok z w) : NewVar P ops m (some a) da ta z :=
  ⟨fun i hi => by cases hi; exact ⟨by simpa [Nat.blt_eq] using hlt, o, ho, h1, h2, h3⟩, fun _ _ w => hz w⟩
/-- With a chain and a new variable: operation number q lays it. -/
theorem region_cn {id : Nat} {Q : QF} {n : Nat} {f : Nat → Value} {w : World} {l : List Oper} {tb : Tab} (ok : TabOk P tb) {da : Nat} {ta : TypeId} {z : Value} {o : Oper} (m q : Nat) (ch : List Nat) (C : List Asn) (hm : P.follows .mixedOrders = true)
    (hB : headB l.toArray (some q) ch m = true) (hlt : Nat.blt q m = true) (ho : l[q]? = some o) (h1 : o.op = .alloc ta) (h2 : o.dst = some da) (h3 : o.guard = none) (hz : tb.zero ta = some z) (hS : Sat w0 w (C ++ L))
    (h : SF P l.toArray w0 L (some q) ch (fun fF => CH P l.toArray w0 L m (some q) ch (fun C' f' => ∀ b w', Sat w0 w' (pt b (.cells z.cells ta) :: (C' ++ L)) → WL P l.toArray Q (l.drop m) n (upd f' da (.pointer (some ⟨b, 0, none⟩))) w') ch C n fF) 0 (l.take m) n f) : CW P (.region id l.toArray true) Q n f w := by
  refine ⟨region_head (al := some q) hm m ch C hB (newVar_of hlt (by simpa using ho) h1 h2 h3 (fun w => run_zero ok hz w)) hS ?_⟩
  refine textF_mono (fun fF hk => ?_) _ _ _ h.out
  refine chainF_mono (fun C' a hk a'' w' hx => ?_) _ _ _ hk.out
  obtain ⟨f', rfl, hk⟩ := hk
  rcases hx with ⟨_, b, rfl, hS'⟩ | ⟨hn, _, _⟩
  · rw [fr_put]; exact (hk b w' hS').out
  · cases hn
/-- Neither. -/
theorem region_q {id : Nat} {Q : QF} {n : Nat} {f : Nat → Value} {w : World} {l : List Oper} (m : Nat) (hm : P.follows .mixedOrders = true) (hB : headB l.toArray none [] m = true) (hS : Sat w0 w L)
    (h : SF P l.toArray w0 L none [] (fun f' => ∀ w', Sat w0 w' L → WL P l.toArray Q (l.drop m) n f' w') 0 (l.take m) n f) : CW P (.region id l.toArray true) Q n f w :=
  region_c m [] [] hm hB hS ⟨textF_mono (fun _ hk => ch_nil hk) _ _ _ h.out⟩
/-- A new variable alone. -/
theorem region_n {id : Nat} {Q : QF} {n : Nat} {f : Nat → Value} {w : World} {l : List Oper} {tb : Tab} (ok : TabOk P tb) {da : Nat} {ta : TypeId} {z : Value} {o : Oper} (m q : Nat) (hm : P.follows .mixedOrders = true)
    (hB : headB l.toArray (some q) [] m = true) (hlt : Nat.blt q m = true) (ho : l[q]? = some o) (h1 : o.op = .alloc ta) (h2 : o.dst = some da) (h3 : o.guard = none) (hz : tb.zero ta = some z) (hS : Sat w0 w L)
    (h : SF P l.toArray w0 L (some q) [] (fun f' => ∀ b w', Sat w0 w' (pt b (.cells z.cells ta) :: L) → WL P l.toArray Q (l.drop m) n (upd f' da (.pointer (some ⟨b, 0, none⟩))) w') 0 (l.take m) n f) : CW P (.region id l.toArray true) Q n f w :=
  region_cn ok m q [] [] hm hB hlt ho h1 h2 h3 hz hS ⟨textF_mono (fun _ hk => ch_nil hk) _ _ _ h.out⟩
end

/-! ### One operation of the head -/
section
variable {P : Program} {ops : Array Oper} {w0 : World} {L : List Asn} {al : Option Nat} {ch : List Nat} {K : (Nat → Value) → Prop} {k n : Nat} {l : List Oper} {f : Nat → Value}
variable {dst : Option Tmp} {op : Op} {ty : TypeId} {pos : String} {after : Array Edge} {d : Nat}

theorem r_nil (h : K f) : SF P ops w0 L al ch K k [] n f := ⟨h⟩

/-- Is operation k passed in the text's walk? -/
def skB (al : Option Nat) (ch : List Nat) (k : Nat) : Bool := (match al with | some a => Nat.beq a k | none => false) || ch.any (Nat.beq k)
theorem skB_al {al : Option Nat} {ch : List Nat} {k : Nat} (h : skB al ch k = false) : ¬ al = some k := by
  intro e; subst e; simp [skB] at h
theorem skB_ch {al : Option Nat} {ch : List Nat} {k : Nat} (h : skB al ch k = false) : ¬ ch.contains k = true := by
  intro e
  simp only [skB, Bool.or_eq_false_iff] at h
  have h2 := List.any_eq_false.1 h.2 k (by simpa using e)
  simp at h2

/-- An operation of the chain: its result is not looked at, or is this. -/
theorem r_chain {o : Oper} (v : Value) (ha : (match al with | some a => Nat.beq a k | none => false) = false) (hc : (ch.any (Nat.beq k) && !earlyB ops k) = true) (h : SF P ops w0 L al ch K (k + 1) l n (putF f o.dst v)) : SF P ops w0 L al ch K k (o :: l) n f := by
  refine ⟨?_⟩; unfold textF; rw [if_neg (fun e => by subst e; simp at ha)]
  rw [Bool.and_eq_true] at hc
  rw [if_pos (by obtain ⟨x, hx, hb⟩ := List.any_eq_true.1 hc.1; have := Nat.eq_of_beq_eq_true hb; subst this; simpa using hx)]
  exact ⟨v, fun he => by rw [he] at hc; simp at hc, h.out⟩
/-- An operation of the chain at whose place others have looked ahead of it: nothing is foretold. -/
theorem r_chainE {o : Oper} {d : Nat} (ha : (match al with | some a => Nat.beq a k | none => false) = false) (hc : ch.any (Nat.beq k) = true) (hd : o.dst = some d) (h : SF P ops w0 L al ch K (k + 1) l n f) : SF P ops w0 L al ch K k (o :: l) n f := by
  refine ⟨?_⟩; unfold textF; rw [if_neg (fun e => by subst e; simp at ha)]
  rw [if_pos (by obtain ⟨x, hx, hb⟩ := List.any_eq_true.1 hc; have := Nat.eq_of_beq_eq_true hb; subst this; simpa using hx)]
  refine ⟨f d, fun _ d' hd' => by rw [hd] at hd'; cases hd'; rfl, ?_⟩
  have : putF f o.dst (f d) = f := by rw [hd]; exact upd_self f d _ rfl
  rw [this]; exact h.out

theorem r_new {o : Oper} (ha : al = some k) (h : SF P ops w0 L al ch K (k + 1) l n f) : SF P ops w0 L al ch K k (o :: l) n f := by
  refine ⟨?_⟩; unfold textF; rw [if_pos ha]; exact h.out

theorem r_quiet {v : Value} (ha : skB al ch k = false) (hy : quietF P w0 L ⟨some d, op, ty, pos, after, none⟩ (fr n f) v) (h : SF P ops w0 L al ch K (k + 1) l n (upd f d v)) :
    SF P ops w0 L al ch K k (⟨some d, op, ty, pos, after, none⟩ :: l) n f := by
  refine ⟨?_⟩
  unfold textF
  rw [if_neg (skB_al ha), if_neg (skB_ch ha)]
  exact ⟨v, .inl ⟨rfl, hy⟩, h.out⟩

theorem quietF_val {o : Oper} {v : Value} (h : ∀ G w, Sat w0 w (L ++ G) → (execOp (ev n f) o).run P w = .ok (.value v) w) : quietF P w0 L o (fr n f) v := by
  intro G w hS
  unfold Oper.quietAt
  rw [fr_eval, h G w hS]
  exact ⟨rfl, rfl⟩

/-- The guard's temporary is known: go on as without a guard, or pass. -/
theorem r_want {j e : Nat} {b : Bool} (hj : (ops[j]?).bind (·.dst) = some e) (hv : ev n f (.tmp e) = .bool b) (hlt : Nat.blt e n = true)
    (h : SF P ops w0 L al ch K k (⟨dst, op, ty, pos, after, none⟩ :: l) n f) : SF P ops w0 L al ch K k (⟨dst, op, ty, pos, after, some (j, b)⟩ :: l) n f := by
  have hy := yielded_fr hj hv hlt
  have h := h.out
  refine ⟨?_⟩
  unfold textF at h ⊢
  split
  · rename_i ha; rw [if_pos ha] at h; exact h
  · rename_i ha; rw [if_neg ha] at h
    split
    · rename_i hc; rw [if_pos hc] at h; exact h
    rename_i hc; rw [if_neg hc] at h
    obtain ⟨v, hyv, hk⟩ := h
    refine ⟨v, ?_, hk⟩
    rcases hyv with ⟨_, hq⟩ | ⟨hw, _⟩
    · exact .inl ⟨by simp [Region.wanted, hy], hq⟩
    · simp [Region.wanted] at hw
theorem r_pass {j e : Nat} {b b' : Bool} (ha : skB al ch k = false) (hj : (ops[j]?).bind (·.dst) = some e) (hv : ev n f (.tmp e) = .bool b') (hlt : Nat.blt e n = true) (hne : (b' == b) = false)
    (h : SF P ops w0 L al ch K (k + 1) l n (upd f d undef)) : SF P ops w0 L al ch K k (⟨some d, op, ty, pos, after, some (j, b)⟩ :: l) n f := by
  have hy := yielded_fr hj hv hlt
  refine ⟨?_⟩
  unfold textF
  rw [if_neg (skB_al ha), if_neg (skB_ch ha)]
  exact ⟨undef, .inr ⟨by simp [Region.wanted, hy, hne], rfl⟩, h.out⟩
theorem r_undef {j e : Nat} {b : Bool} (ha : skB al ch k = false) (hj : (ops[j]?).bind (·.dst) = some e) (hv : ev n f (.tmp e) = undef)
    (h : SF P ops w0 L al ch K (k + 1) l n (upd f d undef)) : SF P ops w0 L al ch K k (⟨some d, op, ty, pos, after, some (j, b)⟩ :: l) n f := by
  have hy := yielded_undef (ops := ops) hj hv
  refine ⟨?_⟩
  unfold textF
  rw [if_neg (skB_al ha), if_neg (skB_ch ha)]
  exact ⟨undef, .inr ⟨by simp [Region.wanted, hy], rfl⟩, h.out⟩
theorem r_guard_d {j e : Nat} {b : Bool} {p : Prop} {i : Decidable p} (_hj : (ops[j]?).bind (·.dst) = some e) (hv : ev n f (.tmp e) = .bool (@decide p i)) (hlt : Nat.blt e n = true)
    (h1 : p → SF P ops w0 L al ch K k (⟨dst, op, ty, pos, after, some (j, b)⟩ :: l) n (upd f e (.bool true)))
    (h2 : ¬p → SF P ops w0 L al ch K k (⟨dst, op, ty, pos, after, some (j, b)⟩ :: l) n (upd f e (.bool false))) : SF P ops w0 L al ch K k (⟨dst, op, ty, pos, after, some (j, b)⟩ :: l) n f := by
  have h3 : f e = .bool (@decide p i) := by simpa [ev, hlt] using hv
  by_cases hp : p
  · have := h1 hp; rwa [upd_self f e _ (by rw [h3, decide_eq_true hp])] at this
  · have := h2 hp; rwa [upd_self f e _ (by rw [h3, decide_eq_false hp])] at this

section
variable {tb : Tab} (ok : TabOk P tb)
include ok
theorem r_pure {v : Value} (ha : skB al ch k = false) (hv : evalOp tb (ev n f) op = some v) (h : SF P ops w0 L al ch K (k + 1) l n (upd f d v)) :
    SF P ops w0 L al ch K k (⟨some d, op, ty, pos, after, none⟩ :: l) n f :=
  r_quiet ha (quietF_val fun _ w _ => evalOp_run ok (o := ⟨some d, op, ty, pos, after, none⟩) hv w) h

theorem r_ptr {b j q : Nat} (ha : skB al ch k = false) (hv : evalOp tb (ev n f) op = some (.pointer (some ⟨b, j, none⟩))) (hq : j = q) (h : SF P ops w0 L al ch K (k + 1) l n (upd f d (.pointer (some ⟨b, q, none⟩)))) :
    SF P ops w0 L al ch K k (⟨some d, op, ty, pos, after, none⟩ :: l) n f := r_pure ok ha (by rw [← hq]; exact hv) h

theorem r_load {i b q : Nat} {cs : Array Value} {T : TypeId} {fz : Nat × Nat} {v : Value} {t : TypeId} {x : Operand} {dsc : TypeDesc} (ha : skB al ch k = false) (ht : tb.u t = some dsc) (hna : aggT dsc = false) (hx : ev n f x = .pointer (some ⟨b, q, none⟩))
    (hi : L[i]? = some (pt b (.cells cs T fz))) (hk : cs[q]? = some v) (h : SF P ops w0 L al ch K (k + 1) l n (upd f d v)) : SF P ops w0 L al ch K k (⟨some d, .load t x, ty, pos, after, none⟩ :: l) n f := by
  refine r_quiet ha (quietF_val fun G w hS => ?_) h
  have hc := hS.cell (i := i) (by rw [List.getElem?_append_left (lt_of_get hi)]; exact hi) hk
  simp [execOp, Instr.loadAt, hx, Instr.sureAddr, loadVar, run_isAgg ok ht, hna, hc]

theorem r_loadA {i b q m : Nat} {cs : Array Value} {T : TypeId} {fz : Nat × Nat} {t : TypeId} {x : Operand} {dsc : TypeDesc} (ha : skB al ch k = false) (ht : tb.u t = some dsc) (hag : aggT dsc = true) (hz : tb.sz t = some m) (hx : ev n f x = .pointer (some ⟨b, q, none⟩))
    (hi : L[i]? = some (pt b (.cells cs T fz))) (hk : q + m ≤ cs.size) (h : SF P ops w0 L al ch K (k + 1) l n (upd f d (.agg (cs.extract q (q + m))))) : SF P ops w0 L al ch K k (⟨some d, .load t x, ty, pos, after, none⟩ :: l) n f := by
  refine r_quiet ha (quietF_val fun G w hS => ?_) h
  have hr := run_loadCells (P := P) (hS.block (i := i) (by rw [List.getElem?_append_left (lt_of_get hi)]; exact hi)) hk
  simp [execOp, Instr.loadAt, hx, Instr.sureAddr, loadVar, run_isAgg ok ht, hag, run_sz ok hz, hr]

theorem r_indexAddr {e sz b : Nat} {o len cap : Nat} {kk : IntKind} {j : Int} {t : TypeId} {x y : Operand} (ha : skB al ch k = false) (ht : tb.u t = some (.slice e)) (hsz : tb.sz e = some sz) (hx : ev n f x = .slice (some ⟨b, o, none⟩) len cap) (hy : ev n f y = .int kk j) (hj : 0 ≤ j ∧ j < (len : Int))
    (h : SF P ops w0 L al ch K (k + 1) l n (upd f d (.pointer (some ⟨b, o + j.toNat * sz, none⟩)))) : SF P ops w0 L al ch K k (⟨some d, .indexAddr t x y, ty, pos, after, none⟩ :: l) n f := by
  refine r_quiet ha (quietF_val fun G w hS => ?_) h
  simp only [execOp, Instr.indexAt, hx, hy, asIntOf, Sem.run_bind, Sem.run_pure, run_u ok ht, Result.andThen_ok, if_pos hj, run_sz ok hsz, addr_add]

/-- A call that reads, and lays what nobody else sees. -/
theorem r_call {F : FuncId} {args : Array Operand} {ats : Array TypeId} {l1 : List Value} {v : Value} (ha : skB al ch k = false) (hF : tb.fn F = true) (hl : args.toList.map (ev n f) = l1)
    (hc : ∀ G w, Sat w0 w (L ++ G) → CR P F l1 w fun v' w' => v' = v ∧ Sat w0 w' (L ++ G)) (h : SF P ops w0 L al ch K (k + 1) l n (upd f d v)) :
    SF P ops w0 L al ch K k (⟨some d, .call ⟨.value (.func F), args, ats⟩, ty, pos, after, none⟩ :: l) n f := by
  obtain ⟨fn, hfn, hname, hbody⟩ := ok.fn F hF
  refine r_quiet ha (fun G w hS => ?_) h
  have hargs : args.map (ev n f) = l1.toArray := by subst hl; apply Array.ext'; simp
  have hr : (execOp (ev n f) ⟨some d, .call ⟨.value (.func F), args, ats⟩, ty, pos, after, none⟩).run P w = .ok (.enter F l1.toArray) w := by
    simp only [execOp, resolve, hargs, ev, Deferred.ofValue, Sem.run_bind, Sem.run_pure, Result.andThen_ok, invoke, callFunc, program, Sem.run, Array.empty_append, hfn, hname, hbody, Array.append_empty]
    rfl
  unfold Oper.quietAt
  rw [fr_eval, hr]
  refine ⟨rfl, (hc G w hS).out.mono fun e w' he => ?_⟩
  cases e with
  | returned u => exact ⟨by rw [he.1], he.2⟩
  | panicked c => exact he.elim
  | outgrown => exact he.elim
end
section
variable {x y : Operand} {t u : TypeId} {a b : Int}
theorem r_add (ha : skB al ch k = false) (hx : ev n f x = .int .i64 a) (hy : ev n f y = .int .i64 b) (hb : -9223372036854775808 ≤ a + b ∧ a + b ≤ 9223372036854775807) (h : SF P ops w0 L al ch K (k + 1) l n (upd f d (.int .i64 (a + b)))) :
    SF P ops w0 L al ch K k (⟨some d, .binOp .add t x y u, ty, pos, after, none⟩ :: l) n f := by
  refine r_quiet ha (quietF_val fun G w hS => ?_) h
  simp [execOp, eqGuard, hx, hy, binOp, Op.intArith, IntWalk.i64_in _ hb]
theorem r_sub (ha : skB al ch k = false) (hx : ev n f x = .int .i64 a) (hy : ev n f y = .int .i64 b) (hb : -9223372036854775808 ≤ a - b ∧ a - b ≤ 9223372036854775807) (h : SF P ops w0 L al ch K (k + 1) l n (upd f d (.int .i64 (a - b)))) :
    SF P ops w0 L al ch K k (⟨some d, .binOp .sub t x y u, ty, pos, after, none⟩ :: l) n f := by
  refine r_quiet ha (quietF_val fun G w hS => ?_) h
  simp [execOp, eqGuard, hx, hy, binOp, Op.intArith, IntWalk.i64_in _ hb]
theorem r_quo (ha : skB al ch k = false) (hx : ev n f x = .int .i64 a) (hy : ev n f y = .int .i64 b) (hb : 0 ≤ a ∧ a ≤ 9223372036854775807 ∧ 1 ≤ b) (h : SF P ops w0 L al ch K (k + 1) l n (upd f d (.int .i64 (a / b)))) :
    SF P ops w0 L al ch K k (⟨some d, .binOp .quo t x y u, ty, pos, after, none⟩ :: l) n f := by
  refine r_quiet ha (quietF_val fun G w hS => ?_) h
  have : b ≠ 0 := by omega
  simp [execOp, eqGuard, hx, hy, binOp, Op.intDiv, IntWalk.i64_quo _ _ hb, this]
end
end
end Go.SL
end

section
namespace Go.SL

/-! ## One assertion out of two, two out of one -/

theorem grp_merge {l : List Asn} {h : Hp} {i : Nat} {A B C : Asn} (hi : l[i]? = some A) (hg : grp (l ++ [B]) h) (himp : ∀ g, grp [A, B] g → C g) : grp (l.set i C) h := by
  obtain ⟨own, H⟩ := hg
  have hil := lt_of_get hi
  refine ⟨fun x => if own x = l.length then i else if own x = i then i else if own x < l.length then own x else l.length, fun j D hj => ?_⟩
  rw [List.getElem?_set] at hj
  by_cases e : i = j
  · subst e
    simp only [if_true, hil] at hj
    cases hj
    refine himp _ ⟨fun x => if own x = i then 0 else if own x = l.length then 1 else 2, fun k E hk => ?_⟩
    have hA := H i A (by rw [List.getElem?_append_left hil]; exact hi)
    have hB := H l.length B (by simp)
    match k, hk with
    | 0, hk =>
      simp at hk; subst hk
      have : cutHp (fun x => if own x = i then 0 else if own x = l.length then 1 else 2) 0 (cutHp (fun x => if own x = l.length then i else if own x = i then i else if own x < l.length then own x else l.length) i h) = cutHp own i h := by
        funext x; unfold cutHp
        by_cases h1 : own x = i
        · simp [h1]
        · by_cases h2 : own x = l.length <;> simp [h1, h2]
      rw [this]; exact hA
    | 1, hk =>
      simp at hk; subst hk
      have : cutHp (fun x => if own x = i then 0 else if own x = l.length then 1 else 2) 1 (cutHp (fun x => if own x = l.length then i else if own x = i then i else if own x < l.length then own x else l.length) i h) = cutHp own l.length h := by
        funext x; unfold cutHp
        by_cases h1 : own x = i
        · have : ¬ own x = l.length := by omega
          simp [h1]; omega
        · by_cases h2 : own x = l.length
          · simp [h2]; omega
          · simp [h1, h2]
      rw [this]; exact hB
    | k + 2, hk => simp at hk
  · rw [if_neg e] at hj
    have hjl := lt_of_get hj
    have : cutHp (fun x => if own x = l.length then i else if own x = i then i else if own x < l.length then own x else l.length) j h = cutHp own j h := by
      funext x; unfold cutHp
      by_cases h1 : own x = l.length
      · simp only [h1, if_true]; rw [if_neg e, if_neg (by omega)]
      · simp only [h1, if_false]
        by_cases h2 : own x = i
        · simp only [h2, if_true]
        · simp only [h2, if_false]
          by_cases h3 : own x < l.length
          · simp only [h3, if_true]
          · simp only [h3, if_false]; rw [if_neg (by omega), if_neg (by omega)]
    rw [this]; exact H j D (by rw [List.getElem?_append_left hjl]; exact hj)

theorem Sat.merge {w0 w : World} {l : List Asn} {i : Nat} {A B C : Asn} (hi : l[i]? = some A) (hS : Sat w0 w (l ++ [B])) (himp : ∀ g, grp [A, B] g → C g) : Sat w0 w (l.set i C) := ⟨hS.1, grp_merge hi hS.2 himp⟩

theorem grp_part {l : List Asn} {h : Hp} {i : Nat} {A B C : Asn} (hi : l[i]? = some C) (hg : grp l h) (himp : ∀ g, C g → grp [A, B] g) : grp (l.set i A ++ [B]) h := by
  have h1 := grp_open (grp_conseq hg hi himp) (i := i) (l2 := [A, B]) (by rw [List.getElem?_set_self (lt_of_get hi)])
  rw [List.set_set] at h1
  -- l.set i emp ++ [A, B]: A goes to i
  have hil := lt_of_get hi
  obtain ⟨own, H⟩ := h1
  refine ⟨fun x => if own x = l.length then i else if own x = l.length + 1 then l.length else if own x = i then l.length + 1 else if own x < l.length then own x else l.length + 1, fun j D hj => ?_⟩
  rcases Nat.lt_trichotomy j l.length with g | g | g
  · rw [List.getElem?_append_left (by simpa using g), List.getElem?_set] at hj
    by_cases e : i = j
    · subst e
      simp only [if_true, hil] at hj
      cases hj
      have := H l.length A (by rw [List.getElem?_append_right (by simp)]; simp)
      have e2 : cutHp (fun x => if own x = l.length then i else if own x = l.length + 1 then l.length else if own x = i then l.length + 1 else if own x < l.length then own x else l.length + 1) i h = cutHp own l.length h := by
        funext x; unfold cutHp
        by_cases h1 : own x = l.length
        · simp [h1]
        · simp only [h1, if_false]
          by_cases h2 : own x = l.length + 1
          · simp only [h2, if_true]; rw [if_neg (by omega)]
          · simp only [h2, if_false]
            by_cases h3 : own x = i
            · simp only [h3, if_true]; rw [if_neg (by omega)]
            · simp only [h3, if_false]
              by_cases h4 : own x < l.length
              · simp only [h4, if_true]; rw [if_neg h3]
              · simp only [h4, if_false]; rw [if_neg (by omega)]
      rw [e2]; exact this
    · rw [if_neg e] at hj
      have := H j D (by rw [List.getElem?_append_left (by simpa using g), List.getElem?_set, if_neg e]; exact hj)
      have e2 : cutHp (fun x => if own x = l.length then i else if own x = l.length + 1 then l.length else if own x = i then l.length + 1 else if own x < l.length then own x else l.length + 1) j h = cutHp own j h := by
        funext x; unfold cutHp
        by_cases h1 : own x = l.length
        · simp only [h1, if_true]; rw [if_neg e, if_neg (by omega)]
        · simp only [h1, if_false]
          by_cases h2 : own x = l.length + 1
          · simp only [h2, if_true]; rw [if_neg (by omega), if_neg (by omega)]
          · simp only [h2, if_false]
            by_cases h3 : own x = i
            · simp only [h3, if_true]; rw [if_neg (by omega), if_neg e]
            · simp only [h3, if_false]
              by_cases h4 : own x < l.length
              · simp only [h4, if_true]
              · simp only [h4, if_false]; rw [if_neg (by omega), if_neg (by omega)]
      rw [e2]; exact this
  · subst g
    rw [List.getElem?_append_right (by simp)] at hj
    simp at hj
    subst hj
    have := H (l.length + 1) B (by rw [List.getElem?_append_right (by simp)]; simp)
    have e2 : cutHp (fun x => if own x = l.length then i else if own x = l.length + 1 then l.length else if own x = i then l.length + 1 else if own x < l.length then own x else l.length + 1) l.length h = cutHp own (l.length + 1) h := by
      funext x; unfold cutHp
      by_cases h1 : own x = l.length
      · simp only [h1, if_true]; rw [if_neg (by omega), if_neg (by omega)]
      · simp only [h1, if_false]
        by_cases h2 : own x = l.length + 1
        · simp only [h2, if_true]
        · simp only [h2, if_false]
          by_cases h3 : own x = i
          · simp only [h3, if_true]; rw [if_neg (by omega)]
          · simp only [h3, if_false]
            by_cases h4 : own x < l.length
            · simp only [h4, if_true]; rw [if_neg (by omega)]
            · simp only [h4, if_false]; rw [if_neg (by omega)]
    rw [e2]; exact this
  · rw [List.getElem?_eq_none (by simp; omega)] at hj
    cases hj

theorem Sat.part {w0 w : World} {l : List Asn} {i : Nat} {A B C : Asn} (hi : l[i]? = some C) (hS : Sat w0 w l) (himp : ∀ g, C g → grp [A, B] g) : Sat w0 w (l.set i A ++ [B]) := ⟨hS.1, grp_part hi hS.2 himp⟩

/-! ## Maps -/

/-- Keys that are compared at once: whole numbers, strings. -/
structure KeyOk {α : Type} [DecidableEq α] (kd : TypeDesc) (enc : α → Value) : Prop where
  same : ∀ a b, Instr.sameNow kd (enc a) (enc b) = some (decide (a = b))
  bits : ∀ a, Instr.sameBits 10000 (enc a) (enc a) = true
  check : ∀ (P : Program) (t : TypeId) (e : Bool) (a : α) (w : World), P.underlying t = some kd → (Instr.checkKey e 10000 t (enc a)).run P w = .ok () w

abbrev encI : Int → Value := fun k => .int .i64 k
abbrev encS : ByteArray → Value := fun s => .string s

theorem run_checkKey_plain {P : Program} {w : World} {t : TypeId} {kd : TypeDesc} (e : Bool) (n : Nat) (v : Value) (h : P.underlying t = some kd) (hk : kd = .int .i64 ∨ kd = .string) : (Instr.checkKey e (n + 1) t v).run P w = .ok () w := by
  rw [Instr.checkKey]
  have hu : (underlying t).run P w = .ok kd w := by simp [underlying, program, Sem.run, h]
  simp only [Sem.run_bind, hu, Result.andThen_ok]
  rcases hk with rfl | rfl <;> cases v <;> rfl

theorem keyOk_int : KeyOk (.int .i64) encI := by
  refine ⟨fun a b => ?_, fun a => ?_, fun P t e a w h => run_checkKey_plain e 9999 _ h (.inl rfl)⟩
  · simp [Instr.sameNow, int_beq]
  · show Instr.sameBits (9999 + 1) _ _ = true; simp [Instr.sameBits]
theorem bytes_beq (a b : ByteArray) : (a == b) = decide (a = b) := by
  rw [beq_toListBytes, toList_inj]
theorem keyOk_str : KeyOk .string encS := by
  refine ⟨fun a b => ?_, fun a => ?_, fun P t e a w h => run_checkKey_plain e 9999 _ h (.inr rfl)⟩
  · simp [Instr.sameNow, bytes_beq]
  · show Instr.sameBits (9999 + 1) _ _ = true; simp [Instr.sameBits, bytes_beq]

section
variable {α : Type} [DecidableEq α]

def mget (kvs : List (α × Value)) (k : α) : Option Value := (kvs.find? fun p => decide (p.1 = k)).map (·.2)
def mset (kvs : List (α × Value)) (k : α) (v : Value) : List (α × Value) := if (mget kvs k).isSome then kvs.map fun p => if p.1 = k then (k, v) else p else kvs ++ [(k, v)]
def mdel (kvs : List (α × Value)) (k : α) : List (α × Value) := kvs.filter fun p => decide (p.1 ≠ k)

/-- What a map's entries are. -/
structure MapOk (enc : α → Value) (es : Array MapEntry) (clock : Nat) (kvs : List (α × Value)) : Prop where
  kv : es.toList.map (fun e => (e.key, e.val)) = kvs.map fun p => (enc p.1, p.2)
  born : ∀ e ∈ es.toList, e.born < clock
  once : (es.toList.map (·.born)).Nodup
  keys : (kvs.map (·.1)).Nodup

def mapA (enc : α → Value) (b : Nat) (kvs : List (α × Value)) : Asn := fun h => ∃ es clock, MapOk enc es clock kvs ∧ h b = some (.map es clock)

omit [DecidableEq α] in
theorem mapOk_new (enc : α → Value) : MapOk enc #[] 0 ([] : List (α × Value)) := ⟨rfl, by simp, by simp, by simp⟩

theorem findNow_spec {kd : TypeDesc} {enc : α → Value} (ko : KeyOk kd enc) (k : α) : ∀ (es : List MapEntry) (kvs : List (α × Value)) (i : Nat), es.map (fun e => (e.key, e.val)) = kvs.map (fun p => (enc p.1, p.2)) →
    Instr.findNow kd (enc k) es i = some ((kvs.findIdx? fun p => decide (p.1 = k)).bind fun j => (kvs[j]?).map fun p => (i + j, p.2))
  | [], kvs, i, h => by
    cases kvs with
    | nil => rfl
    | cons p l => simp at h
  | e :: es, kvs, i, h => by
    cases kvs with
    | nil => simp at h
    | cons p l =>
      simp only [List.map_cons, List.cons.injEq, Prod.mk.injEq] at h
      obtain ⟨⟨h1, h2⟩, h3⟩ := h
      have ih := findNow_spec ko k es l (i + 1) h3
      simp only [Instr.findNow, h1, ko.same]
      by_cases hk : k = p.1
      · subst hk; simp [List.findIdx?_cons, h2]
      · have hk' : ¬ p.1 = k := fun e => hk e.symm
        simp only [hk, decide_false, List.findIdx?_cons, hk', Bool.false_eq_true, if_false]
        rw [ih]
        cases hf : l.findIdx? (fun p => decide (p.1 = k)) with
        | none => simp
        | some j =>
          simp only [Option.map_some, Option.bind_some, List.getElem?_cons_succ]
          rw [show i + 1 + j = i + (j + 1) by omega]

theorem mget_idx (kvs : List (α × Value)) (k : α) : mget kvs k = (kvs.findIdx? fun p => decide (p.1 = k)).bind fun j => (kvs[j]?).map (·.2) := by
  unfold mget
  induction kvs with
  | nil => rfl
  | cons p l ih =>
    by_cases h : p.1 = k
    · simp [List.findIdx?_cons, h]
    · simp only [List.find?_cons, h, decide_false, List.findIdx?_cons, Bool.false_eq_true, if_false, ih]
      cases l.findIdx? (fun p => decide (p.1 = k)) with
      | none => rfl
      | some j => simp

variable {P : Program} {tb : Tab} (ok : TabOk P tb) {kd : TypeDesc} {enc : α → Value} (ko : KeyOk kd enc)
include ok ko

theorem run_findKey {kt : TypeId} (hk : tb.u kt = some kd) {es : Array MapEntry} {clock : Nat} {kvs : List (α × Value)} (hm : MapOk enc es clock kvs) (k : α) (w : World) :
    (Instr.findKey kt (enc k) es.toList).run P w = .ok ((kvs.findIdx? fun p => decide (p.1 = k)).bind fun j => (kvs[j]?).map fun p => (j, p.2)) w := by
  have := findNow_spec ko k es.toList kvs 0 hm.kv
  simp only [Nat.zero_add] at this
  simp only [Instr.findKey, Sem.run_bind, run_u ok hk, Result.andThen_ok, this]; rfl

theorem run_lookup {t kt et : TypeId} (ht : tb.u t = some (.map kt et)) (hk : tb.u kt = some kd) {z : Value} (hz : tb.zero et = some z) {es : Array MapEntry} {clock b : Nat} {kvs : List (α × Value)} (hm : MapOk enc es clock kvs) {w : World} (hb : w.heap[b]? = some (.map es clock)) (k : α) (cok : Bool) :
    (Instr.lookup t (.map (some b)) (enc k) cok).run P w = .ok (if cok then .tuple #[(mget kvs k).getD z, .bool (mget kvs k).isSome] else (mget kvs k).getD z) w := by
  have hf := run_findKey ok ko hk hm k w
  have hg : (getObj b).run P w = .ok (.map es clock) w := by simp [getObj, Sem.run, hb]
  simp only [Instr.lookup, Sem.run_bind, run_u ok ht, Result.andThen_ok, hg, Sem.run_pure, ko.check P kt _ k w (ok.u _ _ hk), hf]
  rw [mget_idx]
  cases h1 : kvs.findIdx? (fun p => decide (p.1 = k)) with
  | none => simp [run_zero ok hz]
  | some j =>
    cases h2 : kvs[j]? with
    | none =>
      exfalso
      rw [List.findIdx?_eq_some_iff_getElem] at h1
      obtain ⟨hj, _⟩ := h1
      rw [List.getElem?_eq_none_iff] at h2
      omega
    | some p => simp [h2]
omit ko in
theorem run_lookup_nil {t kt et : TypeId} (ht : tb.u t = some (.map kt et)) (ko : KeyOk kd enc) (hk : tb.u kt = some kd) {z : Value} (hz : tb.zero et = some z) {w : World} (k : α) (cok : Bool) :
    (Instr.lookup t (.map none) (enc k) cok).run P w = .ok (if cok then .tuple #[z, .bool false] else z) w := by
  have hf := run_findKey ok ko hk (mapOk_new enc) k w
  simp only [Instr.lookup, Sem.run_bind, run_u ok ht, Result.andThen_ok, Sem.run_pure, ko.check P kt _ k w (ok.u _ _ hk), hf]
  simp [run_zero ok hz]
end

/-! ### The list of a map's entries, and the map -/
section
variable {α : Type} [DecidableEq α]

theorem mget_none {kvs : List (α × Value)} {k : α} (h : mget kvs k = none) : ∀ p ∈ kvs, p.1 ≠ k := by
  intro p hp e
  unfold mget at h
  rw [Option.map_eq_none_iff, List.find?_eq_none] at h
  exact h p hp (by simpa using e)
theorem mget_some {kvs : List (α × Value)} {k : α} {v : Value} (h : mget kvs k = some v) : (k, v) ∈ kvs := by
  unfold mget at h
  rw [Option.map_eq_some_iff] at h
  obtain ⟨p, hp, rfl⟩ := h
  have h1 := List.find?_some hp
  have h2 := List.mem_of_find?_eq_some hp
  simp at h1
  obtain ⟨a, b⟩ := p
  simp at h1
  subst h1; exact h2
theorem mget_mem {kvs : List (α × Value)} (hn : (kvs.map (·.1)).Nodup) {k : α} {v : Value} (h : (k, v) ∈ kvs) : mget kvs k = some v := by
  induction kvs with
  | nil => cases h
  | cons p l ih =>
    simp only [List.map_cons, List.nodup_cons] at hn
    unfold mget
    rw [List.find?_cons]
    rcases List.mem_cons.1 h with rfl | h
    · simp
    · have : ¬ p.1 = k := fun e => hn.1 (by rw [e]; exact List.mem_map.2 ⟨_, h, rfl⟩)
      simp only [this, decide_false]
      exact ih hn.2 h

theorem idx_mget {kvs : List (α × Value)} {k : α} {j : Nat} (h : kvs.findIdx? (fun p => decide (p.1 = k)) = some j) : (mget kvs k).isSome = true := by
  rw [mget_idx, h]
  rw [List.findIdx?_eq_some_iff_getElem] at h
  obtain ⟨hj, _⟩ := h
  simp [hj]
theorem idx_none {kvs : List (α × Value)} {k : α} (h : kvs.findIdx? (fun p => decide (p.1 = k)) = none) : mget kvs k = none := by
  rw [mget_idx, h]; rfl

theorem mapOk_push {enc : α → Value} {es : Array MapEntry} {clock : Nat} {kvs : List (α × Value)} (h : MapOk enc es clock kvs) {k : α} (hk : mget kvs k = none) (v : Value) : MapOk enc (es.push ⟨enc k, v, clock⟩) (clock + 1) (kvs ++ [(k, v)]) := by
  refine ⟨by simp [h.kv], ?_, ?_, ?_⟩
  · intro e he
    simp at he
    rcases he with he | rfl
    · have := h.born e (by simpa using he); omega
    · simp
  · simp only [Array.toList_push, List.map_append, List.map_cons, List.map_nil]
    rw [List.nodup_append]
    refine ⟨h.once, by simp, ?_⟩
    intro a ha b hb
    simp at hb
    subst hb
    rw [List.mem_map] at ha
    obtain ⟨e, he, rfl⟩ := ha
    have := h.born e he; omega
  · simp only [List.map_append, List.map_cons, List.map_nil]
    rw [List.nodup_append]
    refine ⟨h.keys, by simp, ?_⟩
    intro a ha b hb
    simp at hb
    subst hb
    rw [List.mem_map] at ha
    obtain ⟨p, hp, rfl⟩ := ha
    exact mget_none hk p hp

theorem idx_unique {kvs : List (α × Value)} (hn : (kvs.map (·.1)).Nodup) {k : α} {j : Nat} (hj : kvs.findIdx? (fun p => decide (p.1 = k)) = some j) : ∀ q (hq : q < kvs.length), (kvs[q].1 = k ↔ q = j) := by
  rw [List.findIdx?_eq_some_iff_getElem] at hj
  obtain ⟨hjl, hjk, _⟩ := hj
  have hjk : kvs[j].1 = k := by simpa using hjk
  intro q hq
  constructor
  · intro e
    have : (kvs.map (·.1))[q]'(by simpa using hq) = (kvs.map (·.1))[j]'(by simpa using hjl) := by simp [e, hjk]
    exact (List.getElem_inj hn).1 this
  · intro e; subst e; exact hjk

theorem mapOk_modify {enc : α → Value} {es : Array MapEntry} {clock : Nat} {kvs : List (α × Value)} (h : MapOk enc es clock kvs) {k : α} {j : Nat} (hj : kvs.findIdx? (fun p => decide (p.1 = k)) = some j) (v : Value) :
    MapOk enc (es.modify j fun e => { e with key := enc k, val := v }) clock (kvs.map fun p => if p.1 = k then (k, v) else p) := by
  have hlen : es.size = kvs.length := by have := congrArg List.length h.kv; simpa using this
  have huniq := idx_unique h.keys hj
  have hborn : (es.modify j fun e => { e with key := enc k, val := v }).toList.map (·.born) = es.toList.map (·.born) := by
    apply List.ext_getElem
    · simp
    · intro q h1 h2
      simp only [List.getElem_map, Array.getElem_toList, Array.getElem_modify]
      split <;> rfl
  refine ⟨?_, ?_, by rw [hborn]; exact h.once, ?_⟩
  · apply List.ext_getElem
    · simp [hlen]
    · intro q h1 h2
      have hq : q < kvs.length := by simpa using h2
      have hkv : (es[q]'(by omega)).key = enc kvs[q].1 ∧ (es[q]'(by omega)).val = kvs[q].2 := by
        have := congrArg (fun l => l[q]?) h.kv
        simp [hq, show q < es.size by omega] at this
        exact this
      simp only [List.getElem_map, Array.getElem_toList, Array.getElem_modify]
      by_cases e : j = q
      · subst e
        have := (huniq j hq).2 rfl
        simp [this]
      · have : ¬ kvs[q].1 = k := fun e2 => e ((huniq q hq).1 e2).symm
        simp [e, this, hkv.1, hkv.2]
  · intro e he
    have : e.born ∈ es.toList.map (·.born) := by rw [← hborn]; exact List.mem_map.2 ⟨e, he, rfl⟩
    obtain ⟨e', he', hb⟩ := List.mem_map.1 this
    rw [← hb]; exact h.born e' he'
  · have : (kvs.map fun p => if p.1 = k then (k, v) else p).map (·.1) = kvs.map (·.1) := by
      rw [List.map_map]
      apply List.map_congr_left
      intro p _
      simp only [Function.comp_apply]
      split
      · rename_i e; exact e.symm
      · rfl
    rw [this]; exact h.keys

theorem map_eraseIdx {β γ : Type} (g : β → γ) : ∀ (l : List β) (j : Nat), (l.eraseIdx j).map g = (l.map g).eraseIdx j
  | [], _ => rfl
  | _ :: _, 0 => rfl
  | a :: l, j + 1 => by simp [map_eraseIdx g l j]

theorem mapOk_erase {enc : α → Value} {es : Array MapEntry} {clock : Nat} {kvs : List (α × Value)} (h : MapOk enc es clock kvs) {k : α} {j : Nat} (hj : kvs.findIdx? (fun p => decide (p.1 = k)) = some j) :
    MapOk enc (es.eraseIdxIfInBounds j) clock (mdel kvs k) := by
  have hlen : es.size = kvs.length := by have := congrArg List.length h.kv; simpa using this
  have huniq := idx_unique h.keys hj
  have hjl : j < kvs.length := by rw [List.findIdx?_eq_some_iff_getElem] at hj; exact hj.1
  have hes : (es.eraseIdxIfInBounds j).toList = es.toList.eraseIdx j := by
    unfold Array.eraseIdxIfInBounds
    rw [dif_pos (by omega)]
    simp
  have hdel : mdel kvs k = kvs.eraseIdx j := by
    unfold mdel
    rw [List.eraseIdx_eq_take_drop_succ]
    have hsplit : kvs = kvs.take j ++ kvs[j] :: kvs.drop (j + 1) := by
      rw [← List.drop_eq_getElem_cons hjl, List.take_append_drop]
    conv => lhs; rw [hsplit]
    rw [List.filter_append, List.filter_cons]
    have h1 : kvs[j].1 = k := (huniq j hjl).2 rfl
    have h2 : (kvs.take j).filter (fun p => decide (p.1 ≠ k)) = kvs.take j := by
      rw [List.filter_eq_self]
      intro p hp
      obtain ⟨q, hq, rfl⟩ := List.getElem_of_mem hp
      simp only [List.length_take] at hq
      simp only [List.getElem_take, ne_eq, decide_not, Bool.not_eq_true', decide_eq_false_iff_not]
      intro e
      have := (huniq q (by omega)).1 e
      omega
    have h3 : (kvs.drop (j + 1)).filter (fun p => decide (p.1 ≠ k)) = kvs.drop (j + 1) := by
      rw [List.filter_eq_self]
      intro p hp
      obtain ⟨q, hq, rfl⟩ := List.getElem_of_mem hp
      simp only [List.length_drop] at hq
      simp only [List.getElem_drop, ne_eq, decide_not, Bool.not_eq_true', decide_eq_false_iff_not]
      intro e
      have := (huniq (j + 1 + q) (by omega)).1 e
      omega
    rw [h2, h3]; simp [h1]
  refine ⟨?_, ?_, ?_, ?_⟩
  · rw [hes, hdel, map_eraseIdx, map_eraseIdx, h.kv]
  · intro e he; rw [hes] at he; exact h.born e (List.mem_of_mem_eraseIdx he)
  · rw [hes, map_eraseIdx]; exact h.once.sublist (List.eraseIdx_sublist _ _)
  · rw [hdel, map_eraseIdx]; exact h.keys.sublist (List.eraseIdx_sublist _ _)

theorem mdel_none {kvs : List (α × Value)} {k : α} (h : mget kvs k = none) : mdel kvs k = kvs := by
  unfold mdel
  rw [List.filter_eq_self]
  intro p hp
  simpa using mget_none h p hp
end
end Go.SL
end

section
namespace Go.SL

/-! ## Slices of the call's own: a row from its first cell on -/

def rowA (e size : Nat) (v : Value) (n : Nat) (xs : List Value) : Asn := fun h => xs.length = n * size ∧
  ((v = .slice none 0 0 ∧ n = 0) ∨ ∃ g cap cur, v = .slice (some ⟨g, 0, none⟩) n cap ∧ h g = some (.cells cur e (0, 0)) ∧ n ≤ cap ∧ cap ≤ maxLen ∧ cur.size = cap * size ∧ cur.toList.take (n * size) = xs)

theorem rowA_nil (e size : Nat) (h : Hp) : rowA e size (.slice none 0 0) 0 [] h := ⟨by simp, .inl ⟨rfl, rfl⟩⟩

/-- What is appended, copied ..: so many elements, read from these cells. -/
inductive Src (w : World) : Value → Nat → List Value → Prop where
  | nil : Src w (.slice none 0 0) 0 []
  | at (b o c m : Nat) (news : List Value) (h : ∀ j u, news[j]? = some u → w.cell? ⟨b, o + j, none⟩ = some u) : Src w (.slice (some ⟨b, o, none⟩) m c) m news

theorem Sat.rowOwn {w0 w : World} {l : List Asn} (hS : Sat w0 w l) {i e size n : Nat} {v : Value} {xs : List Value} (hi : l[i]? = some (rowA e size v n xs)) : w.ownsRow 0 e size v n xs := by
  obtain ⟨own, H⟩ := hS.2
  obtain ⟨h1, h2⟩ := H i _ hi
  refine ⟨h1, ?_⟩
  rcases h2 with h2 | ⟨g, cap, cur, hv, hg, r⟩
  · exact .inl h2
  · exact .inr ⟨g, cap, cur, hv, Nat.zero_le _, (cutHp_some hg).2, r⟩

/-- A slice of the call's own is a source. -/
theorem Sat.rowSrc {w0 w : World} {l : List Asn} (hS : Sat w0 w l) {i e size n : Nat} {v : Value} {xs : List Value} (hi : l[i]? = some (rowA e size v n xs)) : Src w v n xs := by
  have ho := hS.rowOwn hi
  rcases ho.2 with ⟨rfl, rfl⟩ | ⟨g, cap, cur, rfl, _, hg, _, _, _, htake⟩
  · have : xs = [] := List.eq_nil_of_length_eq_zero (by simpa using ho.1)
    subst this; exact .nil
  · refine .at g 0 cap n xs fun j u hu => ?_
    have := ho.cells (g := g) rfl j u hu
    rw [addr_add] at this; exact this

theorem Sat.ptSrc {w0 w : World} {l : List Asn} (hS : Sat w0 w l) {i b o m c T : Nat} {cs : Array Value} {fz : Nat × Nat} (hi : l[i]? = some (pt b (.cells cs T fz))) {news : List Value} (hn : ∀ j u, news[j]? = some u → cs[o + j]? = some u) :
    Src w (.slice (some ⟨b, o, none⟩) m c) m news := .at b o c m news fun j u hu => hS.cell hi (hn j u hu)

section
variable {P : Program} {tb : Tab} (ok : TabOk P tb)
include ok

theorem tb_info {e sz by_ : Nat} {z : Value} (hs : tb.sz e = some sz) (hb : tb.bytes e = some by_) (hz : tb.zero e = some z) : ∃ i, P.info? e = some i ∧ i.size = sz ∧ i.bytes = by_ ∧ i.zero = some z := by
  have h1 := ok.sz _ _ hs
  have h2 := ok.bytes _ _ hb
  have h3 := ok.zero _ _ hz
  cases hi : P.info? e with
  | none => rw [hi] at h1; cases h1
  | some i => rw [hi] at h1 h2 h3; simp at h1 h2 h3; exact ⟨i, rfl, h1, h2, h3⟩

theorem Sat.append {w0 w : World} {l : List Asn} (hS : Sat w0 w l) {t e size bytes : Nat} {z : Value} (ht : tb.u t = some (.slice e)) (hs : tb.sz e = some size) (hb : tb.bytes e = some bytes) (hz : tb.zero e = some z) (hzs : z.cells.size = size)
    {i n m : Nat} {v x : Value} {xs news : List Value} (hi : l[i]? = some (rowA e size v n xs)) (hx : Src w x m news) (hl : news.length = m * size) (h1 : oneCells news = true) (h63 : n + m ≤ 4611686018427387904) (hB : (n + m) * bytes ≤ 140737488355328) (ty : TypeId) :
    ∃ v' w', (Builtin.append_ #[t, t] ty #[v, x]).run P w = .ok v' w' ∧ Sat w0 w' (l.set i (rowA e size v' (n + m) (xs ++ news))) := by
  obtain ⟨inf, hinf, rfl, rfl, hzero⟩ := tb_info ok hs hb hz
  have hown := hS.rowOwn hi
  have htP := ok.u _ _ ht
  have hil := lt_of_get hi
  have h1' : ∀ u ∈ news, u.oneCell' = true := by simpa [oneCells] using h1
  have hlen : (xs ++ news).length = (n + m) * inf.size := by rw [List.length_append, hown.1, hl, Nat.add_mul]
  cases hx with
  | nil =>
    refine ⟨v, w, run_append_owned_none (P := P) (w := w) 0 t ty e inf inf.size htP hinf v n xs hown, ?_⟩
    have : l.set i (rowA e inf.size v (n + 0) (xs ++ [])) = l := by
      rw [Nat.add_zero, List.append_nil]
      rw [List.getElem?_eq_getElem hil] at hi
      have := Option.some.inj hi
      rw [← this]; simp
    rw [this]; exact hS
  | «at» b o c m news hn =>
    have hn' : ∀ j u, news[j]? = some u → w.cell? ((⟨b, o, none⟩ : Addr).add j) = some u := fun j u hu => by rw [addr_add]; exact hn j u hu
    -- a new row
    have fresh : ∀ (cells : Array Value) (cap : Nat), n + m ≤ cap → cap ≤ maxLen → cells.size = cap * inf.size → cells.toList.take ((n + m) * inf.size) = xs ++ news →
        Sat w0 (w.drew.alloc (.cells cells e)) (l.set i (rowA e inf.size (.slice (some ⟨w.heap.size, 0, none⟩) (n + m) cap) (n + m) (xs ++ news))) := by
      intro cells cap hc1 hc2 hc3 hc4
      refine Sat.merge hi (hS.drew.alloc _) ?_
      rintro g ⟨own, H⟩
      have := (cutHp_some (H 1 _ rfl)).2
      exact ⟨hlen, .inr ⟨w.heap.size, cap, cells, rfl, this, hc1, hc2, hc3, hc4⟩⟩
    have hcap : ∀ old, grownCap w (n + m) old e ≤ maxLen := fun old => grownCap_le_maxLen w (n + m) old e (by unfold maxLen; omega)
    have htk : ∀ rest : List Value, (xs ++ (news ++ rest)).take ((n + m) * inf.size) = xs ++ news := fun rest => by
      rw [← List.append_assoc, ← hlen]; exact List.take_left
    rcases hown.2 with ⟨rfl, rfl⟩ | ⟨g, cap, cur, rfl, _, hg, hnc, hcm, hcs, htake⟩
    · have hx0 : xs = [] := List.eq_nil_of_length_eq_zero (by simpa using hown.1)
      subst hx0
      by_cases hm : m = 0
      · subst hm
        have hnil : news = [] := List.eq_nil_of_length_eq_zero (by simpa using hl)
        subst hnil
        refine ⟨.slice none 0 0, w, ?_, ?_⟩
        · simp [Builtin.append_, run_underlying htP, sizeOf, typeInfo, hinf, Builtin.lenOf, Builtin.firstCells, loadCells, loadCellsFrom]
        · have : l.set i (rowA e inf.size (.slice none 0 0) (0 + 0) ([] ++ [])) = l := by
            rw [List.getElem?_eq_getElem hil] at hi
            have := Option.some.inj hi
            simp only [Nat.add_zero, List.append_nil]
            rw [← this]; simp
          rw [this]; exact hS
      · have h48 : m * inf.bytes ≤ 281474976710656 := by simp only [Nat.zero_add] at hB; omega
        have hr := run_append_nil (P := P) w t ty e inf z htP hinf hzero ⟨b, o, none⟩ m c news hl hn' (by omega) (by omega) h48
        refine ⟨_, _, hr, ?_⟩
        have hge := grownCap_ge w m 0 e
        have := fresh (news.toArray ++ Builtin.zeroCells z.cells (grownCap w m 0 e - m)) (grownCap w m 0 e) (by omega) (by have := hcap 0; rwa [Nat.zero_add] at this)
          (by simp only [Array.size_append, List.size_toArray, size_zeroCells, hzs, hl, ← Nat.add_mul]; congr 1; omega)
          (by have := htk (Builtin.zeroCells z.cells (grownCap w m 0 e - m)).toList; simpa using this)
        simpa using this
    · by_cases hroom : n + m ≤ cap
      · have hfit : n * inf.size + news.length ≤ cur.size := by rw [hl, hcs, ← Nat.add_mul]; exact Nat.mul_le_mul_right _ hroom
        have hr := run_append_room (P := P) w t ty e inf htP hinf g n cap cur hg ⟨b, o, none⟩ m c news hl hn' h1' hroom hfit
        refine ⟨_, _, hr, ?_⟩
        rw [setRow_block w g cur _ e hg]
        refine ⟨⟨hS.1.os, hS.1.tape, hS.1.output, by have := hS.1.size; simpa [Go.ChangeMaps.setBlock] using this⟩, ?_⟩
        rw [hpOf_setBlock w g _ _ hg]
        refine grp_upd hS.2 hil fun own ho => ?_
        obtain ⟨_, h2⟩ := ho _ hi
        have hgi : own g = i := by
          rcases h2 with ⟨h2, _⟩ | ⟨g', cap', cur', hv', hg', _⟩
          · cases h2
          · simp only [Value.slice.injEq, Option.some.injEq, Addr.mk.injEq] at hv'
            obtain ⟨⟨rfl, _⟩, _⟩ := hv'
            exact (cutHp_some hg').1
        refine ⟨fun y hy => ?_, hlen, .inr ⟨g, cap, (cur.toList.take (n * inf.size) ++ news ++ cur.toList.drop (n * inf.size + news.length)).toArray, rfl, ?_, hroom, hcm, ?_, ?_⟩⟩
        · unfold updHp; rw [if_neg]; intro ee; subst ee; exact hy hgi
        · unfold cutHp updHp; rw [if_pos hgi, if_pos rfl]
        · have hle : n * inf.size ≤ cur.size := by omega
          simp only [List.size_toArray, List.length_append, List.length_take, Array.length_toList, List.length_drop, Nat.min_eq_left hle]
          omega
        · have hle : n * inf.size ≤ cur.size := by omega
          have e1 : (cur.toList.take (n * inf.size) ++ news).length = (n + m) * inf.size := by
            simp only [List.length_append, List.length_take, Array.length_toList, Nat.min_eq_left hle, hl, Nat.add_mul]
          rw [← e1, List.take_left, htake]
      · have hnext : Builtin.nextslicecap (n + m) cap * inf.bytes ≤ 281474976710656 := by
          have : Builtin.nextslicecap (n + m) cap ≤ 2 * (n + m) := nextslicecap_le (by omega)
          have h3 : Builtin.nextslicecap (n + m) cap * inf.bytes ≤ 2 * (n + m) * inf.bytes := Nat.mul_le_mul_right _ this
          have h4 : 2 * (n + m) * inf.bytes = 2 * ((n + m) * inf.bytes) := Nat.mul_assoc _ _ _
          omega
        have holds : ∀ j u, xs[j]? = some u → w.cell? ((⟨g, 0, none⟩ : Addr).add j) = some u := hown.cells (g := g) rfl
        have hr := run_append_grow (P := P) w t ty e inf z htP hinf hzero ⟨g, 0, none⟩ n cap xs hown.1 holds ⟨b, o, none⟩ m c news hl hn' (by omega) (by omega) hnext
        refine ⟨_, _, hr, ?_⟩
        have hge := grownCap_ge w (n + m) cap e
        exact fresh _ (grownCap w (n + m) cap e) hge (hcap cap)
          (by simp only [Array.size_append, List.size_toArray, size_zeroCells, hzs, hown.1, hl, ← Nat.add_mul]; congr 1; omega)
          (by have := htk (Builtin.zeroCells z.cells (grownCap w (n + m) cap e - (n + m))).toList; simpa using this)
end
end Go.SL
end

section
namespace Go.SL

/-! ## Operations that read -/
structure Rd (P : Program) (w0 : World) (L : List Asn) (n : Nat) (f : Nat → Value) (op : Op) (v : Value) : Prop where
  out : ∀ (G : List Asn) (w : World) (dst : Option Tmp) (ty : TypeId) (pos : String) (after : Array Edge), Sat w0 w (L ++ G) → (execOp (ev n f) ⟨dst, op, ty, pos, after, none⟩).run P w = .ok (.value v) w

section
variable {P : Program} {ops : Array Oper} {Q : QF} {rest : List Oper} {n : Nat} {f : Nat → Value} {w w0 : World} {L : List Asn} {op : Op} {v : Value} {d : Nat} {ty : TypeId} {pos : String} {after : Array Edge}

theorem o_rd (hS : Sat w0 w L) (h : Rd P w0 L n f op v) (hk : WL P ops Q rest n (upd f d v) w) : WL P ops Q (⟨some d, op, ty, pos, after, none⟩ :: rest) n f w :=
  o_run rfl rfl (h.out [] w _ _ _ _ (by simpa using hS)) hk

theorem r_rd {al : Option Nat} {ch : List Nat} {K : (Nat → Value) → Prop} {k : Nat} {l : List Oper} (ha : skB al ch k = false) (h : Rd P w0 L n f op v) (hk : SF P ops w0 L al ch K (k + 1) l n (upd f d v)) :
    SF P ops w0 L al ch K k (⟨some d, op, ty, pos, after, none⟩ :: l) n f :=
  r_quiet ha (quietF_val fun G w hS => h.out G w _ _ _ _ hS) hk
end

section
variable {P : Program} {w0 : World} {L : List Asn} {n : Nat} {f : Nat → Value} {v : Value} {i b k : Nat} {t : TypeId} {x y : Operand} {tb : Tab} (ok : TabOk P tb)
include ok

theorem rd_load {q : Nat} {cs : Array Value} {T : TypeId} {fz : Nat × Nat} {dsc : TypeDesc} (ht : tb.u t = some dsc) (hna : aggT dsc = false) (hx : ev n f x = .pointer (some ⟨b, q, none⟩))
    (hi : L[i]? = some (pt b (.cells cs T fz))) (hk : cs[q]? = some v) : Rd P w0 L n f (.load t x) v := ⟨fun G w _ _ _ _ hS => by
  have hc := hS.cell (i := i) (by rw [List.getElem?_append_left (lt_of_get hi)]; exact hi) hk
  simp [execOp, Instr.loadAt, hx, Instr.sureAddr, loadVar, run_isAgg ok ht, hna, hc]⟩

theorem rd_loadA {q m : Nat} {cs : Array Value} {T : TypeId} {fz : Nat × Nat} {dsc : TypeDesc} (ht : tb.u t = some dsc) (hag : aggT dsc = true) (hz : tb.sz t = some m) (hx : ev n f x = .pointer (some ⟨b, q, none⟩))
    (hi : L[i]? = some (pt b (.cells cs T fz))) (hk : q + m ≤ cs.size) : Rd P w0 L n f (.load t x) (.agg (cs.extract q (q + m))) := ⟨fun G w _ _ _ _ hS => by
  have hr := run_loadCells (P := P) (hS.block (i := i) (by rw [List.getElem?_append_left (lt_of_get hi)]; exact hi)) hk
  simp [execOp, Instr.loadAt, hx, Instr.sureAddr, loadVar, run_isAgg ok ht, hag, run_sz ok hz, hr]⟩

/-- A cell of which only this is known: that the row of the call's own has it. -/
theorem rd_loadR {q e size m : Nat} {rv : Value} {xs : List Value} {dsc : TypeDesc} {c : Nat} (ht : tb.u t = some dsc) (hna : aggT dsc = false) (hx : ev n f x = .pointer (some ⟨b, q, none⟩))
    (hi : L[i]? = some (rowA e size rv m xs)) (hrv : rv = .slice (some ⟨b, 0, none⟩) m c) (hk : xs[q]? = some v) : Rd P w0 L n f (.load t x) v := ⟨fun G w _ _ _ _ hS => by
  subst hrv
  have ho := hS.rowOwn (i := i) (by rw [List.getElem?_append_left (lt_of_get hi)]; exact hi)
  have hc := ho.cells (g := b) rfl q v hk
  rw [addr_add, Nat.zero_add] at hc
  simp [execOp, Instr.loadAt, hx, Instr.sureAddr, loadVar, run_isAgg ok ht, hna, hc]⟩

theorem rd_indexAddr {e sz : Nat} {o len cap : Nat} {kk : IntKind} {j : Int} (ht : tb.u t = some (.slice e)) (hsz : tb.sz e = some sz) (hx : ev n f x = .slice (some ⟨b, o, none⟩) len cap) (hy : ev n f y = .int kk j) (hj : 0 ≤ j ∧ j < (len : Int)) :
    Rd P w0 L n f (.indexAddr t x y) (.pointer (some ⟨b, o + j.toNat * sz, none⟩)) := ⟨fun G w _ _ _ _ _ => by
  simp only [execOp, Instr.indexAt, hx, hy, asIntOf, Sem.run_bind, Sem.run_pure, run_u ok ht, Result.andThen_ok, if_pos hj, run_sz ok hsz, addr_add]⟩

theorem rd_indexAddrA {e sz : Nat} {o len : Nat} {kk : IntKind} {j : Int} (ht : tb.u t = some (.array len e)) (hsz : tb.sz e = some sz) (hx : ev n f x = .pointer (some ⟨b, o, none⟩)) (hy : ev n f y = .int kk j) (hj : 0 ≤ j ∧ j < (len : Int)) :
    Rd P w0 L n f (.indexAddr t x y) (.pointer (some ⟨b, o + j.toNat * sz, none⟩)) := ⟨fun G w _ _ _ _ _ => by
  simp only [execOp, Instr.indexAt, hx, hy, asIntOf, Sem.run_bind, Sem.run_pure, run_u ok ht, Result.andThen_ok, if_pos hj, run_sz ok hsz, addr_add, Instr.sureAddr]⟩

/-- Slicing a slice: [lo:hi], [lo:], [:hi], [:]. -/
theorem rd_slice {e sz : Nat} {a : Option Addr} {len cap l h : Nat} {lo hi : Option Operand} (ht : tb.u t = some (.slice e)) (hsz : tb.sz e = some sz) (hx : ev n f x = .slice a len cap)
    (hlo : match lo with | none => l = 0 | some o => ∃ kk, ev n f o = .int kk (l : Int)) (hhi : match hi with | none => h = len | some o => ∃ kk, ev n f o = .int kk (h : Int)) (hlh : l ≤ h) (hhc : h ≤ cap) :
    Rd P w0 L n f (.slice t x lo hi none) (.slice (if cap = l then a else a.map (·.add (l * sz))) (h - l) (cap - l)) := ⟨fun G w _ _ _ _ _ => by
  have hb : (Instr.sliceBounds true len cap (lo.map (ev n f)) (hi.map (ev n f)) none).run P w = .ok (l, h, cap) w := by
    unfold Instr.sliceBounds
    cases hi with
    | none =>
      simp only at hhi; subst hhi
      cases lo with
      | none => simp only at hlo; subst hlo; simp
      | some o => obtain ⟨kk, ho⟩ := hlo; simp [ho, Instr.sliceBound, asIntOf, hlh]
    | some o2 =>
      obtain ⟨k2, ho2⟩ := hhi
      cases lo with
      | none => simp only at hlo; subst hlo; simp [ho2, Instr.sliceBound, asIntOf, hhc]
      | some o => obtain ⟨kk, ho⟩ := hlo; simp [ho, ho2, Instr.sliceBound, asIntOf, hlh, hhc]
  simp only [execOp, Instr.sliceAt, hx, Sem.run_bind, run_u ok ht, Result.andThen_ok, Instr.slice, Option.map_none, hb, run_sz ok hsz, Sem.run_pure]⟩

/-- Slicing an array behind an address. -/
theorem rd_sliceA {e sz : Nat} {a : Addr} {len l h : Nat} {lo hi : Option Operand} (ht : tb.u t = some (.array len e)) (hsz : tb.sz e = some sz) (hx : ev n f x = .pointer (some a))
    (hlo : match lo with | none => l = 0 | some o => ∃ kk, ev n f o = .int kk (l : Int)) (hhi : match hi with | none => h = len | some o => ∃ kk, ev n f o = .int kk (h : Int)) (hlh : l ≤ h) (hhc : h ≤ len) :
    Rd P w0 L n f (.slice t x lo hi none) (.slice (some (if len = l then a else a.add (l * sz))) (h - l) (len - l)) := ⟨fun G w _ _ _ _ _ => by
  have hb : (Instr.sliceBounds false len len (lo.map (ev n f)) (hi.map (ev n f)) none).run P w = .ok (l, h, len) w := by
    unfold Instr.sliceBounds
    cases hi with
    | none =>
      simp only at hhi; subst hhi
      cases lo with
      | none => simp only at hlo; subst hlo; simp
      | some o => obtain ⟨kk, ho⟩ := hlo; simp [ho, Instr.sliceBound, asIntOf, hlh]
    | some o2 =>
      obtain ⟨k2, ho2⟩ := hhi
      cases lo with
      | none => simp only at hlo; subst hlo; simp [ho2, Instr.sliceBound, asIntOf, hhc]
      | some o => obtain ⟨kk, ho⟩ := hlo; simp [ho, ho2, Instr.sliceBound, asIntOf, hlh, hhc]
  simp only [execOp, Instr.sliceAt, hx, Sem.run_bind, run_u ok ht, Result.andThen_ok, Instr.sureAddr, Option.map_none, hb, run_sz ok hsz, Sem.run_pure]⟩

/-- Slicing a string. -/
theorem rd_sliceS {s : ByteArray} {l h : Nat} {lo hi : Option Operand} (ht : tb.u t = some .string) (hx : ev n f x = .string s)
    (hlo : match lo with | none => l = 0 | some o => ∃ kk, ev n f o = .int kk (l : Int)) (hhi : match hi with | none => h = s.size | some o => ∃ kk, ev n f o = .int kk (h : Int)) (hlh : l ≤ h) (hhc : h ≤ s.size) :
    Rd P w0 L n f (.slice t x lo hi none) (.string (s.extract l h)) := ⟨fun G w _ _ _ _ _ => by
  have hb : (Instr.sliceBounds false s.size s.size (lo.map (ev n f)) (hi.map (ev n f)) none).run P w = .ok (l, h, s.size) w := by
    unfold Instr.sliceBounds
    cases hi with
    | none =>
      simp only at hhi; subst hhi
      cases lo with
      | none => simp only at hlo; subst hlo; simp
      | some o => obtain ⟨kk, ho⟩ := hlo; simp [ho, Instr.sliceBound, asIntOf, hlh]
    | some o2 =>
      obtain ⟨k2, ho2⟩ := hhi
      cases lo with
      | none => simp only at hlo; subst hlo; simp [ho2, Instr.sliceBound, asIntOf, hhc]
      | some o => obtain ⟨kk, ho⟩ := hlo; simp [ho, ho2, Instr.sliceBound, asIntOf, hlh, hhc]
  simp only [execOp, Instr.sliceAt, hx, Sem.run_bind, run_u ok ht, Result.andThen_ok, Instr.slice, Option.map_none, hb, Option.isSome_none, Bool.false_eq_true, if_false, Sem.run_pure]⟩

/-- A look-up in a map. -/
theorem rd_lookup {α : Type} [DecidableEq α] {kt et : TypeId} {kd : TypeDesc} {enc : α → Value} (ko : KeyOk kd enc) {kvs : List (α × Value)} {z : Value} {q : α} (ht : tb.u t = some (.map kt et)) (hk : tb.u kt = some kd) (hz : tb.zero et = some z)
    (hx : ev n f x = .map (some b)) (hy : ev n f y = enc q) (hi : L[i]? = some (mapA enc b kvs)) : Rd P w0 L n f (.lookup t x y false) ((mget kvs q).getD z) := ⟨fun G w _ _ _ _ hS => by
  obtain ⟨own, H⟩ := hS.2
  obtain ⟨es, clock, hm, hb⟩ := H i _ (by rw [List.getElem?_append_left (lt_of_get hi)]; exact hi)
  have := run_lookup ok ko ht hk hz hm (cutHp_some hb).2 q false
  simp only [execOp, hx, hy, Sem.run_bind, this, Result.andThen_ok]; rfl⟩
theorem rd_lookup2 {α : Type} [DecidableEq α] {kt et : TypeId} {kd : TypeDesc} {enc : α → Value} (ko : KeyOk kd enc) {kvs : List (α × Value)} {z : Value} {q : α} (ht : tb.u t = some (.map kt et)) (hk : tb.u kt = some kd) (hz : tb.zero et = some z)
    (hx : ev n f x = .map (some b)) (hy : ev n f y = enc q) (hi : L[i]? = some (mapA enc b kvs)) : Rd P w0 L n f (.lookup t x y true) (.tuple #[(mget kvs q).getD z, .bool (mget kvs q).isSome]) := ⟨fun G w _ _ _ _ hS => by
  obtain ⟨own, H⟩ := hS.2
  obtain ⟨es, clock, hm, hb⟩ := H i _ (by rw [List.getElem?_append_left (lt_of_get hi)]; exact hi)
  have := run_lookup ok ko ht hk hz hm (cutHp_some hb).2 q true
  simp only [execOp, hx, hy, Sem.run_bind, this, Result.andThen_ok]; rfl⟩
theorem rd_lookupN {α : Type} [DecidableEq α] {kt et : TypeId} {kd : TypeDesc} {enc : α → Value} (ko : KeyOk kd enc) {z : Value} {q : α} (ht : tb.u t = some (.map kt et)) (hk : tb.u kt = some kd) (hz : tb.zero et = some z)
    (hx : ev n f x = .map none) (hy : ev n f y = enc q) : Rd P w0 L n f (.lookup t x y false) z := ⟨fun G w _ _ _ _ hS => by
  have := run_lookup_nil ok ht ko hk hz q false (w := w)
  simp only [execOp, hx, hy, Sem.run_bind, this, Result.andThen_ok]; rfl⟩
theorem rd_lookup2N {α : Type} [DecidableEq α] {kt et : TypeId} {kd : TypeDesc} {enc : α → Value} (ko : KeyOk kd enc) {z : Value} {q : α} (ht : tb.u t = some (.map kt et)) (hk : tb.u kt = some kd) (hz : tb.zero et = some z)
    (hx : ev n f x = .map none) (hy : ev n f y = enc q) : Rd P w0 L n f (.lookup t x y true) (.tuple #[z, .bool false]) := ⟨fun G w _ _ _ _ hS => by
  have := run_lookup_nil ok ht ko hk hz q true (w := w)
  simp only [execOp, hx, hy, Sem.run_bind, this, Result.andThen_ok]; rfl⟩

theorem rd_mlen {α : Type} [DecidableEq α] {kt et : TypeId} {enc : α → Value} {kvs : List (α × Value)} (ht : tb.u t = some (.map kt et)) (hx : ev n f x = .map (some b)) (hi : L[i]? = some (mapA enc b kvs)) :
    Rd P w0 L n f (.call ⟨.builtin .len, #[x], #[t]⟩) (.int .i64 kvs.length) := ⟨fun G w _ _ _ _ hS => by
  obtain ⟨own, H⟩ := hS.2
  obtain ⟨es, clock, hm, hb⟩ := H i _ (by rw [List.getElem?_append_left (lt_of_get hi)]; exact hi)
  have hb := (cutHp_some hb).2
  have hlen : es.size = kvs.length := by have := congrArg List.length hm.kv; simpa using this
  have hg : (getObj b).run P w = .ok (.map es clock) w := by
    have : w.heap[b]? = some (.map es clock) := hb
    simp [getObj, Sem.run, this]
  simp only [execOp, resolve, invoke, builtin, Builtin.len_, Sem.run_bind, Sem.run_pure, Result.andThen_ok, List.map_toArray, List.map_cons, List.map_nil, List.getElem?_toArray, List.getElem?_cons_zero, hx, run_u ok ht, hg, goInt, hlen]⟩
theorem rd_mlenN {kt et : TypeId} (ht : tb.u t = some (.map kt et)) (hx : ev n f x = .map none) : Rd P w0 L n f (.call ⟨.builtin .len, #[x], #[t]⟩) (.int .i64 0) := ⟨fun G w _ _ _ _ hS => by
  simp only [execOp, resolve, invoke, builtin, Builtin.len_, Sem.run_bind, Sem.run_pure, Result.andThen_ok, List.map_toArray, List.map_cons, List.map_nil, List.getElem?_toArray, List.getElem?_cons_zero, hx, run_u ok ht, goInt]⟩

/-! ### A struct out of parts of one cell each -/
def build1B (tb : Tab) (fs : Array Field) (zs : Nat) (ρ : Operand → Value) : List (Nat × Operand) → Bool
  | [] => true
  | p :: r => (match fs[p.1]? with
    | some f => (match tb.sz f.type with | some 1 => true | _ => false) && Nat.blt f.offset zs && (ρ p.2).oneCell'
    | none => false) && build1B tb fs zs ρ r
def allSz (tb : Tab) : List Field → Bool
  | [] => true
  | f :: r => (tb.sz f.type).isSome && allSz tb r
def bfold (fs : Array Field) (ρ : Operand → Value) : List (Nat × Operand) → Array Value → Array Value
  | [], cs => cs
  | p :: r, cs => bfold fs ρ r (cs.setIfInBounds ((fs[p.1]?).elim 0 (·.offset)) (ρ p.2))
omit ok in
theorem bfold_size (fs : Array Field) (ρ : Operand → Value) : ∀ (l : List (Nat × Operand)) (cs : Array Value), (bfold fs ρ l cs).size = cs.size
  | [], _ => rfl
  | p :: r, cs => by rw [bfold, bfold_size]; simp

theorem run_places (fs : Array Field) (w : World) (h : allSz tb fs.toList = true) : ∃ pl : Array (Nat × Nat), (fs.mapM fun f => (do pure (f.offset, ← sizeOf f.type) : Sem (Nat × Nat))).run P w = .ok pl w ∧ ∀ (j : Nat) (f : Field), fs[j]? = some f → ∀ s, tb.sz f.type = some s → pl[j]? = some (f.offset, s) := by
  have key : ∀ (l : List Field), allSz tb l = true → ∃ pl : List (Nat × Nat), (l.mapM fun f => (do pure (f.offset, ← sizeOf f.type) : Sem (Nat × Nat))).run P w = .ok pl w ∧ ∀ (j : Nat) (f : Field), l[j]? = some f → ∀ s, tb.sz f.type = some s → pl[j]? = some (f.offset, s) := by
    intro l
    induction l with
    | nil => intro _; exact ⟨[], rfl, by simp⟩
    | cons f l ih =>
      intro h
      simp only [allSz, Bool.and_eq_true] at h
      obtain ⟨pl, h1, h2⟩ := ih h.2
      obtain ⟨s, hs⟩ := Option.isSome_iff_exists.1 h.1
      refine ⟨(f.offset, s) :: pl, ?_, ?_⟩
      · simp only [List.mapM_cons, Sem.run_bind, run_sz ok hs, Result.andThen_ok, Sem.run_pure, h1]
      · intro j g hj s' hs'
        cases j with
        | zero => simp at hj; subst hj; rw [hs] at hs'; cases hs'; rfl
        | succ j => simp at hj; simpa using h2 j g hj s' hs'
  obtain ⟨pl, h1, h2⟩ := key fs.toList h
  refine ⟨pl.toArray, ?_, ?_⟩
  · rw [Array.mapM_eq_mapM_toList, Sem.run_map, h1]; rfl
  · intro j f hj s hs
    have := h2 j f (by simpa using hj) s hs
    simpa using this

omit ok in
theorem fill_bfold {fs : Array Field} {ρ : Operand → Value} {pl : Array (Nat × Nat)} (hpl : ∀ (j : Nat) (f : Field), fs[j]? = some f → ∀ s, tb.sz f.type = some s → pl[j]? = some (f.offset, s)) : ∀ (l : List (Nat × Operand)) (cs : Array Value), build1B tb fs cs.size ρ l = true →
    Instr.fill (pl[·]?) cs (l.map fun p => (p.1, ρ p.2)) = some (bfold fs ρ l cs)
  | [], cs, _ => rfl
  | p :: r, cs, h => by
    simp only [build1B, Bool.and_eq_true] at h
    obtain ⟨h1, h2⟩ := h
    cases hf : fs[p.1]? with
    | none => rw [hf] at h1; cases h1
    | some f =>
      rw [hf] at h1
      simp only [Bool.and_eq_true] at h1
      obtain ⟨⟨h3, h4⟩, h5⟩ := h1
      have hs : tb.sz f.type = some 1 := by
        cases hh : tb.sz f.type with
        | none => rw [hh] at h3; cases h3
        | some s => rw [hh] at h3; match s, h3 with | 1, _ => rfl
      have hoff : f.offset < cs.size := by simpa [Nat.blt_eq] using h4
      have hc : (ρ p.2).cells = #[ρ p.2] := by cases hv : ρ p.2 <;> first | rfl | (rw [hv] at h5; cases h5)
      have hp := hpl p.1 f hf 1 hs
      simp only [List.map_cons, Instr.fill, hp, hc]
      rw [if_neg (by simp; omega)]
      have ez : Array.foldl (fun (cs : Array Value) (x : Value × Nat) => cs.setIfInBounds (f.offset + x.2) x.1) cs (#[ρ p.2].zipIdx) = cs.setIfInBounds f.offset (ρ p.2) := by simp
      have := fill_bfold hpl r (cs.setIfInBounds f.offset (ρ p.2)) (by simpa using h2)
      simp only [bfold, hf, Option.elim_some]
      rw [← this, ← ez]

theorem rd_build1 {fs : Array Field} {zc : Array Value} {parts : Array (Nat × Operand)} (ht : tb.u t = some (.struct fs)) (hz : tb.zero t = some (.agg zc)) (hs : allSz tb fs.toList = true) (hb : build1B tb fs zc.size (ev n f) parts.toList = true) :
    Rd P w0 L n f (.build t parts) (.agg (bfold fs (ev n f) parts.toList zc)) := ⟨fun G w _ _ _ _ hS => by
  obtain ⟨pl, h1, h2⟩ := run_places ok fs w hs
  have h3 := fill_bfold (tb := tb) (ρ := ev n f) h2 parts.toList zc hb
  have hp : (parts.map fun (i, x) => (i, ev n f x)).toList = parts.toList.map fun p => (p.1, ev n f p.2) := by simp
  simp only [execOp, Instr.build, Sem.run_bind, run_zero ok hz, run_u ok ht, Result.andThen_ok, h1, Value.cells, hp, h3, Sem.run_pure]⟩
end
end Go.SL
end

section
namespace Go.SL

section
variable {P : Program} {ops : Array Oper} {Q : QF} {rest : List Oper} {n : Nat} {f : Nat → Value} {w w0 : World} {l : List Asn} {d : Nat} {ty : TypeId} {pos : String} {after : Array Edge} {tb : Tab} {i b : Nat} {t : TypeId} {x y z : Operand}

theorem run_setObj {P : Program} {w : World} {b : Nat} {es : Array MapEntry} {c : Nat} (hb : w.heap[b]? = some (.map es c)) (o' : Obj) : (setObj b o').run P w = .ok () (Go.ChangeMaps.setBlock w b o') := by
  simp [setObj, Sem.run, hb, Go.ChangeMaps.setBlock]

/-- The block that an assertion at i owns. -/
theorem grp_at {l : List Asn} {h : Hp} (hg : grp l h) {i : Nat} {A : Asn} (hi : l[i]? = some A) : ∃ own : Nat → Nat, (∀ (j : Nat) (B : Asn), l[j]? = some B → B (cutHp own j h)) ∧ A (cutHp own i h) := by
  obtain ⟨own, H⟩ := hg; exact ⟨own, H, H i A hi⟩

theorem Sat.setMap {α : Type} {enc : α → Value} {kvs kvs' : List (α × Value)} (hS : Sat w0 w l) (hi : l[i]? = some (mapA enc b kvs))
    {g : Array MapEntry → Nat → Obj} (hg : ∀ es clock, MapOk enc es clock kvs → ∃ es' clock', g es clock = .map es' clock' ∧ MapOk enc es' clock' kvs') :
    ∃ es clock, MapOk enc es clock kvs ∧ w.heap[b]? = some (.map es clock) ∧ Sat w0 (Go.ChangeMaps.setBlock w b (g es clock)) (l.set i (mapA enc b kvs')) := by
  obtain ⟨own, H, es, clock, hm, hb⟩ := grp_at hS.2 hi
  obtain ⟨ho, hb⟩ := cutHp_some hb
  obtain ⟨es', clock', e, hm'⟩ := hg es clock hm
  refine ⟨es, clock, hm, hb, ⟨hS.1.os, hS.1.tape, hS.1.output, by have := hS.1.size; simpa [Go.ChangeMaps.setBlock] using this⟩, ?_⟩
  rw [hpOf_setBlock w b _ _ hb]
  refine ⟨own, fun j B hj => ?_⟩
  rw [List.getElem?_set] at hj
  by_cases e2 : i = j
  · subst e2
    simp only [if_true, lt_of_get hi] at hj
    cases hj
    refine ⟨es', clock', hm', ?_⟩
    unfold cutHp updHp; rw [if_pos ho, if_pos rfl, e]
  · rw [if_neg e2] at hj
    have : cutHp own j (updHp (hpOf w) b (g es clock)) = cutHp own j (hpOf w) := by
      funext q; unfold cutHp updHp
      by_cases h1 : own q = j
      · rw [if_pos h1, if_pos h1, if_neg]; intro h2; subst h2; exact e2 (ho.symm.trans h1)
      · rw [if_neg h1, if_neg h1]
    rw [this]; exact H j B hj

variable (ok : TabOk P tb)
include ok

theorem o_mapUpdate {α : Type} [DecidableEq α] {kt et : TypeId} {kd : TypeDesc} {enc : α → Value} (ko : KeyOk kd enc) {kvs : List (α × Value)} {v : Value} {q : α} (hS : Sat w0 w l) (ht : tb.u t = some (.map kt et)) (hk : tb.u kt = some kd)
    (hx : ev n f x = .map (some b)) (hy : ev n f y = enc q) (hz : ev n f z = v) (hi : l[i]? = some (mapA enc b kvs))
    (h : ∀ w', Sat w0 w' (l.set i (mapA enc b (mset kvs q v))) → WL P ops Q rest n f w') : WL P ops Q (⟨none, .mapUpdate t x y z, ty, pos, after, none⟩ :: rest) n f w := by
  cases hidx : kvs.findIdx? (fun p => decide (p.1 = q)) with
  | none =>
    have hg := idx_none hidx
    obtain ⟨es, clock, hm, hb, hS'⟩ := hS.setMap (kvs' := kvs ++ [(q, v)]) hi (g := fun es clock => .map (es.push ⟨enc q, v, clock⟩) (clock + 1)) (fun es clock hm => ⟨_, _, rfl, mapOk_push hm hg v⟩)
    refine o_skip rfl rfl ?_ (h _ (by unfold mset; rw [hg]; exact hS'))
    have hf := run_findKey ok ko hk hm q w
    rw [hidx] at hf
    have hgo : (getObj b).run P w = .ok (.map es clock) w := by simp [getObj, Sem.run, hb]
    simp only [execOp, hx, hy, hz, Instr.mapUpdate, Sem.run_bind, run_u ok ht, Result.andThen_ok, hgo, ko.check P kt _ q w (ok.u _ _ hk), hf, Option.bind_none, run_setObj hb]
    rfl
  | some j =>
    have hg := idx_mget hidx
    obtain ⟨es, clock, hm, hb, hS'⟩ := hS.setMap (kvs' := kvs.map fun p => if p.1 = q then (q, v) else p) hi (g := fun es clock => .map (es.modify j fun e => { e with key := enc q, val := v }) clock) (fun es clock hm => ⟨_, _, rfl, mapOk_modify hm hidx v⟩)
    refine o_skip rfl rfl ?_ (h _ (by unfold mset; rw [if_pos hg]; exact hS'))
    have hf := run_findKey ok ko hk hm q w
    rw [hidx] at hf
    have hjl : j < kvs.length := by rw [List.findIdx?_eq_some_iff_getElem] at hidx; exact hidx.1
    have hjk : kvs[j].1 = q := (idx_unique hm.keys hidx j hjl).2 rfl
    have hlen : es.size = kvs.length := by have := congrArg List.length hm.kv; simpa using this
    have hkey : ((es[j]?).map (·.key)).getD (enc q) = enc q := by
      have := congrArg (fun l => l[j]?) hm.kv
      simp [hjl, show j < es.size by omega] at this
      rw [Array.getElem?_eq_getElem (show j < es.size by omega)]
      simp [this.1, hjk]
    have hgo : (getObj b).run P w = .ok (.map es clock) w := by simp [getObj, Sem.run, hb]
    simp only [execOp, hx, hy, hz, Instr.mapUpdate, Sem.run_bind, run_u ok ht, Result.andThen_ok, hgo, ko.check P kt _ q w (ok.u _ _ hk), hf, Option.bind_some, List.getElem?_eq_getElem hjl, Option.map_some, hkey, Instr.keyThatStays, ko.bits, if_true, Sem.run_pure, run_setObj hb]

theorem o_delete {α : Type} [DecidableEq α] {kt et : TypeId} {kd : TypeDesc} {enc : α → Value} (ko : KeyOk kd enc) {kvs : List (α × Value)} {q : α} {dst : Option Tmp} (hd : dst = none) (hS : Sat w0 w l) (ht : tb.u t = some (.map kt et)) (hk : tb.u kt = some kd)
    (hx : ev n f x = .map (some b)) (hy : ev n f y = enc q) (hi : l[i]? = some (mapA enc b kvs))
    (h : ∀ w', Sat w0 w' (l.set i (mapA enc b (mdel kvs q))) → WL P ops Q rest n f w') {ats : TypeId} : WL P ops Q (⟨dst, .call ⟨.builtin .delete, #[x, y], #[t, ats]⟩, ty, pos, after, none⟩ :: rest) n f w := by
  subst hd
  cases hidx : kvs.findIdx? (fun p => decide (p.1 = q)) with
  | none =>
    have hg := idx_none hidx
    obtain ⟨es, clock, hm, hb, hS'⟩ := hS.setMap (kvs' := kvs) hi (g := fun es clock => .map es clock) (fun es clock hm => ⟨_, _, rfl, hm⟩)
    refine o_none (v := .tuple #[]) rfl rfl ?_ (h _ (by rw [mdel_none hg]; exact hS'))
    have hf := run_findKey ok ko hk hm q w
    rw [hidx] at hf
    have hgo : (getObj b).run P w = .ok (.map es clock) w := by simp [getObj, Sem.run, hb]
    simp only [execOp, resolve, invoke, builtin, Builtin.delete_, Sem.run_bind, Sem.run_pure, Result.andThen_ok, List.map_toArray, List.map_cons, List.map_nil, List.getElem?_toArray, List.getElem?_cons_zero, List.getElem?_cons_succ, hx, hy, run_u ok ht, hgo, ko.check P kt _ q w (ok.u _ _ hk), hf, Option.bind_none, run_setObj hb]
  | some j =>
    obtain ⟨es, clock, hm, hb, hS'⟩ := hS.setMap (kvs' := mdel kvs q) hi (g := fun es clock => .map (es.eraseIdxIfInBounds j) clock) (fun es clock hm => ⟨_, _, rfl, mapOk_erase hm hidx⟩)
    refine o_none (v := .tuple #[]) rfl rfl ?_ (h _ hS')
    have hf := run_findKey ok ko hk hm q w
    rw [hidx] at hf
    have hjl : j < kvs.length := by rw [List.findIdx?_eq_some_iff_getElem] at hidx; exact hidx.1
    have hgo : (getObj b).run P w = .ok (.map es clock) w := by simp [getObj, Sem.run, hb]
    simp only [execOp, resolve, invoke, builtin, Builtin.delete_, Sem.run_bind, Sem.run_pure, Result.andThen_ok, List.map_toArray, List.map_cons, List.map_nil, List.getElem?_toArray, List.getElem?_cons_zero, List.getElem?_cons_succ, hx, hy, run_u ok ht, hgo, ko.check P kt _ q w (ok.u _ _ hk), hf, Option.bind_some, List.getElem?_eq_getElem hjl, Option.map_some, run_setObj hb]

theorem o_append {e size bytes m c : Nat} {zz xv v : Value} {xs news : List Value} (hS : Sat w0 w l) (ht : tb.u t = some (.slice e)) (hs : tb.sz e = some size) (hb : tb.bytes e = some bytes) (hz : tb.zero e = some zz) (hzs : zz.cells.size = size)
    (hx : ev n f x = v) (hy : ev n f y = xv) (hi : l[i]? = some (rowA e size v c xs)) (hsrc : Src w xv m news) (hl : news.length = m * size) (h1 : oneCells news = true) (h63 : c + m ≤ 4611686018427387904) (hB : (c + m) * bytes ≤ 140737488355328)
    (h : ∀ v' w', Sat w0 w' (l.set i (rowA e size v' (c + m) (xs ++ news))) → WL P ops Q rest n (upd f d v') w') : WL P ops Q (⟨some d, .call ⟨.builtin .append, #[x, y], #[t, t]⟩, ty, pos, after, none⟩ :: rest) n f w := by
  obtain ⟨v', w', hr, hS'⟩ := Sat.append ok hS ht hs hb hz hzs hi hsrc hl h1 h63 hB ty
  refine o_run rfl rfl ?_ (h v' w' hS')
  simp only [execOp, resolve, invoke, builtin, Sem.run_bind, Sem.run_pure, Result.andThen_ok, List.map_toArray, List.map_cons, List.map_nil, hx, hy, hr]

/-! ### Ranging over a map -/
omit ok in
theorem range_spec {kt et : TypeId} {b : Nat} {es : Array MapEntry} {clock : Nat} (hu : P.underlying t = some (.map kt et)) (hb : w.heap[b]? = some (.map es clock)) :
    (Instr.range t (.map (some b))).run P w = .ok (.pointer (some ⟨w.heap.size, 0, none⟩)) (w.alloc (.mapIter (some b) clock #[] clock)) := by
  have hgo : (getObj b).run P w = .ok (.map es clock) w := by simp [getObj, Sem.run, hb]
  have h1 : (underlying t).run P w = .ok (.map kt et) w := by simp [underlying, program, Sem.run, hu]
  simp only [Instr.range, Sem.run_bind, h1, Result.andThen_ok, hgo, Sem.run_pure, newObj, Sem.run]
  rfl
end

/-- A map that is being ranged over: the entries that are left, and the one that was handed out last. -/
structure IterOk {α : Type} (enc : α → Value) (es : Array MapEntry) (clock : Nat) (seen : Array Nat) (kvs left : List (α × Value)) (cur : Option (α × Value)) : Prop where
  ok : MapOk enc es clock kvs
  lef : (leftOf es seen).toList.map (fun e => (e.key, e.val)) = left.map fun p => (enc p.1, p.2)
  sub : ∀ p ∈ left, p ∈ kvs
  cur : ∀ p, cur = some p → ∃ e ∈ es.toList, seen.back? = some e.born ∧ e.key = enc p.1 ∧ e.val = p.2

def iterA {α : Type} (enc : α → Value) (r b : Nat) (kvs left : List (α × Value)) (cur : Option (α × Value)) : Asn := fun h =>
  ∃ es clock seen, IterOk enc es clock seen kvs left cur ∧ h b = some (.map es clock) ∧ h r = some (.mapIter (some b) clock seen clock) ∧ r ≠ b

section
variable {P : Program} {ops : Array Oper} {Q : QF} {rest : List Oper} {n : Nat} {f : Nat → Value} {w w0 : World} {l : List Asn} {d : Nat} {ty : TypeId} {pos : String} {after : Array Edge} {tb : Tab} {i b r : Nat} {t : TypeId} {x y : Operand}
variable {α : Type} {enc : α → Value} {kvs left : List (α × Value)}

theorem o_range (ok : TabOk P tb) {kt et : TypeId} (hS : Sat w0 w l) (ht : tb.u t = some (.map kt et)) (hx : ev n f x = .map (some b)) (hi : l[i]? = some (mapA enc b kvs))
    (h : ∀ r w', Sat w0 w' (l.set i (iterA enc r b kvs kvs none)) → WL P ops Q rest n (upd f d (.pointer (some ⟨r, 0, none⟩))) w') : WL P ops Q (⟨some d, .range t x, ty, pos, after, none⟩ :: rest) n f w := by
  obtain ⟨own, H, es, clock, hm, hb⟩ := grp_at hS.2 hi
  have hb' := (cutHp_some hb).2
  have hr := range_spec (P := P) (ok.u _ _ ht) hb'
  -- fix the entries
  have hS1 : Sat w0 w (l.set i (pt b (.map es clock))) := ⟨hS.1, own, fun j B hj => by
    rw [List.getElem?_set] at hj
    by_cases e2 : i = j
    · subst e2; simp only [if_true, lt_of_get hi] at hj; cases hj; exact hb
    · rw [if_neg e2] at hj; exact H j B hj⟩
  have hS2 := hS1.alloc (.mapIter (some b) clock #[] clock)
  have hi2 : (l.set i (pt b (.map es clock)))[i]? = some (pt b (.map es clock)) := by rw [List.getElem?_set_self (lt_of_get hi)]
  have hne : w.heap.size ≠ b := by
    intro e; subst e
    have : w.heap[w.heap.size]? = some (Obj.map es clock) := hb'
    simp at this
  have hS3 := Sat.merge (C := iterA enc w.heap.size b kvs kvs none) hi2 hS2 (by
    rintro g ⟨own2, H2⟩
    have h0 := (cutHp_some (H2 0 _ rfl)).2
    have h1 := (cutHp_some (H2 1 _ rfl)).2
    refine ⟨es, clock, #[], ⟨hm, ?_, fun p hp => hp, fun p hp => by cases hp⟩, h0, h1, hne⟩
    have : leftOf es #[] = es := by unfold leftOf; simp
    rw [this]; exact hm.kv)
  rw [List.set_set] at hS3
  refine o_run rfl rfl ?_ (h w.heap.size _ hS3)
  simp only [execOp, hx, Sem.run_bind, hr, Result.andThen_ok]; rfl

theorem left_erase [DecidableEq α] {es : Array MapEntry} {clock : Nat} {seen : Array Nat} {cur : Option (α × Value)} (hI : IterOk enc es clock seen kvs left cur) (hinj : ∀ a b, enc a = enc b → a = b) {e : MapEntry} (he : e ∈ (leftOf es seen).toList) :
    ∃ p ∈ left, e.key = enc p.1 ∧ e.val = p.2 ∧ IterOk enc es clock (seen.push e.born) kvs (mdel left p.1) (some p) := by
  have hmem : (e.key, e.val) ∈ left.map fun p => (enc p.1, p.2) := by rw [← hI.lef]; exact List.mem_map.2 ⟨e, he, rfl⟩
  obtain ⟨p, hp, hpe⟩ := List.mem_map.1 hmem
  simp only [Prod.mk.injEq] at hpe
  refine ⟨p, hp, hpe.1.symm, hpe.2.symm, hI.ok, ?_, ?_, ?_⟩
  · have hes : e ∈ es.toList := by simp [leftOf] at he; simpa using he.1
    have hbe : ∀ e' ∈ es.toList, e'.born = e.born ↔ e'.key = e.key := by
      intro e' he'
      obtain ⟨j, hj, rfl⟩ := List.getElem_of_mem he'
      obtain ⟨k, hk, rfl⟩ := List.getElem_of_mem hes
      constructor
      · intro hb
        have : (es.toList.map (·.born))[j]'(by simpa using hj) = (es.toList.map (·.born))[k]'(by simpa using hk) := by simpa using hb
        have := (List.getElem_inj hI.ok.once).1 this
        subst this; rfl
      · intro hb
        have hlen : es.toList.length = kvs.length := by have := congrArg List.length hI.ok.kv; simpa using this
        have ej := congrArg (fun l => l[j]?) hI.ok.kv
        have ek := congrArg (fun l => l[k]?) hI.ok.kv
        have hj' : j < es.size := by simpa using hj
        have hk' : k < es.size := by simpa using hk
        have hj2 : j < kvs.length := by omega
        have hk2 : k < kvs.length := by omega
        simp [hj', hj2] at ej
        simp [hk', hk2] at ek
        have hkk : kvs[j].1 = kvs[k].1 := by
          apply hinj
          rw [← ej.1, ← ek.1]; simpa using hb
        have : (kvs.map (·.1))[j]'(by simpa using hj2) = (kvs.map (·.1))[k]'(by simpa using hk2) := by simpa using hkk
        have := (List.getElem_inj hI.ok.keys).1 this
        subst this; rfl
    have e1 : leftOf es (seen.push e.born) = (leftOf es seen).filter fun e' => decide (e'.born ≠ e.born) := by
      unfold leftOf
      rw [Array.filter_filter]
      apply Array.ext'
      simp only [Array.toList_filter]
      apply List.filter_congr
      intro e' _
      by_cases h1 : e'.born = e.born
      · simp [h1]
      · simp [h1]
    rw [e1]
    simp only [Array.toList_filter]
    unfold mdel
    have gen : ∀ (L : List MapEntry) (R : List (α × Value)), (∀ a ∈ L, a ∈ es.toList) → L.map (fun e => (e.key, e.val)) = R.map (fun p => (enc p.1, p.2)) → (L.filter fun e' => decide (e'.born ≠ e.born)).map (fun e => (e.key, e.val)) = (R.filter fun q => decide (q.1 ≠ p.1)).map fun p => (enc p.1, p.2) := by
      intro L
      induction L with
      | nil => intro R _ h; cases R with
        | nil => rfl
        | cons _ _ => simp at h
      | cons a L ih =>
        intro R hm h
        cases R with
        | nil => simp at h
        | cons q R =>
          simp only [List.map_cons, List.cons.injEq, Prod.mk.injEq] at h
          obtain ⟨⟨h1, h2⟩, h3⟩ := h
          have h4 := ih R (fun a ha => hm a (List.mem_cons_of_mem _ ha)) h3
          have h5 := hbe a (hm a List.mem_cons_self)
          by_cases hq : q.1 = p.1
          · have h6 : a.born = e.born := h5.2 (by rw [h1, hq, ← hpe.1])
            rw [List.filter_cons_of_neg (by simp [h6]), List.filter_cons_of_neg (by simp [hq])]
            exact h4
          · have h6 : ¬ a.born = e.born := fun hh => hq (hinj _ _ (by rw [← h1, h5.1 hh, ← hpe.1]))
            rw [List.filter_cons_of_pos (by simp [h6]), List.filter_cons_of_pos (by simp [hq])]
            simp only [List.map_cons, h1, h2]
            rw [h4]
    exact gen _ _ (fun a ha => by simp [leftOf] at ha; simpa using ha.1) hI.lef
  · intro q hq; unfold mdel at hq; exact hI.sub q (List.mem_filter.1 hq).1
  · intro q hq
    cases hq
    have hes : e ∈ es.toList := by simp [leftOf] at he; simpa using he.1
    exact ⟨e, hes, by simp, hpe.1.symm, hpe.2.symm⟩

theorem o_next [DecidableEq α] {cur : Option (α × Value)} (hinj : ∀ a b, enc a = enc b → a = b) (hS : Sat w0 w l) (hx : ev n f x = .pointer (some ⟨r, 0, none⟩)) (hi : l[i]? = some (iterA enc r b kvs left cur))
    (h0 : left = [] → WL P ops Q rest n (upd f d (.tuple #[.bool false])) w)
    (h1 : ∀ p w', p ∈ left → Sat w0 w' (l.set i (iterA enc r b kvs (mdel left p.1) (some p))) → WL P ops Q rest n (upd f d (.tuple #[.bool true, enc p.1, p.2])) w') :
    WL P ops Q (⟨some d, .next x false, ty, pos, after, none⟩ :: rest) n f w := by
  obtain ⟨own, H, es, clock, seen, hI, hb, hr, hne⟩ := grp_at hS.2 hi
  obtain ⟨ob, hb⟩ := cutHp_some hb
  obtain ⟨orr, hr⟩ := cutHp_some hr
  rcases run_next_at (P := P) w ty r b clock clock seen es clock hr hb hI.ok.born (Nat.le_refl _) with ⟨hz, hrun⟩ | ⟨e, he, w1, hw1, hrun⟩
  · have hl : left = [] := by
      have := congrArg List.length hI.lef
      simp at this
      exact List.eq_nil_of_length_eq_zero (by omega)
    refine o_run rfl rfl ?_ (h0 hl)
    simp only [execOp, hx, Sem.run_bind, hrun, Result.andThen_ok]; rfl
  · obtain ⟨p, hp, hk, hv, hI'⟩ := left_erase hI hinj he
    have hh1 : hpOf w1 = hpOf w := by rcases hw1 with rfl | rfl <;> rfl
    have hr1 : w1.heap[r]? = some (.mapIter (some b) clock seen clock) := by rcases hw1 with rfl | rfl <;> exact hr
    have hS' : Sat w0 (Go.ChangeMaps.setBlock w1 r (.mapIter (some b) clock (seen.push e.born) clock)) (l.set i (iterA enc r b kvs (mdel left p.1) (some p))) := by
      refine ⟨?_, ?_⟩
      · rcases hw1 with rfl | rfl
        · exact ⟨hS.1.os, hS.1.tape, hS.1.output, by have := hS.1.size; simpa [Go.ChangeMaps.setBlock] using this⟩
        · exact ⟨hS.1.os, hS.1.tape, hS.1.output, by have := hS.1.size; simpa [Go.ChangeMaps.setBlock] using this⟩
      · rw [hpOf_setBlock w1 r _ _ hr1, hh1]
        refine ⟨own, fun j B hj => ?_⟩
        rw [List.getElem?_set] at hj
        by_cases e2 : i = j
        · subst e2
          simp only [if_true, lt_of_get hi] at hj
          cases hj
          refine ⟨es, clock, seen.push e.born, hI', ?_, ?_, hne⟩
          · unfold cutHp updHp; rw [if_pos ob, if_neg (Ne.symm hne)]; exact hb
          · unfold cutHp updHp; rw [if_pos orr, if_pos rfl]
        · rw [if_neg e2] at hj
          have : cutHp own j (updHp (hpOf w) r (.mapIter (some b) clock (seen.push e.born) clock)) = cutHp own j (hpOf w) := by
            funext q; unfold cutHp updHp
            by_cases h4 : own q = j
            · rw [if_pos h4, if_pos h4, if_neg]; intro h2; subst h2; exact e2 (orr.symm.trans h4)
            · rw [if_neg h4, if_neg h4]
          rw [this]; exact H j B hj
    refine o_run rfl rfl ?_ (h1 p _ hp hS')
    simp only [execOp, hx, Sem.run_bind, hrun, Result.andThen_ok, hk, hv]; rfl

theorem o_entry {p : α × Value} (hS : Sat w0 w l) (hx : ev n f x = .pointer (some ⟨r, 0, none⟩)) (hi : l[i]? = some (iterA enc r b kvs left (some p)))
    (h : WL P ops Q rest n (upd f d (.tuple #[enc p.1, p.2])) w) : WL P ops Q (⟨some d, .entry x, ty, pos, after, none⟩ :: rest) n f w := by
  obtain ⟨own, H, es, clock, seen, hI, hb, hr, hne⟩ := grp_at hS.2 hi
  have hb := (cutHp_some hb).2
  have hr := (cutHp_some hr).2
  obtain ⟨e, he, hs, hk, hv⟩ := hI.cur p rfl
  have hseen : ∃ s' : Array Nat, seen = s'.push e.born := by
    have hne0 : seen.size ≠ 0 := by intro h0; simp [Array.back?, h0] at hs
    refine ⟨seen.pop, ?_⟩
    have h5 := Array.eq_push_pop_back!_of_size_ne_zero hne0
    have h6 : seen.back! = e.born := by rw [h5, Array.back?_push] at hs; exact Option.some.inj hs
    rw [← h6]; exact h5
  obtain ⟨s', rfl⟩ := hseen
  have hrun := run_entry_at (P := P) w r b clock s' es clock e hr hb he hI.ok.once
  refine o_run rfl rfl ?_ h
  simp only [execOp, hx, Sem.run_bind, hrun, Result.andThen_ok, hk, hv]; rfl

/-- The loop is over: the map again. -/
theorem Sat.iterDone {cur : Option (α × Value)} (hS : Sat w0 w l) (hi : l[i]? = some (iterA enc r b kvs left cur)) : Sat w0 w (l.set i (mapA enc b kvs)) :=
  hS.conseq hi (by rintro g ⟨es, clock, seen, hI, hb, _⟩; exact ⟨es, clock, hI.ok, hb⟩)
end
theorem encI_inj : ∀ a b, encI a = encI b → a = b := by intro a b h; cases h; rfl
theorem encS_inj : ∀ a b, encS a = encS b → a = b := by intro a b h; cases h; rfl
end Go.SL
end
