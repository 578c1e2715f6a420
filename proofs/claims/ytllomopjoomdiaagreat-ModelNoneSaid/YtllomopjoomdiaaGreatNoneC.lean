/- Part 3 of the proof: modelNone holds: a model that is nil, or that nobody made, answers every call with ErrNil and nothing else, for every list of calls; without conditions. -/
import Derived.Test.YtllomopjoomdiaaGreatNoneB
import Derived.Shelf.SlSortFuncK.WholeK
import Derived.Shelf.GgSortFunc.Tiny
import Derived.Deep.QuietTactic
import Derived.Ground.GgsProg
section
/- plan.Total does not ask in which order the indices come. -/
namespace Go.Proofs.YtllomopjoomdiaaGreat
def insI (l : List Int) (x : Int) : List Int := if x ∈ l then l else l ++ [x]
theorem mem_insI {l : List Int} {x y : Int} : y ∈ insI l x ↔ y ∈ l ∨ y = x := by
  unfold insI; split
  · constructor
    · intro h; exact .inl h
    · rintro (h | rfl)
      · exact h
      · assumption
  · simp
theorem insI_swap (l : List Int) (x y : Int) : (insI (insI l x) y).Perm (insI (insI l y) x) := by
  by_cases e : x = y
  · subst e; exact List.Perm.refl _
  have e' : ¬ y = x := fun h => e h.symm
  by_cases hx : x ∈ l <;> by_cases hy : y ∈ l
  · simp [insI, hx, hy]
  · simp [insI, hx, hy]
  · simp [insI, hx, hy]
  · simp only [insI, hx, hy, if_false, List.mem_append, List.mem_singleton, e, e', or_self]
    simpa using (List.Perm.swap y x []).append_left l
theorem insI_perm {l l' : List Int} (h : l.Perm l') (x : Int) : (insI l x).Perm (insI l' x) := by
  unfold insI
  by_cases hx : x ∈ l
  · rw [if_pos hx, if_pos (h.mem_iff.1 hx)]; exact h
  · rw [if_neg hx, if_neg (fun h2 => hx (h.mem_iff.2 h2))]; exact h.append_right _
structure TR (s s' : TS) : Prop where
  seen : s.seen.Perm s'.seen
  below : s.below.Perm s'.below
  n : s.n = s'.n
  single : s.single = s'.single
  double : s.double = s'.double
def addT (s : TS) (i : Int) : TS := ⟨s.seen ++ [i], if (wayOf i).1 = 3 then insI s.below (wayOf i).2.1 else s.below, s.n + 1, s.single || decide ((wayOf i).1 = 2), s.double || decide ((wayOf i).1 = 3)⟩
theorem totStep_add (s : TS) (i : Int) : totStep s i = if (wayOf i).1 = 0 then s else if i ∈ s.seen then s else addT s i := by
  unfold totStep addT insI
  split
  · rfl
  · split
    · rfl
    · by_cases h2 : (wayOf i).1 = 2
      · simp [h2]
      · by_cases h3 : (wayOf i).1 = 3
        · simp [h3]
        · simp [h2, h3]
theorem TR.refl (s : TS) : TR s s := ⟨List.Perm.refl _, List.Perm.refl _, rfl, rfl, rfl⟩
theorem TR.trans {a b c : TS} (h : TR a b) (g : TR b c) : TR a c := ⟨h.seen.trans g.seen, h.below.trans g.below, h.n.trans g.n, h.single.trans g.single, h.double.trans g.double⟩
theorem TR.step {s s' : TS} (h : TR s s') (i : Int) : TR (totStep s i) (totStep s' i) := by
  rw [totStep_add, totStep_add]
  by_cases h0 : (wayOf i).1 = 0
  · rw [if_pos h0, if_pos h0]; exact h
  rw [if_neg h0, if_neg h0]
  by_cases h1 : i ∈ s.seen
  · rw [if_pos h1, if_pos (h.seen.mem_iff.1 h1)]; exact h
  rw [if_neg h1, if_neg (fun h2 => h1 (h.seen.mem_iff.2 h2))]
  refine ⟨h.seen.append_right _, ?_, by simp [addT, h.n], by simp [addT, h.single], by simp [addT, h.double]⟩
  simp only [addT]
  split
  · exact insI_perm h.below _
  · exact h.below
theorem TR.swap (s : TS) (i j : Int) : TR (totStep (totStep s i) j) (totStep (totStep s j) i) := by
  by_cases e : i = j
  · subst e; exact TR.refl _
  have e' : ¬ j = i := fun h => e h.symm
  by_cases hi0 : (wayOf i).1 = 0
  · rw [totStep_add s i, if_pos hi0, totStep_add (totStep s j) i, if_pos hi0]; exact TR.refl _
  by_cases hj0 : (wayOf j).1 = 0
  · rw [totStep_add s j, if_pos hj0, totStep_add (totStep s i) j, if_pos hj0]; exact TR.refl _
  have hm : ∀ a b : Int, ¬ a = b → (a ∈ (addT s b).seen ↔ a ∈ s.seen) := fun a b h => by simp [addT, h]
  simp only [totStep_add, if_neg hi0, if_neg hj0]
  by_cases hi : i ∈ s.seen <;> by_cases hj : j ∈ s.seen
  · simp only [if_pos hi, if_pos hj]; exact TR.refl _
  · simp only [if_pos hi, if_neg hj, if_pos ((hm i j e).2 hi)]; exact TR.refl _
  · simp only [if_neg hi, if_pos hj, if_pos ((hm j i e').2 hj)]; exact TR.refl _
  · simp only [if_neg hi, if_neg hj, if_neg (fun h => hi ((hm i j e).1 h)), if_neg (fun h => hj ((hm j i e').1 h))]
    refine ⟨?_, ?_, by simp [addT], ?_, ?_⟩
    · simp only [addT, List.append_assoc]
      simpa using (List.Perm.swap j i []).append_left s.seen
    · simp only [addT]
      by_cases h3 : (wayOf i).1 = 3 <;> by_cases h4 : (wayOf j).1 = 3
      · simp only [if_pos h3, if_pos h4]; exact insI_swap _ _ _
      · simp only [if_pos h3, if_neg h4]; exact List.Perm.refl _
      · simp only [if_neg h3, if_pos h4]; exact List.Perm.refl _
      · simp only [if_neg h3, if_neg h4]; exact List.Perm.refl _
    · simp only [addT]; cases s.single <;> simp [Bool.or_comm]
    · simp only [addT]; cases s.double <;> simp [Bool.or_comm]
theorem TR.fold {l l' : List Int} (h : l.Perm l') : ∀ {s s' : TS}, TR s s' → TR (l.foldl totStep s) (l'.foldl totStep s') := by
  induction h with
  | nil => intro s s' h; exact h
  | cons a _ ih => intro s s' h; exact ih (h.step a)
  | swap a b l =>
    intro s s' h
    simp only [List.foldl_cons]
    have h1 : TR (totStep (totStep s b) a) (totStep (totStep s' a) b) := (TR.swap s b a).trans ((h.step a).step b)
    have key : ∀ (l : List Int) {s s' : TS}, TR s s' → TR (l.foldl totStep s) (l.foldl totStep s') := by
      intro l
      induction l with
      | nil => intro s s' h; exact h
      | cons a l ih => intro s s' h; exact ih (h.step a)
    exact key l h1
  | trans _ _ ih1 ih2 => intro s s' h; exact (ih1 (TR.refl s)).trans (ih2 h)
theorem totalOf_perm {l l' : List Int} (h : l.Perm l') : totalOf l = totalOf l' := by
  have := TR.fold h (TR.refl ⟨[], [], 0, false, false⟩)
  unfold totalOf totS totEnd
  rw [this.n, this.single, this.double, this.below.length_eq]
theorem IdxOk.total {t : It} {l : List Int} (h : IdxOk t l) : totalOf l = totalOf (idxOf t) := by
  unfold IdxOk at h; unfold idxOf
  split at h
  · rename_i h2; rw [if_pos h2, h]
  · rename_i h2; rw [if_neg h2]; exact totalOf_perm h
/-- How many blocks an item costs. -/
def usedOf (t : It) : Int := totalOf (idxOf t)
end Go.Proofs.YtllomopjoomdiaaGreat
end

section
namespace Go.Proofs.YtllomopjoomdiaaGreat
open Go.SL
abbrev Itm := Int × Nat × It
def sumU : List Itm → Int
  | [] => 0
  | x :: l => usedOf x.2.2 + sumU l
theorem sumU_perm {l l' : List Itm} (h : l.Perm l') : sumU l = sumU l' := by
  induction h with
  | nil => rfl
  | cons a _ ih => simp [sumU, ih]
  | swap a b l => simp [sumU]; omega
  | trans _ _ ih1 ih2 => exact ih1.trans ih2
def without (l : List Itm) (k : Int) : List Itm := l.filter fun y => decide (y.1 ≠ k)
theorem mdel_kv (l : List Itm) (k : Int) : mdel (itemsKV l) k = itemsKV (without l k) := by
  unfold mdel itemsKV without
  rw [List.filter_map]; rfl
theorem kv_keys (l : List Itm) : (itemsKV l).map (·.1) = l.map (·.1) := by simp [itemsKV, Function.comp_def]
theorem perm_without : ∀ {l : List Itm}, (l.map (·.1)).Nodup → ∀ {x : Itm}, x ∈ l → l.Perm (x :: without l x.1)
  | q :: l, hn, x, hx => by
    simp only [List.map_cons, List.nodup_cons] at hn
    rcases List.mem_cons.1 hx with rfl | hx
    · have e : without (x :: l) x.1 = l := by
        unfold without
        rw [List.filter_cons_of_neg (by simp)]
        apply List.filter_eq_self.2
        intro y hy
        have : y.1 ≠ x.1 := fun e => hn.1 (by rw [← e]; exact List.mem_map_of_mem hy)
        simpa using this
      rw [e]
    · have hne : q.1 ≠ x.1 := fun e => hn.1 (by rw [e]; exact List.mem_map_of_mem hx)
      have e : without (q :: l) x.1 = q :: without l x.1 := by
        unfold without
        rw [List.filter_cons_of_pos (by simpa using hne)]
      rw [e]
      exact ((perm_without hn.2 hx).cons q).trans (List.Perm.swap _ _ _)
theorem totalOf_le (l : List Int) : 0 ≤ totalOf l ∧ totalOf l ≤ 2 * l.length + 2 := by
  have := totS_le l
  unfold totalOf totEnd
  split <;> split <;> omega
theorem IdxOk_self (t : It) : IdxOk t (idxOf t) := by unfold IdxOk idxOf; split <;> first | rfl | exact List.Perm.refl _
theorem usedOf_le {t : It} (h : SmallIt t) : 0 ≤ usedOf t ∧ usedOf t ≤ 4398046511104 := by
  have := totalOf_le (idxOf t)
  have := IdxOk.len h (IdxOk_self t)
  unfold usedOf; omega
/-- Slots whose inodes are uint16s; not too many. -/
def SlotsOk (s : List (Int × ByteArray)) : Prop := s.length ≤ 1099511627776 ∧ ∀ e ∈ s, 0 ≤ e.1 ∧ e.1 ≤ 65535
/-- An item whose numbers are small and fit each other. -/
structure ItOk (t : It) : Prop where
  small : SmallIt t
  slots : SlotsOk t.slots
  blk : ∀ p ∈ t.data, p.2.length = 1024
  idx : ∀ p ∈ t.data, 0 ≤ p.1 ∧ p.1 < 65802
  nd : (t.data.map (·.1)).Nodup
  size0 : 0 ≤ t.size
  size1 : t.size ≤ 67381248
  dir : t.kind = 2 → t.size = 16 * t.slots.length
  links : 0 ≤ t.links ∧ t.links ≤ 65536
/-- A model whose numbers are small. -/
structure Fine (m : Mod) : Prop where
  blocks : 0 ≤ m.lay.blocks ∧ m.lay.blocks ≤ 1048576
  inodes : 1 ≤ m.lay.inodes ∧ m.lay.inodes ≤ 65535
  dataAt : 0 ≤ m.lay.dataAt ∧ m.lay.dataAt ≤ 1048576
  many : m.items.length ≤ 65536
  key : ∀ x ∈ m.items, 1 ≤ x.1 ∧ x.1 ≤ 65535
  it : ∀ x ∈ m.items, ItOk x.2.2
theorem Fine.small {m : Mod} (hf : Fine m) : ∀ x ∈ m.items, SmallIt x.2.2 := fun x hx => (hf.it x hx).small
theorem Fine.slots {m : Mod} (hf : Fine m) : ∀ x ∈ m.items, SlotsOk x.2.2.slots := fun x hx => (hf.it x hx).slots
theorem Fine.blk {m : Mod} (hf : Fine m) : ∀ x ∈ m.items, ∀ p ∈ x.2.2.data, p.2.length = 1024 := fun x hx => (hf.it x hx).blk
theorem sumU_le : ∀ {l : List Itm}, (∀ x ∈ l, SmallIt x.2.2) → 0 ≤ sumU l ∧ sumU l ≤ l.length * 4398046511104
  | [], _ => by simp [sumU]
  | x :: l, h => by
    have h1 := sumU_le fun y hy => h y (List.mem_cons_of_mem _ hy)
    have h2 := usedOf_le (h x List.mem_cons_self)
    simp only [sumU, List.length_cons]
    omega
def freeOf (m : Mod) : Int := m.lay.blocks - m.lay.dataAt - sumU m.items

theorem freeP_spec {w0 w : World} {G : List Asn} {p : Nat} {m : Mod} {ib : Nat} {tv : Value} (hf : Fine m) (hS : Sat w0 w (modP p m ib tv :: G)) : CR Tryz.prog 43 [ptr p] w fun v w' => v = vi (freeOf m) ∧ Sat w0 w' (modP p m ib tv :: G) := by
  have hfb := hf.blocks
  have hfd := hf.dataAt
  refine calls_enter Tryz.func43 rfl rfl rfl ?_
  have hS := Sat.modOpenP hS
  (repeat (first | (apply o_pure ok; · conv => { lhs; whnf; arg 1; whnf }) | refine c_seq ?_ | refine c_region ?_ | refine o_nil ?_ | refine q_then ?_))
  refine region_q 12 mixed (by kernel_rfl) hS ?_
  (repeat (first | (apply r_sub rfl; rfl; rfl; omega) | (apply r_ptr ok rfl; rfl; · conv => { lhs; whnf }) | (apply r_rd rfl; apply rd_load ok (i := 0); rfl; rfl; rfl; rfl; · conv => { lhs; whnf; arg 1; whnf }) | refine r_nil ?_))
  intro w hS
  (repeat (first | (apply o_ptr ok; rfl; · conv => { lhs; whnf }) | (apply o_pure ok; · conv => { lhs; whnf; arg 1; whnf }) | refine c_seq ?_ | refine c_region ?_ | refine o_nil ?_ | refine q_then ?_ | (apply o_rd hS; apply rd_load ok (i := 0); rfl; rfl; rfl; rfl; · conv => { lhs; whnf; arg 1; whnf })))
  refine o_range ok hS rfl rfl (i := 1) rfl (fun r w hS => ?_)
  (repeat (first | refine c_block ?_ | refine o_nil ?_ | refine q_then ?_))
  have hsum := sumU_le hf.small
  have hmany := hf.many
  refine c_loop (fun k g w => ∃ (lft : List Itm) (cur : Option (Int × Value)) (jk : Nat → Value), lft.length = k ∧ k ≤ m.items.length ∧ (∀ x ∈ lft, x ∈ m.items) ∧
    g = updL [(22, .pointer (some ⟨r, 0, none⟩)), (3, vi (freeOf m + sumU lft))] jk ∧
    Sat w0 w (pt p (.cells (modC m.lay ib m.d tv) 58) :: iterA encI r ib (itemsKV m.items) (itemsKV lft) cur :: itemsA m.items :: descsA m.d :: toldA tv m.told :: G)) m.items.length
    ⟨m.items, none, _, rfl, Nat.le_refl _, fun _ h => h, updL_self _ _ ⟨rfl, by unfold freeOf; rw [Int.sub_add_cancel]; rfl, trivial⟩, hS⟩ ?_
  rintro k g w ⟨lft, cur, jk, hk, hkm, hsub, rfl, hS⟩
  have hnd := Sat.iterNodup encI_inj hS (i := 1) rfl
  rw [kv_keys] at hnd
  have hl := sumU_le (l := lft) fun x hx => hf.small x (hsub x hx)
  (repeat (first | refine c_seq ?_ | refine c_region ?_))
  refine o_next encI_inj hS rfl (i := 1) rfl (fun h => ?_) (fun q w' hq hS' => ?_)
  · have h0 : lft = [] := by simpa [itemsKV] using h
    subst h0
    (repeat (first | (apply o_pure ok; · conv => { lhs; whnf; arg 1; whnf }) | refine c_seq ?_ | refine c_region ?_ | refine c_ret ?_ | refine c_exit ?_ | refine o_nil ?_ | refine q_then ?_ | refine q_then_e ?_ | refine q_blk_e ?_ | (apply c_cond_f; rfl)))
    exact out1 rfl ⟨by simp [sumU]; rfl, Sat.modCloseP (Sat.iterDone hS (i := 1) rfl)⟩
  · have hS := hS'
    obtain ⟨x, hx, rfl⟩ := List.mem_map.1 hq
    have hpm := perm_without hnd hx
    have hsu := sumU_perm hpm
    simp only [sumU] at hsu
    have hlen : lft.length = (without lft x.1).length + 1 := by have := hpm.length_eq; simpa using this
    have hl2 := sumU_le (l := without lft x.1) fun y hy => hf.small y (hsub y (List.mem_filter.1 hy).1)
    obtain ⟨j, hj⟩ := List.getElem?_of_mem (hsub x hx)
    have hsm := hf.small x (hsub x hx)
    have hu := usedOf_le hsm
    (repeat (first | (apply o_pure ok; · conv => { lhs; whnf; arg 1; whnf }) | refine c_seq ?_ | refine c_region ?_ | refine c_block ?_ | refine c_skip ?_ | refine o_nil ?_ | refine q_then ?_ | (apply c_cond_t; rfl)))
    refine o_entry hS rfl (i := 1) rfl ?_
    (repeat (first | (apply o_ptr ok; rfl; · conv => { lhs; whnf }) | (apply o_pure ok; · conv => { lhs; whnf; arg 1; whnf }) | refine c_region ?_ | refine o_nil ?_ | refine q_then ?_))
    have hS := Sat.focus (hS.bring 2 rfl) j hj
    refine o_call ok rfl rfl (indices_spec hsm hS) (fun v w h => ?_)
    obtain ⟨l, hl3, hS⟩ := h
    refine o_call ok rfl rfl (total_spec l (hl3.len hsm) hS) (fun v w h => ?_)
    obtain ⟨rfl, hS⟩ := h
    have hS := Sat.refocus (F := itA) hS.tail hj
    have hS := hS.back 2 rfl
    rw [hl3.total, show totalOf (idxOf x.2.2) = usedOf x.2.2 from rfl]
    have hfr : freeOf m = m.lay.blocks - m.lay.dataAt - sumU m.items := rfl
    (repeat (first | (apply o_sub; rfl; rfl; omega) | (apply o_pure ok; · conv => { lhs; whnf; arg 1; whnf }) | refine o_nil ?_ | refine q_then ?_ | refine q_blk_n ?_))
    refine ⟨(without lft x.1).length, by omega, without lft x.1, _, _, rfl, by omega, fun y hy => hsub y (List.mem_filter.1 hy).1, updL_self _ _ ⟨rfl, ?_, trivial⟩, by rw [← mdel_kv]; exact hS⟩
    show vi _ = vi _
    congr 1
    omega
theorem free_spec {w0 w : World} {G : List Asn} {p : Nat} {m : Mod} (hf : Fine m) (hS : Sat w0 w (modA p m :: G)) : CR Tryz.prog 43 [ptr p] w fun v w' => v = vi (freeOf m) ∧ Sat w0 w' (modA p m :: G) := by
  obtain ⟨ib, tv, hS⟩ := Sat.modToP hS
  refine (freeP_spec hf hS).mono ?_
  rintro v w' ⟨rfl, hS⟩
  exact ⟨rfl, Sat.modOfP hS (i := 0) rfl⟩
end Go.Proofs.YtllomopjoomdiaaGreat
end

section
namespace Go.Proofs.YtllomopjoomdiaaGreat
open Go.SL
def hasI (l : List Itm) (i : Int) : Bool := (mget (itemsKV l) i).isSome
def spareFrom (l : List Itm) : Nat → Int → Int
  | 0, _ => 0
  | k + 1, i => if hasI l i then spareFrom l k (i + 1) else i
/-- The least inode that is free. -/
def spareOf (m : Mod) : Int := spareFrom m.items m.lay.inodes.toNat 1
theorem spare_spec {w0 w : World} {G : List Asn} {p : Nat} {m : Mod} (hf : Fine m) (hS : Sat w0 w (modA p m :: G)) : CR Tryz.prog 108 [ptr p] w fun v w' => v = vi (spareOf m) ∧ Sat w0 w' (modA p m :: G) := by
  have hfi := hf.inodes
  refine calls_enter Tryz.func108 rfl rfl rfl ?_
  obtain ⟨ib, tv, hS⟩ := Sat.modOpen hS
  (repeat (first | (apply o_pure ok; · conv => { lhs; whnf; arg 1; whnf }) | refine c_seq ?_ | refine c_region ?_ | refine c_block ?_ | refine o_nil ?_ | refine q_then ?_))
  refine c_loop (fun k g w => ∃ (j : Nat) (jk : Nat → Value), j + k = m.lay.inodes.toNat ∧ spareOf m = spareFrom m.items k (j + 1) ∧
    g = updL [(0, ptr p), (3, vi (j + 1))] jk ∧
    Sat w0 w (pt p (.cells (modC m.lay ib m.d tv) 58) :: mapA encI ib (itemsKV m.items) :: itemsA m.items :: descsA m.d :: toldA tv m.told :: G)) m.lay.inodes.toNat
    ⟨0, _, by omega, rfl, updL_self _ _ ⟨rfl, rfl, trivial⟩, hS⟩ ?_
  rintro k g w ⟨j, jk, hjk, hs, rfl, hS⟩
  (repeat (first | (apply o_ptr ok; rfl; · conv => { lhs; whnf }) | (apply o_pure ok; · conv => { lhs; whnf; arg 1; whnf }) | refine c_seq ?_ | refine c_region ?_ | refine o_nil ?_ | refine q_then ?_ | (apply o_rd hS; apply rd_load ok (i := 0); rfl; rfl; rfl; rfl; · conv => { lhs; whnf; arg 1; whnf })))
  refine c_cond_d rfl (fun h1 => ?_) (fun h1 => ?_)
  · obtain ⟨k, rfl⟩ : ∃ k', k = k' + 1 := ⟨k - 1, by omega⟩
    unfold spareFrom at hs
    (repeat (first | (apply o_ptr ok; rfl; · conv => { lhs; whnf }) | (apply o_pure ok; · conv => { lhs; whnf; arg 1; whnf }) | refine c_seq ?_ | refine c_region ?_ | refine c_block ?_ | refine c_skip ?_ | refine q_then ?_ | (apply o_rd hS; apply rd_load ok (i := 0); rfl; rfl; rfl; rfl; · conv => { lhs; whnf; arg 1; whnf })))
    apply o_rd hS (rd_lookup2 ok keyOk_int rfl rfl rfl rfl rfl (i := 1) rfl)
    (repeat (first | (apply o_pure ok; · conv => { lhs; whnf; arg 1; whnf }) | refine c_seq ?_ | refine c_region ?_ | refine o_nil ?_ | refine q_then ?_))
    cases hh : hasI m.items (j + 1) with
    | true =>
      rw [hh] at hs
      refine c_cond_f (by unfold hasI at hh; show Value.bool (!_) = _; rw [hh]; rfl) ?_
      (repeat (first | (apply o_add; rfl; rfl; omega) | (apply o_pure ok; · conv => { lhs; whnf; arg 1; whnf }) | refine c_region ?_ | refine c_skip ?_ | refine o_nil ?_ | refine q_then ?_ | refine q_blk_n ?_))
      exact ⟨k, by omega, j + 1, _, by omega, hs, updL_self _ _ ⟨rfl, rfl, trivial⟩, hS⟩
    | false =>
      rw [hh] at hs
      refine c_cond_t (by unfold hasI at hh; show Value.bool (!_) = _; rw [hh]; rfl) ?_
      (repeat (first | (apply o_pure ok; · conv => { lhs; whnf; arg 1; whnf }) | refine c_seq ?_ | refine c_region ?_ | refine c_ret ?_ | refine o_nil ?_ | refine q_then ?_ | refine q_then_r ?_ | refine q_blk_r ?_))
      exact out1 rfl ⟨by rw [hs]; rfl, Sat.modClose hS⟩
  · obtain rfl : k = 0 := by omega
    (repeat (first | (apply o_pure ok; · conv => { lhs; whnf; arg 1; whnf }) | refine c_seq ?_ | refine c_region ?_ | refine c_ret ?_ | refine c_exit ?_ | refine o_nil ?_ | refine q_then ?_ | refine q_then_e ?_ | refine q_blk_e ?_))
    exact out1 rfl ⟨by rw [hs]; rfl, Sat.modClose hS⟩

/-- A name's slot in a directory, and its inode. -/
def lookFrom (name : ByteArray) : List (Int × ByteArray) → Int → Int × Int
  | [], _ => (-1, 0)
  | e :: r, i => if e.1 = 0 then lookFrom name r (i + 1) else if e.2 = name then (i, e.1) else lookFrom name r (i + 1)
def lookOf (t : It) (name : ByteArray) : Int × Int := lookFrom name t.slots 0
theorem entC_len (e : Int × ByteArray) : (entC e).length = 2 := rfl
theorem look_spec {w0 w : World} {G : List Asn} {b : Nat} {t : It} {name : ByteArray} (hs : SlotsOk t.slots) (hS : Sat w0 w (itemA b t :: G)) : CR Tryz.prog 98 [ptr b, .string name] w fun v w' => v = .tuple #[vi (lookOf t name).1, vi (lookOf t name).2] ∧ Sat w0 w' (itemA b t :: G) := by
  refine calls_enter Tryz.func98 rfl rfl rfl ?_
  obtain ⟨dm, sv, hS⟩ := Sat.itemOpen hS
  obtain ⟨hlen, a, cap, rfl, _, ha⟩ := Sat.rowForm hS (i := 2) rfl
  have hlm := hs.1
  (repeat (first | (apply o_ptr ok; rfl; · conv => { lhs; whnf }) | (apply o_pure ok; · conv => { lhs; whnf; arg 1; whnf }) | refine c_seq ?_ | refine c_region ?_ | refine c_block ?_ | refine o_nil ?_ | refine q_then ?_ | (apply o_rd hS; apply rd_load ok (i := 0); rfl; rfl; rfl; rfl; · conv => { lhs; whnf; arg 1; whnf })))
  refine c_loop (fun k g w => ∃ (j : Nat) (jk : Nat → Value), j + k = t.slots.length ∧ lookOf t name = lookFrom name (t.slots.drop j) j ∧
    g = updL [(11, .slice a t.slots.length cap), (12, vi t.slots.length), (13, vi j), (1, .string name)] jk ∧
    Sat w0 w (pt b (.cells (itemC t dm (.slice a t.slots.length cap)) 135) :: dataA t.kind dm t.data :: slotsA (.slice a t.slots.length cap) t.slots :: G)) t.slots.length
    ⟨0, _, by omega, rfl, updL_self _ _ ⟨rfl, rfl, rfl, rfl, trivial⟩, hS⟩ ?_
  rintro k g w ⟨j, jk, hjk, hs2, rfl, hS⟩
  (repeat (first | (apply o_pure ok; · conv => { lhs; whnf; arg 1; whnf }) | refine c_seq ?_ | refine c_region ?_ | refine o_nil ?_ | refine q_then ?_))
  refine c_cond_d rfl (fun h1 => ?_) (fun h1 => ?_)
  · have hj : j < t.slots.length := by omega
    obtain ⟨b2, rfl⟩ := ha (by omega)
    have hge : t.slots[j]? = some t.slots[j] := List.getElem?_eq_getElem hj
    have hdr : t.slots.drop j = t.slots[j] :: t.slots.drop (j + 1) := List.drop_eq_getElem_cons hj
    rw [hdr] at hs2
    unfold lookFrom at hs2
    have hck := flatMap_two entC 2 entC_len t.slots j _ hge
    have hcl := flatMap_len entC 2 entC_len t.slots
    have hin := hs.2 _ (List.getElem_mem hj)
    generalize t.slots[j] = e at hs2 hck hin
    (repeat (first | (apply o_pure ok; · conv => { lhs; whnf; arg 1; whnf }) | refine c_seq ?_ | refine c_region ?_ | refine c_block ?_ | refine c_skip ?_ | refine q_then ?_))
    apply o_rd hS (rd_indexAddr ok rfl rfl rfl rfl (by omega))
    apply o_rd hS (rd_loadAR (vs := entC e) ok rfl rfl rfl rfl (i := 2) rfl rfl (by unfold slotsC; rw [hcl]; simp; omega) (by unfold slotsC; simpa using hck))
    skip
    refine o_alloc ok hS rfl (fun b3 w hS => ?_)
    (repeat (first | (apply o_pure ok; · conv => { lhs; whnf; arg 1; whnf })))
    refine o_storeW ok hS rfl rfl rfl (i := 0) rfl rfl rfl rfl (fun w hS => ?_)
    (repeat (first | (apply o_ptr ok; rfl; · conv => { lhs; whnf }) | (apply o_pure ok; · conv => { lhs; whnf; arg 1; whnf }) | refine c_seq ?_ | refine c_region ?_ | refine o_nil ?_ | refine q_then ?_ | (apply o_rd hS; apply rd_load ok (i := 0); rfl; rfl; rfl; rfl; · conv => { lhs; whnf; arg 1; whnf })))
    refine o_guard_d rfl rfl rfl (fun h2 => ?_) (fun h2 => ?_)
    · (repeat (first | (apply o_ptr ok; rfl; · conv => { lhs; whnf }) | (apply o_pure ok; · conv => { lhs; whnf; arg 1; whnf }) | refine o_nil ?_ | refine q_then ?_ | refine o_want rfl rfl rfl ?_ | (apply o_rd hS; apply rd_load ok (i := 0); rfl; rfl; rfl; rfl; · conv => { lhs; whnf; arg 1; whnf })))
      refine c_cond_d rfl (fun h3 => ?_) (fun h3 => ?_)
      · (repeat (first | refine c_seq ?_))
        refine region_q 5 mixed (by kernel_rfl) hS ?_
        (repeat (first | (apply r_ptr ok rfl; rfl; · conv => { lhs; whnf }) | (apply r_pure ok rfl; · conv => { lhs; whnf; arg 1; whnf }) | (apply r_rd rfl; apply rd_load ok (i := 0); rfl; rfl; rfl; rfl; · conv => { lhs; whnf; arg 1; whnf }) | refine r_nil ?_))
        intro w hS
        (repeat (first | (apply o_pure ok; · conv => { lhs; whnf; arg 1; whnf }) | refine c_ret ?_ | refine o_nil ?_ | refine q_then ?_ | refine q_then_r ?_ | refine q_blk_r ?_))
        rw [if_neg h2, if_pos h3] at hs2
        refine out2 rfl ⟨?_, Sat.itemClose hS.tail⟩
        rw [hs2]
        show Value.tuple #[vi j, .int .i64 (IntKind.i64.wrap e.1)] = _
        rw [w_i64 (by omega)]
      · rw [if_neg h2, if_neg h3] at hs2
        (repeat (first | (apply o_add; rfl; rfl; omega) | (apply o_pure ok; · conv => { lhs; whnf; arg 1; whnf }) | refine c_region ?_ | refine c_skip ?_ | refine o_nil ?_ | refine q_then ?_ | refine q_blk_n ?_))
        exact ⟨k - 1, by omega, j + 1, _, by omega, hs2, updL_self _ _ ⟨rfl, rfl, rfl, rfl, trivial⟩, hS.tail⟩
    · rw [if_pos (Decidable.not_not.1 h2)] at hs2
      (repeat (first | (apply o_add; rfl; rfl; omega) | (apply o_pure ok; · conv => { lhs; whnf; arg 1; whnf }) | refine c_region ?_ | refine c_skip ?_ | refine o_nil ?_ | refine q_then ?_ | refine q_blk_n ?_ | (apply c_cond_f; rfl) | refine o_pass rfl rfl rfl rfl ?_))
      exact ⟨k - 1, by omega, j + 1, _, by omega, hs2, updL_self _ _ ⟨rfl, rfl, rfl, rfl, trivial⟩, hS.tail⟩
  · have hj : j = t.slots.length := by omega
    rw [hj, List.drop_length] at hs2
    (repeat (first | (apply o_pure ok; · conv => { lhs; whnf; arg 1; whnf }) | refine c_seq ?_ | refine c_region ?_ | refine c_ret ?_ | refine c_exit ?_ | refine o_nil ?_ | refine q_then ?_ | refine q_then_e ?_ | refine q_blk_e ?_))
    exact out2 rfl ⟨by rw [hs2]; rfl, Sat.itemClose hS⟩
end Go.Proofs.YtllomopjoomdiaaGreat
end

section
namespace Go.Proofs.YtllomopjoomdiaaGreat
open Go.SL
def emptyFrom : List (Int × ByteArray) → Nat → Bool
  | [], _ => true
  | e :: r, i => if 1 < (i : Int) then (if ¬e.1 = 0 then false else emptyFrom r (i + 1)) else emptyFrom r (i + 1)
def emptyOf (t : It) : Bool := emptyFrom t.slots 0
theorem empty_spec {w0 w : World} {G : List Asn} {b : Nat} {t : It} (hs : t.slots.length ≤ 1099511627776) (hS : Sat w0 w (itemA b t :: G)) : CR Tryz.prog 111 [ptr b] w fun v w' => v = .bool (emptyOf t) ∧ Sat w0 w' (itemA b t :: G) := by
  refine calls_enter Tryz.func111 rfl rfl rfl ?_
  obtain ⟨dm, sv, hS⟩ := Sat.itemOpen hS
  obtain ⟨hlen, a, cap, rfl, _, ha⟩ := Sat.rowForm hS (i := 2) rfl
  (repeat (first | (apply o_ptr ok; rfl; · conv => { lhs; whnf }) | (apply o_pure ok; · conv => { lhs; whnf; arg 1; whnf }) | refine c_seq ?_ | refine c_region ?_ | refine c_block ?_ | refine o_nil ?_ | refine q_then ?_ | (apply o_rd hS; apply rd_load ok (i := 0); rfl; rfl; rfl; rfl; · conv => { lhs; whnf; arg 1; whnf })))
  refine c_loop (fun k g w => ∃ (j : Nat) (jk : Nat → Value), j + k = t.slots.length ∧ emptyOf t = emptyFrom (t.slots.drop j) j ∧
    g = updL [(8, .slice a t.slots.length cap), (9, vi t.slots.length), (10, vi j)] jk ∧
    Sat w0 w (pt b (.cells (itemC t dm (.slice a t.slots.length cap)) 135) :: dataA t.kind dm t.data :: slotsA (.slice a t.slots.length cap) t.slots :: G)) t.slots.length
    ⟨0, _, by omega, rfl, updL_self _ _ ⟨rfl, rfl, rfl, trivial⟩, hS⟩ ?_
  rintro k g w ⟨j, jk, hjk, hs2, rfl, hS⟩
  (repeat (first | (apply o_pure ok; · conv => { lhs; whnf; arg 1; whnf }) | refine c_seq ?_ | refine c_region ?_ | refine o_nil ?_ | refine q_then ?_))
  refine c_cond_d rfl (fun h1 => ?_) (fun h1 => ?_)
  · have hj : j < t.slots.length := by omega
    obtain ⟨b2, rfl⟩ := ha (by omega)
    have hge : t.slots[j]? = some t.slots[j] := List.getElem?_eq_getElem hj
    have hdr : t.slots.drop j = t.slots[j] :: t.slots.drop (j + 1) := List.drop_eq_getElem_cons hj
    rw [hdr] at hs2
    unfold emptyFrom at hs2
    have hck := flatMap_two entC 2 entC_len t.slots j _ hge
    have hcl := flatMap_len entC 2 entC_len t.slots
    generalize t.slots[j] = e at hs2 hck
    (repeat (first | (apply o_pure ok; · conv => { lhs; whnf; arg 1; whnf }) | refine c_seq ?_ | refine c_region ?_ | refine c_block ?_ | refine c_skip ?_ | refine q_then ?_))
    apply o_rd hS (rd_indexAddr ok rfl rfl rfl rfl (by omega))
    apply o_rd hS (rd_loadAR (vs := entC e) ok rfl rfl rfl rfl (i := 2) rfl rfl (by unfold slotsC; rw [hcl]; simp; omega) (by unfold slotsC; simpa using hck))
    skip
    refine o_alloc ok hS rfl (fun b3 w hS => ?_)
    (repeat (first | (apply o_pure ok; · conv => { lhs; whnf; arg 1; whnf })))
    refine o_storeW ok hS rfl rfl rfl (i := 0) rfl rfl rfl rfl (fun w hS => ?_)
    (repeat (first | (apply o_pure ok; · conv => { lhs; whnf; arg 1; whnf }) | refine c_seq ?_ | refine c_region ?_ | refine o_nil ?_ | refine q_then ?_))
    refine o_guard_d rfl rfl rfl (fun h2 => ?_) (fun h2 => ?_)
    · rw [if_pos h2] at hs2
      (repeat (first | (apply o_ptr ok; rfl; · conv => { lhs; whnf }) | (apply o_pure ok; · conv => { lhs; whnf; arg 1; whnf }) | refine o_nil ?_ | refine q_then ?_ | refine o_want rfl rfl rfl ?_ | (apply o_rd hS; apply rd_load ok (i := 0); rfl; rfl; rfl; rfl; · conv => { lhs; whnf; arg 1; whnf })))
      refine c_cond_d rfl (fun h3 => ?_) (fun h3 => ?_)
      · rw [if_pos h3] at hs2
        (repeat (first | (apply o_pure ok; · conv => { lhs; whnf; arg 1; whnf }) | refine c_seq ?_ | refine c_region ?_ | refine c_ret ?_ | refine o_nil ?_ | refine q_then ?_ | refine q_then_r ?_ | refine q_blk_r ?_))
        exact out1 rfl ⟨by rw [hs2]; rfl, Sat.itemClose hS.tail⟩
      · rw [if_neg h3] at hs2
        (repeat (first | (apply o_add; rfl; rfl; omega) | (apply o_pure ok; · conv => { lhs; whnf; arg 1; whnf }) | refine c_region ?_ | refine c_skip ?_ | refine o_nil ?_ | refine q_then ?_ | refine q_blk_n ?_))
        exact ⟨k - 1, by omega, j + 1, _, by omega, hs2, updL_self _ _ ⟨rfl, rfl, rfl, trivial⟩, hS.tail⟩
    · rw [if_neg h2] at hs2
      (repeat (first | (apply o_add; rfl; rfl; omega) | (apply o_pure ok; · conv => { lhs; whnf; arg 1; whnf }) | refine c_region ?_ | refine c_skip ?_ | refine o_nil ?_ | refine q_then ?_ | refine q_blk_n ?_ | (apply c_cond_f; rfl) | refine o_pass rfl rfl rfl rfl ?_))
      exact ⟨k - 1, by omega, j + 1, _, by omega, hs2, updL_self _ _ ⟨rfl, rfl, rfl, trivial⟩, hS.tail⟩
  · have hj : j = t.slots.length := by omega
    rw [hj, List.drop_length] at hs2
    (repeat (first | (apply o_pure ok; · conv => { lhs; whnf; arg 1; whnf }) | refine c_seq ?_ | refine c_region ?_ | refine c_ret ?_ | refine c_exit ?_ | refine o_nil ?_ | refine q_then ?_ | refine q_then_e ?_ | refine q_blk_e ?_))
    exact out1 rfl ⟨by rw [hs2]; rfl, Sat.itemClose hS⟩

/-- Names: a slice of strings, perhaps but the first of them. -/
def namesA (v : Value) (l : List ByteArray) : Asn := rowA 9 1 v l.length (l.map Value.string)
def dot1 : ByteArray := ⟨#[46]⟩
def dot2 : ByteArray := ⟨#[46, 46]⟩
def specialOf (l : List ByteArray) : Bool := match l.getLast? with
  | none => true
  | some s => decide (s = dot1) || decide (s = dot2)
theorem special_spec {w0 w : World} {G : List Asn} {v : Value} {l : List ByteArray} (hl : l.length ≤ 1099511627776) (hS : Sat w0 w (namesA v l :: G)) : CR Tryz.prog 96 [v] w fun r w' => r = .bool (specialOf l) ∧ Sat w0 w' (namesA v l :: G) := by
  refine calls_enter Tryz.func96 rfl rfl rfl ?_
  obtain ⟨hlen, a, cap, rfl, _, ha⟩ := Sat.rowForm hS (i := 0) rfl
  (repeat (first | (apply o_pure ok; · conv => { lhs; whnf; arg 1; whnf }) | refine c_seq ?_ | refine c_region ?_ | refine o_nil ?_ | refine q_then ?_))
  refine c_cond_d rfl (fun h1 => ?_) (fun h1 => ?_)
  · have h0 : l = [] := List.eq_nil_of_length_eq_zero (by omega)
    subst h0
    (repeat (first | (apply o_pure ok; · conv => { lhs; whnf; arg 1; whnf }) | refine c_seq ?_ | refine c_region ?_ | refine c_ret ?_ | refine o_nil ?_ | refine q_then ?_ | refine q_then_r ?_))
    exact out1 rfl ⟨rfl, hS⟩
  · obtain ⟨b2, rfl⟩ := ha (by omega)
    have hge : l.getLast? = l[l.length - 1]? := List.getLast?_eq_getElem?
    have hlt : l.length - 1 < l.length := by omega
    rw [List.getElem?_eq_getElem hlt] at hge
    have hsp : specialOf l = (decide (l[l.length - 1] = dot1) || decide (l[l.length - 1] = dot2)) := by unfold specialOf; rw [hge]
    have hq : (l.map Value.string)[0 + ((l.length : Int) - 1).toNat * 1]? = some (.string l[l.length - 1]) := by
      have : 0 + ((l.length : Int) - 1).toNat * 1 = l.length - 1 := by omega
      rw [this]; simp [hlt]
    generalize l[l.length - 1] = s at hsp hq
    (repeat (first | (apply o_sub; rfl; rfl; omega) | (apply o_pure ok; · conv => { lhs; whnf; arg 1; whnf }) | refine c_seq ?_ | refine c_region ?_ | refine c_skip ?_ | refine q_then ?_))
    apply o_rd hS (rd_indexAddr ok rfl rfl rfl rfl (by omega))
    apply o_rd hS (rd_loadR (v := .string s) ok rfl rfl rfl (i := 0) rfl rfl hq)
    (repeat (first | (apply o_pure ok; · conv => { lhs; whnf; arg 1; whnf }) | refine c_seq ?_ | refine c_region ?_ | refine o_nil ?_ | refine q_then ?_))
    refine o_guard_d rfl rfl rfl (fun h2 => ?_) (fun h2 => ?_)
    · (repeat (first | (apply o_pure ok; · conv => { lhs; whnf; arg 1; whnf }) | refine c_ret ?_ | refine o_nil ?_ | refine q_then ?_ | refine o_pass rfl rfl rfl rfl ?_))
      exact out1 rfl ⟨by show Value.bool true = _; rw [hsp]; have h3 : s = dot1 := h2; simp [h3], hS⟩
    · (repeat (first | (apply o_pure ok; · conv => { lhs; whnf; arg 1; whnf }) | refine c_ret ?_ | refine o_nil ?_ | refine q_then ?_ | refine o_want rfl rfl rfl ?_))
      exact out1 rfl ⟨by have h3 : ¬ s = dot1 := h2; rw [hsp, decide_eq_false h3]; rfl, hS⟩
end Go.Proofs.YtllomopjoomdiaaGreat
end

section
namespace Go.Proofs.YtllomopjoomdiaaGreat
open Go.SL
def band (x y : Int) : Int := IntKind.i64.wrap ((BitVec.ofInt IntKind.i64.bits x &&& BitVec.ofInt IntKind.i64.bits y).toNat : Int)
def bandn (x y : Int) : Int := IntKind.i64.wrap ((BitVec.ofInt IntKind.i64.bits x &&& ~~~(BitVec.ofInt IntKind.i64.bits y)).toNat : Int)
/-- May flags not be? -/
def oddOf (f : Int) : Bool := decide (bandn f 31 ≠ 0) || decide (band f 3 = 0) || (decide (band f 8 ≠ 0) && decide (band f 4 = 0)) || (decide (band f 16 ≠ 0) && decide (band f 2 = 0))
theorem odd_spec {w0 w : World} {G : List Asn} (f : Int) (hS : Sat w0 w G) : CR Tryz.prog 93 [vi f] w fun v w' => v = .bool (oddOf f) ∧ Sat w0 w' G := by
  refine calls_enter Tryz.func93 rfl rfl rfl ?_
  (repeat (first | (apply o_pure ok; · conv => { lhs; whnf; arg 1; whnf }) | refine c_seq ?_ | refine c_region ?_ | refine o_nil ?_ | refine q_then ?_))
  refine o_guard_d rfl rfl rfl (fun h1 => ?_) (fun h1 => ?_)
  · (repeat (first | (apply o_pure ok; · conv => { lhs; whnf; arg 1; whnf }) | refine c_ret ?_ | refine o_nil ?_ | refine q_then ?_ | refine o_pass rfl rfl rfl rfl ?_ | refine o_undef rfl rfl ?_))
    exact out1 rfl ⟨by have h : bandn f 31 ≠ 0 := h1; show Value.bool true = _; simp [oddOf, h], hS⟩
  · have e1 : ¬ bandn f 31 ≠ 0 := h1
    (repeat (first | (apply o_pure ok; · conv => { lhs; whnf; arg 1; whnf }) | refine o_want rfl rfl rfl ?_))
    refine o_guard_d rfl rfl rfl (fun h2 => ?_) (fun h2 => ?_)
    · (repeat (first | (apply o_pure ok; · conv => { lhs; whnf; arg 1; whnf }) | refine c_ret ?_ | refine o_nil ?_ | refine q_then ?_ | refine o_pass rfl rfl rfl rfl ?_ | refine o_undef rfl rfl ?_))
      exact out1 rfl ⟨by have h : band f 3 = 0 := h2; show Value.bool true = _; simp [oddOf, h], hS⟩
    · have e2 : ¬ band f 3 = 0 := h2
      (repeat (first | (apply o_pure ok; · conv => { lhs; whnf; arg 1; whnf }) | refine o_want rfl rfl rfl ?_))
      refine o_guard_d rfl rfl rfl (fun h3 => ?_) (fun h3 => ?_)
      · have e3 : band f 8 ≠ 0 := h3
        (repeat (first | (apply o_pure ok; · conv => { lhs; whnf; arg 1; whnf }) | refine o_want rfl rfl rfl ?_))
        refine o_guard_d rfl rfl rfl (fun h4 => ?_) (fun h4 => ?_)
        · (repeat (first | (apply o_pure ok; · conv => { lhs; whnf; arg 1; whnf }) | refine c_ret ?_ | refine o_nil ?_ | refine q_then ?_ | refine o_pass rfl rfl rfl rfl ?_ | refine o_undef rfl rfl ?_))
          exact out1 rfl ⟨by have h : band f 4 = 0 := h4; show Value.bool true = _; simp [oddOf, h, e3], hS⟩
        · have e4 : ¬ band f 4 = 0 := h4
          (repeat (first | (apply o_pure ok; · conv => { lhs; whnf; arg 1; whnf }) | refine o_want rfl rfl rfl ?_))
          refine o_guard_d rfl rfl rfl (fun h5 => ?_) (fun h5 => ?_)
          · (repeat (first | (apply o_pure ok; · conv => { lhs; whnf; arg 1; whnf }) | refine c_ret ?_ | refine o_nil ?_ | refine q_then ?_ | refine o_want rfl rfl rfl ?_))
            exact out1 rfl ⟨by have h : band f 16 ≠ 0 := h5; show Value.bool (decide (band f 2 = 0)) = _; simp [oddOf, h, e4] at *; simp [e1, e2], hS⟩
          · (repeat (first | (apply o_pure ok; · conv => { lhs; whnf; arg 1; whnf }) | refine c_ret ?_ | refine o_nil ?_ | refine q_then ?_ | refine o_want rfl rfl rfl ?_ | refine o_pass rfl rfl rfl rfl ?_))
            exact out1 rfl ⟨by have h : ¬ band f 16 ≠ 0 := h5; show Value.bool false = _; simp [oddOf] at *; simp [e1, e2, e4, h], hS⟩
      · have e3 : ¬ band f 8 ≠ 0 := h3
        (repeat (first | (apply o_pure ok; · conv => { lhs; whnf; arg 1; whnf }) | refine o_want rfl rfl rfl ?_ | refine o_pass rfl rfl rfl rfl ?_))
        refine o_guard_d rfl rfl rfl (fun h5 => ?_) (fun h5 => ?_)
        · (repeat (first | (apply o_pure ok; · conv => { lhs; whnf; arg 1; whnf }) | refine c_ret ?_ | refine o_nil ?_ | refine q_then ?_ | refine o_want rfl rfl rfl ?_))
          exact out1 rfl ⟨by have h : band f 16 ≠ 0 := h5; show Value.bool (decide (band f 2 = 0)) = _; simp [oddOf] at *; simp [e1, e2, e3, h], hS⟩
        · (repeat (first | (apply o_pure ok; · conv => { lhs; whnf; arg 1; whnf }) | refine c_ret ?_ | refine o_nil ?_ | refine q_then ?_ | refine o_want rfl rfl rfl ?_ | refine o_pass rfl rfl rfl rfl ?_))
          exact out1 rfl ⟨by have h : ¬ band f 16 ≠ 0 := h5; show Value.bool false = _; simp [oddOf] at *; simp [e1, e2, e3, h], hS⟩
end Go.Proofs.YtllomopjoomdiaaGreat
end

section
namespace Go.Proofs.YtllomopjoomdiaaGreat
open Go.SL
def badGeo (b l i : Int) : Prop := l < 32 ∨ 256 < l ∨ i < 1 ∨ 65535 < i ∨ b < 1 ∨ 1048576 < b
def layOf (b l i : Int) : Lay := ⟨b, l, i, 1, 1 + l, (i + 16) / 16, 1 + l + (i + 16) / 16, (b + 8192 - 1) / 8192, 1 + l + (i + 16) / 16 + (b + 8192 - 1) / 8192⟩
def layA (y : Lay) : Value := .agg (layC y).toArray
def lay0 : Lay := ⟨0, 0, 0, 0, 0, 0, 0, 0, 0⟩
instance (b l i : Int) : Decidable (badGeo b l i) := by unfold badGeo; infer_instance
def shapeOf (b l i : Int) : Lay × Int := if badGeo b l i then (lay0, 2) else if b ≤ (layOf b l i).dataAt then (lay0, 2) else (layOf b l i, 0)
theorem shape_spec {w0 w : World} {G : List Asn} (b l i : Int) (hS : Sat w0 w G) : CR Tryz.prog 30 [.agg #[vi b, vi l, vi i]] w fun v w' => v = .tuple #[layA (shapeOf b l i).1, vi (shapeOf b l i).2] ∧ Sat w0 w' G := by
  refine calls_enter Tryz.func30 rfl rfl rfl ?_
  (repeat (first | refine c_seq ?_ | refine c_region ?_))
  refine o_box hS rfl (fun b1 w hS => ?_)
  skip
  refine o_alloc ok hS rfl (fun b2 w hS => ?_)
  have hS : Sat w0 w (pt b2 (.cells (layC lay0).toArray 53) :: pt b1 (.cells #[vi b, vi l, vi i] 23) :: G) := hS
  (repeat (first | (apply o_ptr ok; rfl; · conv => { lhs; whnf }) | (apply o_pure ok; · conv => { lhs; whnf; arg 1; whnf }) | refine c_seq ?_ | refine c_region ?_ | refine o_nil ?_ | refine q_then ?_ | (apply o_rd hS; apply rd_load ok (i := 1); rfl; rfl; rfl; rfl; · conv => { lhs; whnf; arg 1; whnf })))
  refine o_guard_d rfl rfl rfl (fun h0 => ?_) (fun h0 => ?_)
  · (repeat (first | (apply o_pure ok; · conv => { lhs; whnf; arg 1; whnf }) | refine c_seq ?_ | refine c_region ?_ | refine o_nil ?_ | refine q_then ?_ | (apply c_cond_t; rfl) | refine o_pass rfl rfl rfl rfl ?_ | (apply o_rd hS; apply rd_build1 ok; rfl; rfl; rfl; rfl)))
    refine o_storeW ok hS rfl rfl rfl (i := 0) rfl rfl rfl rfl (fun w hS => ?_)
    (repeat (first | (apply o_pure ok; · conv => { lhs; whnf; arg 1; whnf }) | refine c_ret ?_ | refine o_nil ?_ | refine q_then ?_ | refine q_then_r ?_))
    exact outCA1 ok rfl hS rfl rfl rfl rfl (i := 0) rfl rfl ⟨by rw [show shapeOf b l i = (lay0, 2) from if_pos (by unfold badGeo; omega)]; rfl, hS.tail.tail⟩
  · (repeat (first | (apply o_ptr ok; rfl; · conv => { lhs; whnf }) | (apply o_pure ok; · conv => { lhs; whnf; arg 1; whnf }) | refine o_want rfl rfl rfl ?_ | (apply o_rd hS; apply rd_load ok (i := 1); rfl; rfl; rfl; rfl; · conv => { lhs; whnf; arg 1; whnf })))
    refine o_guard_d rfl rfl rfl (fun h1 => ?_) (fun h1 => ?_)
    · (repeat (first | (apply o_pure ok; · conv => { lhs; whnf; arg 1; whnf }) | refine c_seq ?_ | refine c_region ?_ | refine o_nil ?_ | refine q_then ?_ | (apply c_cond_t; rfl) | refine o_pass rfl rfl rfl rfl ?_ | (apply o_rd hS; apply rd_build1 ok; rfl; rfl; rfl; rfl)))
      refine o_storeW ok hS rfl rfl rfl (i := 0) rfl rfl rfl rfl (fun w hS => ?_)
      (repeat (first | (apply o_pure ok; · conv => { lhs; whnf; arg 1; whnf }) | refine c_ret ?_ | refine o_nil ?_ | refine q_then ?_ | refine q_then_r ?_))
      exact outCA1 ok rfl hS rfl rfl rfl rfl (i := 0) rfl rfl ⟨by rw [show shapeOf b l i = (lay0, 2) from if_pos (by unfold badGeo; omega)]; rfl, hS.tail.tail⟩
    · (repeat (first | (apply o_ptr ok; rfl; · conv => { lhs; whnf }) | (apply o_pure ok; · conv => { lhs; whnf; arg 1; whnf }) | refine o_want rfl rfl rfl ?_ | (apply o_rd hS; apply rd_load ok (i := 1); rfl; rfl; rfl; rfl; · conv => { lhs; whnf; arg 1; whnf })))
      refine o_guard_d rfl rfl rfl (fun h2 => ?_) (fun h2 => ?_)
      · (repeat (first | (apply o_pure ok; · conv => { lhs; whnf; arg 1; whnf }) | refine c_seq ?_ | refine c_region ?_ | refine o_nil ?_ | refine q_then ?_ | (apply c_cond_t; rfl) | refine o_pass rfl rfl rfl rfl ?_ | (apply o_rd hS; apply rd_build1 ok; rfl; rfl; rfl; rfl)))
        refine o_storeW ok hS rfl rfl rfl (i := 0) rfl rfl rfl rfl (fun w hS => ?_)
        (repeat (first | (apply o_pure ok; · conv => { lhs; whnf; arg 1; whnf }) | refine c_ret ?_ | refine o_nil ?_ | refine q_then ?_ | refine q_then_r ?_))
        exact outCA1 ok rfl hS rfl rfl rfl rfl (i := 0) rfl rfl ⟨by rw [show shapeOf b l i = (lay0, 2) from if_pos (by unfold badGeo; omega)]; rfl, hS.tail.tail⟩
      · (repeat (first | (apply o_ptr ok; rfl; · conv => { lhs; whnf }) | (apply o_pure ok; · conv => { lhs; whnf; arg 1; whnf }) | refine o_want rfl rfl rfl ?_ | (apply o_rd hS; apply rd_load ok (i := 1); rfl; rfl; rfl; rfl; · conv => { lhs; whnf; arg 1; whnf })))
        refine o_guard_d rfl rfl rfl (fun h3 => ?_) (fun h3 => ?_)
        · (repeat (first | (apply o_pure ok; · conv => { lhs; whnf; arg 1; whnf }) | refine c_seq ?_ | refine c_region ?_ | refine o_nil ?_ | refine q_then ?_ | (apply c_cond_t; rfl) | refine o_pass rfl rfl rfl rfl ?_ | (apply o_rd hS; apply rd_build1 ok; rfl; rfl; rfl; rfl)))
          refine o_storeW ok hS rfl rfl rfl (i := 0) rfl rfl rfl rfl (fun w hS => ?_)
          (repeat (first | (apply o_pure ok; · conv => { lhs; whnf; arg 1; whnf }) | refine c_ret ?_ | refine o_nil ?_ | refine q_then ?_ | refine q_then_r ?_))
          exact outCA1 ok rfl hS rfl rfl rfl rfl (i := 0) rfl rfl ⟨by rw [show shapeOf b l i = (lay0, 2) from if_pos (by unfold badGeo; omega)]; rfl, hS.tail.tail⟩
        · (repeat (first | (apply o_ptr ok; rfl; · conv => { lhs; whnf }) | (apply o_pure ok; · conv => { lhs; whnf; arg 1; whnf }) | refine o_want rfl rfl rfl ?_ | (apply o_rd hS; apply rd_load ok (i := 1); rfl; rfl; rfl; rfl; · conv => { lhs; whnf; arg 1; whnf })))
          refine o_guard_d rfl rfl rfl (fun h4 => ?_) (fun h4 => ?_)
          · (repeat (first | (apply o_pure ok; · conv => { lhs; whnf; arg 1; whnf }) | refine c_seq ?_ | refine c_region ?_ | refine o_nil ?_ | refine q_then ?_ | (apply c_cond_t; rfl) | refine o_pass rfl rfl rfl rfl ?_ | (apply o_rd hS; apply rd_build1 ok; rfl; rfl; rfl; rfl)))
            refine o_storeW ok hS rfl rfl rfl (i := 0) rfl rfl rfl rfl (fun w hS => ?_)
            (repeat (first | (apply o_pure ok; · conv => { lhs; whnf; arg 1; whnf }) | refine c_ret ?_ | refine o_nil ?_ | refine q_then ?_ | refine q_then_r ?_))
            exact outCA1 ok rfl hS rfl rfl rfl rfl (i := 0) rfl rfl ⟨by rw [show shapeOf b l i = (lay0, 2) from if_pos (by unfold badGeo; omega)]; rfl, hS.tail.tail⟩
          · (repeat (first | (apply o_ptr ok; rfl; · conv => { lhs; whnf }) | (apply o_pure ok; · conv => { lhs; whnf; arg 1; whnf }) | refine o_nil ?_ | refine q_then ?_ | refine o_want rfl rfl rfl ?_ | (apply o_rd hS; apply rd_load ok (i := 1); rfl; rfl; rfl; rfl; · conv => { lhs; whnf; arg 1; whnf })))
            refine c_cond_d rfl (fun h5 => ?_) (fun h5 => ?_)
            · (repeat (first | refine c_seq ?_ | refine c_region ?_ | (apply o_rd hS; apply rd_build1 ok; rfl; rfl; rfl; rfl)))
              refine o_storeW ok hS rfl rfl rfl (i := 0) rfl rfl rfl rfl (fun w hS => ?_)
              (repeat (first | (apply o_pure ok; · conv => { lhs; whnf; arg 1; whnf }) | refine c_ret ?_ | refine o_nil ?_ | refine q_then ?_ | refine q_then_r ?_))
              exact outCA1 ok rfl hS rfl rfl rfl rfl (i := 0) rfl rfl ⟨by rw [show shapeOf b l i = (lay0, 2) from if_pos (by unfold badGeo; omega)]; rfl, hS.tail.tail⟩
            · have hnb : ¬badGeo b l i := by unfold badGeo; omega
              (repeat (first | refine c_seq ?_ | refine c_region ?_ | refine c_skip ?_ | refine q_then ?_))
              apply o_rd hS (rd_loadA (m := 3) ok rfl rfl rfl rfl (i := 1) rfl (Nat.le_of_ble_eq_true rfl))
              (repeat (first | (apply o_add; rfl; rfl; omega) | (apply o_ptr ok; rfl; · conv => { lhs; whnf }) | (apply o_rd hS; apply rd_buildG ok; rfl; rfl; rfl; rfl) | (apply o_rd hS; apply rd_load ok (i := 1); rfl; rfl; rfl; rfl; · conv => { lhs; whnf; arg 1; whnf })))
              refine o_alloc ok hS rfl (fun b3 w hS => ?_)
              refine o_storeW ok hS rfl rfl rfl (i := 0) rfl rfl rfl rfl (fun w hS => ?_)
              have hS : Sat w0 w (pt b3 (.cells #[vi b, vi l, vi i, vi 1, vi (1 + l), vi (0), vi (0), vi (0), vi (0)] 53) :: pt b2 (.cells (layC lay0).toArray 53) :: pt b1 (.cells #[vi b, vi l, vi i] 23) :: G) := hS
              (repeat (first | (apply o_add; rfl; rfl; omega) | (apply o_quo; rfl; rfl; omega) | (apply o_ptr ok; rfl; · conv => { lhs; whnf }) | refine c_seq ?_ | refine c_region ?_ | refine o_nil ?_ | refine q_then ?_ | (apply o_rd hS; apply rd_load ok (i := 2); rfl; rfl; rfl; rfl; · conv => { lhs; whnf; arg 1; whnf })))
              refine o_store ok hS rfl rfl rfl rfl (i := 0) rfl rfl (fun w hS => ?_)
              have hS : Sat w0 w (pt b3 (.cells #[vi b, vi l, vi i, vi 1, vi (1 + l), vi ((i + 16) / 16), vi (0), vi (0), vi (0)] 53) :: pt b2 (.cells (layC lay0).toArray 53) :: pt b1 (.cells #[vi b, vi l, vi i] 23) :: G) := hS
              (repeat (first | (apply o_add; rfl; rfl; omega) | (apply o_ptr ok; rfl; · conv => { lhs; whnf }) | refine c_seq ?_ | refine c_region ?_ | refine o_nil ?_ | refine q_then ?_ | (apply o_rd hS; apply rd_load ok (i := 0); rfl; rfl; rfl; rfl; · conv => { lhs; whnf; arg 1; whnf })))
              refine o_store ok hS rfl rfl rfl rfl (i := 0) rfl rfl (fun w hS => ?_)
              have hS : Sat w0 w (pt b3 (.cells #[vi b, vi l, vi i, vi 1, vi (1 + l), vi ((i + 16) / 16), vi (1 + l + (i + 16) / 16), vi (0), vi (0)] 53) :: pt b2 (.cells (layC lay0).toArray 53) :: pt b1 (.cells #[vi b, vi l, vi i] 23) :: G) := hS
              (repeat (first | (apply o_add; rfl; rfl; omega) | (apply o_sub; rfl; rfl; omega) | (apply o_quo; rfl; rfl; omega) | (apply o_ptr ok; rfl; · conv => { lhs; whnf }) | refine c_seq ?_ | refine c_region ?_ | refine o_nil ?_ | refine q_then ?_ | (apply o_rd hS; apply rd_load ok (i := 2); rfl; rfl; rfl; rfl; · conv => { lhs; whnf; arg 1; whnf })))
              refine o_store ok hS rfl rfl rfl rfl (i := 0) rfl rfl (fun w hS => ?_)
              have hS : Sat w0 w (pt b3 (.cells #[vi b, vi l, vi i, vi 1, vi (1 + l), vi ((i + 16) / 16), vi (1 + l + (i + 16) / 16), vi ((b + 8192 - 1) / 8192), vi (0)] 53) :: pt b2 (.cells (layC lay0).toArray 53) :: pt b1 (.cells #[vi b, vi l, vi i] 23) :: G) := hS
              (repeat (first | (apply o_add; rfl; rfl; omega) | (apply o_ptr ok; rfl; · conv => { lhs; whnf }) | refine c_seq ?_ | refine c_region ?_ | refine o_nil ?_ | refine q_then ?_ | (apply o_rd hS; apply rd_load ok (i := 0); rfl; rfl; rfl; rfl; · conv => { lhs; whnf; arg 1; whnf })))
              refine o_store ok hS rfl rfl rfl rfl (i := 0) rfl rfl (fun w hS => ?_)
              have hS : Sat w0 w (pt b3 (.cells #[vi b, vi l, vi i, vi 1, vi (1 + l), vi ((i + 16) / 16), vi (1 + l + (i + 16) / 16), vi ((b + 8192 - 1) / 8192), vi (1 + l + (i + 16) / 16 + (b + 8192 - 1) / 8192)] 53) :: pt b2 (.cells (layC lay0).toArray 53) :: pt b1 (.cells #[vi b, vi l, vi i] 23) :: G) := hS
              (repeat (first | (apply o_ptr ok; rfl; · conv => { lhs; whnf }) | (apply o_pure ok; · conv => { lhs; whnf; arg 1; whnf }) | refine c_seq ?_ | refine c_region ?_ | refine o_nil ?_ | refine q_then ?_ | (apply o_rd hS; apply rd_load ok (i := 0); rfl; rfl; rfl; rfl; · conv => { lhs; whnf; arg 1; whnf }) | (apply o_rd hS; apply rd_load ok (i := 2); rfl; rfl; rfl; rfl; · conv => { lhs; whnf; arg 1; whnf })))
              refine c_cond_d rfl (fun h6 => ?_) (fun h6 => ?_)
              · (repeat (first | refine c_seq ?_ | refine c_region ?_ | (apply o_rd hS; apply rd_build1 ok; rfl; rfl; rfl; rfl)))
                refine o_storeW ok hS rfl rfl rfl (i := 1) rfl rfl rfl rfl (fun w hS => ?_)
                (repeat (first | (apply o_pure ok; · conv => { lhs; whnf; arg 1; whnf }) | refine c_ret ?_ | refine o_nil ?_ | refine q_then ?_ | refine q_then_r ?_))
                exact outCA1 ok rfl hS rfl rfl rfl rfl (i := 1) rfl rfl ⟨by rw [show shapeOf b l i = (lay0, 2) from (if_neg hnb).trans (if_pos h6)]; rfl, hS.tail.tail.tail⟩
              · (repeat (first | refine c_seq ?_ | refine c_region ?_ | refine c_skip ?_ | refine q_then ?_))
                apply o_rd hS (rd_loadA (m := 9) ok rfl rfl rfl rfl (i := 0) rfl (Nat.le_of_ble_eq_true rfl))
                skip
                refine o_storeW ok hS rfl rfl rfl (i := 1) rfl rfl rfl rfl (fun w hS => ?_)
                (repeat (first | (apply o_pure ok; · conv => { lhs; whnf; arg 1; whnf }) | refine c_ret ?_ | refine o_nil ?_ | refine q_then ?_))
                exact outCA1 ok rfl hS rfl rfl rfl rfl (i := 1) rfl rfl ⟨by rw [show shapeOf b l i = (layOf b l i, 0) from (if_neg hnb).trans (if_neg h6)]; rfl, hS.tail.tail.tail⟩
end Go.Proofs.YtllomopjoomdiaaGreat
end

section
namespace Go.Proofs.YtllomopjoomdiaaGreat
open Go.SL
def dirOf (inum up : Int) : It := ⟨2, 2, 32, [], [(inum, dot1), (up, dot2)]⟩
theorem directory_spec {w0 w : World} {G : List Asn} (inum up : Int) (h1 : 0 ≤ inum ∧ inum ≤ 65535) (h2 : 0 ≤ up ∧ up ≤ 65535) (hS : Sat w0 w G) : CR Tryz.prog 34 [vi inum, vi up] w fun v w' => ∃ b, v = ptr b ∧ Sat w0 w' (itemA b (dirOf inum up) :: G) := by
  refine calls_enter Tryz.func34 rfl rfl rfl ?_
  (repeat (first | (apply o_pure ok; · conv => { lhs; whnf; arg 1; whnf }) | refine c_seq ?_ | refine c_region ?_ | refine o_nil ?_ | refine q_then ?_ | (apply o_rd hS; apply rd_build1 ok; rfl; rfl; rfl; rfl)))
  refine o_buildS ok (vs := [.agg #[.int .u16 (IntKind.u16.wrap inum), .string dot1], .agg #[.int .u16 (IntKind.u16.wrap up), .string dot2]]) hS rfl rfl rfl rfl rfl rfl rfl rfl rfl (fun b w hS => ?_)
  rw [w_u16 h1, w_u16 h2] at hS
  (repeat (first | (apply o_pure ok; · conv => { lhs; whnf; arg 1; whnf }) | refine c_seq ?_ | refine c_region ?_ | refine o_nil ?_ | refine q_then ?_ | (apply o_rd hS; apply rd_build1 ok; rfl; rfl; rfl; rfl)))
  refine o_box hS rfl (fun b2 w hS => ?_)
  (repeat (first | (apply o_ptr ok; rfl; · conv => { lhs; whnf }) | refine c_ret ?_ | refine o_nil ?_ | refine q_then ?_))
  refine out1 rfl ⟨b2, rfl, ?_⟩
  have hS : Sat w0 w (pt b2 (.cells (itemC (dirOf inum up) (.map none) (.slice (some ⟨b, 0, none⟩) 2 2)) 135) :: pt b (.cells (slotsC (dirOf inum up).slots).toArray 142) :: G) := hS
  refine Sat.itemClose (dm := .map none) (sv := .slice (some ⟨b, 0, none⟩) 2 2) ?_
  have hS := Sat.closeAt [_] [] hS (C := dataA (dirOf inum up).kind (.map none) (dirOf inum up).data) (fun g _ => .inl ⟨rfl, rfl, rfl⟩)
  have hS := hS.bring 2 rfl
  have hS := hS.weakH (D := slotsA (.slice (some ⟨b, 0, none⟩) 2 2) (dirOf inum up).slots) (fun g hg => ⟨rfl, .inr ⟨b, 2, _, rfl, hg, Nat.le_refl _, by decide, rfl, rfl⟩⟩)
  exact hS.back 2 rfl

def geoV (b l i : Int) : Value := .agg #[vi b, vi l, vi i]
def mod0 (y : Lay) : Mod := ⟨y, [], fun _ => none, []⟩
theorem fresh_spec {w0 w : World} {G : List Asn} (b l i : Int) (hS : Sat w0 w G) : CR Tryz.prog 33 [geoV b l i] w fun v w' => ((shapeOf b l i).2 ≠ 0 ∧ v = .tuple #[.pointer none, vi (shapeOf b l i).2] ∧ Sat w0 w' G) ∨ ((shapeOf b l i).2 = 0 ∧ ∃ p, v = .tuple #[ptr p, vi 0] ∧ Sat w0 w' (modA p (mod0 (shapeOf b l i).1) :: G)) := by
  refine calls_enter Tryz.func33 rfl rfl rfl ?_
  (repeat (first | refine c_seq ?_ | refine c_region ?_))
  refine o_box hS rfl (fun b1 w hS => ?_)
  (repeat (first | (apply o_pure ok; · conv => { lhs; whnf; arg 1; whnf }) | refine c_seq ?_ | refine c_region ?_ | refine o_nil ?_ | refine q_then ?_))
  apply o_rd hS (rd_loadA (m := 3) ok rfl rfl rfl rfl (i := 0) rfl (Nat.le_of_ble_eq_true rfl))
  refine o_call ok rfl rfl (shape_spec b l i hS) (fun v w h => ?_)
  obtain ⟨rfl, hS⟩ := h
  have hS := hS.tail
  generalize shapeOf b l i = s
  (repeat (first | (apply o_pure ok; · conv => { lhs; whnf; arg 1; whnf })))
  refine o_alloc ok hS rfl (fun b2 w hS => ?_)
  refine o_storeW ok hS rfl rfl rfl (i := 0) rfl rfl rfl rfl (fun w hS => ?_)
  (repeat (first | (apply o_pure ok; · conv => { lhs; whnf; arg 1; whnf }) | refine c_seq ?_ | refine c_region ?_ | refine o_nil ?_ | refine q_then ?_))
  refine c_cond_d rfl (fun h1 => ?_) (fun h1 => ?_)
  · (repeat (first | (apply o_pure ok; · conv => { lhs; whnf; arg 1; whnf }) | refine c_seq ?_ | refine c_region ?_ | refine c_ret ?_ | refine o_nil ?_ | refine q_then ?_ | refine q_then_r ?_))
    exact out2 rfl (.inl ⟨h1, rfl, hS.tail⟩)
  · (repeat (first | refine c_seq ?_ | refine c_region ?_ | refine c_skip ?_ | refine q_then ?_))
    apply o_rd hS (rd_loadA (m := 9) ok rfl rfl rfl rfl (i := 0) rfl (Nat.le_of_ble_eq_true rfl))
    refine o_makeMap hS (fun b3 w hS => ?_)
    (repeat (first | (apply o_rd hS; apply rd_buildG ok; rfl; rfl; rfl; rfl)))
    refine o_box hS rfl (fun b4 w hS => ?_)
    (repeat (first | (apply o_ptr ok; rfl; · conv => { lhs; whnf }) | (apply o_pure ok; · conv => { lhs; whnf; arg 1; whnf }) | refine c_ret ?_ | refine o_nil ?_ | refine q_then ?_))
    refine out2 rfl (.inr ⟨Decidable.not_not.1 h1, b4, rfl, ?_⟩)
    have hS : Sat w0 w (pt b4 (.cells (modC s.1 b3 (fun _ => none) (.slice none 0 0)) 58) :: pt b3 (.map #[] 0) :: _ :: G) := hS
    have hS := (hS.bring 2 rfl).tail
    refine Sat.modClose (ib := b3) (tv := .slice none 0 0) ?_
    have hS := Sat.closeAt [_, _] [] hS (C := itemsA []) (fun g _ => grp_nil)
    have hS := Sat.closeAt [_, _, _] [] hS (C := descsA fun _ => none) (fun g _ => by
      refine ⟨fun _ => 0, fun j A hj => ?_⟩
      simp only [List.getElem?_map] at hj
      cases hr : (List.range 16)[j]? with
      | none => rw [hr] at hj; cases hj
      | some q => rw [hr] at hj; cases hj; trivial)
    have hS := Sat.closeAt [_, _, _, _] [] hS (C := toldA (.slice none 0 0) []) (fun g _ => ⟨[], rfl, by
      refine ⟨fun _ => 0, fun j A hj => ?_⟩
      match j, hj with
      | 0, hj => cases hj; exact rowA_nil _ _ _
      | 1, hj => cases hj; exact grp_nil
      | j + 2, hj => simp at hj⟩)
    exact hS.conseq (i := 1) rfl (fun g hg => ⟨#[], 0, mapOk_new encI, hg⟩)
end Go.Proofs.YtllomopjoomdiaaGreat
end

section
namespace Go.Proofs.YtllomopjoomdiaaGreat
open Go.SL
def newOf (y : Lay) (b : Nat) : Mod := ⟨y, [(1, b, dirOf 1 1)], fun _ => none, []⟩
theorem new_spec {w0 w : World} {G : List Asn} (b l i : Int) (hS : Sat w0 w G) : CR Tryz.prog 9 [geoV b l i] w fun v w' => ((shapeOf b l i).2 ≠ 0 ∧ v = .tuple #[.pointer none, vi (shapeOf b l i).2] ∧ Sat w0 w' G) ∨ ((shapeOf b l i).2 = 0 ∧ ∃ p q, v = .tuple #[ptr p, vi 0] ∧ Sat w0 w' (modA p (newOf (shapeOf b l i).1 q) :: G)) := by
  refine calls_enter Tryz.func9 rfl rfl rfl ?_
  (repeat (first | refine c_seq ?_ | refine c_region ?_))
  refine o_box hS rfl (fun b1 w hS => ?_)
  (repeat (first | (apply o_pure ok; · conv => { lhs; whnf; arg 1; whnf }) | refine c_seq ?_ | refine c_region ?_ | refine o_nil ?_ | refine q_then ?_))
  apply o_rd hS (rd_loadA (m := 3) ok rfl rfl rfl rfl (i := 0) rfl (Nat.le_of_ble_eq_true rfl))
  refine o_call ok rfl rfl (fresh_spec b l i hS.tail) (fun v w h => ?_)
  generalize shapeOf b l i = s at h
  obtain ⟨h1, rfl, hS⟩ | ⟨h1, p, rfl, hS⟩ := h
  · (repeat (first | (apply o_pure ok; · conv => { lhs; whnf; arg 1; whnf }) | refine c_seq ?_ | refine c_region ?_ | refine o_nil ?_ | refine q_then ?_))
    refine c_cond_p rfl h1 ?_
    (repeat (first | (apply o_pure ok; · conv => { lhs; whnf; arg 1; whnf }) | refine c_seq ?_ | refine c_region ?_ | refine c_ret ?_ | refine o_nil ?_ | refine q_then ?_ | refine q_then_r ?_))
    exact out2 rfl (.inl ⟨h1, rfl, hS⟩)
  · (repeat (first | (apply o_ptr ok; rfl; · conv => { lhs; whnf }) | (apply o_pure ok; · conv => { lhs; whnf; arg 1; whnf }) | refine c_seq ?_ | refine c_region ?_ | refine c_skip ?_ | refine o_nil ?_ | refine q_then ?_ | (apply c_cond_f; rfl)))
    obtain ⟨ib, tv, hS⟩ := Sat.modOpen hS
    refine region_c (L := _ :: _ :: _ :: _ :: _ :: G) 5 [4] [] mixed (by kernel_rfl) hS ?_
    (repeat (first | (apply r_ptr ok rfl; rfl; · conv => { lhs; whnf }) | (apply r_rd rfl; apply rd_load ok (i := 0); rfl; rfl; rfl; rfl; · conv => { lhs; whnf; arg 1; whnf })))
    refine r_chain undef rfl rfl ?_
    (repeat (first | refine r_nil ?_))
    refine ch_step rfl rfl (fun G2 w hS => ?_)
    refine o_call ok rfl rfl (directory_spec 1 1 (by decide) (by decide) hS) (fun v w h => ?_)
    obtain ⟨q, rfl, hS⟩ := h
    refine o_nil ⟨rfl, [itemA q (dirOf 1 1)], hS, ch_nil ?_⟩
    intro w hS
    refine o_mapUpdate ok keyOk_int hS rfl rfl rfl rfl rfl (i := 2) rfl (fun w hS => ?_)
    (repeat (first | (apply o_ptr ok; rfl; · conv => { lhs; whnf }) | (apply o_pure ok; · conv => { lhs; whnf; arg 1; whnf }) | refine c_seq ?_ | refine c_region ?_ | refine c_ret ?_ | refine o_nil ?_ | refine q_then ?_))
    refine out2 rfl (.inr ⟨h1, p, q, rfl, ?_⟩)
    refine Sat.modClose (ib := ib) (tv := tv) ?_
    have hS := hS.back 3 rfl
    have hS := (hS.bring 2 rfl).tail
    have hS := hS.bring 2 rfl
    have hS := Sat.closeH [_] hS (C := itemsA [(1, q, dirOf 1 1)]) (fun g hg => hg)
    exact hS.back 2 rfl
end Go.Proofs.YtllomopjoomdiaaGreat
end

section
namespace Go.Proofs.YtllomopjoomdiaaGreat
open Go.SL
def getX (l : List Itm) (k : Int) : Option Itm := l.find? fun x => decide (x.1 = k)
theorem mget_kv (l : List Itm) (k : Int) : mget (itemsKV l) k = (getX l k).map fun x => ptr x.2.1 := mget_map l (fun x => x.1) (fun x => ptr x.2.1) k
theorem getX_some {l : List Itm} {k : Int} {x : Itm} (h : getX l k = some x) : x ∈ l ∧ x.1 = k := ⟨List.mem_of_find?_eq_some h, by have := List.find?_some h; simpa using this⟩
/-- What names lead to, from an inode on; none: an inode on the way is not there. -/
def findS (m : Mod) : List ByteArray → Int → Option (Int × Int)
  | [], at_ => some (at_, 0)
  | n :: r, at_ => match getX m.items at_ with
    | none => none
    | some x => if ¬x.2.2.kind = 2 then some (0, 7) else if (lookOf x.2.2 n).1 < 0 then some (0, 5) else findS m r (lookOf x.2.2 n).2
theorem find_spec {w0 w : World} {G : List Asn} {p n cap : Nat} {a : Option Addr} {m : Mod} {names : List ByteArray} {r : Int × Int} (hf : Fine m) (hn : n ≤ names.length) (hl : names.length ≤ 1099511627776) (hr : findS m (names.take n) 1 = some r)
    (hS : Sat w0 w (modA p m :: namesA (.slice a names.length cap) names :: G)) : CR Tryz.prog 100 [ptr p, .slice a n cap] w fun v w' => v = .tuple #[vi r.1, vi r.2] ∧ Sat w0 w' (modA p m :: namesA (.slice a names.length cap) names :: G) := by
  refine calls_enter Tryz.func100 rfl rfl rfl ?_
  obtain ⟨ib, tv, hS⟩ := Sat.modOpen hS
  obtain ⟨hlen, a', cap', he, _, ha⟩ := Sat.rowForm hS (i := 5) rfl
  cases he
  (repeat (first | (apply o_pure ok; · conv => { lhs; whnf; arg 1; whnf }) | refine c_seq ?_ | refine c_region ?_ | refine c_block ?_ | refine o_nil ?_ | refine q_then ?_))
  refine c_loop (fun k g w => ∃ (j : Nat) (at_ : Int) (jk : Nat → Value), j + k = n ∧ findS m ((names.take n).drop j) at_ = some r ∧
    g = updL [(0, ptr p), (12, .slice a n cap), (13, vi n), (14, vi j), (6, vi at_)] jk ∧
    Sat w0 w (pt p (.cells (modC m.lay ib m.d tv) 58) :: mapA encI ib (itemsKV m.items) :: itemsA m.items :: descsA m.d :: toldA tv m.told :: namesA (.slice a names.length cap) names :: G)) n
    ⟨0, 1, _, by omega, hr, updL_self _ _ ⟨rfl, rfl, rfl, rfl, rfl, trivial⟩, hS⟩ ?_
  rintro k g w ⟨j, at_, jk, hjk, hs, rfl, hS⟩
  (repeat (first | (apply o_pure ok; · conv => { lhs; whnf; arg 1; whnf }) | refine c_seq ?_ | refine c_region ?_ | refine o_nil ?_ | refine q_then ?_))
  refine c_cond_d rfl (fun h1 => ?_) (fun h1 => ?_)
  · have hj : j < names.length := by omega
    have hjn : j < (names.take n).length := by simp; omega
    obtain ⟨b2, rfl⟩ := ha (by omega)
    rw [List.drop_eq_getElem_cons hjn] at hs
    unfold findS at hs
    have hq : (names.map Value.string)[0 + (j : Int).toNat * 1]? = some (.string (names.take n)[j]) := by simp [hj]
    generalize (names.take n)[j] = nm at hs hq
    cases hx : getX m.items at_ with
    | none => rw [hx] at hs; cases hs
    | some x =>
      rw [hx] at hs
      simp only at hs
      obtain ⟨hxm, hxk⟩ := getX_some hx
      obtain ⟨q, hq2⟩ := List.getElem?_of_mem hxm
      (repeat (first | refine c_seq ?_ | refine c_region ?_ | refine c_block ?_ | refine c_skip ?_ | refine q_then ?_))
      apply o_rd hS (rd_indexAddr ok rfl rfl rfl rfl (by omega))
      apply o_rd hS (rd_loadR (v := .string nm) ok rfl rfl rfl (i := 5) rfl rfl hq)
      (repeat (first | (apply o_ptr ok; rfl; · conv => { lhs; whnf }) | (apply o_pure ok; · conv => { lhs; whnf; arg 1; whnf }) | refine c_seq ?_ | refine c_region ?_ | refine o_nil ?_ | refine q_then ?_ | (apply o_rd hS; apply rd_load ok (i := 0); rfl; rfl; rfl; rfl; · conv => { lhs; whnf; arg 1; whnf })))
      have hmg : (mget (itemsKV m.items) at_).getD (.pointer none) = ptr x.2.1 := by rw [mget_kv, hx]; rfl
      refine o_rd (v := ptr x.2.1) hS (by rw [← hmg]; exact rd_lookup ok keyOk_int rfl rfl rfl rfl rfl (i := 1) rfl) ?_
      have hS := Sat.focus (hS.bring 2 rfl) q hq2
      obtain ⟨dm, sv, hS⟩ := Sat.itemOpen hS
      (repeat (first | (apply o_ptr ok; rfl; · conv => { lhs; whnf }) | (apply o_pure ok; · conv => { lhs; whnf; arg 1; whnf }) | refine c_seq ?_ | refine c_region ?_ | refine o_nil ?_ | refine q_then ?_ | (apply o_rd hS; apply rd_load ok (i := 0); rfl; rfl; rfl; rfl; · conv => { lhs; whnf; arg 1; whnf })))
      by_cases h2 : x.2.2.kind = 2
      · rw [if_neg (fun h => h h2)] at hs
        refine c_cond_n rfl (fun h => h h2) ?_
        (repeat (first | (apply o_ptr ok; rfl; · conv => { lhs; whnf }) | (apply o_pure ok; · conv => { lhs; whnf; arg 1; whnf }) | refine c_seq ?_ | refine c_region ?_ | refine c_skip ?_ | refine q_then ?_))
        refine o_call ok rfl rfl (look_spec (hf.slots x hxm) (Sat.itemClose hS)) (fun v w h => ?_)
        obtain ⟨rfl, hS⟩ := h
        have hS := Sat.refocus (F := itA) hS hq2
        have hS := hS.back 2 rfl
        (repeat (first | (apply o_pure ok; · conv => { lhs; whnf; arg 1; whnf }) | refine c_seq ?_ | refine c_region ?_ | refine o_nil ?_ | refine q_then ?_))
        refine c_cond_d rfl (fun h3 => ?_) (fun h3 => ?_)
        · rw [if_pos h3] at hs
          cases hs
          (repeat (first | (apply o_pure ok; · conv => { lhs; whnf; arg 1; whnf }) | refine c_seq ?_ | refine c_region ?_ | refine c_ret ?_ | refine o_nil ?_ | refine q_then ?_ | refine q_then_r ?_ | refine q_blk_r ?_))
          exact out2 rfl ⟨rfl, Sat.modClose hS⟩
        · rw [if_neg h3] at hs
          (repeat (first | (apply o_add; rfl; rfl; omega) | (apply o_pure ok; · conv => { lhs; whnf; arg 1; whnf }) | refine c_region ?_ | refine c_skip ?_ | refine o_nil ?_ | refine q_then ?_ | refine q_blk_n ?_))
          exact ⟨k - 1, by omega, j + 1, _, _, by omega, hs, updL_self _ _ ⟨rfl, rfl, rfl, rfl, rfl, trivial⟩, hS⟩
      · rw [if_pos h2] at hs
        cases hs
        refine c_cond_p rfl h2 ?_
        have hS := Sat.refocus (F := itA) (Sat.itemClose hS) hq2
        have hS := hS.back 2 rfl
        (repeat (first | (apply o_pure ok; · conv => { lhs; whnf; arg 1; whnf }) | refine c_seq ?_ | refine c_region ?_ | refine c_ret ?_ | refine o_nil ?_ | refine q_then ?_ | refine q_then_r ?_ | refine q_blk_r ?_))
        exact out2 rfl ⟨rfl, Sat.modClose hS⟩
  · have hd : (names.take n).drop j = [] := List.drop_eq_nil_of_le (by simp; omega)
    rw [hd] at hs
    cases hs
    (repeat (first | (apply o_pure ok; · conv => { lhs; whnf; arg 1; whnf }) | refine c_seq ?_ | refine c_region ?_ | refine c_ret ?_ | refine c_exit ?_ | refine o_nil ?_ | refine q_then ?_ | refine q_then_e ?_ | refine q_blk_e ?_))
    exact out2 rfl ⟨rfl, Sat.modClose hS⟩
end Go.Proofs.YtllomopjoomdiaaGreat
end

section
namespace Go.Proofs.YtllomopjoomdiaaGreat
open Go.SL
def parentS (m : Mod) (names : List ByteArray) : Option (Int × Int) := match findS m (names.take (names.length - 1)) 1 with
  | none => none
  | some r => if ¬r.2 = 0 then some (0, r.2) else match getX m.items r.1 with
    | none => none
    | some x => if ¬x.2.2.kind = 2 then some (0, 7) else some (r.1, 0)
theorem parent_spec {w0 w : World} {G : List Asn} {p : Nat} {v : Value} {m : Mod} {names : List ByteArray} {r : Int × Int} (hf : Fine m) (hn : 1 ≤ names.length) (hl : names.length ≤ 1099511627776) (hr : parentS m names = some r)
    (hS : Sat w0 w (modA p m :: namesA v names :: G)) : CR Tryz.prog 97 [ptr p, v] w fun v' w' => v' = .tuple #[vi r.1, vi r.2] ∧ Sat w0 w' (modA p m :: namesA v names :: G) := by
  obtain ⟨hlen, a, cap, rfl, hcap, ha⟩ := Sat.rowForm hS (i := 1) rfl
  obtain ⟨b2, rfl⟩ := ha (by omega)
  refine calls_enter Tryz.func97 rfl rfl rfl ?_
  (repeat (first | (apply o_sub; rfl; rfl; omega) | (apply o_ptr ok; rfl; · conv => { lhs; whnf }) | (apply o_pure ok; · conv => { lhs; whnf; arg 1; whnf }) | refine c_seq ?_ | refine c_region ?_ | refine o_nil ?_ | refine q_then ?_))
  apply o_rd hS (rd_slice (l := 0) (h := names.length - 1) ok rfl rfl rfl rfl (by exact ⟨.i64, by show vi _ = vi _; congr 1; omega⟩) (by omega) (by omega))
  have e1 : (if cap = 0 then some (⟨b2, 0, none⟩ : Addr) else Option.map (fun a : Addr => a.add (0 * 1)) (some ⟨b2, 0, none⟩)) = some (⟨b2, 0, none⟩ : Addr) := by split <;> rfl
  rw [e1]
  unfold parentS at hr
  cases hfs : findS m (names.take (names.length - 1)) 1 with
  | none => rw [hfs] at hr; cases hr
  | some q =>
    rw [hfs] at hr
    simp only at hr
    skip
    refine o_call ok rfl rfl (find_spec (n := names.length - 1) hf (by omega) hl hfs hS) (fun v w h => ?_)
    obtain ⟨rfl, hS⟩ := h
    obtain ⟨ib, tv, hS⟩ := Sat.modOpen hS
    (repeat (first | (apply o_pure ok; · conv => { lhs; whnf; arg 1; whnf }) | refine c_seq ?_ | refine c_region ?_ | refine o_nil ?_ | refine q_then ?_))
    refine o_guard_d rfl rfl rfl (fun h1 => ?_) (fun h1 => ?_)
    · have h1' : q.2 = 0 := h1
      rw [if_neg (fun h => h h1')] at hr
      cases hx : getX m.items q.1 with
      | none => rw [hx] at hr; cases hr
      | some x =>
        rw [hx] at hr
        simp only at hr
        obtain ⟨hxm, hxk⟩ := getX_some hx
        obtain ⟨y, hy⟩ := List.getElem?_of_mem hxm
        (repeat (first | (apply o_ptr ok; rfl; · conv => { lhs; whnf }) | (apply o_pure ok; · conv => { lhs; whnf; arg 1; whnf }) | refine o_want rfl rfl rfl ?_ | (apply o_rd hS; apply rd_load ok (i := 0); rfl; rfl; rfl; rfl; · conv => { lhs; whnf; arg 1; whnf })))
        have hmg : (mget (itemsKV m.items) q.1).getD (.pointer none) = ptr x.2.1 := by rw [mget_kv, hx]; rfl
        refine o_rd (v := ptr x.2.1) hS (by rw [← hmg]; exact rd_lookup ok keyOk_int rfl rfl rfl rfl rfl (i := 1) rfl) ?_
        have hS := Sat.focus (hS.bring 2 rfl) y hy
        obtain ⟨dm, sv, hS⟩ := Sat.itemOpen hS
        (repeat (first | (apply o_ptr ok; rfl; · conv => { lhs; whnf }) | (apply o_pure ok; · conv => { lhs; whnf; arg 1; whnf }) | refine o_nil ?_ | refine q_then ?_ | refine o_want rfl rfl rfl ?_ | (apply o_rd hS; apply rd_load ok (i := 0); rfl; rfl; rfl; rfl; · conv => { lhs; whnf; arg 1; whnf })))
        have hS := Sat.refocus (F := itA) (Sat.itemClose hS) hy
        have hS := hS.back 2 rfl
        by_cases h2 : x.2.2.kind = 2
        · rw [if_neg (fun h => h h2)] at hr
          cases hr
          refine c_cond_n rfl (fun h => h h2) ?_
          (repeat (first | (apply o_pure ok; · conv => { lhs; whnf; arg 1; whnf }) | refine c_seq ?_ | refine c_region ?_ | refine c_skip ?_ | refine o_nil ?_ | refine q_then ?_))
          refine c_cond_n rfl (fun h => h h1') ?_
          (repeat (first | (apply o_pure ok; · conv => { lhs; whnf; arg 1; whnf }) | refine c_seq ?_ | refine c_region ?_ | refine c_skip ?_ | refine c_ret ?_ | refine o_nil ?_ | refine q_then ?_))
          exact out2 rfl ⟨rfl, Sat.modClose hS⟩
        · rw [if_pos h2] at hr
          cases hr
          refine c_cond_p rfl h2 ?_
          (repeat (first | (apply o_pure ok; · conv => { lhs; whnf; arg 1; whnf }) | refine c_seq ?_ | refine c_region ?_ | refine c_ret ?_ | refine o_nil ?_ | refine q_then ?_ | refine q_then_r ?_ | (apply c_cond_t; rfl)))
          exact out2 rfl ⟨rfl, Sat.modClose hS⟩
    · have h1' : ¬q.2 = 0 := h1
      rw [if_pos h1'] at hr
      cases hr
      (repeat (first | (apply o_pure ok; · conv => { lhs; whnf; arg 1; whnf }) | refine c_seq ?_ | refine c_region ?_ | refine c_skip ?_ | refine o_nil ?_ | refine q_then ?_ | (apply c_cond_f; rfl) | refine o_pass rfl rfl rfl rfl ?_))
      refine c_cond_p rfl h1' ?_
      (repeat (first | (apply o_pure ok; · conv => { lhs; whnf; arg 1; whnf }) | refine c_seq ?_ | refine c_region ?_ | refine c_ret ?_ | refine o_nil ?_ | refine q_then ?_ | refine q_then_r ?_))
      exact out2 rfl ⟨rfl, Sat.modClose hS⟩
end Go.Proofs.YtllomopjoomdiaaGreat
end

section
namespace Go.Proofs.YtllomopjoomdiaaGreat
open Go.SL
/-- One item turned. -/
def updI (l : List Itm) (k : Int) (t : It) : List Itm := l.map fun x => if x.1 = k then (x.1, x.2.1, t) else x
def updM (m : Mod) (k : Int) (t : It) : Mod := { m with items := updI m.items k t }
theorem updI_kv (l : List Itm) (k : Int) (t : It) : itemsKV (updI l k t) = itemsKV l := by
  unfold itemsKV updI
  rw [List.map_map]
  apply List.map_congr_left
  intro x _
  simp only [Function.comp_apply]
  split <;> rfl
theorem key_idx {l : List Itm} (hn : (l.map (·.1)).Nodup) {i j : Nat} {x y : Itm} (hi : l[i]? = some x) (hj : l[j]? = some y) (h : x.1 = y.1) : i = j := by
  have h1 : (l.map (·.1))[i]? = some x.1 := by simp [hi]
  have h2 : (l.map (·.1))[j]? = some x.1 := by simp [hj, h]
  have l1 := lt_of_get h1
  have l2 := lt_of_get h2
  rw [List.getElem?_eq_getElem l1] at h1
  rw [List.getElem?_eq_getElem l2] at h2
  exact (List.getElem_inj hn).1 (Option.some.inj (h1.trans h2.symm))
theorem updI_set {l : List Itm} (hn : (l.map (·.1)).Nodup) {j : Nat} {x : Itm} (hj : l[j]? = some x) (t : It) : l.set j (x.1, x.2.1, t) = updI l x.1 t := by
  apply List.ext_getElem?
  intro q
  unfold updI
  rw [List.getElem?_set, List.getElem?_map]
  by_cases e : j = q
  · subst e; rw [if_pos rfl, if_pos (lt_of_get hj), hj]; simp
  · rw [if_neg e]
    cases hq : l[q]? with
    | none => rfl
    | some y =>
      have : ¬ y.1 = x.1 := fun h => e (key_idx hn hj hq h.symm)
      simp [this]
theorem erase_without {l : List Itm} (hn : (l.map (·.1)).Nodup) : ∀ {j : Nat} {x : Itm}, l[j]? = some x → l.eraseIdx j = without l x.1 := by
  induction l with
  | nil => intro j x h; simp at h
  | cons y l ih =>
    intro j x h
    simp only [List.map_cons, List.nodup_cons] at hn
    cases j with
    | zero =>
      simp at h; subst h
      unfold without
      rw [List.filter_cons_of_neg (by simp)]
      symm
      simp only [List.eraseIdx_cons_zero]
      apply List.filter_eq_self.2
      intro z hz
      have : z.1 ≠ y.1 := fun e => hn.1 (by rw [← e]; exact List.mem_map_of_mem hz)
      simpa using this
    | succ j =>
      simp only [List.getElem?_cons_succ] at h
      have hne : y.1 ≠ x.1 := fun e => hn.1 (by rw [e]; exact List.mem_map_of_mem (List.mem_of_getElem? h))
      simp only [List.eraseIdx_cons_succ]
      rw [ih hn.2 h]
      unfold without
      rw [List.filter_cons_of_pos (by simpa using hne)]
theorem Sat.itOpen {w0 w : World} {G : List Asn} {l : List Itm} {k : Int} {x : Itm} (hn : (l.map (·.1)).Nodup) (hx : getX l k = some x) (hS : Sat w0 w (itemsA l :: G)) : Sat w0 w (itemA x.2.1 x.2.2 :: itemsA (without l k) :: G) := by
  obtain ⟨hm, rfl⟩ := getX_some hx
  obtain ⟨j, hj⟩ := List.getElem?_of_mem hm
  have := Sat.focus (F := itA) hS j hj
  rwa [erase_without hn hj] at this
theorem Sat.itClose {w0 w : World} {G : List Asn} {l : List Itm} {k : Int} {x : Itm} {t : It} (hn : (l.map (·.1)).Nodup) (hx : getX l k = some x) (hS : Sat w0 w (itemA x.2.1 t :: itemsA (without l k) :: G)) : Sat w0 w (itemsA (updI l k t) :: G) := by
  obtain ⟨hm, rfl⟩ := getX_some hx
  obtain ⟨j, hj⟩ := List.getElem?_of_mem hm
  rw [← erase_without hn hj] at hS
  have := Sat.unfocus (F := itA) (x' := (x.1, x.2.1, t)) hS (lt_of_get hj)
  rwa [updI_set hn hj] at this
theorem Sat.itSame {w0 w : World} {G : List Asn} {l : List Itm} {k : Int} {x : Itm} (hn : (l.map (·.1)).Nodup) (hx : getX l k = some x) (hS : Sat w0 w (itemA x.2.1 x.2.2 :: itemsA (without l k) :: G)) : Sat w0 w (itemsA l :: G) := by
  obtain ⟨hm, rfl⟩ := getX_some hx
  obtain ⟨j, hj⟩ := List.getElem?_of_mem hm
  rw [← erase_without hn hj] at hS
  exact Sat.refocus (F := itA) hS hj
/-- The keys of the map are unlike. -/
theorem Sat.modKeys {w0 w : World} {L : List Asn} {l : List Itm} {i ib : Nat} (hS : Sat w0 w L) (hi : L[i]? = some (mapA encI ib (itemsKV l))) : (l.map (·.1)).Nodup := by
  have := Sat.mapNodup hS hi
  rwa [kv_keys] at this
/-- The item of a number, by its pointer. -/
theorem rd_item {P : Program} {w0 : World} {L : List Asn} {n : Nat} {f : Nat → Value} {tb : Tab} (ok : TabOk P tb) {l : List Itm} {k : Int} {x : Itm} (hx : getX l k = some x) {t kt et : TypeId} {a y : Operand} {ib i : Nat} (ht : tb.u t = some (.map kt et)) (hk : tb.u kt = some (.int .i64)) (hz : tb.zero et = some (.pointer none)) (ha : ev n f a = .map (some ib)) (hy : ev n f y = vi k) (hi : L[i]? = some (mapA encI ib (itemsKV l))) :
    Rd P w0 L n f (.lookup t a y false) (ptr x.2.1) := by
  have h := rd_lookup (w0 := w0) ok keyOk_int ht hk hz ha hy hi
  rw [mget_kv, hx] at h
  exact h
/-- A model whose item of one number is taken out. -/
def modK (p : Nat) (m : Mod) (k : Int) : Asn := fun h => ∃ ib tv, grp [pt p (.cells (modC m.lay ib m.d tv) 58), mapA encI ib (itemsKV m.items), itemsA (without m.items k), descsA m.d, toldA tv m.told] h
theorem Sat.keysM {w0 w : World} {G : List Asn} {p : Nat} {m : Mod} (hS : Sat w0 w (modA p m :: G)) : (m.items.map (·.1)).Nodup := by
  obtain ⟨ib, tv, hS⟩ := Sat.modOpen hS
  exact Sat.modKeys hS (i := 1) rfl
theorem Sat.itTake {w0 w : World} {G : List Asn} {p : Nat} {m : Mod} {k : Int} {x : Itm} (hx : getX m.items k = some x) (hS : Sat w0 w (modA p m :: G)) : Sat w0 w (itemA x.2.1 x.2.2 :: modK p m k :: G) := by
  have hn := Sat.keysM hS
  obtain ⟨ib, tv, hS⟩ := Sat.modOpen hS
  have hS := (Sat.itOpen hn hx (hS.bring 2 rfl)).bring 1 rfl
  have hS := hS.back 3 rfl
  exact Sat.closeAt [_] [_, _, _, _, _] hS fun _ hg => ⟨ib, tv, hg⟩
theorem Sat.itGive {w0 w : World} {G : List Asn} {p : Nat} {m : Mod} {k : Int} {x : Itm} {t : It} (hn : (m.items.map (·.1)).Nodup) (hx : getX m.items k = some x) (hS : Sat w0 w (itemA x.2.1 t :: modK p m k :: G)) : Sat w0 w (modA p (updM m k t) :: G) := by
  have hS := hS.bring 1 rfl
  obtain ⟨ib, hS⟩ := Sat.exH (F := fun ib g => ∃ tv, grp [pt p (.cells (modC m.lay ib m.d tv) 58), mapA encI ib (itemsKV m.items), itemsA (without m.items k), descsA m.d, toldA tv m.told] g) hS
  obtain ⟨tv, hS⟩ := Sat.exH (F := fun tv g => grp [pt p (.cells (modC m.lay ib m.d tv) 58), mapA encI ib (itemsKV m.items), itemsA (without m.items k), descsA m.d, toldA tv m.told] g) hS
  have hS := hS.openH [_, _, _, _, _] fun _ hg => hg
  have hS := hS.bring 2 rfl
  have hS := Sat.itClose hn hx (hS.bring 5 rfl)
  have hS := hS.back 2 rfl
  rw [← updI_kv m.items k t] at hS
  exact Sat.modClose (m := updM m k t) hS
theorem updI_self {l : List Itm} (hn : (l.map (·.1)).Nodup) {k : Int} {x : Itm} (hx : getX l k = some x) : updI l k x.2.2 = l := by
  obtain ⟨hm, rfl⟩ := getX_some hx
  obtain ⟨j, hj⟩ := List.getElem?_of_mem hm
  rw [← updI_set hn hj]
  apply List.ext_getElem?; intro q
  rw [List.getElem?_set]
  by_cases h : j = q
  · subst h; rw [if_pos rfl, if_pos (lt_of_get hj), hj]
  · rw [if_neg h]
theorem Sat.itBack {w0 w : World} {G : List Asn} {p : Nat} {m : Mod} {k : Int} {x : Itm} (hn : (m.items.map (·.1)).Nodup) (hx : getX m.items k = some x) (hS : Sat w0 w (itemA x.2.1 x.2.2 :: modK p m k :: G)) : Sat w0 w (modA p m :: G) := by
  have := Sat.itGive hn hx hS
  unfold updM at this
  rwa [updI_self hn hx] at this
end Go.Proofs.YtllomopjoomdiaaGreat
end

section
namespace Go.Proofs.YtllomopjoomdiaaGreat
open Go.SL
def putOf (t : It) (slot : Int) (e : Int × ByteArray) : It := if slot = t.slots.length then { t with slots := t.slots ++ [e], size := t.size + 16 } else { t with slots := t.slots.set slot.toNat e }
theorem spliceL_set (s : List (Int × ByteArray)) : ∀ (j : Nat), j < s.length → ∀ e, spliceL (slotsC s) (j * 2) (entC e) = slotsC (s.set j e) := by
  induction s with
  | nil => intro j h; simp at h
  | cons a s ih =>
    intro j h e
    cases j with
    | zero => simp [spliceL, slotsC, entC]
    | succ j =>
      have h1 := ih j (by simpa using h) e
      unfold spliceL at h1 ⊢
      have h2 : slotsC (a :: s) = entC a ++ slotsC s := rfl
      rw [h2, show (j + 1) * 2 = 2 + j * 2 by omega, List.set_cons_succ, show slotsC (a :: s.set j e) = entC a ++ slotsC (s.set j e) from rfl, ← h1]
      simp only [entC, List.cons_append, List.nil_append]
      rw [show 2 + j * 2 = j * 2 + 1 + 1 by omega]
      simp only [List.take_succ_cons, List.length_cons, List.length_nil, List.cons_append]
      rw [show j * 2 + 1 + 1 + (0 + 1 + 1) = (j * 2 + (0 + 1 + 1)) + 1 + 1 by omega]
      simp only [List.drop_succ_cons]
theorem put_spec {w0 w : World} {G : List Asn} {b : Nat} {t : It} {slot : Int} {e : Int × ByteArray} (hs : t.slots.length ≤ 1099511627776) (hz : 0 ≤ t.size ∧ t.size ≤ 1099511627776) (h0 : 0 ≤ slot ∧ slot ≤ t.slots.length) (hS : Sat w0 w (itemA b t :: G)) :
    CR Tryz.prog 109 [ptr b, vi slot, .agg (entC e).toArray] w fun v w' => v = .tuple #[] ∧ Sat w0 w' (itemA b (putOf t slot e) :: G) := by
  refine calls_enter Tryz.func109 rfl rfl rfl ?_
  obtain ⟨dm, sv, hS⟩ := Sat.itemOpen hS
  obtain ⟨hlen, a, cap, rfl, hcap, ha⟩ := Sat.rowForm hS (i := 2) rfl
  (repeat (first | refine c_seq ?_ | refine c_region ?_))
  refine o_box hS rfl (fun b2 w hS => ?_)
  (repeat (first | (apply o_ptr ok; rfl; · conv => { lhs; whnf }) | (apply o_pure ok; · conv => { lhs; whnf; arg 1; whnf }) | refine c_seq ?_ | refine c_region ?_ | refine o_nil ?_ | refine q_then ?_ | (apply o_rd hS; apply rd_load ok (i := 1); rfl; rfl; rfl; rfl; · conv => { lhs; whnf; arg 1; whnf })))
  refine c_cond_d rfl (fun h1 => ?_) (fun h1 => ?_)
  · have hS : Sat w0 w (pt b2 (.cells (entC e).toArray 142) :: pt b (.cells (itemC t dm (.slice a t.slots.length cap)) 135) :: dataA t.kind dm t.data :: slotsA (.slice a t.slots.length cap) t.slots :: G) := hS
    have hS := hS.bring 3 rfl
    (repeat (first | refine c_seq ?_))
    refine region_c (L := _ :: _ :: _ :: G) 8 [6, 7] [_] mixed (by kernel_rfl) hS ?_
    (repeat (first | (apply r_ptr ok rfl; rfl; · conv => { lhs; whnf }) | (apply r_rd rfl; apply rd_load ok (i := 1); rfl; rfl; rfl; rfl; · conv => { lhs; whnf; arg 1; whnf })))
    refine r_rd rfl (rd_loadA (m := 2) ok rfl rfl rfl rfl (i := 0) rfl (Nat.le_of_ble_eq_true rfl)) ?_
    refine r_chain undef rfl rfl ?_
    refine r_chain undef rfl rfl ?_
    (repeat (first | refine r_nil ?_))
    refine ch_step rfl rfl (fun G2 w hS => ?_)
    refine o_buildS ok (vs := [.agg (entC e).toArray]) hS rfl rfl rfl rfl rfl rfl rfl rfl rfl (fun b3 w hS => ?_)
    refine o_nil ⟨rfl, [_, _], hS, ?_⟩
    refine ch_step rfl rfl (fun G2 w hS => ?_)
    refine o_append ok hS rfl rfl rfl rfl rfl rfl rfl (i := 1) rfl (hS.ptSrc0 (i := 0) rfl) rfl rfl (by omega) (by omega) (fun v' w hS => ?_)
    refine o_nil ⟨rfl, [_, _], hS, ch_nil ?_⟩
    intro w hS
    (repeat (first | (apply o_ptr ok; rfl; · conv => { lhs; whnf })))
    obtain ⟨hl2, a2, c2, rfl, _, _⟩ := Sat.rowForm hS (i := 1) rfl
    (apply o_store ok hS (i := 3); rfl; (conv => { lhs; whnf }); rfl; rfl; rfl; rfl; intro w hS)
    (repeat (first | (apply o_add; rfl; rfl; omega) | (apply o_ptr ok; rfl; · conv => { lhs; whnf }) | refine c_seq ?_ | refine c_region ?_ | refine o_nil ?_ | refine q_then ?_ | (apply o_rd hS; apply rd_load ok (i := 3); rfl; rfl; rfl; rfl; · conv => { lhs; whnf; arg 1; whnf })))
    (apply o_store ok hS (i := 3); rfl; (conv => { lhs; whnf }); rfl; rfl; rfl; rfl; intro w hS)
    (repeat (first | refine c_ret ?_ | refine o_nil ?_ | refine q_then ?_ | refine q_then_r ?_))
    refine out0 rfl ⟨rfl, ?_⟩
    have hp : putOf t slot e = { t with slots := t.slots ++ [e], size := t.size + 16 } := by unfold putOf; rw [if_pos h1]
    have hS : Sat w0 w (_ :: rowA 142 2 (.slice a2 (t.slots.length + 1) c2) (t.slots.length + 1) (slotsC t.slots ++ entC e) :: _ :: pt b (.cells (itemC { t with slots := t.slots ++ [e], size := t.size + 16 } dm (.slice a2 (t.slots.length + 1) c2)) 135) :: dataA t.kind dm t.data :: G) := hS
    have hS := (hS.tail.bring 1 rfl).tail
    have hS := hS.back 2 rfl
    have hl3 : slotsC t.slots ++ entC e = slotsC (t.slots ++ [e]) := by simp [slotsC]
    have hl4 : t.slots.length + 1 = (t.slots ++ [e]).length := by simp
    rw [hl3, hl4] at hS
    rw [hp]
    exact Sat.itemClose hS
  · have hlt : slot.toNat < t.slots.length := by omega
    obtain ⟨b3, rfl⟩ := ha (by omega)
    (repeat (first | refine c_skip ?_ | refine q_then ?_))
    refine region_q 7 mixed (by kernel_rfl) hS ?_
    (repeat (first | (apply r_ptr ok rfl; rfl; · conv => { lhs; whnf }) | (apply r_pure ok rfl; · conv => { lhs; whnf; arg 1; whnf }) | (apply r_rd rfl; apply rd_load ok (i := 1); rfl; rfl; rfl; rfl; · conv => { lhs; whnf; arg 1; whnf }) | refine r_rd rfl (rd_loadW ok (i := 0) rfl rfl rfl rfl rfl rfl) ?_))
    apply r_rd rfl (rd_indexAddr ok rfl rfl rfl rfl (by omega))
    (repeat (first | refine r_nil ?_))
    intro w hS
    have hcl := flatMap_len entC 2 entC_len t.slots
    refine o_storeAR (q := 0 + slot.toNat * 2) (vs := (entC e).toArray) ok hS rfl rfl rfl (i := 3) rfl rfl rfl rfl (by unfold slotsC; rw [hcl]; omega) (fun w hS => ?_)
    (repeat (first | refine o_nil ?_))
    refine end0 rfl ⟨rfl, ?_⟩
    have hp : putOf t slot e = { t with slots := t.slots.set slot.toNat e } := by unfold putOf; rw [if_neg h1]
    rw [Nat.zero_add, spliceL_set _ _ hlt] at hS
    have hS : Sat w0 w (_ :: pt b (.cells (itemC t dm (.slice (some ⟨b3, 0, none⟩) t.slots.length cap)) 135) :: dataA t.kind dm t.data :: rowA 142 2 (.slice (some ⟨b3, 0, none⟩) t.slots.length cap) t.slots.length (slotsC (t.slots.set slot.toNat e)) :: G) := hS
    rw [hp]
    have hl4 : t.slots.length = (t.slots.set slot.toNat e).length := by simp
    have hS := hS.tail
    refine Sat.itemClose (dm := dm) (sv := .slice (some ⟨b3, 0, none⟩) t.slots.length cap) ?_
    unfold slotsA
    rw [← hl4]
    exact hS
end Go.Proofs.YtllomopjoomdiaaGreat
end

section
namespace Go.Proofs.YtllomopjoomdiaaGreat
open Go.SL
def freeSlot : List (Int × ByteArray) → Int → Option Int
  | [], _ => none
  | e :: r, i => if e.1 = 0 then some i else freeSlot r (i + 1)
def totR (n : Int) : Int := totalOf (rangeI (blocksOf n))
/-- The slot that a new entry takes, and how many blocks it needs, or what is wrong. -/
def spotOf (t : It) : Int × Int × Int := match freeSlot t.slots 0 with
  | some i => (i, 0, 0)
  | none => if 67381248 ≤ t.size then (0, 0, 17) else (t.slots.length, totR (t.size + 16) - usedOf t, 0)
def longer (t : It) : It := ⟨2, 0, t.size + 16, [], []⟩
theorem usedOf_longer (t : It) : usedOf (longer t) = totR (t.size + 16) := rfl
theorem spot_spec {w0 w : World} {G : List Asn} {p : Nat} {m : Mod} {k : Int} {x : Itm} (hf : Fine m) (hx : getX m.items k = some x) (hsz : 0 ≤ x.2.2.size) (hS : Sat w0 w (modA p m :: G)) : CR Tryz.prog 161 [ptr p, vi k] w fun v w' => v = .tuple #[vi (spotOf x.2.2).1, vi (spotOf x.2.2).2.1, vi (spotOf x.2.2).2.2] ∧ Sat w0 w' (modA p m :: G) := by
  have hm := (getX_some hx).1
  have hsm := hf.small x hm
  have hso := hf.slots x hm
  refine calls_enter Tryz.func161 rfl rfl rfl ?_
  obtain ⟨ib, tv, hS⟩ := Sat.modOpen hS
  have hn := Sat.modKeys hS (i := 1) rfl
  (repeat (first | (apply o_ptr ok; rfl; · conv => { lhs; whnf }) | (apply o_pure ok; · conv => { lhs; whnf; arg 1; whnf }) | refine c_seq ?_ | refine c_region ?_ | refine o_nil ?_ | refine q_then ?_ | (apply o_rd hS; apply rd_load ok (i := 0); rfl; rfl; rfl; rfl; · conv => { lhs; whnf; arg 1; whnf })))
  refine o_rd (v := ptr x.2.1) hS (rd_item ok hx rfl rfl rfl rfl rfl (i := 1) rfl) ?_
  have hS := Sat.itOpen hn hx (hS.bring 2 rfl)
  obtain ⟨dm, sv, hS⟩ := Sat.itemOpen hS
  obtain ⟨hlen, a, cap, rfl, _, ha⟩ := Sat.rowForm hS (i := 2) rfl
  have hlm := hso.1
  (repeat (first | (apply o_ptr ok; rfl; · conv => { lhs; whnf }) | (apply o_pure ok; · conv => { lhs; whnf; arg 1; whnf }) | refine c_seq ?_ | refine c_region ?_ | refine c_block ?_ | refine o_nil ?_ | refine q_then ?_ | (apply o_rd hS; apply rd_load ok (i := 0); rfl; rfl; rfl; rfl; · conv => { lhs; whnf; arg 1; whnf })))
  have fin : ∀ {w : World}, Sat w0 w (pt x.2.1 (.cells (itemC x.2.2 dm (.slice a x.2.2.slots.length cap)) 135) :: dataA x.2.2.kind dm x.2.2.data :: slotsA (.slice a x.2.2.slots.length cap) x.2.2.slots :: itemsA (without m.items k) :: pt p (.cells (modC m.lay ib m.d tv) 58) :: mapA encI ib (itemsKV m.items) :: descsA m.d :: toldA tv m.told :: G) → Sat w0 w (modA p m :: G) := fun hS =>
    Sat.modClose ((Sat.itSame hn hx (Sat.itemClose hS)).back 2 rfl)
  refine c_loop (fun k' g w => ∃ (j : Nat) (jk : Nat → Value), j + k' = x.2.2.slots.length ∧ freeSlot x.2.2.slots 0 = freeSlot (x.2.2.slots.drop j) j ∧
    g = updL [(20, .slice a x.2.2.slots.length cap), (21, vi x.2.2.slots.length), (22, vi j), (7, ptr x.2.1)] jk ∧
    Sat w0 w (pt x.2.1 (.cells (itemC x.2.2 dm (.slice a x.2.2.slots.length cap)) 135) :: dataA x.2.2.kind dm x.2.2.data :: slotsA (.slice a x.2.2.slots.length cap) x.2.2.slots :: itemsA (without m.items k) :: pt p (.cells (modC m.lay ib m.d tv) 58) :: mapA encI ib (itemsKV m.items) :: descsA m.d :: toldA tv m.told :: G)) x.2.2.slots.length
    ⟨0, _, by omega, rfl, updL_self _ _ ⟨rfl, rfl, rfl, rfl, trivial⟩, hS⟩ ?_
  rintro k' g w ⟨j, jk, hjk, hs2, rfl, hS⟩
  (repeat (first | (apply o_pure ok; · conv => { lhs; whnf; arg 1; whnf }) | refine c_seq ?_ | refine c_region ?_ | refine o_nil ?_ | refine q_then ?_))
  refine c_cond_d rfl (fun h1 => ?_) (fun h1 => ?_)
  · have hj : j < x.2.2.slots.length := by omega
    obtain ⟨b2, rfl⟩ := ha (by omega)
    have hge : x.2.2.slots[j]? = some x.2.2.slots[j] := List.getElem?_eq_getElem hj
    have hdr : x.2.2.slots.drop j = x.2.2.slots[j] :: x.2.2.slots.drop (j + 1) := List.drop_eq_getElem_cons hj
    rw [hdr] at hs2
    have hs2 := hs2.trans (show freeSlot (_ :: _) _ = if _ then some _ else freeSlot _ _ from rfl)
    have hck := flatMap_two entC 2 entC_len x.2.2.slots j _ hge
    have hcl := flatMap_len entC 2 entC_len x.2.2.slots
    generalize x.2.2.slots[j] = e at hs2 hck
    (repeat (first | (apply o_pure ok; · conv => { lhs; whnf; arg 1; whnf }) | refine c_seq ?_ | refine c_region ?_ | refine c_block ?_ | refine c_skip ?_ | refine q_then ?_))
    apply o_rd hS (rd_indexAddr ok rfl rfl rfl rfl (by omega))
    apply o_rd hS (rd_loadAR (vs := entC e) ok rfl rfl rfl rfl (i := 2) rfl rfl (by unfold slotsC; rw [hcl]; simp; omega) (by unfold slotsC; simpa using hck))
    (repeat (first | (apply o_ptr ok; rfl; · conv => { lhs; whnf }) | (apply o_pure ok; · conv => { lhs; whnf; arg 1; whnf }) | refine c_seq ?_ | refine c_region ?_ | refine o_nil ?_ | refine q_then ?_ | (apply o_rd hS; apply rd_load ok (i := 0); rfl; rfl; rfl; rfl; · conv => { lhs; whnf; arg 1; whnf }) | refine o_alloc ok hS rfl (fun bx w hS => ?_) | (refine o_storeW ok hS rfl rfl rfl (i := 0) rfl rfl rfl rfl (fun w hS => ?_))))
    refine c_cond_d rfl (fun h3 => ?_) (fun h3 => ?_)
    · rw [if_pos h3] at hs2
      (repeat (first | (apply o_pure ok; · conv => { lhs; whnf; arg 1; whnf }) | refine c_seq ?_ | refine c_region ?_ | refine c_ret ?_ | refine o_nil ?_ | refine q_then ?_ | refine q_then_r ?_ | refine q_blk_r ?_))
      refine out3 rfl ⟨by unfold spotOf; rw [hs2]; rfl, fin hS.tail⟩
    · rw [if_neg h3] at hs2
      (repeat (first | (apply o_add; rfl; rfl; omega) | (apply o_pure ok; · conv => { lhs; whnf; arg 1; whnf }) | refine c_region ?_ | refine c_skip ?_ | refine o_nil ?_ | refine q_then ?_ | refine q_blk_n ?_))
      exact ⟨k' - 1, by omega, j + 1, _, by omega, hs2, updL_self _ _ ⟨rfl, rfl, rfl, rfl, trivial⟩, hS.tail⟩
  · have hj : j = x.2.2.slots.length := by omega
    rw [hj, List.drop_length] at hs2
    have hs2 : freeSlot x.2.2.slots 0 = none := hs2
    (repeat (first | (apply o_ptr ok; rfl; · conv => { lhs; whnf }) | (apply o_pure ok; · conv => { lhs; whnf; arg 1; whnf }) | refine c_seq ?_ | refine c_region ?_ | refine c_exit ?_ | refine o_nil ?_ | refine q_then ?_ | refine q_then_e ?_ | refine q_blk_e ?_ | (apply o_rd hS; apply rd_load ok (i := 0); rfl; rfl; rfl; rfl; · conv => { lhs; whnf; arg 1; whnf })))
    refine c_cond_d rfl (fun h4 => ?_) (fun h4 => ?_)
    · (repeat (first | (apply o_pure ok; · conv => { lhs; whnf; arg 1; whnf }) | refine c_seq ?_ | refine c_region ?_ | refine c_ret ?_ | refine o_nil ?_ | refine q_then ?_ | refine q_then_r ?_))
      exact out3 rfl ⟨by unfold spotOf; rw [hs2, if_pos h4]; rfl, fin hS⟩
    · have hl1 : 0 ≤ x.2.2.size ∧ x.2.2.size < 67381248 := ⟨hsz, by omega⟩
      (repeat (first | (apply o_add; rfl; rfl; omega) | (apply o_ptr ok; rfl; · conv => { lhs; whnf }) | refine c_seq ?_ | refine c_region ?_ | refine c_skip ?_ | refine q_then ?_ | (apply o_rd hS; apply rd_build1 ok; rfl; rfl; rfl; rfl) | (apply o_rd hS; apply rd_load ok (i := 0); rfl; rfl; rfl; rfl; · conv => { lhs; whnf; arg 1; whnf })))
      refine o_box hS rfl (fun b43 w hS => ?_)
      have hS : Sat w0 w (pt b43 (.cells (itemC (longer x.2.2) (.map none) (.slice none 0 0)) 135) :: pt x.2.1 (.cells (itemC x.2.2 dm (.slice a x.2.2.slots.length cap)) 135) :: dataA x.2.2.kind dm x.2.2.data :: slotsA (.slice a x.2.2.slots.length cap) x.2.2.slots :: itemsA (without m.items k) :: pt p (.cells (modC m.lay ib m.d tv) 58) :: mapA encI ib (itemsKV m.items) :: descsA m.d :: toldA tv m.told :: G) := hS
      have hS := Sat.closeAt [_] [] hS (C := slotsA (.slice none 0 0) (longer x.2.2).slots) (fun g _ => rowA_nil _ _ g)
      have hS := Sat.closeAt [_] [] hS (C := dataA (longer x.2.2).kind (.map none) (longer x.2.2).data) (fun g _ => .inl ⟨rfl, rfl, rfl⟩)
      have hS := Sat.itemCloseP hS
      have hS := Sat.itemCloseP1 hS
      (repeat (first | (apply o_ptr ok; rfl; · conv => { lhs; whnf }) | refine c_seq ?_ | refine o_nil ?_ | refine q_then ?_))
      refine region_c (L := _ :: _ :: _ :: _ :: _ :: _ :: _ :: G) 13 [6, 7, 9, 10, 11] [] mixed (by kernel_rfl) hS ?_
      (repeat (first | (apply r_ptr ok rfl; rfl; · conv => { lhs; whnf })))
      apply r_rd rfl (rd_loadP ok (i := 1) rfl rfl rfl rfl rfl)
      (repeat (first | (apply r_ptr ok rfl; rfl; · conv => { lhs; whnf }) | (apply r_pure ok rfl; · conv => { lhs; whnf; arg 1; whnf })))
      refine r_chain undef rfl rfl ?_
      refine r_chain undef rfl rfl ?_
      (repeat (first | (apply r_ptr ok rfl; rfl; · conv => { lhs; whnf })))
      refine r_chain undef rfl rfl ?_
      refine r_chain undef rfl rfl ?_
      refine r_chain undef rfl rfl ?_
      (repeat (first | (apply r_pure ok rfl; · conv => { lhs; whnf; arg 1; whnf }) | refine r_nil ?_))
      have hsl : SmallIt (longer x.2.2) := ⟨by show x.2.2.size + 16 ≤ _; omega, by show (0 : Nat) ≤ _; omega⟩
      refine ch_step rfl rfl (fun G2 w hS => ?_)
      refine o_call ok rfl rfl (indicesP_spec hsl hS) (fun v w h => ?_)
      obtain ⟨l1, hl1, hS⟩ := h
      refine o_nil ⟨rfl, [_], hS, ?_⟩
      refine ch_step rfl rfl (fun G2 w hS => ?_)
      refine o_call ok rfl rfl (total_spec l1 (hl1.len hsl) hS) (fun v w h => ?_)
      obtain ⟨rfl, hS⟩ := h
      refine o_nil ⟨rfl, [_], hS, ?_⟩
      refine ch_step rfl rfl (fun G2 w hS => ?_)
      refine o_call ok rfl rfl (indicesP_spec hsm (hS.bring 2 rfl)) (fun v w h => ?_)
      obtain ⟨l2, hl2, hS⟩ := h
      have hS := (hS.bring 1 rfl).back 3 rfl
      refine o_nil ⟨rfl, [_, _], hS, ?_⟩
      refine ch_step rfl rfl (fun G2 w hS => ?_)
      refine o_call ok rfl rfl (total_spec l2 (hl2.len hsm) hS) (fun v w h => ?_)
      obtain ⟨rfl, hS⟩ := h
      refine o_nil ⟨rfl, [_, _], hS, ?_⟩
      have hb1 := totalOf_le l1
      have hb2 := totalOf_le l2
      have hb3 := hl1.len hsl
      have hb4 := hl2.len hsm
      refine ch_step rfl rfl (fun G2 w hS => ?_)
      apply o_sub; rfl; rfl; omega
      refine o_nil ⟨rfl, [_, _], hS, ch_nil ?_⟩
      intro w hS
      (repeat (first | (apply o_pure ok; · conv => { lhs; whnf; arg 1; whnf }) | refine c_ret ?_ | refine o_nil ?_ | refine q_then ?_))
      refine out3 rfl ⟨?_, ?_⟩
      · unfold spotOf
        rw [hs2, if_neg h4]
        show Value.tuple #[vi _, vi (totalOf l1 - totalOf l2), vi 0] = Value.tuple #[vi _, vi (totR (x.2.2.size + 16) - usedOf x.2.2), vi 0]
        rw [hl1.total, hl2.total]; rfl
      · have hS : Sat w0 w (_ :: _ :: _ :: itemP x.2.1 x.2.2 dm (.slice a x.2.2.slots.length cap) :: itemsA (without m.items k) :: pt p (.cells (modC m.lay ib m.d tv) 58) :: mapA encI ib (itemsKV m.items) :: descsA m.d :: toldA tv m.told :: G) := hS
        exact fin (Sat.itemOpenP hS.tail.tail.tail)
end Go.Proofs.YtllomopjoomdiaaGreat
end

section
/- sort.Slice, in the form of lists of assertions. -/
namespace Go.SL
open Go.Sort

theorem Sat.grown {w0 : World} {L : List Asn} (os : Array Obj) {w : World} (hS : Sat w0 w L) : Sat w0 (Sort.grow w os) L := by
  obtain ⟨l⟩ := os
  induction l generalizing w with
  | nil => rw [grow_empty]; exact hS
  | cons o l ih =>
    have h1 := Sat.tail (hS.new o)
    have h2 := ih h1
    rw [alloc_eq_grow, grow_grow] at h2
    simpa using h2
theorem Sat.ahead {w0 w : World} {L : List Asn} (n : Nat) (hS : Sat w0 w L) : Sat w0 (Sort.ahead w n) L := ⟨⟨hS.1.os, hS.1.tape, hS.1.output, hS.1.size⟩, hS.2⟩

theorem putRow_setBlock {w : World} {b : Nat} {cs : Array Value} {T : TypeId} {fz : Nat × Nat} (hb : w.heap[b]? = some (.cells cs T fz)) (F : Array Value) : putRow id w b 0 F = Go.ChangeMaps.setBlock w b (.cells (putCells id 0 F cs) T fz) := by
  unfold putRow mapBlock Go.ChangeMaps.setBlock
  congr 1
  apply Array.ext_getElem?
  intro k
  have hlt : b < w.heap.size := by
    rcases Nat.lt_or_ge b w.heap.size with g | g
    · exact g
    · simp [Array.getElem?_eq_none g] at hb
  simp only [Array.getElem?_modify, Array.getElem?_setIfInBounds]
  by_cases e : b = k
  · subst e; rw [if_pos rfl, if_pos rfl, if_pos hlt, hb]; rfl
  · rw [if_neg e, if_neg e]

theorem take_putCells (F cs : Array Value) (h : F.size ≤ cs.size) : (putCells id 0 F cs).toList.take F.size = F.toList := by
  apply List.ext_getElem?
  intro j
  rw [List.getElem?_take]
  by_cases hj : j < F.size
  · rw [if_pos hj]
    have h1 : (putCells id 0 F cs).toList[j]? = (putCells id 0 F cs)[j]? := by simp
    have h2 : F.toList[j]? = F[j]? := by simp
    rw [h1, h2]
    simp only [putCells, Array.getElem?_mapIdx]
    rw [Array.getElem?_eq_getElem (show j < cs.size by omega), Array.getElem?_eq_getElem hj]
    simp only [Option.map_some]
    rw [if_pos ⟨by omega, by omega⟩]
    simp [hj]
  · rw [if_neg hj]
    simp; omega

theorem flatK_list {α : Type} [Inhabited α] (enc : α → List Value) (k : Nat) (hk : ∀ x, (enc x).length = k) (d : Array α) : (flatK enc k d).toList = d.toList.flatMap enc := by
  apply List.ext_getElem?
  intro t
  have hlen : (d.toList.flatMap enc).length = d.size * k := by
    have : ∀ l : List α, (l.flatMap enc).length = l.length * k := by
      intro l
      induction l with
      | nil => simp
      | cons a l ih => rw [List.flatMap_cons, List.length_append, hk, ih, List.length_cons, Nat.succ_mul, Nat.add_comm]
    rw [this]; simp
  by_cases ht : t < d.size * k
  · have k0 : 0 < k := by
      rcases Nat.eq_zero_or_pos k with h | h
      · subst h; simp at ht
      · exact h
    have h1 : (flatK enc k d).toList[t]? = some (enc d[t / k]!)[t % k]! := by
      rw [← get_flatK enc k d t ht]
      have : t < (flatK enc k d).size := by rw [size_flatK]; exact ht
      rw [Array.getElem?_toList, getElem!_pos _ t this, Array.getElem?_eq_getElem this]
    rw [h1]
    have hq : t / k < d.size := by rw [Nat.div_lt_iff_lt_mul k0]; exact ht
    have key : ∀ (l : List α) (q r : Nat) (x : α), l[q]? = some x → r < k → (l.flatMap enc)[q * k + r]? = (enc x)[r]? := by
      intro l
      induction l with
      | nil => intro q r x h; simp at h
      | cons a l ih =>
        intro q r x h hr
        cases q with
        | zero =>
          simp at h; subst h
          rw [List.flatMap_cons, Nat.zero_mul, Nat.zero_add, List.getElem?_append_left (by rw [hk]; exact hr)]
        | succ q =>
          simp only [List.getElem?_cons_succ] at h
          rw [List.flatMap_cons, List.getElem?_append_right (by rw [hk, Nat.succ_mul]; omega), hk]
          have : (q + 1) * k + r - k = q * k + r := by rw [Nat.succ_mul]; omega
          rw [this]; exact ih q r x h hr
    have hr : t % k < k := Nat.mod_lt _ k0
    have h2 := key d.toList (t / k) (t % k) d[t / k]! (by simp [hq]) hr
    have e3 : t / k * k + t % k = t := by rw [Nat.mul_comm]; exact Nat.div_add_mod t k
    rw [e3] at h2
    rw [h2]
    have : t % k < (enc d[t / k]!).length := by rw [hk]; exact hr
    simp [this]
  · rw [List.getElem?_eq_none (by rw [Array.length_toList, size_flatK]; omega), List.getElem?_eq_none (by rw [hlen]; omega)]

/-- A row's block, as it is. -/
theorem Sat.rowBlock {w0 w : World} {L : List Asn} (hS : Sat w0 w L) {i e k n g c : Nat} {xs : List Value} (hi : L[i]? = some (rowA e k (.slice (some ⟨g, 0, none⟩) n c) n xs)) :
    ∃ cur, Sat w0 w (L.set i (pt g (.cells cur e (0, 0)))) ∧ w.heap[g]? = some (.cells cur e (0, 0)) ∧ n ≤ c ∧ c ≤ maxLen ∧ cur.size = c * k ∧ cur.toList.take (n * k) = xs := by
  obtain ⟨own, H⟩ := hS.2
  obtain ⟨hl, hr⟩ := H i _ hi
  rcases hr with ⟨h1, _⟩ | ⟨g', cap, cur, hs, hg, h3, h4, h5, h6⟩
  · cases h1
  · cases hs
    exact ⟨cur, ⟨hS.1, own, fun j B hj => by
      rw [List.getElem?_set] at hj
      by_cases e2 : i = j
      · subst e2; simp only [if_true, lt_of_get hi] at hj; cases hj; exact hg
      · rw [if_neg e2] at hj; exact H j B hj⟩, (cutHp_some hg).2, h3, h4, h5, h6⟩

section
variable {α : Type} [Inhabited α] {enc : α → List Value} {k : Nat}
theorem Sat.holdsRow (hk : ∀ x, (enc x).length = k) {w0 w : World} {L : List Asn} (hS : Sat w0 w L) {i e n g c : Nat} {d : List α} (hi : L[i]? = some (rowA e k (.slice (some ⟨g, 0, none⟩) n c) n (d.flatMap enc))) (hn : d.length = n) : HoldsK enc k w g 0 d.toArray ∧ g < w.heap.size := by
  obtain ⟨cur, hS1, hb, h3, h4, h5, h6⟩ := hS.rowBlock hi
  constructor
  · intro j hj
    rw [size_flatK] at hj
    have hj2 : j < n * k := by simpa [hn] using hj
    have hj3 : j < (flatK enc k d.toArray).size := by rw [size_flatK]; exact hj
    have e1 : (flatK enc k d.toArray)[j]! = (flatK enc k d.toArray).toList[j]! := by
      rw [getElem!_pos _ j hj3, getElem!_pos _ j (by simpa using hj3)]; rfl
    have e2 := flatK_list enc k hk d.toArray
    rw [e1, e2]
    simp only [List.toList_toArray]
    rw [← h6]
    have hc : j < cur.size := by rw [h5]; exact Nat.lt_of_lt_of_le hj2 (Nat.mul_le_mul_right _ h3)
    constructor
    · unfold World.cell?
      simp only [hb, Nat.zero_add]
      simp [hc, hj2, List.getElem!_eq_getElem?_getD, List.getElem?_take]
    · unfold World.frozen?
      simp [hb]
  · rcases Nat.lt_or_ge g w.heap.size with h | h
    · exact h
    · rw [Array.getElem?_eq_none h] at hb; cases hb

theorem Sat.ofSort (hk : ∀ x, (enc x).length = k) {w0 w : World} {L : List Asn} (hS : Sat w0 w L) {i e n g c q : Nat} {xs : List Value} {d : Array α} {os : Array Obj} (hi : L[i]? = some (rowA e k (.slice (some ⟨g, 0, none⟩) n c) n xs)) (hn : d.size = n) :
    Sat w0 (Sort.grow (putRowK enc k (Sort.ahead w q) g 0 d) os) (L.set i (rowA e k (.slice (some ⟨g, 0, none⟩) n c) n (d.toList.flatMap enc))) := by
  obtain ⟨cur, hS1, hb, h3, h4, h5, h6⟩ := hS.rowBlock hi
  refine Sat.grown os ?_
  have hil := lt_of_get hi
  unfold putRowK
  rw [putRow_setBlock (w := Sort.ahead w q) (b := g) (cs := cur) (T := e) (fz := (0, 0)) hb]
  have hS2 := Sat.setBlock (hS1.ahead q) (i := i) (b := g) (by rw [List.getElem?_set_self hil]) (.cells (putCells id 0 (flatK enc k d) cur) e (0, 0))
  rw [List.set_set] at hS2
  have hS3 := hS2.conseq (i := i) (A' := rowA e k (.slice (some ⟨g, 0, none⟩) n c) n (d.toList.flatMap enc)) (by rw [List.getElem?_set_self hil]) (fun h hg => by
    refine ⟨?_, .inr ⟨g, c, _, rfl, hg, h3, h4, ?_, ?_⟩⟩
    · rw [← flatK_list enc k hk]; simp [hn]
    · simp [putCells, h5]
    · have h7 := take_putCells (flatK enc k d) cur (by rw [size_flatK, h5, hn]; exact Nat.mul_le_mul_right _ h3)
      rw [size_flatK, hn, flatK_list enc k hk] at h7
      exact h7)
  rwa [List.set_set] at hS3
end
end Go.SL
end

section
open Go.Shelf Go.RowKit Go.Lib Go.Sort
namespace Go.Proofs
def Tryz.sv6_ren : Go.Shelf.Ren := ⟨fun | 6 => 45 | 10 => 87 | 11 => 88 | 12 => 89 | 13 => 90 | 14 => 91 | 24 => 147 | 25 => 148 | 26 => 149 | 27 => 150 | 28 => 151 | 29 => 152 | 30 => 153 | 31 => 154 | 32 => 155 | 33 => 156 | 34 => 198 | 35 => 199 | 36 => 200 | 37 => 201 | 38 => 202 | 39 => 213 | n => n, fun | 20 => 20 | 26 => 101 | 35 => 154 | 0 => 0 | 37 => 156 | 3 => 3 | 41 => 159 | 44 => 162 | 49 => 207 | 51 => 209 | 4 => 4 | 54 => 212 | 53 => 211 | 58 => 216 | 5 => 5 | 9 => 9 | 60 => 243 | 64 => 247 | 66 => 252 | 67 => 171 | 17 => 17 | 32 => 151 | 33 => 152 | 82 => 267 | 12 => 12 | 75 => 260 | 76 => 261 | 77 => 262 | 78 => 263 | 79 => 264 | 80 => 265 | n => n, fun | n => n⟩
theorem Tryz.sv6 : Go.Proofs.LaysGg.n6 Tryz.prog Tryz.sv6_ren := {
  mixed := by kernel_rfl
  f6 := Tryz.func45.trans (congrArg some (by kernel_rfl))
  f10 := Tryz.func87.trans (congrArg some (by kernel_rfl))
  f11 := Tryz.func88.trans (congrArg some (by kernel_rfl))
  f12 := Tryz.func89.trans (congrArg some (by kernel_rfl))
  f13 := Tryz.func90.trans (congrArg some (by kernel_rfl))
  f14 := Tryz.func91.trans (congrArg some (by kernel_rfl))
  f24 := Tryz.func147.trans (congrArg some (by kernel_rfl))
  f25 := Tryz.func148.trans (congrArg some (by kernel_rfl))
  f26 := Tryz.func149.trans (congrArg some (by kernel_rfl))
  f27 := Tryz.func150.trans (congrArg some (by kernel_rfl))
  f28 := Tryz.func151.trans (congrArg some (by kernel_rfl))
  f29 := Tryz.func152.trans (congrArg some (by kernel_rfl))
  f30 := Tryz.func153.trans (congrArg some (by kernel_rfl))
  f31 := Tryz.func154.trans (congrArg some (by kernel_rfl))
  f32 := Tryz.func155.trans (congrArg some (by kernel_rfl))
  f33 := Tryz.func156.trans (congrArg some (by kernel_rfl))
  f34 := Tryz.func198.trans (congrArg some (by kernel_rfl))
  f35 := Tryz.func199.trans (congrArg some (by kernel_rfl))
  f36 := Tryz.func200.trans (congrArg some (by kernel_rfl))
  f37 := Tryz.func201.trans (congrArg some (by kernel_rfl))
  f38 := Tryz.func202.trans (congrArg some (by kernel_rfl))
  f39 := Tryz.func213.trans (congrArg some (by kernel_rfl))
  t0 := Tryz.underlying0
  a0 := Tryz.isAgg0
  z0 := Tryz.sizeOf0
  v0 := Tryz.zeroValue0
  i0 := by kernel_rfl
  t3 := Tryz.underlying3
  a3 := Tryz.isAgg3
  z3 := Tryz.sizeOf3
  v3 := Tryz.zeroValue3
  i3 := by kernel_rfl
  t4 := Tryz.underlying4
  a4 := Tryz.isAgg4
  z4 := Tryz.sizeOf4
  v4 := Tryz.zeroValue4
  i4 := by kernel_rfl
  t5 := Tryz.underlying5
  a5 := Tryz.isAgg5
  z5 := Tryz.sizeOf5
  v5 := Tryz.zeroValue5
  i5 := by kernel_rfl
  t9 := Tryz.underlying9
  a9 := Tryz.isAgg9
  z9 := Tryz.sizeOf9
  v9 := Tryz.zeroValue9
  i9 := by kernel_rfl
  t12 := Tryz.underlying12
  a12 := Tryz.isAgg12
  z12 := Tryz.sizeOf12
  v12 := Tryz.zeroValue12
  i12 := by kernel_rfl
  t17 := Tryz.underlying17
  a17 := Tryz.isAgg17
  z17 := Tryz.sizeOf17
  v17 := Tryz.zeroValue17
  i17 := by kernel_rfl
  t20 := Tryz.underlying20
  a20 := Tryz.isAgg20
  z20 := Tryz.sizeOf20
  v20 := Tryz.zeroValue20
  i20 := by kernel_rfl
  t26 := Tryz.underlying101
  a26 := Tryz.isAgg101
  z26 := Tryz.sizeOf101
  v26 := Tryz.zeroValue101
  i26 := by kernel_rfl
  t32 := Tryz.underlying151
  a32 := Tryz.isAgg151
  z32 := Tryz.sizeOf151
  v32 := Tryz.zeroValue151
  i32 := by kernel_rfl
  t33 := Tryz.underlying152
  a33 := Tryz.isAgg152
  z33 := Tryz.sizeOf152
  v33 := Tryz.zeroValue152
  i33 := by kernel_rfl
  t35 := Tryz.underlying154
  a35 := Tryz.isAgg154
  z35 := Tryz.sizeOf154
  v35 := Tryz.zeroValue154
  i35 := by kernel_rfl
  t37 := Tryz.underlying156
  a37 := Tryz.isAgg156
  z37 := Tryz.sizeOf156
  v37 := Tryz.zeroValue156
  i37 := by kernel_rfl
  t41 := Tryz.underlying159
  a41 := Tryz.isAgg159
  z41 := Tryz.sizeOf159
  v41 := Tryz.zeroValue159
  i41 := by kernel_rfl
  t44 := Tryz.underlying162
  a44 := Tryz.isAgg162
  z44 := Tryz.sizeOf162
  v44 := Tryz.zeroValue162
  i44 := by kernel_rfl
  t49 := Tryz.underlying207
  a49 := Tryz.isAgg207
  z49 := Tryz.sizeOf207
  v49 := Tryz.zeroValue207
  i49 := by kernel_rfl
  t51 := Tryz.underlying209
  a51 := Tryz.isAgg209
  z51 := Tryz.sizeOf209
  v51 := Tryz.zeroValue209
  i51 := by kernel_rfl
  t53 := Tryz.underlying211
  a53 := Tryz.isAgg211
  z53 := Tryz.sizeOf211
  v53 := Tryz.zeroValue211
  i53 := by kernel_rfl
  t54 := Tryz.underlying212
  a54 := Tryz.isAgg212
  z54 := Tryz.sizeOf212
  v54 := Tryz.zeroValue212
  i54 := by kernel_rfl
  t58 := Tryz.underlying216
  a58 := Tryz.isAgg216
  z58 := Tryz.sizeOf216
  v58 := Tryz.zeroValue216
  i58 := by kernel_rfl
  t60 := Tryz.underlying243
  a60 := Tryz.isAgg243
  z60 := Tryz.sizeOf243
  v60 := Tryz.zeroValue243
  i60 := by kernel_rfl
  t64 := Tryz.underlying247
  a64 := Tryz.isAgg247
  z64 := Tryz.sizeOf247
  v64 := Tryz.zeroValue247
  i64 := by kernel_rfl
  t66 := Tryz.underlying252
  a66 := Tryz.isAgg252
  z66 := Tryz.sizeOf252
  v66 := Tryz.zeroValue252
  i66 := by kernel_rfl
  t67 := Tryz.underlying171
  a67 := Tryz.isAgg171
  z67 := Tryz.sizeOf171
  v67 := Tryz.zeroValue171
  i67 := by kernel_rfl
  t75 := Tryz.underlying260
  a75 := Tryz.isAgg260
  z75 := Tryz.sizeOf260
  v75 := Tryz.zeroValue260
  i75 := by kernel_rfl
  t76 := Tryz.underlying261
  a76 := Tryz.isAgg261
  z76 := Tryz.sizeOf261
  v76 := Tryz.zeroValue261
  i76 := by kernel_rfl
  t77 := Tryz.underlying262
  a77 := Tryz.isAgg262
  z77 := Tryz.sizeOf262
  v77 := Tryz.zeroValue262
  i77 := by kernel_rfl
  t78 := Tryz.underlying263
  a78 := Tryz.isAgg263
  z78 := Tryz.sizeOf263
  v78 := Tryz.zeroValue263
  i78 := by kernel_rfl
  t79 := Tryz.underlying264
  a79 := Tryz.isAgg264
  z79 := Tryz.sizeOf264
  v79 := Tryz.zeroValue264
  i79 := by kernel_rfl
  t80 := Tryz.underlying265
  a80 := Tryz.isAgg265
  z80 := Tryz.sizeOf265
  v80 := Tryz.zeroValue265
  i80 := by kernel_rfl
  t82 := Tryz.underlying267
  a82 := Tryz.isAgg267
  z82 := Tryz.sizeOf267
  v82 := Tryz.zeroValue267
  i82 := by kernel_rfl }
end Go.Proofs
namespace Go.Proofs.YtllomopjoomdiaaGreat
open Go.SL
set_option maxHeartbeats 2000000 in
theorem less_data (blk off c Bs size : Nat) (W : World) (K : Nat → Int) (hs : W.cell? ⟨Bs, 5, none⟩ = some (.slice (some ⟨blk, off, none⟩) size c))
    (hc : ∀ t, t < size → W.cell? ⟨blk, off + t * 1025, none⟩ = some (.int .i64 (K t))) (i j : Nat) (hi : i < size) (hj : j < size) (_hsz : size < 4611686018427387904) :
    Calls Tryz.prog 86 #[.int .i64 i, .int .i64 j, .pointer (some ⟨Bs, 0, none⟩)] W fun e w' => e = .returned (.bool (decide (K i < K j))) ∧ ∃ q, w' = W.drewN q := by
  have ci := hc i hi
  have cj := hc j hj
  go_enter Tryz.func86, Tryz.ntmps86
  go_wp2
  go_quiet (fail)
  go_wp2
  go_ret
  exact ⟨rfl, nq, rfl⟩
set_option maxHeartbeats 2000000 in
theorem less_items (blk off c Bs size : Nat) (W : World) (K : Nat → Int) (hs : W.cell? ⟨Bs, 0, none⟩ = some (.slice (some ⟨blk, off, none⟩) size c))
    (hc : ∀ t, t < size → W.cell? ⟨blk, off + t * 7, none⟩ = some (.int .i64 (K t))) (i j : Nat) (hi : i < size) (hj : j < size) (_hsz : size < 4611686018427387904) :
    Calls Tryz.prog 46 #[.int .i64 i, .int .i64 j, .pointer (some ⟨Bs, 0, none⟩)] W fun e w' => e = .returned (.bool (decide (K i < K j))) ∧ ∃ q, w' = W.drewN q := by
  have ci := hc i hi
  have cj := hc j hj
  go_enter Tryz.func46, Tryz.ntmps46
  go_wp2
  go_quiet (fail)
  go_wp2
  go_ret
  exact ⟨rfl, nq, rfl⟩

/-! ### Lists that rise by a key -/
def Rises {α : Type} (key : α → Int) (l : List α) : Prop := l.Pairwise fun a b => key a ≤ key b
theorem rises_unique {α : Type} {key : α → Int} : ∀ {l l' : List α}, l.Perm l' → (l.map key).Nodup → Rises key l → Rises key l' → l = l'
  | [], l', h, _, _, _ => (List.nil_perm.1 h).symm
  | a :: l, [], h, _, _, _ => by simpa using h.length_eq
  | a :: l, b :: l', h, hn, h1, h2 => by
    have hab : a = b := by
      have ha : a ∈ b :: l' := h.mem_iff.1 List.mem_cons_self
      have hb : b ∈ a :: l := h.mem_iff.2 List.mem_cons_self
      rcases List.mem_cons.1 ha with e | ha
      · exact e
      · rcases List.mem_cons.1 hb with e | hb
        · exact e.symm
        · exfalso
          have k1 := List.rel_of_pairwise_cons h2 ha
          have k2 := List.rel_of_pairwise_cons h1 hb
          have : key a = key b := by omega
          simp only [List.map_cons, List.nodup_cons] at hn
          exact hn.1 (by rw [this]; exact List.mem_map_of_mem hb)
    subst hab
    simp only [List.map_cons, List.nodup_cons] at hn
    rw [rises_unique ((List.perm_cons a).1 h) hn.2 h1.of_cons h2.of_cons]
def insK {α : Type} (key : α → Int) (a : α) : List α → List α
  | [] => [a]
  | b :: l => if key a ≤ key b then a :: b :: l else b :: insK key a l
def sortK {α : Type} (key : α → Int) : List α → List α
  | [] => []
  | a :: l => insK key a (sortK key l)
theorem insK_perm {α : Type} (key : α → Int) (a : α) : ∀ l : List α, (insK key a l).Perm (a :: l)
  | [] => List.Perm.refl _
  | b :: l => by
    unfold insK
    split
    · exact List.Perm.refl _
    · exact ((insK_perm key a l).cons b).trans (List.Perm.swap _ _ _)
theorem sortK_perm {α : Type} (key : α → Int) : ∀ l : List α, (sortK key l).Perm l
  | [] => List.Perm.refl _
  | a :: l => (insK_perm key a _).trans ((sortK_perm key l).cons a)
theorem insK_rises {α : Type} (key : α → Int) (a : α) : ∀ l : List α, Rises key l → Rises key (insK key a l)
  | [], _ => List.pairwise_singleton _ _
  | b :: l, h => by
    unfold insK
    split
    · rename_i hab
      refine List.Pairwise.cons (fun c hc => ?_) h
      rcases List.mem_cons.1 hc with rfl | hc
      · exact hab
      · exact Int.le_trans hab (List.rel_of_pairwise_cons h hc)
    · rename_i hab
      refine List.Pairwise.cons (fun c hc => ?_) (insK_rises key a l h.of_cons)
      rcases List.mem_cons.1 ((insK_perm key a l).mem_iff.1 hc) with rfl | hc
      · omega
      · exact List.rel_of_pairwise_cons h hc
theorem sortK_rises {α : Type} (key : α → Int) : ∀ l : List α, Rises key (sortK key l)
  | [] => List.Pairwise.nil
  | a :: l => insK_rises key a _ (sortK_rises key l)
theorem sortK_eq {α : Type} {key : α → Int} {l l' : List α} (hp : l'.Perm l) (hn : (l.map key).Nodup) (hr : Rises key l') : l' = sortK key l :=
  rises_unique (hp.trans (sortK_perm key l).symm) ((hp.map key).nodup_iff.2 hn) hr (sortK_rises key l)

theorem list_of_sorted {α : Type} [Inhabited α] {key : α → Int} {d d' : Array α} (hp : PermIn 0 d.size d d') (hs : SortedIn (fun a b => decide (key a < key b)) 0 d.size d') : d'.toList.Perm d.toList ∧ Rises key d'.toList := by
  obtain ⟨h1, _, h3⟩ := hp
  have e1 : d'.extract 0 d.size = d' := by rw [← h1]; simp
  have e2 : d.extract 0 d.size = d := by simp
  rw [e1, e2] at h3
  refine ⟨h3, ?_⟩
  unfold Rises
  rw [List.pairwise_iff_getElem]
  intro i j hi hj hij
  have hi' : i < d'.size := by simpa using hi
  have hj' : j < d'.size := by simpa using hj
  have := hs i j (Nat.zero_le _) hij (by omega)
  rw [getElem!_pos d' i hi', getElem!_pos d' j hj'] at this
  have := of_decide_eq_false this
  simp only [Array.getElem_toList]
  omega
theorem swo_key {α : Type} (key : α → Int) : SWO (fun a b : α => decide (key a < key b)) where
  irrefl := fun x => by simp
  trans := fun x y z h1 h2 => by simp at *; omega
  ntrans := fun x y z h1 h2 => by simp at *; omega

/-! ### The blocks of a file, in memory -/
def padB (b : List Int) : List Int := (List.range 1024).map fun i => b.getD i 0
theorem padB_len (b : List Int) : (padB b).length = 1024 := by unfold padB; rw [List.length_map, List.length_range]
theorem padB_self {b : List Int} (h : b.length = 1024) : padB b = b := by
  apply List.ext_getElem?
  intro i
  unfold padB
  by_cases hi : i < 1024
  · rw [List.getElem?_map, List.getElem?_range hi, Option.map_some, List.getD_eq_getElem?_getD, List.getElem?_eq_getElem (show i < b.length by omega)]; rfl
  · rw [List.getElem?_eq_none (by rw [List.length_map, List.length_range]; omega), List.getElem?_eq_none (by omega)]
def encH (p : Int × List Int) : List Value := vi p.1 :: (padB p.2).map fun x => Value.int .u8 x
theorem encH_len (p : Int × List Int) : (encH p).length = 1025 := by simp [encH, padB_len]
theorem heldC_enc {d : List (Int × List Int)} (h : ∀ p ∈ d, p.2.length = 1024) : heldC d = d.flatMap encH := by
  unfold heldC
  induction d with
  | nil => rw [List.flatMap_nil, List.flatMap_nil]
  | cons p d ih =>
    rw [List.flatMap_cons, List.flatMap_cons, ih fun q hq => h q (List.mem_cons_of_mem _ hq)]
    unfold encH
    rw [padB_self (h p List.mem_cons_self)]
noncomputable def svT : TypeInfo := (Tryz.prog.info? 75).get (by kernel_rfl)
noncomputable def svE : TypeInfo := (Tryz.prog.info? 139).get (by kernel_rfl)
theorem svK (n : Nat) (h2 : 2 ≤ n) : Lib.swapperK n svE 25 = 9 := by
  have a : svE.hasPointers = false := by kernel_rfl
  have b : svE.bytes = 1032 := by kernel_rfl
  have c : (n == 0) = false := by simp; omega
  have d : (n == 1) = false := by simp; omega
  simp [Lib.swapperK, a, b, c, d]
theorem svK0 : Lib.swapperK 0 svE 25 = 1 := rfl
theorem svK1 : Lib.swapperK 1 svE 25 = 2 := rfl

theorem sort_held {w0 w : World} {L : List Asn} {i j n xb : Nat} {dv : Value} {d : List (Int × List Int)} {cs : Array Value} (hS : Sat w0 w L) (hi : L[i]? = some (rowA 139 1025 dv n (d.flatMap encH))) (hn : d.length = n) (hsz : n < 4611686018427387904)
    (hj : L[j]? = some (pt xb (.cells cs 77 (0, 0)))) (hc : cs[5]? = some dv) :
    CR Tryz.prog 45 [.iface 75 dv, .func (.func 86) #[] #[ptr xb]] w fun v w' => v = .tuple #[] ∧ ∃ d', d'.Perm d ∧ Rises (fun p : Int × List Int => p.1) d' ∧ Sat w0 w' (L.set i (rowA 139 1025 dv n (d'.flatMap encH))) := by
  obtain ⟨hlen, a, cap, rfl, hcap, ha⟩ := Sat.rowForm hS hi
  have same : L.set i (rowA 139 1025 (.slice a n cap) n (d.flatMap encH)) = L := by
    apply List.ext_getElem?; intro q
    rw [List.getElem?_set]
    by_cases hq : i = q
    · subst hq; rw [if_pos rfl, if_pos (lt_of_get hi), hi]
    · rw [if_neg hq]
  by_cases h2 : n ≤ 1
  · have hf : ∃ f, Tryz.prog.funcs.findIdx? (·.name == "internal/reflectlite" ++ ".Swapper$" ++ toString (swapperK n svE 25)) = some f := by
      rcases (show n = 0 ∨ n = 1 by omega) with rfl | rfl
      · exact ⟨138, by rw [svK0]; kernel_rfl⟩
      · exact ⟨139, by rw [svK1]; kernel_rfl⟩
    obtain ⟨f, hf⟩ := hf
    have := Any.sort_Slice_tiny Tryz.sv6 75 139 svT svE (by kernel_rfl) (by kernel_rfl) (by kernel_rfl) (by kernel_rfl) 25 (fun _ => by kernel_rfl) a n cap h2 f hf (.func 86) #[] #[ptr xb] w
    refine ⟨this.mono ?_⟩
    rintro e w' ⟨rfl, os, rfl⟩
    refine ⟨rfl, d, List.Perm.refl _, ?_, by rw [same]; exact Sat.grown os hS⟩
    match d, hn with
    | [], _ => exact List.Pairwise.nil
    | [_], _ => exact List.pairwise_singleton _ _
    | _ :: _ :: _, hn => simp at hn; omega
  · obtain ⟨g, rfl⟩ := ha (by omega)
    obtain ⟨hH, hg⟩ := Sat.holdsRow encH_len hS hi hn
    have hcell := hS.cell hj hc
    have hne : xb ≠ g := by
      intro e
      subst e
      obtain ⟨cur, hS1, _⟩ := hS.rowBlock hi
      have hij : i ≠ j := by
        rintro rfl
        rw [hi] at hj
        have h1 : rowA 139 1025 (.slice (some ⟨xb, 0, none⟩) n cap) n (d.flatMap encH) = pt xb (.cells cs 77 (0, 0)) := Option.some.inj hj
        have h2 := congrFun h1 (fun _ => some (.cells cs 77 (0, 0)))
        have h3 : pt xb (.cells cs 77 (0, 0)) (fun _ => some (.cells cs 77 (0, 0))) := rfl
        rw [← h2] at h3
        obtain ⟨_, h4 | ⟨g', cap', cur', h5, h6, _⟩⟩ := h3
        · exact absurd h4.1 (by simp)
        · simp at h6
      exact hS1.ne (i := i) (j := j) (by rw [List.getElem?_set_self (lt_of_get hi)]) (by rw [List.getElem?_set_ne hij]; exact hj) hij rfl
    have hxb : xb < w.heap.size := by
      have := hS.block hj
      rcases Nat.lt_or_ge xb w.heap.size with h | h
      · exact h
      · rw [Array.getElem?_eq_none h] at this; cases this
    subst hn
    have hds : d.toArray.size = d.length := by simp
    have hless : LessReadsK Tryz.prog 86 #[ptr xb] encH 1025 (fun a b : Int × List Int => decide (a.1 < b.1)) g 0 d.toArray.size w := by
      intro m os dk hs i j hi hj
      have e : sortWorldK encH 1025 w g 0 m dk os = putRowK encH 1025 (grow (Sort.ahead w m) os) g 0 dk := by
        unfold sortWorldK; rw [putRowK_grow _ _ (Sort.ahead w m) _ g 0 _ hg]
      have hHg : HoldsK encH 1025 (grow (Sort.ahead w m) os) g 0 d.toArray := holdsK_grow _ _ _ _ g 0 d.toArray hg (holdsK_ahead _ _ _ _ _ _ _ hH)
      refine less_data g 0 cap xb d.toArray.size _ (fun t => dk[t]!.1) ?_ (fun t ht => ?_) i j hi hj (by omega)
      · rw [e, cell?_putRowK_other _ _ _ g 0 dk _ (by exact hne), cell?_grow _ _ _ (by exact hxb), hds]; exact hcell
      · rw [e]; exact ((holdsK_putRowK _ _ _ g 0 d.toArray dk hHg hs).cell (i := t) (c := 0) (by omega) (by omega)).1
    have := Any.sort_Slice_cells_sorted Tryz.sv6 75 139 svT svE (by kernel_rfl) (by kernel_rfl) (by kernel_rfl) (by kernel_rfl) 25 (fun _ => by kernel_rfl) encH 1025 encH_len (by kernel_rfl) (fun _ => by kernel_rfl)
      (fun x v hv => by
        unfold encH at hv
        rcases List.mem_cons.1 hv with rfl | hv
        · rfl
        · obtain ⟨y, _, rfl⟩ := List.mem_map.1 hv; rfl) (fun a b : Int × List Int => decide (a.1 < b.1)) (swo_key (fun p : Int × List Int => p.1)) 86 _
      (enters_of Tryz.func86 (by kernel_rfl) rfl) g 0 cap d.toArray (by rw [hds]; omega) (by rw [hds]; omega) 146 (by rw [hds, svK _ (by omega)]; kernel_rfl) false
      (fun args W => run_callFunc_extern Tryz.func146 (by kernel_rfl) (by kernel_rfl) (by kernel_rfl) (e := Extern.ReflectliteSwapper.swap false) (by kernel_rfl) args W) w hless hH hg
    rw [hds] at this
    refine ⟨this.mono ?_⟩
    rintro e w' ⟨rfl, d', q, os, hp, hs, rfl⟩
    have hl := list_of_sorted (key := fun p : Int × List Int => p.1) (d := d.toArray) (d' := d') (by rw [hds]; exact hp) (by rw [hds]; exact hs)
    refine ⟨rfl, d'.toList, by simpa using hl.1, hl.2, ?_⟩
    have := Sat.ofSort (enc := encH) encH_len hS hi (q := q) (d := d') (os := os) (by rw [hp.1]; simp)
    exact this
end Go.Proofs.YtllomopjoomdiaaGreat
end

section
open Go.Shelf Go.RowKit Go.Lib Go.Sort
namespace Go.Proofs.YtllomopjoomdiaaGreat
open Go.SL
/-! ### The items of a state, in memory -/
abbrev Sl := Option Addr × Nat × Nat
def slV (s : Sl) : Value := .slice s.1 s.2.1 s.2.2
abbrev Jt := ItS × Sl × Sl
instance : Inhabited Jt := ⟨(⟨0, 0, 0, 0, 0, [], []⟩, (none, 0, 0), (none, 0, 0))⟩
def encJ (x : Jt) : List Value := itsC x.1 (slV x.2.1) (slV x.2.2)
theorem encJ_len (x : Jt) : (encJ x).length = 7 := rfl
noncomputable def siT : TypeInfo := (Tryz.prog.info? 44).get (by kernel_rfl)
noncomputable def siE : TypeInfo := (Tryz.prog.info? 77).get (by kernel_rfl)
theorem siK (n : Nat) (h2 : 2 ≤ n) : Lib.swapperK n siE 25 = 9 := by
  have a : siE.hasPointers = true := by kernel_rfl
  have b : siE.bytes = 88 := by kernel_rfl
  have c : (n == 0) = false := by simp; omega
  have d : (n == 1) = false := by simp; omega
  simp [Lib.swapperK, a, b, c, d]
theorem siK0 : Lib.swapperK 0 siE 25 = 1 := rfl
theorem siK1 : Lib.swapperK 1 siE 25 = 2 := rfl

theorem sort_items {w0 w : World} {L : List Asn} {i j n xb : Nat} {dv : Value} {d : List Jt} {cs : Array Value} (hS : Sat w0 w L) (hi : L[i]? = some (rowA 77 7 dv n (d.flatMap encJ))) (hn : d.length = n) (hsz : n < 4611686018427387904)
    (hj : L[j]? = some (pt xb (.cells cs 46 (0, 0)))) (hc : cs[0]? = some dv) :
    CR Tryz.prog 45 [.iface 44 dv, .func (.func 46) #[] #[ptr xb]] w fun v w' => v = .tuple #[] ∧ ∃ d', d'.Perm d ∧ Rises (fun p : Jt => p.1.inum) d' ∧ Sat w0 w' (L.set i (rowA 77 7 dv n (d'.flatMap encJ))) := by
  obtain ⟨hlen, a, cap, rfl, hcap, ha⟩ := Sat.rowForm hS hi
  have same : L.set i (rowA 77 7 (.slice a n cap) n (d.flatMap encJ)) = L := by
    apply List.ext_getElem?; intro q
    rw [List.getElem?_set]
    by_cases hq : i = q
    · subst hq; rw [if_pos rfl, if_pos (lt_of_get hi), hi]
    · rw [if_neg hq]
  by_cases h2 : n ≤ 1
  · have hf : ∃ f, Tryz.prog.funcs.findIdx? (·.name == "internal/reflectlite" ++ ".Swapper$" ++ toString (swapperK n siE 25)) = some f := by
      rcases (show n = 0 ∨ n = 1 by omega) with rfl | rfl
      · exact ⟨138, by rw [siK0]; kernel_rfl⟩
      · exact ⟨139, by rw [siK1]; kernel_rfl⟩
    obtain ⟨f, hf⟩ := hf
    have := Any.sort_Slice_tiny Tryz.sv6 44 77 siT siE (by kernel_rfl) (by kernel_rfl) (by kernel_rfl) (by kernel_rfl) 25 (fun _ => by kernel_rfl) a n cap h2 f hf (.func 46) #[] #[ptr xb] w
    refine ⟨this.mono ?_⟩
    rintro e w' ⟨rfl, os, rfl⟩
    refine ⟨rfl, d, List.Perm.refl _, ?_, by rw [same]; exact Sat.grown os hS⟩
    match d, hn with
    | [], _ => exact List.Pairwise.nil
    | [_], _ => exact List.pairwise_singleton _ _
    | _ :: _ :: _, hn => simp at hn; omega
  · obtain ⟨g, rfl⟩ := ha (by omega)
    obtain ⟨hH, hg⟩ := Sat.holdsRow encJ_len hS hi hn
    have hcell := hS.cell hj hc
    have hne : xb ≠ g := by
      intro e
      subst e
      obtain ⟨cur, hS1, _⟩ := hS.rowBlock hi
      have hij : i ≠ j := by
        rintro rfl
        rw [hi] at hj
        have h1 : rowA 77 7 (.slice (some ⟨xb, 0, none⟩) n cap) n (d.flatMap encJ) = pt xb (.cells cs 46 (0, 0)) := Option.some.inj hj
        have h2 := congrFun h1 (fun _ => some (.cells cs 46 (0, 0)))
        have h3 : pt xb (.cells cs 46 (0, 0)) (fun _ => some (.cells cs 46 (0, 0))) := rfl
        rw [← h2] at h3
        obtain ⟨_, h4 | ⟨g', cap', cur', h5, h6, _⟩⟩ := h3
        · exact absurd h4.1 (by simp)
        · simp at h6
      exact hS1.ne (i := i) (j := j) (by rw [List.getElem?_set_self (lt_of_get hi)]) (by rw [List.getElem?_set_ne hij]; exact hj) hij rfl
    have hxb : xb < w.heap.size := by
      have := hS.block hj
      rcases Nat.lt_or_ge xb w.heap.size with h | h
      · exact h
      · rw [Array.getElem?_eq_none h] at this; cases this
    subst hn
    have hds : d.toArray.size = d.length := by simp
    have hless : LessReadsK Tryz.prog 46 #[ptr xb] encJ 7 (fun a b : Jt => decide (a.1.inum < b.1.inum)) g 0 d.toArray.size w := by
      intro m os dk hs i j hi hj
      have e : sortWorldK encJ 7 w g 0 m dk os = putRowK encJ 7 (grow (Sort.ahead w m) os) g 0 dk := by
        unfold sortWorldK; rw [putRowK_grow _ _ (Sort.ahead w m) _ g 0 _ hg]
      have hHg : HoldsK encJ 7 (grow (Sort.ahead w m) os) g 0 d.toArray := holdsK_grow _ _ _ _ g 0 d.toArray hg (holdsK_ahead _ _ _ _ _ _ _ hH)
      refine less_items g 0 cap xb d.toArray.size _ (fun t => dk[t]!.1.inum) ?_ (fun t ht => ?_) i j hi hj (by omega)
      · rw [e, cell?_putRowK_other _ _ _ g 0 dk _ (by exact hne), cell?_grow _ _ _ (by exact hxb), hds]; exact hcell
      · rw [e]; exact ((holdsK_putRowK _ _ _ g 0 d.toArray dk hHg hs).cell (i := t) (c := 0) (by omega) (by omega)).1
    have := Any.sort_Slice_cells_sorted Tryz.sv6 44 77 siT siE (by kernel_rfl) (by kernel_rfl) (by kernel_rfl) (by kernel_rfl) 25 (fun _ => by kernel_rfl) encJ 7 encJ_len (by kernel_rfl) (fun _ => by kernel_rfl)
      (fun x v hv => by
        unfold encJ itsC at hv
        simp only [List.mem_cons, List.not_mem_nil, or_false] at hv
        rcases hv with rfl | rfl | rfl | rfl | rfl | rfl | rfl <;> rfl) (fun a b : Jt => decide (a.1.inum < b.1.inum)) (swo_key (fun p : Jt => p.1.inum)) 46 _
      (enters_of Tryz.func46 (by kernel_rfl) rfl) g 0 cap d.toArray (by rw [hds]; omega) (by rw [hds]; omega) 146 (by rw [hds, siK _ (by omega)]; kernel_rfl) false
      (fun args W => run_callFunc_extern Tryz.func146 (by kernel_rfl) (by kernel_rfl) (by kernel_rfl) (e := Extern.ReflectliteSwapper.swap false) (by kernel_rfl) args W) w hless hH hg
    rw [hds] at this
    refine ⟨this.mono ?_⟩
    rintro e w' ⟨rfl, d', q, os, hp, hs, rfl⟩
    have hl := list_of_sorted (key := fun p : Jt => p.1.inum) (d := d.toArray) (d' := d') (by rw [hds]; exact hp) (by rw [hds]; exact hs)
    refine ⟨rfl, d'.toList, by simpa using hl.1, hl.2, ?_⟩
    have := Sat.ofSort (enc := encJ) encJ_len hS hi (q := q) (d := d') (os := os) (by rw [hp.1]; simp)
    exact this
end Go.Proofs.YtllomopjoomdiaaGreat
end

section
/- The map of an item's blocks, ranged over: a map, or nil (a directory). -/
namespace Go.Proofs.YtllomopjoomdiaaGreat
open Go.SL
def iterD (r : Nat) (k : Int) (dm : Value) (d : List (Int × List Int)) (left : List (Int × Value)) (cur : Option (Int × Value)) : Asn := fun h =>
  (k = 2 ∧ dm = .map none ∧ d = [] ∧ left = [] ∧ h r = some (.mapIter none 0 #[] 0)) ∨ ∃ mb, dm = .map (some mb) ∧ iterA encI r mb (dataKV d) left cur h
theorem Sat.dataCase {w0 w : World} {l : List Asn} (hS : Sat w0 w l) {i : Nat} {k : Int} {dm : Value} {d : List (Int × List Int)} (hi : l[i]? = some (dataA k dm d)) : (k = 2 ∧ dm = .map none ∧ d = []) ∨ ∃ mb, dm = .map (some mb) ∧ Sat w0 w (l.set i (mapA encI mb (dataKV d))) := by
  have h1 : (k = 2 ∧ dm = .map none ∧ d = []) ∨ ∃ mb, dm = .map (some mb) := hS.pure hi (by
    rintro g (h | ⟨b, h, _⟩)
    · exact .inl h
    · exact .inr ⟨b, h⟩)
  rcases h1 with h | ⟨mb, rfl⟩
  · exact .inl h
  · refine .inr ⟨mb, rfl, hS.conseq hi ?_⟩
    rintro g (⟨_, h, _⟩ | ⟨b, h, hm⟩)
    · cases h
    · cases h; exact hm
theorem Sat.iterCase {w0 w : World} {l : List Asn} (hS : Sat w0 w l) {i r : Nat} {k : Int} {dm : Value} {d : List (Int × List Int)} {left : List (Int × Value)} {cur : Option (Int × Value)} (hi : l[i]? = some (iterD r k dm d left cur)) :
    (k = 2 ∧ dm = .map none ∧ d = [] ∧ left = [] ∧ Sat w0 w (l.set i (pt r (.mapIter none 0 #[] 0)))) ∨ ∃ mb, dm = .map (some mb) ∧ Sat w0 w (l.set i (iterA encI r mb (dataKV d) left cur)) := by
  have h1 : (k = 2 ∧ dm = .map none ∧ d = [] ∧ left = []) ∨ ∃ mb, dm = .map (some mb) := hS.pure hi (by
    rintro g (⟨h1, h2, h3, h4, _⟩ | ⟨b, h, _⟩)
    · exact .inl ⟨h1, h2, h3, h4⟩
    · exact .inr ⟨b, h⟩)
  rcases h1 with ⟨h1, rfl, h3, h4⟩ | ⟨mb, rfl⟩
  · refine .inl ⟨h1, rfl, h3, h4, hS.conseq hi ?_⟩
    rintro g (⟨_, _, _, _, h⟩ | ⟨b, h, _⟩)
    · exact h
    · cases h
  · refine .inr ⟨mb, rfl, hS.conseq hi ?_⟩
    rintro g (⟨_, h, _⟩ | ⟨b, h, hm⟩)
    · cases h
    · cases h; exact hm
theorem Sat.iterDoneD {w0 w : World} {l : List Asn} (hS : Sat w0 w l) {i r : Nat} {k : Int} {dm : Value} {d : List (Int × List Int)} {left : List (Int × Value)} {cur : Option (Int × Value)} (hi : l[i]? = some (iterD r k dm d left cur)) : Sat w0 w (l.set i (dataA k dm d)) :=
  hS.conseq hi (by
    rintro g (⟨h1, h2, h3, _, _⟩ | ⟨mb, h, es, clock, seen, hI, hb, _⟩)
    · exact .inl ⟨h1, h2, h3⟩
    · exact .inr ⟨mb, h, es, clock, hI.ok, hb⟩)
theorem dataKV_keys (d : List (Int × List Int)) : (dataKV d).map (·.1) = d.map (·.1) := by simp [dataKV, Function.comp_def]
theorem Sat.dataKeys {w0 w : World} {l : List Asn} (hS : Sat w0 w l) {i : Nat} {k : Int} {dm : Value} {d : List (Int × List Int)} (hi : l[i]? = some (dataA k dm d)) : (d.map (·.1)).Nodup := by
  rcases Sat.dataCase hS hi with ⟨_, _, rfl⟩ | ⟨mb, rfl, hS⟩
  · exact List.nodup_nil
  · have := Sat.mapNodup hS (i := i) (by rw [List.getElem?_set_self (lt_of_get hi)])
    rwa [dataKV_keys] at this
theorem Sat.iterSubD {w0 w : World} {l : List Asn} (hS : Sat w0 w l) {i r : Nat} {k : Int} {dm : Value} {d : List (Int × List Int)} {left : List (Int × Value)} {cur : Option (Int × Value)} (hi : l[i]? = some (iterD r k dm d left cur)) : (∀ p ∈ left, p ∈ dataKV d) ∧ (left.map (·.1)).Nodup := by
  rcases Sat.iterCase hS hi with ⟨_, _, _, rfl, _⟩ | ⟨mb, rfl, hS⟩
  · exact ⟨fun p hp => (by cases hp), List.nodup_nil⟩
  · exact ⟨Sat.iterSub hS (i := i) (by rw [List.getElem?_set_self (lt_of_get hi)]), Sat.iterNodup encI_inj hS (i := i) (by rw [List.getElem?_set_self (lt_of_get hi)])⟩

section
variable {P : Program} {ops : Array Oper} {Q : QF} {rest : List Oper} {n : Nat} {f : Nat → Value} {w w0 : World} {l : List Asn} {d : Nat} {ty : TypeId} {pos : String} {after : Array Edge} {tb : Tab} {i r : Nat} {t : TypeId} {x y : Operand} {k : Int} {dm : Value} {D : List (Int × List Int)} {left : List (Int × Value)} {cur : Option (Int × Value)}
theorem o_rangeD (ok : TabOk P tb) {kt et : TypeId} (hS : Sat w0 w l) (ht : tb.u t = some (.map kt et)) (hi : l[i]? = some (dataA k dm D)) (hx : ev n f x = dm)
    (h : ∀ r w', Sat w0 w' (l.set i (iterD r k dm D (dataKV D) none)) → WL P ops Q rest n (upd f d (.pointer (some ⟨r, 0, none⟩))) w') : WL P ops Q (⟨some d, .range t x, ty, pos, after, none⟩ :: rest) n f w := by
  rcases Sat.dataCase hS hi with ⟨h1, rfl, rfl⟩ | ⟨mb, rfl, hS'⟩
  · refine o_rangeN ok hS ht hx fun r w' hS' => h r w' ?_
    refine Sat.merge hi (Sat.comm (A := [_]) hS') ?_
    rintro g ⟨own, H⟩
    exact .inl ⟨h1, rfl, rfl, rfl, (cutHp_some (H 1 _ rfl)).2⟩
  · refine o_range ok hS' ht hx (i := i) (by rw [List.getElem?_set_self (lt_of_get hi)]) fun r w' hS2 => h r w' ?_
    have := hS2.conseq (i := i) (A' := iterD r k (.map (some mb)) D (dataKV D) none) (by rw [List.getElem?_set_self (by simpa using lt_of_get hi)]) fun g hg => .inr ⟨mb, rfl, hg⟩
    simpa only [List.set_set] using this
theorem o_nextD (hS : Sat w0 w l) (hx : ev n f x = .pointer (some ⟨r, 0, none⟩)) (hi : l[i]? = some (iterD r k dm D left cur))
    (h0 : left = [] → WL P ops Q rest n (upd f d (.tuple #[.bool false])) w)
    (h1 : ∀ p w', p ∈ left → Sat w0 w' (l.set i (iterD r k dm D (mdel left p.1) (some p))) → WL P ops Q rest n (upd f d (.tuple #[.bool true, encI p.1, p.2])) w') :
    WL P ops Q (⟨some d, .next x false, ty, pos, after, none⟩ :: rest) n f w := by
  rcases Sat.iterCase hS hi with ⟨_, rfl, _, h4, hS'⟩ | ⟨mb, rfl, hS'⟩
  · exact o_nextN hS' hx (i := i) (by rw [List.getElem?_set_self (lt_of_get hi)]) (h0 h4)
  · refine o_next encI_inj hS' hx (i := i) (by rw [List.getElem?_set_self (lt_of_get hi)]) h0 fun p w' hp hS2 => h1 p w' hp ?_
    have := hS2.conseq (i := i) (A' := iterD r k (.map (some mb)) D (mdel left p.1) (some p)) (by rw [List.getElem?_set_self (by simpa using lt_of_get hi)]) fun g hg => .inr ⟨mb, rfl, hg⟩
    simpa only [List.set_set] using this
theorem o_entryD {p : Int × Value} (hS : Sat w0 w l) (hx : ev n f x = .pointer (some ⟨r, 0, none⟩)) (hi : l[i]? = some (iterD r k dm D left (some p))) (hl : D ≠ [])
    (h : WL P ops Q rest n (upd f d (.tuple #[encI p.1, p.2])) w) : WL P ops Q (⟨some d, .entry x, ty, pos, after, none⟩ :: rest) n f w := by
  rcases Sat.iterCase hS hi with ⟨_, rfl, h3, _, _⟩ | ⟨mb, rfl, hS'⟩
  · exact absurd h3 hl
  · exact o_entry hS' hx (i := i) (by rw [List.getElem?_set_self (lt_of_get hi)]) h
end

theorem perm_key {α : Type} (key : α → Int) : ∀ {l : List α}, (l.map key).Nodup → ∀ {x : α}, x ∈ l → l.Perm (x :: l.filter fun y => decide (key y ≠ key x))
  | q :: l, hn, x, hx => by
    simp only [List.map_cons, List.nodup_cons] at hn
    rcases List.mem_cons.1 hx with rfl | hx
    · have e : (x :: l).filter (fun y => decide (key y ≠ key x)) = l := by
        rw [List.filter_cons_of_neg (by simp)]
        apply List.filter_eq_self.2
        intro y hy
        have : key y ≠ key x := fun e => hn.1 (by rw [← e]; exact List.mem_map_of_mem hy)
        simpa using this
      rw [e]
    · have hne : key q ≠ key x := fun e => hn.1 (by rw [e]; exact List.mem_map_of_mem hx)
      rw [List.filter_cons_of_pos (by simpa using hne)]
      exact ((perm_key key hn.2 hx).cons q).trans (List.Perm.swap _ _ _)
def withoutD (l : List (Int × List Int)) (k : Int) : List (Int × List Int) := l.filter fun y => decide (y.1 ≠ k)
theorem mdel_dataKV (l : List (Int × List Int)) (k : Int) : mdel (dataKV l) k = dataKV (withoutD l k) := by
  unfold mdel dataKV withoutD
  rw [List.filter_map]; rfl
theorem perm_withoutD {l : List (Int × List Int)} (hn : (l.map (·.1)).Nodup) {x : Int × List Int} (hx : x ∈ l) : l.Perm (x :: withoutD l x.1) := perm_key (fun p : Int × List Int => p.1) hn hx
/-! ### A block with its index -/
def blkC (b : List Int) : List Value := b.map fun x => Value.int .u8 x
def heldP (p : Int × List Int) : List Value := vi p.1 :: blkC p.2
theorem heldC_flat (d : List (Int × List Int)) : heldC d = d.flatMap heldP := rfl
theorem heldC_snoc (d : List (Int × List Int)) (p : Int × List Int) : heldC (d ++ [p]) = heldC d ++ heldP p := by
  rw [heldC_flat, heldC_flat, List.flatMap_append, List.flatMap_cons, List.flatMap_nil, List.append_nil]
theorem oneCells_blk (b : List Int) : oneCells (blkC b) = true := by
  unfold oneCells
  rw [List.all_eq_true]
  intro v hv
  obtain ⟨e, _, rfl⟩ := List.mem_map.1 hv
  rfl
theorem oneCells_held (p : Int × List Int) : oneCells (heldP p) = true := by
  have := oneCells_blk p.2
  unfold oneCells heldP at *
  rw [List.all_cons, this]; rfl
def zB : List Value := List.replicate 1024 (Value.int .u8 0)
theorem zb_size : (Value.agg zB.toArray).cells.size = 1024 := by show zB.toArray.size = 1024; unfold zB; rw [List.size_toArray, List.length_replicate]
theorem splice_held (zc : Array Value) (hz : zc.size = 1025) (a : Value) (vs : List Value) (hv : vs.length = 1024) : splice (splice zc 0 [a]) 1 vs = (a :: vs).toArray := by
  apply Array.ext'
  show (splice zc 0 [a]).toList.take 1 ++ vs ++ (splice zc 0 [a]).toList.drop (1 + vs.length) = a :: vs
  have h1 : (splice zc 0 [a]).toList = a :: zc.toList.drop 1 := by simp [splice]
  rw [h1, hv]
  have h2 : (zc.toList.drop 1).length = 1024 := by rw [List.length_drop, Array.length_toList, hz]
  have h3 : (a :: zc.toList.drop 1).drop (1 + 1024) = [] := List.drop_eq_nil_of_le (by rw [List.length_cons, h2]; decide)
  rw [h3]
  simp
theorem heldZ_size : (Value.agg (([Value.int .i64 0] ++ List.replicate 1024 (Value.int .u8 0)).toArray)).cells.size = 1025 := by
  show ([Value.int .i64 0] ++ List.replicate 1024 (Value.int .u8 0)).toArray.size = 1025
  rw [List.size_toArray, List.length_append, List.length_replicate]; rfl
theorem rd_held {P : Program} {w0 : World} {L : List Asn} {n : Nat} {f : Nat → Value} (ok : TabOk P tb) {a y : Operand} {i : Int} {bs : List Int} (ha : ev n f a = vi i) (hy : ev n f y = .agg (blkC bs).toArray) (hl : bs.length = 1024) :
    Rd P w0 L n f (.build 139 #[(0, a), (1, y)]) (.agg (heldP (i, bs)).toArray) := by
  obtain ⟨fs, hfs⟩ : ∃ fs, tb.u 139 = some (.struct fs) := ⟨_, rfl⟩
  obtain ⟨zc, hzc⟩ : ∃ zc, tb.zero 139 = some (.agg zc) := ⟨_, rfl⟩
  have hsz : zc.size = 1025 := by
    cases hzc
    rw [List.size_toArray, List.length_append, List.length_replicate]; rfl
  have hbl : (blkC bs).toArray.size = 1024 := by rw [List.size_toArray]; unfold blkC; rw [List.length_map]; exact hl
  have h := rd_buildG (P := P) (w0 := w0) (L := L) (n := n) (f := f) (parts := #[(0, a), (1, y)]) ok hfs hzc (by cases hfs; rfl) (by
    cases hfs
    show ((Nat.beq (ev n f a).cells.size 1 && Nat.ble (0 + (ev n f a).cells.size) zc.size) && ((Nat.beq (ev n f y).cells.size 1024 && Nat.ble (1 + (ev n f y).cells.size) zc.size) && true)) = true
    rw [ha, hy, hsz]
    show ((Nat.beq 1 1 && Nat.ble (0 + 1) 1025) && ((Nat.beq (blkC bs).toArray.size 1024 && Nat.ble (1 + (blkC bs).toArray.size) 1025) && true)) = true
    rw [hbl]; rfl)
  have e : bfoldG fs (ev n f) (#[(0, a), (1, y)] : Array (Nat × Operand)).toList zc = (heldP (i, bs)).toArray := by
    cases hfs
    show splice (splice zc 0 (ev n f a).cells.toList) 1 (ev n f y).cells.toList = _
    rw [ha, hy]
    exact splice_held zc hsz (vi i) (blkC bs) (by unfold blkC; rw [List.length_map]; exact hl)
  rwa [e] at h
end Go.Proofs.YtllomopjoomdiaaGreat
end

section
namespace Go.Proofs.YtllomopjoomdiaaGreat
open Go.SL
/-- An item as a state has it. -/
def itS (k : Int) (t : It) : ItS := ⟨k, t.kind, t.links, t.size, usedOf t, sortK (fun p : Int × List Int => p.1) t.data, t.slots⟩
def BlocksOk (t : It) : Prop := ∀ p ∈ t.data, p.2.length = 1024
def xC (x : ItS) (dv sv : Value) : Array Value := #[vi x.inum, .int .u16 x.kind, vi x.links, vi x.size, vi x.blocks, dv, sv]
theorem oneCells_slots (s : List (Int × ByteArray)) : oneCells (slotsC s) = true := by
  unfold oneCells slotsC
  rw [List.all_eq_true]
  intro v hv
  obtain ⟨e, _, hv⟩ := List.mem_flatMap.1 hv
  simp only [entC, List.mem_cons, List.not_mem_nil, or_false] at hv
  rcases hv with rfl | rfl <;> rfl
theorem heldP_len {x : Int × List Int} (h : x.2.length = 1024) : (heldP x).length = 1025 := by unfold heldP blkC; rw [List.length_cons, List.length_map, h]
theorem allCells_held {x : Int × List Int} (h : x.2.length = 1024) : allCells 1025 [.agg (heldP x).toArray] = true := by
  show (Nat.beq (heldP x).toArray.size 1025 && true) = true
  rw [List.size_toArray, heldP_len h]; rfl
theorem state_spec {w0 w : World} {G : List Asn} {b : Nat} {t : It} {k : Int} (hs : SmallIt t) (hsl : SlotsOk t.slots) (hB : BlocksOk t) (hS : Sat w0 w (itemA b t :: G)) :
    CR Tryz.prog 44 [ptr b, vi k] w fun v w' => ∃ a c : Sl, v = .agg (xC (itS k t) (slV a) (slV c)) ∧ Sat w0 w' (itsA (itS k t, slV a, slV c) :: itemA b t :: G) := by
  refine calls_enter Tryz.func44 rfl rfl rfl ?_
  obtain ⟨dm, sv, hS⟩ := Sat.itemToP hS
  (repeat (first | refine c_seq ?_ | refine c_region ?_))
  refine o_alloc ok hS rfl (fun b4 w hS => ?_)
  (repeat (first | refine c_seq ?_ | refine o_nil ?_ | refine q_then ?_))
  refine region_cn ok (L := _ :: _ :: G) 18 17 [14, 15, 16] [] mixed (by kernel_rfl) rfl rfl rfl rfl rfl rfl hS ?_
  (repeat (first | (apply r_ptr ok rfl; rfl; · conv => { lhs; whnf }) | (apply r_pure ok rfl; · conv => { lhs; whnf; arg 1; whnf })))
  apply r_rd rfl (rd_loadP ok (i := 1) rfl rfl rfl rfl rfl)
  (repeat (first | (apply r_ptr ok rfl; rfl; · conv => { lhs; whnf })))
  apply r_rd rfl (rd_loadP ok (i := 1) rfl rfl rfl rfl rfl)
  (repeat (first | (apply r_ptr ok rfl; rfl; · conv => { lhs; whnf })))
  apply r_rd rfl (rd_loadP ok (i := 1) rfl rfl rfl rfl rfl)
  (repeat (first | (apply r_ptr ok rfl; rfl; · conv => { lhs; whnf })))
  refine r_chain undef rfl rfl ?_
  refine r_chain undef rfl rfl ?_
  refine r_chain undef rfl rfl ?_
  refine r_new rfl ?_
  (repeat (first | refine r_nil ?_))
  refine ch_step rfl rfl (fun G2 w hS => ?_)
  refine o_call ok rfl rfl (indicesP_spec hs (hS.bring 1 rfl)) (fun v w h => ?_)
  obtain ⟨l1, hl1, hS⟩ := h
  have hS := (hS.bring 1 rfl).back 2 rfl
  refine o_nil ⟨rfl, [_], hS, ?_⟩
  refine ch_step rfl rfl (fun G2 w hS => ?_)
  refine o_call ok rfl rfl (total_spec l1 (hl1.len hs) hS) (fun v w h => ?_)
  obtain ⟨rfl, hS⟩ := h
  rw [hl1.total, show totalOf (idxOf t) = usedOf t from rfl]
  refine o_nil ⟨rfl, [], hS.tail, ?_⟩
  refine ch_step rfl rfl (fun G2 w hS => ?_)
  apply o_rd hS; apply rd_build1 ok; rfl; rfl; rfl; rfl
  refine o_nil ⟨rfl, [], hS, ch_nil ?_⟩
  intro xb w hS
  refine o_storeW ok hS rfl rfl rfl (i := 0) rfl rfl rfl rfl (fun w hS => ?_)
  have hS : Sat w0 w (pt xb (.cells (xC (itS k t) (.slice none 0 0) (.slice none 0 0)) 77) :: pt b4 _ :: itemP b t dm sv :: G) := hS
  have hS := Sat.itemOpenP (hS.bring 2 rfl)
  obtain ⟨hlen, a, cap, rfl, _, ha⟩ := Sat.rowForm hS (i := 2) rfl
  have hlm := hsl.1
  (repeat (first | refine c_seq ?_ | refine o_nil ?_ | refine q_then ?_))
  refine region_q 6 mixed (by kernel_rfl) hS ?_
  (repeat (first | (apply r_ptr ok rfl; rfl; · conv => { lhs; whnf }) | (apply r_rd rfl; apply rd_load ok (i := 0); rfl; rfl; rfl; rfl; · conv => { lhs; whnf; arg 1; whnf }) | (apply r_rd rfl; apply rd_load ok (i := 3); rfl; rfl; rfl; rfl; · conv => { lhs; whnf; arg 1; whnf }) | refine r_nil ?_))
  intro w hS
  have hS := Sat.closeH [] hS (C := rowA 142 2 (.slice none 0 0) 0 []) (fun g _ => rowA_nil _ _ g)
  refine o_append ok hS rfl rfl rfl rfl rfl rfl rfl (i := 0) rfl (hS.rowSrc (i := 3) rfl) hlen (oneCells_slots _) (by omega) (by omega) (fun v' w hS => ?_)
  (repeat (first | (apply o_ptr ok; rfl; · conv => { lhs; whnf })))
  have hS := hS
  obtain ⟨_, a2, c2, rfl, _, _⟩ := Sat.rowForm hS (i := 0) rfl
  (apply o_store ok hS (i := 4); rfl; (conv => { lhs; whnf }); rfl; rfl; rfl; rfl; intro w hS)
  have hS : Sat w0 w (rowA 142 2 (.slice a2 (0 + t.slots.length) c2) (0 + t.slots.length) (slotsC t.slots) :: pt b (.cells (itemC t dm (.slice a t.slots.length cap)) 135) :: dataA t.kind dm t.data :: slotsA (.slice a t.slots.length cap) t.slots :: pt xb (.cells (xC (itS k t) (.slice none 0 0) (.slice a2 (0 + t.slots.length) c2)) 77) :: pt b4 (.cells (xC ⟨0, 0, 0, 0, 0, [], []⟩ (.slice none 0 0) (.slice none 0 0)) 77) :: G) := hS
  rw [Nat.zero_add] at hS
  have hnd := Sat.dataKeys hS (i := 2) rfl
  (repeat (first | (apply o_ptr ok; rfl; · conv => { lhs; whnf }) | refine c_seq ?_ | refine c_region ?_ | refine o_nil ?_ | refine q_then ?_ | (apply o_rd hS; apply rd_load ok (i := 1); rfl; rfl; rfl; rfl; · conv => { lhs; whnf; arg 1; whnf })))
  refine o_rangeD ok hS rfl (i := 2) rfl rfl (fun r w hS => ?_)
  have hS := Sat.closeH [] hS (C := rowA 139 1025 (.slice none 0 0) 0 ([] : List Value)) (fun g _ => rowA_nil _ _ g)
  (repeat (first | refine c_block ?_ | refine o_nil ?_ | refine q_then ?_))
  refine c_cutB (K := fun g w => ∃ (s : Sl) (l : List (Int × List Int)) (jk : Nat → Value), l.Perm t.data ∧ g = updL [(4, ptr b4), (5, ptr xb)] jk ∧
    Sat w0 w (rowA 139 1025 (slV s) l.length (heldC l) :: rowA 142 2 (.slice a2 t.slots.length c2) t.slots.length (slotsC t.slots) :: pt b (.cells (itemC t dm (.slice a t.slots.length cap)) 135) :: dataA t.kind dm t.data :: slotsA (.slice a t.slots.length cap) t.slots :: pt xb (.cells (xC (itS k t) (slV s) (.slice a2 t.slots.length c2)) 77) :: pt b4 (.cells (xC ⟨0, 0, 0, 0, 0, [], []⟩ (.slice none 0 0) (.slice none 0 0)) 77) :: G)) ?_ ?_
  · refine c_loop (fun k' g w => ∃ (s : Sl) (l lft : List (Int × List Int)) (cur : Option (Int × Value)) (jk : Nat → Value), lft.length = k' ∧ (l ++ lft).Perm t.data ∧
      g = updL [(37, .pointer (some ⟨r, 0, none⟩)), (4, ptr b4), (5, ptr xb)] jk ∧
      Sat w0 w (rowA 139 1025 (slV s) l.length (heldC l) :: rowA 142 2 (.slice a2 t.slots.length c2) t.slots.length (slotsC t.slots) :: pt b (.cells (itemC t dm (.slice a t.slots.length cap)) 135) :: iterD r t.kind dm t.data (dataKV lft) cur :: slotsA (.slice a t.slots.length cap) t.slots :: pt xb (.cells (xC (itS k t) (slV s) (.slice a2 t.slots.length c2)) 77) :: pt b4 (.cells (xC ⟨0, 0, 0, 0, 0, [], []⟩ (.slice none 0 0) (.slice none 0 0)) 77) :: G)) t.data.length
      ⟨(none, 0, 0), [], t.data, none, _, rfl, List.Perm.refl _, updL_self _ _ ⟨rfl, rfl, rfl, trivial⟩, hS⟩ ?_
    rintro k' g w ⟨s, l, lft, cur, jk, hk, hp, rfl, hS⟩
    have hsub := Sat.iterSubD hS (i := 3) rfl
    have hlen2 : l.length + lft.length = t.data.length := by have := hp.length_eq; simpa using this
    have hd := hs.2
    (repeat (first | refine c_seq ?_ | refine c_region ?_))
    refine o_nextD hS rfl (i := 3) rfl (fun h => ?_) (fun q w' hq hS' => ?_)
    · have h0 : lft = [] := by simpa [dataKV] using h
      subst h0
      (repeat (first | (apply o_pure ok; · conv => { lhs; whnf; arg 1; whnf }) | refine c_seq ?_ | refine c_exit ?_ | refine o_nil ?_ | refine q_then ?_ | refine q_then_e ?_ | refine q_blk_e ?_ | (apply c_cond_f; rfl)))
      exact ⟨s, l, _, by simpa using hp, updL_self _ _ ⟨rfl, rfl, trivial⟩, Sat.iterDoneD hS (i := 3) rfl⟩
    · have hS := hS'
      obtain ⟨x, hx, rfl⟩ := List.mem_map.1 hq
      (repeat (first | (apply o_pure ok; · conv => { lhs; whnf; arg 1; whnf }) | refine c_seq ?_ | refine c_region ?_ | refine c_block ?_ | refine c_skip ?_ | refine o_nil ?_ | refine q_then ?_ | (apply c_cond_t; rfl)))
      refine o_entryD hS rfl (i := 3) rfl (by intro e; rw [e] at hp; have := hp.length_eq; simp at this; rw [this.2] at hx; cases hx) ?_
      (repeat (first | (apply o_pure ok; · conv => { lhs; whnf; arg 1; whnf })))
      have hxd : x ∈ t.data := hp.mem_iff.1 (List.mem_append_right _ hx)
      have hx2 := hB x hxd
      refine o_alloc ok hS rfl (fun b7 w hS => ?_)
      (repeat (first | (apply o_pure ok; · conv => { lhs; whnf; arg 1; whnf })))
      refine o_storeW (m := 1024) (vs := (blkC x.2).toArray) ok hS rfl rfl rfl (i := 0) rfl (oneCells_blk _) (by rw [List.size_toArray, blkC, List.length_map]; exact hx2) zb_size (fun w hS => ?_)
      have hS : Sat w0 w (pt b7 (.cells (blkC x.2).toArray 137) :: rowA 139 1025 (slV s) l.length (heldC l) :: rowA 142 2 (.slice a2 t.slots.length c2) t.slots.length (slotsC t.slots) :: pt b (.cells (itemC t dm (.slice a t.slots.length cap)) 135) :: iterD r t.kind dm t.data (mdel (dataKV lft) x.1) (some (x.1, blkV x.2)) :: slotsA (.slice a t.slots.length cap) t.slots :: pt xb (.cells (xC (itS k t) (slV s) (.slice a2 t.slots.length c2)) 77) :: pt b4 (.cells (xC ⟨0, 0, 0, 0, 0, [], []⟩ (.slice none 0 0) (.slice none 0 0)) 77) :: G) := hS
      have hS := hS.bring 6 rfl
      (repeat (first | (apply o_ptr ok; rfl; · conv => { lhs; whnf }) | (apply o_pure ok; · conv => { lhs; whnf; arg 1; whnf }) | refine c_region ?_ | refine o_nil ?_ | refine q_then ?_ | (apply o_rd hS; apply rd_load ok (i := 0); rfl; rfl; rfl; rfl; · conv => { lhs; whnf; arg 1; whnf })))
      refine o_rd hS (rd_loadW ok (i := 1) rfl rfl rfl rfl rfl (by rw [List.size_toArray, blkC, List.length_map]; exact hx2)) ?_
      refine o_rd hS (rd_held ok rfl rfl hx2) ?_
      refine o_buildS ok (vs := [.agg (heldP (x.1, x.2)).toArray]) hS rfl rfl rfl rfl rfl rfl rfl (allCells_held hx2) rfl (fun b8 w hS => ?_)
      have hS : Sat w0 w (pt b8 (.cells (heldP x ++ []).toArray 139) :: _ :: _ :: rowA 139 1025 (slV s) l.length (heldC l) :: _) := hS
      rw [List.append_nil] at hS
      refine o_append ok hS rfl rfl rfl rfl heldZ_size rfl rfl (i := 3) rfl (hS.ptSrc0 (i := 0) rfl) (by rw [heldP_len hx2]) (oneCells_held _) (by omega) (by omega) (fun v' w hS => ?_)
      (repeat (first | (apply o_ptr ok; rfl; · conv => { lhs; whnf })))
      have hS := hS
      obtain ⟨_, a3, c3, rfl, _, _⟩ := Sat.rowForm hS (i := 3) rfl
      (apply o_store ok hS (i := 1); rfl; (conv => { lhs; whnf }); rfl; rfl; rfl; rfl; intro w hS)
      have hS : Sat w0 w (_ :: pt xb (.cells (xC (itS k t) (slV (a3, l.length + 1, c3)) (.slice a2 t.slots.length c2)) 77) :: _ :: rowA 139 1025 (slV (a3, l.length + 1, c3)) (l.length + 1) (heldC l ++ heldP x) :: rowA 142 2 (.slice a2 t.slots.length c2) t.slots.length (slotsC t.slots) :: pt b (.cells (itemC t dm (.slice a t.slots.length cap)) 135) :: iterD r t.kind dm t.data (mdel (dataKV lft) x.1) (some (x.1, blkV x.2)) :: slotsA (.slice a t.slots.length cap) t.slots :: pt b4 (.cells (xC ⟨0, 0, 0, 0, 0, [], []⟩ (.slice none 0 0) (.slice none 0 0)) 77) :: G) := hS
      have hS := ((hS.tail.bring 1 rfl).tail.back 5 rfl)
      rw [mdel_dataKV, ← heldC_snoc] at hS
      have hnd2 := hsub.2
      rw [dataKV_keys] at hnd2
      have hpm := perm_withoutD hnd2 hx
      have hlen3 : lft.length = (withoutD lft x.1).length + 1 := by have := hpm.length_eq; simpa using this
      (repeat (first | refine o_nil ?_ | refine q_then ?_ | refine q_blk_n ?_))
      refine ⟨(withoutD lft x.1).length, by omega, (a3, l.length + 1, c3), l ++ [x], withoutD lft x.1, _, _, rfl, ?_, updL_self _ _ ⟨rfl, rfl, rfl, trivial⟩, by rw [List.length_append]; exact hS⟩
      rw [List.append_assoc]
      exact (hpm.append_left l).symm.trans hp
  · rintro g w ⟨s, l, jk, hp, rfl, hS⟩
    have hlB : ∀ p ∈ l, p.2.length = 1024 := fun p hq => hB p (hp.mem_iff.1 hq)
    have hll : l.length = t.data.length := hp.length_eq
    have hd := hs.2
    rw [heldC_enc hlB] at hS
    have hS := hS.bring 5 rfl
    (repeat (first | (apply o_ptr ok; rfl; · conv => { lhs; whnf }) | refine c_seq ?_ | refine c_region ?_ | (apply o_rd hS; apply rd_load ok (i := 0); rfl; rfl; rfl; rfl; · conv => { lhs; whnf; arg 1; whnf })))
    refine o_rd hS (rd_iface ok rfl rfl) ?_
    refine o_rd hS (rd_func (l1 := []) (l2 := [ptr xb]) rfl rfl) ?_
    refine o_call ok rfl rfl (sort_held hS (i := 1) rfl rfl (by omega) (j := 0) rfl rfl) (fun v w h => ?_)
    obtain ⟨rfl, l2, hp2, hr2, hS⟩ := h
    have e1 : l2 = sortK (fun p : Int × List Int => p.1) t.data := sortK_eq (hp2.trans hp) hnd hr2
    subst e1
    have hS : Sat w0 w (pt xb (.cells (xC (itS k t) (slV s) (.slice a2 t.slots.length c2)) 77) :: rowA 139 1025 (slV s) l.length ((sortK (fun p : Int × List Int => p.1) t.data).flatMap encH) :: rowA 142 2 (.slice a2 t.slots.length c2) t.slots.length (slotsC t.slots) :: pt b (.cells (itemC t dm (.slice a t.slots.length cap)) 135) :: dataA t.kind dm t.data :: slotsA (.slice a t.slots.length cap) t.slots :: pt b4 (.cells (xC ⟨0, 0, 0, 0, 0, [], []⟩ (.slice none 0 0) (.slice none 0 0)) 77) :: G) := hS
    have hS := hS.bring 6 rfl
    (repeat (first | refine c_seq ?_ | refine c_region ?_ | refine c_ret ?_ | refine o_nil ?_ | refine q_then ?_ | (refine o_storeW ok hS rfl rfl rfl (i := 0) rfl rfl rfl rfl (fun w hS => ?_)) | refine o_rd hS (rd_loadW ok (i := 1) rfl rfl rfl rfl rfl rfl) ?_))
    refine outCA ok rfl hS rfl rfl rfl rfl (i := 0) rfl rfl ⟨s, (a2, t.slots.length, c2), rfl, ?_⟩
    have hS : Sat w0 w (_ :: _ :: rowA 139 1025 (slV s) l.length ((sortK (fun p : Int × List Int => p.1) t.data).flatMap encH) :: rowA 142 2 (slV (a2, t.slots.length, c2)) t.slots.length (slotsC t.slots) :: pt b (.cells (itemC t dm (.slice a t.slots.length cap)) 135) :: dataA t.kind dm t.data :: slotsA (.slice a t.slots.length cap) t.slots :: G) := hS
    have hS := hS.tail.tail
    rw [← heldC_enc (fun p hq => hB p ((sortK_perm (fun p : Int × List Int => p.1) t.data).mem_iff.1 hq)), hll, ← (sortK_perm (fun p : Int × List Int => p.1) t.data).length_eq] at hS
    have hS := Sat.closeH (C := itsA (itS k t, slV s, slV (a2, t.slots.length, c2))) [_, _] hS (fun _ hg => hg)
    exact Sat.itemOfP (Sat.itemCloseP1 hS) (i := 1) rfl
end Go.Proofs.YtllomopjoomdiaaGreat
end

section
namespace Go.Proofs.YtllomopjoomdiaaGreat
open Go.SL
def itSx (x : Itm) : ItS := itS x.1 x.2.2
def spareN (m : Mod) : Int := m.lay.inodes - m.items.length
def stateOf (m : Mod) : St := ⟨sortK (fun x : ItS => x.inum) (m.items.map itSx), freeOf m, spareN m⟩
theorem grp_perm {α : Type} {F : α → Asn} {l l' : List α} (hp : l.Perm l') : ∀ {h : Hp}, grp (l.map F) h → grp (l'.map F) h := by
  induction hp with
  | nil => intro h hg; exact hg
  | cons a _ ih =>
    intro h hg
    have h1 := grp_pack (A := F a) hg
    exact grp_unpack (grp_conseq h1 (i := 1) rfl fun g hg => ih hg)
  | swap a b l =>
    intro h hg
    exact grp_bring hg (i := 1) (A := F a) rfl
  | trans _ _ ih1 ih2 => intro h hg; exact ih2 (ih1 hg)
def jv (x : Jt) : ItS × Value × Value := (x.1, slV x.2.1, slV x.2.2)
def itsJ (x : Jt) : Asn := itsA (jv x)
def stC0 (v : Value) (m : Mod) : Array Value := #[v, vi (freeOf m), vi (spareN m)]
theorem oneCells_encJ (x : Jt) : oneCells (encJ x) = true := rfl
theorem State_specP {w0 w : World} {G : List Asn} {p : Nat} {m : Mod} {ib : Nat} {tv : Value} (hf : Fine m) (hS : Sat w0 w (modP p m ib tv :: G)) :
    CR Tryz.prog 13 [ptr p] w fun v w' => ∃ s : Sl, v = .agg (stC0 (slV s) m) ∧ Sat w0 w' (stA (slV s) (stateOf m) :: modP p m ib tv :: G) := by
  have hfi := hf.inodes
  have hmany := hf.many
  refine calls_enter Tryz.func13 rfl rfl rfl ?_
  (repeat (first | refine c_seq ?_ | refine c_region ?_))
  refine o_alloc ok hS rfl (fun b2 w hS => ?_)
  (repeat (first | (apply o_ptr ok; rfl; · conv => { lhs; whnf }) | refine c_seq ?_ | refine c_region ?_ | refine o_nil ?_ | refine q_then ?_))
  refine o_call ok rfl rfl (isP_spec (hS.bring 1 rfl)) (fun v w h => ?_)
  obtain ⟨rfl, hS⟩ := h
  (repeat (first | (apply o_pure ok; · conv => { lhs; whnf; arg 1; whnf }) | refine c_seq ?_ | refine c_skip ?_ | refine o_nil ?_ | refine q_then ?_ | (apply c_cond_f; rfl)))
  have hlk : (itemsKV m.items).length = m.items.length := by simp [itemsKV]
  refine region_cn ok (L := _ :: _ :: G) 16 15 [1, 14] [] mixed (by kernel_rfl) rfl rfl rfl rfl rfl rfl hS ?_
  (repeat (first | (apply r_ptr ok rfl; rfl; · conv => { lhs; whnf })))
  refine r_chain undef rfl rfl ?_
  (repeat (first | (apply r_ptr ok rfl; rfl; · conv => { lhs; whnf })))
  apply r_rd rfl (rd_loadM ok (i := 0) rfl rfl rfl rfl rfl)
  (repeat (first | (apply r_ptr ok rfl; rfl; · conv => { lhs; whnf })))
  apply r_rd rfl (rd_loadM ok (i := 0) rfl rfl rfl rfl rfl)
  skip
  apply r_rd rfl (Rd.inside (modL p m ib tv) 0 rfl (fun _ hg => hg) (rd_mlen ok rfl rfl (i := 1) rfl))
  rw [hlk]
  (repeat (first | (apply r_sub rfl; rfl; rfl; omega)))
  refine r_chain undef rfl rfl ?_
  refine r_new rfl ?_
  (repeat (first | refine r_nil ?_))
  refine ch_step rfl rfl (fun G2 w hS => ?_)
  refine o_call ok rfl rfl (freeP_spec hf hS) (fun v w h => ?_)
  obtain ⟨rfl, hS⟩ := h
  refine o_nil ⟨rfl, [], hS, ?_⟩
  refine ch_step rfl rfl (fun G2 w hS => ?_)
  apply o_rd hS; apply rd_build1 ok; rfl; rfl; rfl; rfl
  refine o_nil ⟨rfl, [], hS, ch_nil ?_⟩
  intro b3 w hS
  refine o_storeW ok hS rfl rfl rfl (i := 0) rfl rfl rfl rfl (fun w hS => ?_)
  have hS : Sat w0 w (pt b3 (.cells (stC0 (.slice none 0 0) m) 46) :: modP p m ib tv :: pt b2 (.cells #[.slice none 0 0, vi 0, vi 0] 46) :: G) := hS
  have hS := hS.bring 2 rfl
  have hS := hS.bring 2 rfl
  have hS := Sat.modOpenP hS
  have hkeys := Sat.modKeys hS (i := 1) rfl
  (repeat (first | (apply o_ptr ok; rfl; · conv => { lhs; whnf }) | refine c_seq ?_ | refine c_region ?_ | refine o_nil ?_ | refine q_then ?_ | (apply o_rd hS; apply rd_load ok (i := 0); rfl; rfl; rfl; rfl; · conv => { lhs; whnf; arg 1; whnf })))
  refine o_range ok hS rfl rfl (i := 1) rfl (fun r w hS => ?_)
  have hS := Sat.closeH [] hS (C := grp ([].map itsJ)) (fun g _ => grp_nil)
  have hS := Sat.closeH [] hS (C := rowA 77 7 (.slice none 0 0) 0 ([] : List Value)) (fun g _ => rowA_nil _ _ g)
  (repeat (first | refine c_block ?_ | refine o_nil ?_ | refine q_then ?_))
  refine c_cutB (K := fun g w => ∃ (s : Sl) (q : List Jt) (jk : Nat → Value), (q.map (·.1)).Perm (m.items.map itSx) ∧ g = updL [(2, ptr b2), (3, ptr b3)] jk ∧
    Sat w0 w (rowA 77 7 (slV s) q.length (q.flatMap encJ) :: grp (q.map itsJ) :: pt p (.cells (modC m.lay ib m.d tv) 58) :: mapA encI ib (itemsKV m.items) :: itemsA m.items :: descsA m.d :: toldA tv m.told :: pt b2 (.cells #[.slice none 0 0, vi 0, vi 0] 46) :: pt b3 (.cells (stC0 (slV s) m) 46) :: G)) ?_ ?_
  · refine c_loop (fun k g w => ∃ (s : Sl) (q : List Jt) (lft : List Itm) (cur : Option (Int × Value)) (jk : Nat → Value), lft.length = k ∧ (∀ x ∈ lft, x ∈ m.items) ∧ (q.map (·.1) ++ lft.map itSx).Perm (m.items.map itSx) ∧
      g = updL [(29, .pointer (some ⟨r, 0, none⟩)), (2, ptr b2), (3, ptr b3)] jk ∧
      Sat w0 w (rowA 77 7 (slV s) q.length (q.flatMap encJ) :: grp (q.map itsJ) :: pt p (.cells (modC m.lay ib m.d tv) 58) :: iterA encI r ib (itemsKV m.items) (itemsKV lft) cur :: itemsA m.items :: descsA m.d :: toldA tv m.told :: pt b2 (.cells #[.slice none 0 0, vi 0, vi 0] 46) :: pt b3 (.cells (stC0 (slV s) m) 46) :: G)) m.items.length
      ⟨(none, 0, 0), [], m.items, none, _, rfl, fun _ h => h, List.Perm.refl _, updL_self _ _ ⟨rfl, rfl, rfl, trivial⟩, hS⟩ ?_
    rintro k g w ⟨s, q, lft, cur, jk, hk, hsub, hp, rfl, hS⟩
    have hnd := Sat.iterNodup encI_inj hS (i := 3) rfl
    rw [kv_keys] at hnd
    have hlen2 : q.length + lft.length = m.items.length := by have := hp.length_eq; simpa using this
    (repeat (first | refine c_seq ?_ | refine c_region ?_))
    refine o_next encI_inj hS rfl (i := 3) rfl (fun h => ?_) (fun y w' hy hS' => ?_)
    · have h0 : lft = [] := by simpa [itemsKV] using h
      subst h0
      (repeat (first | (apply o_pure ok; · conv => { lhs; whnf; arg 1; whnf }) | refine c_seq ?_ | refine c_exit ?_ | refine o_nil ?_ | refine q_then ?_ | refine q_then_e ?_ | refine q_blk_e ?_ | (apply c_cond_f; rfl)))
      exact ⟨s, q, _, by simpa using hp, updL_self _ _ ⟨rfl, rfl, trivial⟩, Sat.iterDone hS (i := 3) rfl⟩
    · have hS := hS'
      obtain ⟨x, hx, rfl⟩ := List.mem_map.1 hy
      have hxm := hsub x hx
      obtain ⟨j, hj⟩ := List.getElem?_of_mem hxm
      have hpm := perm_without hnd hx
      have hlen3 : lft.length = (without lft x.1).length + 1 := by have := hpm.length_eq; simpa using this
      (repeat (first | (apply o_pure ok; · conv => { lhs; whnf; arg 1; whnf }) | refine c_seq ?_ | refine c_region ?_ | refine c_block ?_ | refine c_skip ?_ | refine o_nil ?_ | refine q_then ?_ | (apply c_cond_t; rfl)))
      refine o_entry hS rfl (i := 3) rfl ?_
      (repeat (first | (apply o_ptr ok; rfl; · conv => { lhs; whnf }) | (apply o_pure ok; · conv => { lhs; whnf; arg 1; whnf }) | refine o_nil ?_ | refine q_then ?_))
      have hS : Sat w0 w' ([rowA 77 7 (slV s) q.length (q.flatMap encJ), grp (q.map itsJ), pt p (.cells (modC m.lay ib m.d tv) 58), iterA encI r ib (itemsKV m.items) (mdel (itemsKV lft) x.1) (some (x.1, ptr x.2.1)), itemsA m.items, descsA m.d, toldA tv m.told, pt b2 (.cells #[.slice none 0 0, vi 0, vi 0] 46)] ++ (pt b3 (.cells (stC0 (slV s) m) 46) :: G)) := hS
      refine region_c (L := _ :: G) 7 [4, 5, 6] _ mixed (by kernel_rfl) hS ?_
      (repeat (first | (apply r_ptr ok rfl; rfl; · conv => { lhs; whnf }) | (apply r_pure ok rfl; · conv => { lhs; whnf; arg 1; whnf }) | (apply r_rd rfl; apply rd_load ok (i := 0); rfl; rfl; rfl; rfl; · conv => { lhs; whnf; arg 1; whnf })))
      refine r_chain undef rfl rfl ?_
      refine r_chain undef rfl rfl ?_
      refine r_chain undef rfl rfl ?_
      (repeat (first | refine r_nil ?_))
      refine ch_step rfl rfl (fun G2 w hS => ?_)
      have hS := Sat.focus (hS.bring 4 rfl) j hj
      refine o_call ok rfl rfl (state_spec (hf.small x hxm) (hf.slots x hxm) (hf.blk x hxm) hS) (fun v w h => ?_)
      obtain ⟨a1, c1, rfl, hS⟩ := h
      have hS := Sat.refocus (F := itA) ((hS.bring 2 rfl).bring 2 rfl) hj
      have hS := Sat.snoc (F := itsJ) (x := (itSx x, a1, c1)) ((hS.bring 3 rfl).bring 2 rfl)
      refine o_nil ⟨rfl, [_, _, _, _, _, _, _, _], hS, ?_⟩
      refine ch_step rfl rfl (fun G2 w hS => ?_)
      refine o_buildS ok (vs := [.agg (encJ (itSx x, a1, c1)).toArray]) hS rfl rfl rfl rfl rfl rfl rfl rfl rfl (fun b8 w hS => ?_)
      refine o_nil ⟨rfl, [_, _, _, _, _, _, _, _, _], hS, ?_⟩
      refine ch_step rfl rfl (fun G2 w hS => ?_)
      refine o_append ok hS rfl rfl rfl rfl rfl rfl rfl (i := 3) rfl (hS.ptSrc0 (i := 0) rfl) rfl rfl (by omega) (by omega) (fun v' w hS => ?_)
      refine o_nil ⟨rfl, [_, _, _, _, _, _, _, _, _], hS, ch_nil ?_⟩
      intro w hS
      (repeat (first | (apply o_ptr ok; rfl; · conv => { lhs; whnf })))
      have hS := hS
      obtain ⟨_, a3, c3, rfl, _, _⟩ := Sat.rowForm hS (i := 3) rfl
      have hS : Sat w0 w (_ :: grp ((q ++ [(itSx x, a1, c1)]).map itsJ) :: itemsA m.items :: rowA 77 7 (slV (a3, q.length + 1, c3)) (q.length + 1) (q.flatMap encJ ++ encJ (itSx x, a1, c1)) :: pt p (.cells (modC m.lay ib m.d tv) 58) :: iterA encI r ib (itemsKV m.items) (mdel (itemsKV lft) x.1) (some (x.1, ptr x.2.1)) :: descsA m.d :: toldA tv m.told :: pt b2 (.cells #[.slice none 0 0, vi 0, vi 0] 46) :: pt b3 (.cells (stC0 (slV s) m) 46) :: G) := hS
      have hS := hS.tail.bring 8 rfl
      (apply o_store ok hS (i := 0); rfl; (conv => { lhs; whnf }); rfl; rfl; rfl; rfl; intro w hS)
      have hS : Sat w0 w (pt b3 (.cells (stC0 (slV (a3, q.length + 1, c3)) m) 46) :: grp ((q ++ [(itSx x, a1, c1)]).map itsJ) :: itemsA m.items :: rowA 77 7 (slV (a3, q.length + 1, c3)) (q.length + 1) (q.flatMap encJ ++ encJ (itSx x, a1, c1)) :: pt p (.cells (modC m.lay ib m.d tv) 58) :: iterA encI r ib (itemsKV m.items) (mdel (itemsKV lft) x.1) (some (x.1, ptr x.2.1)) :: descsA m.d :: toldA tv m.told :: pt b2 (.cells #[.slice none 0 0, vi 0, vi 0] 46) :: G) := hS
      have hS := hS.back 8 rfl
      have hS := (hS.bring 1 rfl).back 4 rfl
      have hS := (hS.bring 1 rfl)
      rw [mdel_kv] at hS
      (repeat (first | refine o_nil ?_ | refine q_then ?_ | refine q_blk_n ?_))
      refine ⟨(without lft x.1).length, by omega, (a3, q.length + 1, c3), q ++ [(itSx x, a1, c1)], without lft x.1, _, _, rfl, fun y hy => hsub y (List.mem_filter.1 hy).1, ?_, updL_self _ _ ⟨rfl, rfl, rfl, trivial⟩, by rw [List.length_append, List.flatMap_append, List.flatMap_cons, List.flatMap_nil, List.append_nil]; exact hS⟩
      rw [List.map_append, List.append_assoc]
      exact ((hpm.map itSx).append_left _).symm.trans hp
  · rintro g w ⟨s, q, jk, hp, rfl, hS⟩
    have hql : q.length = m.items.length := by have := hp.length_eq; simpa using this
    have hS := hS.bring 8 rfl
    (repeat (first | (apply o_ptr ok; rfl; · conv => { lhs; whnf }) | refine c_seq ?_ | refine c_region ?_ | (apply o_rd hS; apply rd_load ok (i := 0); rfl; rfl; rfl; rfl; · conv => { lhs; whnf; arg 1; whnf })))
    refine o_rd hS (rd_iface ok rfl rfl) ?_
    refine o_rd hS (rd_func (l1 := []) (l2 := [ptr b3]) rfl rfl) ?_
    refine o_call ok rfl rfl (sort_items hS (i := 1) rfl rfl (by omega) (j := 0) rfl rfl) (fun v w h => ?_)
    obtain ⟨rfl, q2, hp2, hr2, hS⟩ := h
    have hS : Sat w0 w (pt b3 (.cells (stC0 (slV s) m) 46) :: rowA 77 7 (slV s) q.length (q2.flatMap encJ) :: grp (q.map itsJ) :: pt p (.cells (modC m.lay ib m.d tv) 58) :: mapA encI ib (itemsKV m.items) :: itemsA m.items :: descsA m.d :: toldA tv m.told :: pt b2 (.cells #[.slice none 0 0, vi 0, vi 0] 46) :: G) := hS
    have hS := hS.bring 8 rfl
    (repeat (first | refine c_seq ?_ | refine c_region ?_ | refine c_ret ?_ | refine o_nil ?_ | refine q_then ?_ | (refine o_storeW ok hS rfl rfl rfl (i := 0) rfl rfl rfl rfl (fun w hS => ?_)) | refine o_rd hS (rd_loadW ok (i := 1) rfl rfl rfl rfl rfl rfl) ?_))
    refine outCA ok rfl hS rfl rfl rfl rfl (i := 0) rfl rfl ⟨s, rfl, ?_⟩
    have hS : Sat w0 w (_ :: _ :: rowA 77 7 (slV s) q.length (q2.flatMap encJ) :: grp (q.map itsJ) :: pt p (.cells (modC m.lay ib m.d tv) 58) :: mapA encI ib (itemsKV m.items) :: itemsA m.items :: descsA m.d :: toldA tv m.told :: G) := hS
    have hS := hS.tail.tail
    have hS := hS.conseq (i := 1) (A' := grp (q2.map itsJ)) rfl (fun g hg => grp_perm hp2.symm hg)
    have hS : Sat w0 w (rowA 77 7 (slV s) q.length (q2.flatMap encJ) :: grp (q2.map itsJ) :: pt p (.cells (modC m.lay ib m.d tv) 58) :: mapA encI ib (itemsKV m.items) :: itemsA m.items :: descsA m.d :: toldA tv m.told :: G) := hS
    have e1 : q2.map (·.1) = (stateOf m).items := by
      refine sortK_eq (key := fun x : ItS => x.inum) ((hp2.map (·.1)).trans hp) ?_ ?_
      · rw [List.map_map]; exact hkeys
      · unfold Rises at hr2 ⊢; rw [List.pairwise_map]; exact hr2
    have hS := Sat.closeH (C := stA (slV s) (stateOf m)) [_, _] hS (fun g hg => ⟨q2.map jv, by rw [← e1, List.map_map]; rfl, by
      have e2 : itemsRow (slV s) (q2.map jv) = rowA 77 7 (slV s) q.length (q2.flatMap encJ) := by
        unfold itemsRow
        rw [List.length_map, hp2.length_eq, List.flatMap_map]; rfl
      rw [e2, List.map_map]; exact hg⟩)
    exact Sat.closeAt [stA (slV s) (stateOf m)] (modL p m ib tv) hS (fun _ hg => hg)
end Go.Proofs.YtllomopjoomdiaaGreat
end

section
namespace Go.Proofs.YtllomopjoomdiaaGreat
open Go.SL
/-- A step is over. -/
def stepM (m : Mod) : Mod := { m with told := m.told ++ [stateOf m] }
theorem oneCells_st (q : List (St × Value)) (v : Value) (s : St) (h : v.oneCell' = true) : oneCells (stC (s, v)) = true := by
  unfold oneCells stC
  simp [h]; exact ⟨rfl, rfl⟩
theorem step_spec {w0 w : World} {G : List Asn} {p : Nat} {m : Mod} (hf : Fine m) (ht : m.told.length ≤ 1000000000) (hS : Sat w0 w (modA p m :: G)) :
    CR Tryz.prog 110 [ptr p] w fun v w' => v = .tuple #[] ∧ Sat w0 w' (modA p (stepM m) :: G) := by
  refine calls_enter Tryz.func110 rfl rfl rfl ?_
  obtain ⟨ib, tv, hS⟩ := Sat.modOpen hS
  have hS : Sat w0 w (pt p (.cells (modC m.lay ib m.d tv) 58) :: mapA encI ib (itemsKV m.items) :: itemsA m.items :: descsA m.d :: (fun h => ∃ q : List (St × Value), q.map (·.1) = m.told ∧ grp [rowA 46 3 tv q.length (q.flatMap stC), grp (q.map fun x => stA x.2 x.1)] h) :: G) := hS
  obtain ⟨q, hS⟩ := hS.ex (i := 4) rfl
  have hq : q.map (·.1) = m.told := hS.pure (i := 4) rfl fun g hg => hg.1
  have hS := hS.conseq (i := 4) (A' := grp [rowA 46 3 tv q.length (q.flatMap stC), grp (q.map fun x => stA x.2 x.1)]) rfl fun g hg => hg.2
  have hS : Sat w0 w ([mapA encI ib (itemsKV m.items), itemsA m.items, descsA m.d, grp [rowA 46 3 tv q.length (q.flatMap stC), grp (q.map fun x => stA x.2 x.1)]] ++ (pt p (.cells (modC m.lay ib m.d tv) 58) :: G)) := hS.back 4 rfl
  have hql : q.length = m.told.length := by rw [← hq]; simp
  skip
  refine region_c (L := _ :: G) 9 [6, 7, 8] _ mixed (by kernel_rfl) hS ?_
  (repeat (first | (apply r_ptr ok rfl; rfl; · conv => { lhs; whnf }) | (apply r_rd rfl; apply rd_load ok (i := 0); rfl; rfl; rfl; rfl; · conv => { lhs; whnf; arg 1; whnf })))
  refine r_chain undef rfl rfl ?_
  refine r_chain undef rfl rfl ?_
  refine r_chain undef rfl rfl ?_
  (repeat (first | refine r_nil ?_))
  refine ch_step rfl rfl (fun G2 w hS => ?_)
  have hS := hS.bring 4 rfl
  have hS := hS.conseq (i := 4) (A' := toldA tv m.told) rfl (fun g hg => ⟨q, hq, hg⟩)
  refine o_call ok rfl rfl (State_specP hf (Sat.modCloseP hS)) (fun v w h => ?_)
  obtain ⟨s, rfl, hS⟩ := h
  have hS := Sat.modOpenP (hS.bring 1 rfl)
  refine o_nil ⟨rfl, [_, _, _, _, _], hS.back 5 rfl, ?_⟩
  refine ch_step rfl rfl (fun G2 w hS => ?_)
  refine o_buildS ok (vs := [.agg (stC (stateOf m, slV s)).toArray]) hS rfl rfl rfl rfl rfl rfl rfl rfl rfl (fun b8 w hS => ?_)
  refine o_nil ⟨rfl, [_, _, _, _, _, _], hS, ?_⟩
  refine ch_step rfl rfl (fun G2 w hS => ?_)
  have hS : Sat w0 w ((fun h => ∃ q : List (St × Value), (fun h => q.map (·.1) = m.told ∧ grp [rowA 46 3 tv q.length (q.flatMap stC), grp (q.map fun x => stA x.2 x.1)] h) h) :: _) := hS.bring 4 rfl
  obtain ⟨q2, hS⟩ := hS.exH
  have hq2 : q2.map (·.1) = m.told := hS.pureH fun g hg => hg.1
  have hq2l : q2.length = m.told.length := by rw [← hq2]; simp
  have hS := hS.openH [rowA 46 3 tv q2.length (q2.flatMap stC), grp (q2.map fun x => stA x.2 x.1)] (fun g hg => hg.2)
  have hS : Sat w0 w (rowA 46 3 tv q2.length (q2.flatMap stC) :: grp (q2.map fun x => stA x.2 x.1) :: pt b8 (.cells (stC (stateOf m, slV s)).toArray 46) :: mapA encI ib (itemsKV m.items) :: itemsA m.items :: descsA m.d :: stA (slV s) (stateOf m) :: pt p (.cells (modC m.lay ib m.d tv) 58) :: (G ++ G2)) := hS
  refine o_append ok hS rfl rfl rfl rfl rfl rfl rfl (i := 0) rfl (hS.ptSrc0 (i := 2) rfl) rfl rfl (by omega) (by omega) (fun v' w hS => ?_)
  refine o_nil ⟨rfl, [_, _, _, _, _, _, _], hS, ch_nil ?_⟩
  intro w hS
  have hS : Sat w0 w (rowA 46 3 v' (q2.length + 1) (q2.flatMap stC ++ stC (stateOf m, slV s)) :: grp (q2.map fun x => stA x.2 x.1) :: pt b8 (.cells (stC (stateOf m, slV s)).toArray 46) :: mapA encI ib (itemsKV m.items) :: itemsA m.items :: descsA m.d :: stA (slV s) (stateOf m) :: pt p (.cells (modC m.lay ib m.d tv) 58) :: G) := hS
  obtain ⟨_, a3, c3, rfl, _, _⟩ := Sat.rowForm hS (i := 0) rfl
  have hS := hS.bring 7 rfl
  (repeat (first | (apply o_ptr ok; rfl; · conv => { lhs; whnf })))
  (apply o_store ok hS (i := 0); rfl; (conv => { lhs; whnf }); rfl; rfl; rfl; rfl; intro w hS)
  (repeat (first | refine o_nil ?_))
  refine end0 rfl ⟨rfl, ?_⟩
  have hS : Sat w0 w (pt p (.cells (modC m.lay ib m.d (.slice a3 (q2.length + 1) c3)) 58) :: rowA 46 3 (.slice a3 (q2.length + 1) c3) (q2.length + 1) (q2.flatMap stC ++ stC (stateOf m, slV s)) :: grp (q2.map fun x => stA x.2 x.1) :: pt b8 (.cells (stC (stateOf m, slV s)).toArray 46) :: mapA encI ib (itemsKV m.items) :: itemsA m.items :: descsA m.d :: stA (slV s) (stateOf m) :: G) := hS
  have hS := (hS.bring 3 rfl).tail
  have hS := (hS.bring 2 rfl).bring 6 rfl
  have hS : Sat w0 w (stA (slV s) (stateOf m) :: grp (q2.map fun x => stA x.2 x.1) :: pt p (.cells (modC m.lay ib m.d (.slice a3 (q2.length + 1) c3)) 58) :: rowA 46 3 (.slice a3 (q2.length + 1) c3) (q2.length + 1) (q2.flatMap stC ++ stC (stateOf m, slV s)) :: mapA encI ib (itemsKV m.items) :: itemsA m.items :: descsA m.d :: G) := hS
  have hS := Sat.snoc (F := fun x : St × Value => stA x.2 x.1) (x := (stateOf m, slV s)) hS
  have hS := hS.bring 2 rfl
  have hS := Sat.closeH (C := toldA (.slice a3 (q2.length + 1) c3) (m.told ++ [stateOf m])) [_, _] hS (fun g hg => ⟨q2 ++ [(stateOf m, slV s)], by rw [List.map_append, hq2]; rfl, by
    rw [List.length_append, List.flatMap_append, List.flatMap_cons, List.flatMap_nil, List.append_nil]; exact hg⟩)
  have hS := hS.back 4 rfl
  exact Sat.modClose (m := stepM m) hS
end Go.Proofs.YtllomopjoomdiaaGreat
end

section
namespace Go.Proofs.YtllomopjoomdiaaGreat
open Go.SL
/-- The errors of a new entry in a directory: its slot. -/
def roomOf (m : Mod) (t : It) (blocks inodes : Int) : Int × Int :=
  if ¬(spotOf t).2.2 = 0 then (0, (spotOf t).2.2) else if freeOf m < (spotOf t).2.1 + blocks then (0, 16) else if 0 < inodes ∧ spareOf m = 0 then (0, 16) else ((spotOf t).1, 0)
theorem freeOf_le {m : Mod} (hf : Fine m) : -288230376152760320 ≤ freeOf m ∧ freeOf m ≤ 1048576 := by
  have h1 := sumU_le hf.small
  have h2 := hf.many
  have h3 := hf.blocks
  have h4 := hf.dataAt
  unfold freeOf
  omega
theorem spotOf_le {t : It} (hs : SmallIt t) (h0 : 0 ≤ t.size) : -4398046511104 ≤ (spotOf t).2.1 ∧ (spotOf t).2.1 ≤ 4398046511104 := by
  have h1 := usedOf_le hs
  unfold spotOf
  split
  · simp
  · split
    · simp
    · have h2 := usedOf_le (t := ⟨2, 0, t.size + 16, [], []⟩) ⟨by show t.size + 16 ≤ _; omega, by show (0 : Nat) ≤ _; omega⟩
      have h3 : usedOf ⟨2, 0, t.size + 16, [], []⟩ = totR (t.size + 16) := rfl
      rw [h3] at h2
      simp only
      omega
theorem room_spec {w0 w : World} {G : List Asn} {p : Nat} {m : Mod} {k blocks inodes : Int} {x : Itm} (hf : Fine m) (hx : getX m.items k = some x) (hsz : 0 ≤ x.2.2.size) (hb : 0 ≤ blocks ∧ blocks ≤ 1000) (hS : Sat w0 w (modA p m :: G)) :
    CR Tryz.prog 107 [ptr p, vi k, vi blocks, vi inodes] w fun v w' => v = .tuple #[vi (roomOf m x.2.2 blocks inodes).1, vi (roomOf m x.2.2 blocks inodes).2] ∧ Sat w0 w' (modA p m :: G) := by
  have hm := (getX_some hx).1
  have hfr := freeOf_le hf
  have hsp := spotOf_le (hf.small x hm) hsz
  refine calls_enter Tryz.func107 rfl rfl rfl ?_
  (repeat (first | (apply o_ptr ok; rfl; · conv => { lhs; whnf }) | (apply o_pure ok; · conv => { lhs; whnf; arg 1; whnf }) | refine c_seq ?_ | refine c_region ?_ | refine o_nil ?_ | refine q_then ?_))
  refine o_call ok rfl rfl (spot_spec hf hx hsz hS) (fun v w h => ?_)
  obtain ⟨rfl, hS⟩ := h
  unfold roomOf
  generalize spotOf x.2.2 = s at hsp ⊢
  (repeat (first | (apply o_pure ok; · conv => { lhs; whnf; arg 1; whnf }) | refine c_seq ?_ | refine c_region ?_ | refine c_block ?_ | refine o_nil ?_ | refine q_then ?_))
  refine c_cond_d rfl (fun h1 => ?_) (fun h1 => ?_)
  · (repeat (first | (apply o_pure ok; · conv => { lhs; whnf; arg 1; whnf }) | refine c_seq ?_ | refine c_region ?_ | refine c_ret ?_ | refine o_nil ?_ | refine q_then ?_ | refine q_then_r ?_ | refine q_blk_r ?_))
    exact out2 rfl ⟨by rw [if_pos (show ¬s.2.2 = 0 from h1)]; rfl, hS⟩
  · have h1' : ¬¬s.2.2 = 0 := h1
    rw [if_neg h1']
    (repeat (first | (apply o_add; rfl; rfl; omega) | (apply o_ptr ok; rfl; · conv => { lhs; whnf }) | (apply o_pure ok; · conv => { lhs; whnf; arg 1; whnf }) | refine c_seq ?_ | refine c_region ?_))
    refine o_call ok rfl rfl (free_spec hf hS) (fun v w h => ?_)
    obtain ⟨rfl, hS⟩ := h
    (repeat (first | (apply o_pure ok; · conv => { lhs; whnf; arg 1; whnf })))
    refine o_guard_d rfl rfl rfl (fun h2 => ?_) (fun h2 => ?_)
    · rw [if_pos h2]
      (repeat (first | (apply o_pure ok; · conv => { lhs; whnf; arg 1; whnf }) | refine c_seq ?_ | refine c_region ?_ | refine c_ret ?_ | refine o_nil ?_ | refine q_then ?_ | refine q_then_r ?_ | refine q_blk_r ?_ | (apply c_cond_t; rfl) | refine o_pass rfl rfl rfl rfl ?_ | refine o_undef rfl rfl ?_))
      exact out2 rfl ⟨rfl, hS⟩
    · rw [if_neg h2]
      (repeat (first | (apply o_pure ok; · conv => { lhs; whnf; arg 1; whnf }) | refine o_want rfl rfl rfl ?_))
      refine o_guard_d rfl rfl rfl (fun h3 => ?_) (fun h3 => ?_)
      · (repeat (first | (apply o_ptr ok; rfl; · conv => { lhs; whnf }) | refine o_want rfl rfl rfl ?_))
        refine o_call ok rfl rfl (spare_spec hf hS) (fun v w h => ?_)
        obtain ⟨rfl, hS⟩ := h
        (repeat (first | (apply o_pure ok; · conv => { lhs; whnf; arg 1; whnf }) | refine o_nil ?_ | refine q_then ?_ | refine o_want rfl rfl rfl ?_))
        refine c_cond_d rfl (fun h4 => ?_) (fun h4 => ?_)
        · rw [if_pos ⟨h3, h4⟩]
          (repeat (first | (apply o_pure ok; · conv => { lhs; whnf; arg 1; whnf }) | refine c_seq ?_ | refine c_region ?_ | refine c_ret ?_ | refine o_nil ?_ | refine q_then ?_ | refine q_then_r ?_ | refine q_blk_r ?_))
          exact out2 rfl ⟨rfl, hS⟩
        · rw [if_neg (fun h => h4 h.2)]
          (repeat (first | (apply o_pure ok; · conv => { lhs; whnf; arg 1; whnf }) | refine c_seq ?_ | refine c_region ?_ | refine c_skip ?_ | refine c_ret ?_ | refine o_nil ?_ | refine q_then ?_ | refine q_blk_n ?_))
          exact out2 rfl ⟨rfl, hS⟩
      · rw [if_neg (fun h => h3 h.1)]
        (repeat (first | (apply o_pure ok; · conv => { lhs; whnf; arg 1; whnf }) | refine c_seq ?_ | refine c_region ?_ | refine c_skip ?_ | refine c_ret ?_ | refine o_nil ?_ | refine q_then ?_ | refine q_blk_n ?_ | (apply c_cond_f; rfl) | refine o_want rfl rfl rfl ?_ | refine o_pass rfl rfl rfl rfl ?_))
        exact out2 rfl ⟨rfl, hS⟩
end Go.Proofs.YtllomopjoomdiaaGreat
end

section
namespace Go.Proofs.YtllomopjoomdiaaGreat
open Go.SL
def byteI (s : ByteArray) (j : Nat) : Int := ((s.data.toList.getD j 0).toNat : Int)
def parseGo (s : ByteArray) : Nat → Nat → Nat → List ByteArray → Bool → List ByteArray × Int
  | 0, _, _, l, long => if long then ([], 12) else (l, 0)
  | k + 1, i, f, l, long => if i < s.size then (if byteI s i = 0 then ([], 4) else if ¬byteI s i = 47 then parseGo s k (i + 1) f l long else parseGo s k (i + 1) (i + 1) (if f < i then l ++ [s.extract f i] else l) (if f < i then long || decide ((14 : Int) < i - f) else long))
    else parseGo s k (i + 1) (i + 1) (if f < i then l ++ [s.extract f i] else l) (if f < i then long || decide ((14 : Int) < i - f) else long)
/-- A path's names. -/
def parseOf (s : ByteArray) : List ByteArray × Int := if s = ⟨#[]⟩ then ([], 4) else if ¬byteI s 0 = 47 then ([], 4) else if 1024 < s.size then ([], 4) else parseGo s (s.size + 1) 0 0 [] false
theorem parse_spec {w0 w : World} {G : List Asn} (s : ByteArray) (hbig : s.size ≤ 4611686018427387904) (hS : Sat w0 w G) : CR Tryz.prog 94 [.string s] w fun v w' => ∃ nv, v = .tuple #[nv, vi (parseOf s).2] ∧ Sat w0 w' (namesA nv (parseOf s).1 :: G) := by
  refine calls_enter Tryz.func94 rfl rfl rfl ?_
  have none : ∀ {w : World} {G : List Asn}, Sat w0 w G → Sat w0 w (namesA (.slice none 0 0) [] :: G) := fun hS => Sat.closeH [] hS (fun g _ => rowA_nil _ _ g)
  unfold parseOf
  (repeat (first | (apply o_pure ok; · conv => { lhs; whnf; arg 1; whnf }) | refine c_seq ?_ | refine c_region ?_ | refine o_nil ?_ | refine q_then ?_))
  refine o_guard_d rfl rfl rfl (fun h1 => ?_) (fun h1 => ?_)
  · rw [if_pos h1]
    (repeat (first | (apply o_pure ok; · conv => { lhs; whnf; arg 1; whnf }) | refine c_seq ?_ | refine c_region ?_ | refine c_ret ?_ | refine o_nil ?_ | refine q_then ?_ | refine q_then_r ?_ | (apply c_cond_t; rfl) | refine o_pass rfl rfl rfl rfl ?_))
    exact out2 rfl ⟨_, rfl, none hS⟩
  · have h1' : ¬s = ⟨#[]⟩ := h1
    rw [if_neg h1']
    have hpos : 0 < s.size := by
      rcases Nat.eq_zero_or_pos s.size with h | h
      · exfalso; apply h1'
        cases s with
        | mk a => simp only [ByteArray.size] at h; rw [Array.eq_empty_of_size_eq_zero h]
      · exact h
    (repeat (first | (apply o_pure ok; · conv => { lhs; whnf; arg 1; whnf }) | refine o_want rfl rfl rfl ?_))
    refine o_indexS ok rfl rfl rfl (by omega) ?_
    (repeat (first | (apply o_pure ok; · conv => { lhs; whnf; arg 1; whnf }) | refine o_want rfl rfl rfl ?_))
    refine o_guard_d rfl rfl rfl (fun h2 => ?_) (fun h2 => ?_)
    · have h2' : ¬byteI s 0 = 47 := h2
      rw [if_pos h2']
      (repeat (first | (apply o_pure ok; · conv => { lhs; whnf; arg 1; whnf }) | refine c_seq ?_ | refine c_region ?_ | refine c_ret ?_ | refine o_nil ?_ | refine q_then ?_ | refine q_then_r ?_ | (apply c_cond_t; rfl) | refine o_pass rfl rfl rfl rfl ?_))
      exact out2 rfl ⟨_, rfl, none hS⟩
    · have h2' : ¬¬byteI s 0 = 47 := h2
      rw [if_neg h2']
      (repeat (first | (apply o_pure ok; · conv => { lhs; whnf; arg 1; whnf }) | refine o_nil ?_ | refine q_then ?_ | refine o_want rfl rfl rfl ?_))
      refine c_cond_d rfl (fun h3 => ?_) (fun h3 => ?_)
      · rw [if_pos (by omega)]
        (repeat (first | (apply o_pure ok; · conv => { lhs; whnf; arg 1; whnf }) | refine c_seq ?_ | refine c_region ?_ | refine c_ret ?_ | refine o_nil ?_ | refine q_then ?_ | refine q_then_r ?_))
        exact out2 rfl ⟨_, rfl, none hS⟩
      · rw [if_neg (by omega)]
        have hS := none hS
        (repeat (first | (apply o_pure ok; · conv => { lhs; whnf; arg 1; whnf }) | refine c_seq ?_ | refine c_region ?_ | refine c_block ?_ | refine c_skip ?_ | refine o_nil ?_ | refine q_then ?_))
        refine c_loop (fun k g w => ∃ (i f : Nat) (l : List ByteArray) (long : Bool) (nv : Value) (jk : Nat → Value), i + k = s.size + 1 ∧ f ≤ i ∧ l.length ≤ i ∧ parseGo s (s.size + 1) 0 0 [] false = parseGo s k i f l long ∧
          g = updL [(0, .string s), (4, nv), (5, .bool long), (6, vi f), (7, vi i)] jk ∧ Sat w0 w (namesA nv l :: G)) (s.size + 1)
          ⟨0, 0, [], false, _, _, by omega, by omega, by simp, rfl, updL_self _ _ ⟨rfl, rfl, rfl, rfl, rfl, trivial⟩, hS⟩ ?_
        rintro k g w ⟨i, f, l, long, nv, jk, hik, hfi, hli, hs, rfl, hS⟩
        (repeat (first | (apply o_pure ok; · conv => { lhs; whnf; arg 1; whnf }) | refine c_seq ?_ | refine c_region ?_ | refine o_nil ?_ | refine q_then ?_))
        refine c_cond_d rfl (fun h4 => ?_) (fun h4 => ?_)
        · obtain ⟨k, rfl⟩ : ∃ k', k = k' + 1 := ⟨k - 1, by omega⟩
          (repeat (first | (apply o_pure ok; · conv => { lhs; whnf; arg 1; whnf }) | refine c_seq ?_ | refine c_region ?_ | refine c_block ?_ | refine c_skip ?_ | refine q_then ?_))
          refine o_guard_d rfl rfl rfl (fun h5 => ?_) (fun h5 => ?_)
          have hlt : i < s.size := by omega
          (repeat (first | (apply o_pure ok; · conv => { lhs; whnf; arg 1; whnf }) | refine o_want rfl rfl rfl ?_))
          refine o_indexS ok rfl rfl rfl (by omega) ?_
          (repeat (first | (apply o_pure ok; · conv => { lhs; whnf; arg 1; whnf }) | refine o_nil ?_ | refine q_then ?_ | refine o_want rfl rfl rfl ?_))
          refine c_cond_d rfl (fun h6 => ?_) (fun h6 => ?_)
          · have h6' : byteI s i = 0 := h6
            have hgo : parseGo s (k + 1) i f l long = ([], 4) := by conv => { lhs; unfold parseGo }; rw [if_pos hlt, if_pos h6']
            (repeat (first | (apply o_pure ok; · conv => { lhs; whnf; arg 1; whnf }) | refine c_seq ?_ | refine c_region ?_ | refine c_ret ?_ | refine o_nil ?_ | refine q_then ?_ | refine q_then_r ?_ | refine q_blk_r ?_))
            exact out2 rfl ⟨_, by rw [hs, hgo]; rfl, by rw [hs, hgo]; exact none hS.tail⟩
          have h6' : ¬byteI s i = 0 := h6
          (repeat (first | (apply o_pure ok; · conv => { lhs; whnf; arg 1; whnf }) | refine c_seq ?_ | refine c_region ?_ | refine c_skip ?_ | refine q_then ?_))
          refine o_guard_d rfl rfl rfl (fun h7 => ?_) (fun h7 => absurd (show (i : Int) < s.size by omega) h7)
          (repeat (first | (apply o_pure ok; · conv => { lhs; whnf; arg 1; whnf }) | refine o_want rfl rfl rfl ?_))
          refine o_indexS ok rfl rfl rfl (by omega) ?_
          (repeat (first | (apply o_pure ok; · conv => { lhs; whnf; arg 1; whnf }) | refine o_nil ?_ | refine q_then ?_ | refine o_want rfl rfl rfl ?_))
          refine c_cond_d rfl (fun h8 => ?_) (fun h8 => ?_)
          · have h8' : ¬byteI s i = 47 := h8
            have hgo : parseGo s (k + 1) i f l long = parseGo s k (i + 1) f l long := by conv => { lhs; unfold parseGo }; rw [if_pos hlt, if_neg h6', if_pos h8']
            (repeat (first | (apply o_add; rfl; rfl; omega) | (apply o_pure ok; · conv => { lhs; whnf; arg 1; whnf }) | refine c_region ?_ | refine c_exit ?_ | refine o_nil ?_ | refine q_then ?_ | refine q_then_e ?_ | refine q_blk_e ?_))
            exact ⟨k, by omega, i + 1, f, l, long, nv, _, by omega, by omega, by omega, by rw [hs, hgo], updL_self _ _ ⟨rfl, rfl, rfl, rfl, rfl, trivial⟩, hS⟩
          have h8' : ¬¬byteI s i = 47 := h8
          have hgo : parseGo s (k + 1) i f l long = parseGo s k (i + 1) (i + 1) (if f < i then l ++ [s.extract f i] else l) (if f < i then long || decide ((14 : Int) < i - f) else long) := by conv => { lhs; unfold parseGo }; rw [if_pos hlt, if_neg h6', if_neg h8']
          have hle : i ≤ s.size := by omega
          (repeat (first | (apply o_pure ok; · conv => { lhs; whnf; arg 1; whnf }) | refine c_seq ?_ | refine c_region ?_ | refine c_skip ?_ | refine o_nil ?_ | refine q_then ?_))
          rotate_left
          have hlt : ¬i < s.size := by omega
          have hgo : parseGo s (k + 1) i f l long = parseGo s k (i + 1) (i + 1) (if f < i then l ++ [s.extract f i] else l) (if f < i then long || decide ((14 : Int) < i - f) else long) := by conv => { lhs; unfold parseGo }; rw [if_neg hlt]
          have hle : i ≤ s.size := by omega
          (repeat (first | (apply o_pure ok; · conv => { lhs; whnf; arg 1; whnf }) | refine c_seq ?_ | refine c_region ?_ | refine c_skip ?_ | refine o_nil ?_ | refine q_then ?_ | (apply c_cond_f; rfl) | refine o_pass rfl rfl rfl rfl ?_))
          refine o_guard_d rfl rfl rfl (fun h7 => absurd h7 (by omega)) (fun h7 => ?_)
          (repeat (first | (apply o_pure ok; · conv => { lhs; whnf; arg 1; whnf }) | refine c_seq ?_ | refine c_region ?_ | refine c_skip ?_ | refine o_nil ?_ | refine q_then ?_ | (apply c_cond_f; rfl) | refine o_pass rfl rfl rfl rfl ?_))
          all_goals (
            refine c_cond_d rfl (fun h9 => ?_) (fun h9 => ?_)
            · rw [if_pos (show f < i by omega), if_pos (show f < i by omega)] at hgo
              have hS := hS
              (repeat (first | (apply o_pure ok; · conv => { lhs; whnf; arg 1; whnf }) | refine c_seq ?_ | refine c_region ?_))
              refine o_rd hS (rd_sliceS (l := f) (h := i) ok rfl rfl ⟨.i64, rfl⟩ ⟨.i64, rfl⟩ (by omega) (by omega)) ?_
              refine o_buildS ok (vs := [.string (s.extract f i)]) hS rfl rfl rfl rfl rfl rfl rfl rfl rfl (fun b8 w hS => ?_)
              refine o_append ok hS rfl rfl rfl rfl rfl rfl rfl (i := 1) rfl (hS.ptSrc0 (i := 0) rfl) rfl rfl (by omega) (by omega) (fun v' w hS => ?_)
              have hS := ((hS.bring 1 rfl)).weakH (D := rowA 9 1 v' (l.length + 1) (l.map Value.string ++ [.string (s.extract f i)])) (fun _ h => h)
              have hS : Sat w0 w (rowA 9 1 v' (l.length + 1) (l.map Value.string ++ [.string (s.extract f i)]) :: _ :: G) := hS
              have hS := (hS.bring 1 rfl).tail
              have e1 : namesA v' (l ++ [s.extract f i]) = rowA 9 1 v' (l.length + 1) (l.map Value.string ++ [.string (s.extract f i)]) := by unfold namesA; rw [List.length_append, List.map_append]; rfl
              (repeat (first | (apply o_pure ok; · conv => { lhs; whnf; arg 1; whnf }) | refine c_region ?_ | refine o_nil ?_ | refine q_then ?_))
              refine o_guard_b rfl rfl rfl (fun h10 => ?_) (fun h10 => ?_)
              · (repeat (first | (apply o_add; rfl; rfl; omega) | (apply o_pure ok; · conv => { lhs; whnf; arg 1; whnf }) | refine c_region ?_ | refine o_nil ?_ | refine q_then ?_ | refine q_blk_n ?_ | refine o_pass rfl rfl rfl rfl ?_))
                refine ⟨k, by omega, i + 1, i + 1, l ++ [s.extract f i], true, v', _, by omega, by omega, by rw [List.length_append]; simp; omega, by rw [hs, hgo, h10]; rfl, updL_self _ _ ⟨rfl, rfl, rfl, rfl, rfl, trivial⟩, by rw [e1]; exact hS⟩
              · (repeat (first | (apply o_add; rfl; rfl; omega) | (apply o_sub; rfl; rfl; omega) | (apply o_pure ok; · conv => { lhs; whnf; arg 1; whnf }) | refine c_region ?_ | refine o_nil ?_ | refine q_then ?_ | refine q_blk_n ?_ | refine o_want rfl rfl rfl ?_))
                refine ⟨k, by omega, i + 1, i + 1, l ++ [s.extract f i], decide ((14 : Int) < i - f), v', _, by omega, by omega, by rw [List.length_append]; simp; omega, by rw [hs, hgo, h10]; rfl, updL_self _ _ ⟨rfl, rfl, rfl, rfl, rfl, trivial⟩, by rw [e1]; exact hS⟩
            · rw [if_neg (show ¬f < i by omega), if_neg (show ¬f < i by omega)] at hgo
              (repeat (first | (apply o_add; rfl; rfl; omega) | (apply o_pure ok; · conv => { lhs; whnf; arg 1; whnf }) | refine c_region ?_ | refine c_skip ?_ | refine o_nil ?_ | refine q_then ?_ | refine q_blk_n ?_))
              exact ⟨k, by omega, i + 1, i + 1, l, long, nv, _, by omega, by omega, by omega, by rw [hs, hgo], updL_self _ _ ⟨rfl, rfl, rfl, rfl, rfl, trivial⟩, hS⟩)
        · obtain rfl : k = 0 := by omega
          (repeat (first | (apply o_pure ok; · conv => { lhs; whnf; arg 1; whnf }) | refine c_seq ?_ | refine c_region ?_ | refine c_exit ?_ | refine o_nil ?_ | refine q_then ?_ | refine q_then_e ?_ | refine q_blk_e ?_))
          refine c_cond_b rfl (fun h10 => ?_) (fun h10 => ?_)
          · have hgo : parseGo s 0 i f l long = ([], 12) := by unfold parseGo; rw [h10]; rfl
            (repeat (first | (apply o_pure ok; · conv => { lhs; whnf; arg 1; whnf }) | refine c_seq ?_ | refine c_region ?_ | refine c_ret ?_ | refine o_nil ?_ | refine q_then ?_ | refine q_then_r ?_))
            exact out2 rfl ⟨_, by rw [hs, hgo]; rfl, by rw [hs, hgo]; exact none hS.tail⟩
          · have hgo : parseGo s 0 i f l long = (l, 0) := by unfold parseGo; rw [h10]; rfl
            (repeat (first | (apply o_pure ok; · conv => { lhs; whnf; arg 1; whnf }) | refine c_seq ?_ | refine c_region ?_ | refine c_skip ?_ | refine c_ret ?_ | refine o_nil ?_ | refine q_then ?_))
            exact out2 rfl ⟨_, by rw [hs, hgo]; rfl, by rw [hs, hgo]; exact hS⟩
end Go.Proofs.YtllomopjoomdiaaGreat
end

section
namespace Go.Proofs.YtllomopjoomdiaaGreat
open Go.SL
def statC (k : Int) (t : It) : Array Value := #[vi k, .int .u16 t.kind, vi t.links, vi t.size, vi (usedOf t)]
theorem told1_spec {w0 w : World} {G : List Asn} {p : Nat} {m : Mod} {k : Int} {x : Itm} (hf : Fine m) (hx : getX m.items k = some x) (hS : Sat w0 w (modA p m :: G)) : CR Tryz.prog 63 [ptr p, vi k] w fun v w' => v = .agg (statC k x.2.2) ∧ Sat w0 w' (modA p m :: G) := by
  have hm := (getX_some hx).1
  have hsm := hf.small x hm
  refine calls_enter Tryz.func63 rfl rfl rfl ?_
  obtain ⟨ib, tv, hS⟩ := Sat.modOpen hS
  have hn := Sat.modKeys hS (i := 1) rfl
  (repeat (first | refine c_seq ?_ | refine c_region ?_))
  refine o_alloc ok hS rfl (fun b4 w hS => ?_)
  (repeat (first | (apply o_ptr ok; rfl; · conv => { lhs; whnf }) | (apply o_pure ok; · conv => { lhs; whnf; arg 1; whnf }) | refine c_seq ?_ | refine c_region ?_ | refine o_nil ?_ | refine q_then ?_ | (apply o_rd hS; apply rd_load ok (i := 1); rfl; rfl; rfl; rfl; · conv => { lhs; whnf; arg 1; whnf })))
  refine o_rd (v := ptr x.2.1) hS (rd_item ok hx rfl rfl rfl rfl rfl (i := 2) rfl) ?_
  have hS := Sat.itOpen hn hx (hS.bring 3 rfl)
  obtain ⟨dm, sv, hS⟩ := Sat.itemToP hS
  (repeat (first | (apply o_ptr ok; rfl; · conv => { lhs; whnf }) | refine c_seq ?_ | refine o_nil ?_ | refine q_then ?_))
  have hS : Sat w0 w ([] ++ (itemP x.2.1 x.2.2 dm sv :: itemsA (without m.items k) :: pt b4 (.cells #[vi 0, .int .u16 0, vi 0, vi 0, vi 0] 62) :: pt p (.cells (modC m.lay ib m.d tv) 58) :: mapA encI ib (itemsKV m.items) :: descsA m.d :: toldA tv m.told :: G)) := hS
  refine region_c (L := _ :: _) 16 [14, 15] [] mixed (by kernel_rfl) hS ?_
  (repeat (first | (apply r_ptr ok rfl; rfl; · conv => { lhs; whnf }) | (apply r_pure ok rfl; · conv => { lhs; whnf; arg 1; whnf })))
  apply r_rd rfl (rd_loadP ok (i := 0) rfl rfl rfl rfl rfl)
  (repeat (first | (apply r_ptr ok rfl; rfl; · conv => { lhs; whnf })))
  apply r_rd rfl (rd_loadP ok (i := 0) rfl rfl rfl rfl rfl)
  (repeat (first | (apply r_ptr ok rfl; rfl; · conv => { lhs; whnf })))
  apply r_rd rfl (rd_loadP ok (i := 0) rfl rfl rfl rfl rfl)
  (repeat (first | (apply r_ptr ok rfl; rfl; · conv => { lhs; whnf })))
  refine r_chain undef rfl rfl ?_
  refine r_chain undef rfl rfl ?_
  (repeat (first | refine r_nil ?_))
  refine ch_step rfl rfl (fun G2 w hS => ?_)
  refine o_call ok rfl rfl (indicesP_spec hsm hS) (fun v w h => ?_)
  obtain ⟨l1, hl1, hS⟩ := h
  refine o_nil ⟨rfl, [_], hS, ?_⟩
  refine ch_step rfl rfl (fun G2 w hS => ?_)
  refine o_call ok rfl rfl (total_spec l1 (hl1.len hsm) hS) (fun v w h => ?_)
  obtain ⟨rfl, hS⟩ := h
  rw [hl1.total, show totalOf (idxOf x.2.2) = usedOf x.2.2 from rfl]
  refine o_nil ⟨rfl, [], hS.tail, ch_nil ?_⟩
  intro w hS
  have hS : Sat w0 w (itemP x.2.1 x.2.2 dm sv :: itemsA (without m.items k) :: pt b4 (.cells #[vi 0, .int .u16 0, vi 0, vi 0, vi 0] 62) :: pt p (.cells (modC m.lay ib m.d tv) 58) :: mapA encI ib (itemsKV m.items) :: descsA m.d :: toldA tv m.told :: G) := hS
  have hS := hS.bring 2 rfl
  (repeat (first | refine c_ret ?_ | refine o_nil ?_ | refine q_then ?_ | (apply o_rd hS; apply rd_build1 ok; rfl; rfl; rfl; rfl) | (refine o_storeW ok hS rfl rfl rfl (i := 0) rfl rfl rfl rfl (fun w hS => ?_))))
  refine outCA ok rfl hS rfl rfl rfl rfl (i := 0) rfl rfl ⟨rfl, ?_⟩
  have hS : Sat w0 w (itemP x.2.1 x.2.2 dm sv :: itemsA (without m.items k) :: pt p (.cells (modC m.lay ib m.d tv) 58) :: mapA encI ib (itemsKV m.items) :: descsA m.d :: toldA tv m.told :: G) := hS.tail
  exact Sat.modClose ((Sat.itSame hn hx (Sat.itemOfP hS (i := 0) rfl)).back 2 rfl)

/-- What a path is. -/
def statS (m : Mod) (path : ByteArray) : Option (Array Value × Int) :=
  if ¬(parseOf path).2 = 0 then some (#[vi 0, .int .u16 0, vi 0, vi 0, vi 0], (parseOf path).2) else match findS m (parseOf path).1 1 with
  | none => none
  | some r => if ¬r.2 = 0 then some (#[vi 0, .int .u16 0, vi 0, vi 0, vi 0], r.2) else match getX m.items r.1 with
    | none => none
    | some x => some (statC r.1 x.2.2, 0)
theorem parseGo_len (s : ByteArray) : ∀ (k i f : Nat) (l : List ByteArray) (long : Bool), (parseGo s k i f l long).1.length ≤ l.length + k
  | 0, i, f, l, long => by unfold parseGo; split <;> simp
  | k + 1, i, f, l, long => by
    have h1 := parseGo_len s k (i + 1) f l long
    have h2 := parseGo_len s k (i + 1) (i + 1) (if f < i then l ++ [s.extract f i] else l) (if f < i then long || decide ((14 : Int) < i - f) else long)
    have h3 : (if f < i then l ++ [s.extract f i] else l).length ≤ l.length + 1 := by split <;> simp
    unfold parseGo
    split
    · split
      · simp
      · split <;> omega
    · omega
theorem parse_len (s : ByteArray) : (parseOf s).1.length ≤ 1025 := by
  unfold parseOf
  split
  · simp
  · split
    · simp
    · split
      · simp
      · have := parseGo_len s (s.size + 1) 0 0 [] false
        simp at this; omega
theorem stat_spec {w0 w : World} {G : List Asn} {p : Nat} {m : Mod} {path : ByteArray} {r : Array Value × Int} (hf : Fine m) (hp : path.size ≤ 4611686018427387904) (hr : statS m path = some r) (hS : Sat w0 w (modA p m :: G)) : CR Tryz.prog 61 [ptr p, .string path] w fun v w' => v = .tuple #[.agg r.1, vi r.2] ∧ Sat w0 w' (modA p m :: G) := by
  refine calls_enter Tryz.func61 rfl rfl rfl ?_
  (repeat (first | refine c_seq ?_ | refine c_region ?_))
  refine o_alloc ok hS rfl (fun b4 w hS => ?_)
  (repeat (first | (apply o_pure ok; · conv => { lhs; whnf; arg 1; whnf }) | refine c_seq ?_ | refine c_region ?_ | refine o_nil ?_ | refine q_then ?_))
  refine o_call ok rfl rfl (parse_spec path hp hS) (fun v w h => ?_)
  obtain ⟨nv, rfl, hS⟩ := h
  have hl := parse_len path
  unfold statS at hr
  generalize parseOf path = ps at hr hS hl ⊢
  (repeat (first | (apply o_pure ok; · conv => { lhs; whnf; arg 1; whnf }) | refine c_seq ?_ | refine c_region ?_ | refine o_nil ?_ | refine q_then ?_))
  refine c_cond_d rfl (fun h1 => ?_) (fun h1 => ?_)
  · have h1' : ¬ps.2 = 0 := h1
    rw [if_pos h1'] at hr
    cases hr
    have hS := hS.tail
    (repeat (first | (apply o_pure ok; · conv => { lhs; whnf; arg 1; whnf }) | refine c_seq ?_ | refine c_region ?_ | refine c_ret ?_ | refine o_nil ?_ | refine q_then ?_ | refine q_then_r ?_ | (apply o_rd hS; apply rd_build1 ok; rfl; rfl; rfl; rfl) | (refine o_storeW ok hS rfl rfl rfl (i := 0) rfl rfl rfl rfl (fun w hS => ?_))))
    refine outCA1 ok rfl hS rfl rfl rfl rfl (i := 0) rfl rfl ⟨rfl, hS.tail⟩
  · have h1' : ¬¬ps.2 = 0 := h1
    rw [if_neg h1'] at hr
    cases hfs : findS m ps.1 1 with
    | none => rw [hfs] at hr; cases hr
    | some q =>
      rw [hfs] at hr
      simp only at hr
      obtain ⟨hlen, a, cap, rfl, hcap, ha⟩ := Sat.rowForm hS (i := 0) rfl
      have hS := (hS.bring 2 rfl)
      (repeat (first | (apply o_ptr ok; rfl; · conv => { lhs; whnf }) | (apply o_pure ok; · conv => { lhs; whnf; arg 1; whnf }) | refine c_seq ?_ | refine c_region ?_ | refine c_skip ?_ | refine q_then ?_))
      refine o_call ok rfl rfl (find_spec (n := ps.1.length) hf (Nat.le_refl _) (by omega) (by rw [List.take_length]; exact hfs) hS) (fun v w h => ?_)
      obtain ⟨rfl, hS⟩ := h
      have hS : Sat w0 w (modA p m :: _ :: pt b4 (.cells #[vi 0, .int .u16 0, vi 0, vi 0, vi 0] 62) :: G) := hS
      have hS := ((hS.bring 1 rfl).tail.bring 1 rfl)
      (repeat (first | (apply o_pure ok; · conv => { lhs; whnf; arg 1; whnf }) | refine c_seq ?_ | refine c_region ?_ | refine o_nil ?_ | refine q_then ?_))
      refine c_cond_d rfl (fun h2 => ?_) (fun h2 => ?_)
      · have h2' : ¬q.2 = 0 := h2
        rw [if_pos h2'] at hr
        cases hr
        (repeat (first | (apply o_pure ok; · conv => { lhs; whnf; arg 1; whnf }) | refine c_seq ?_ | refine c_region ?_ | refine c_ret ?_ | refine o_nil ?_ | refine q_then ?_ | refine q_then_r ?_ | (apply o_rd hS; apply rd_build1 ok; rfl; rfl; rfl; rfl) | (refine o_storeW ok hS rfl rfl rfl (i := 0) rfl rfl rfl rfl (fun w hS => ?_))))
        refine outCA1 ok rfl hS rfl rfl rfl rfl (i := 0) rfl rfl ⟨rfl, hS.tail⟩
      · have h2' : ¬¬q.2 = 0 := h2
        rw [if_neg h2'] at hr
        cases hgx : getX m.items q.1 with
        | none => rw [hgx] at hr; cases hr
        | some x =>
          rw [hgx] at hr
          cases hr
          (repeat (first | (apply o_ptr ok; rfl; · conv => { lhs; whnf }) | (apply o_pure ok; · conv => { lhs; whnf; arg 1; whnf }) | refine c_seq ?_ | refine c_region ?_ | refine c_skip ?_ | refine q_then ?_))
          refine o_call ok rfl rfl (told1_spec hf hgx (hS.bring 1 rfl)) (fun v w h => ?_)
          obtain ⟨rfl, hS⟩ := h
          have hS := hS.bring 1 rfl
          (repeat (first | (apply o_pure ok; · conv => { lhs; whnf; arg 1; whnf }) | refine c_ret ?_ | refine o_nil ?_ | refine q_then ?_ | (refine o_storeW ok hS rfl rfl rfl (i := 0) rfl rfl rfl rfl (fun w hS => ?_))))
          refine outCA1 ok rfl hS rfl rfl rfl rfl (i := 0) rfl rfl ⟨rfl, hS.tail⟩
end Go.Proofs.YtllomopjoomdiaaGreat
end

section
namespace Go.Proofs.YtllomopjoomdiaaGreat
open Go.SL
def lastF (from_ : Int) (n i : Int) : Int := if from_ ≤ i then max n i else n
def lastL (l : List Int) (from_ : Int) : Int := l.foldl (lastF from_) (-1)
/-- The greatest index from a bound on that is mapped. -/
def lastOf (t : It) (from_ : Int) : Int := lastL (idxOf t) from_
theorem lastF_swap (c n i j : Int) : lastF c (lastF c n i) j = lastF c (lastF c n j) i := by
  unfold lastF; split <;> split <;> omega
theorem lastF_perm (c : Int) {l l' : List Int} (h : l.Perm l') : ∀ n, l.foldl (lastF c) n = l'.foldl (lastF c) n := by
  induction h with
  | nil => intro n; rfl
  | cons a _ ih => intro n; exact ih _
  | swap a b l => intro n; simp only [List.foldl_cons]; rw [lastF_swap]
  | trans _ _ ih1 ih2 => intro n; exact (ih1 n).trans (ih2 n)
theorem IdxOk.last {t : It} {l : List Int} (h : IdxOk t l) (c : Int) : lastL l c = lastOf t c := by
  unfold IdxOk at h; unfold lastOf idxOf lastL
  split at h
  · rename_i h2; rw [if_pos h2, h]
  · rename_i h2; rw [if_neg h2]; exact lastF_perm c h _
theorem last_spec {w0 w : World} {G : List Asn} {b : Nat} {t : It} {c : Int} (hs : SmallIt t) (hS : Sat w0 w (itemA b t :: G)) : CR Tryz.prog 159 [ptr b, vi c] w fun v w' => v = vi (lastOf t c) ∧ Sat w0 w' (itemA b t :: G) := by
  refine calls_enter Tryz.func159 rfl rfl rfl ?_
  (repeat (first | (apply o_ptr ok; rfl; · conv => { lhs; whnf }) | (apply o_pure ok; · conv => { lhs; whnf; arg 1; whnf }) | refine c_seq ?_ | refine c_region ?_ | refine o_nil ?_ | refine q_then ?_))
  refine o_call ok rfl rfl (indices_spec hs hS) (fun v w h => ?_)
  obtain ⟨l, hl, hS⟩ := h
  have hlm := hl.len hs
  obtain ⟨hlen, a, cap, rfl, _, ha⟩ := Sat.rowForm hS (i := 0) rfl
  (repeat (first | (apply o_pure ok; · conv => { lhs; whnf; arg 1; whnf }) | refine c_block ?_ | refine o_nil ?_ | refine q_then ?_))
  refine c_loop (fun k g w => ∃ (j : Nat) (jk : Nat → Value), j + k = l.length ∧
    g = updL [(9, .slice a l.length cap), (10, vi l.length), (11, vi j), (5, vi (lastL (l.take j) c)), (1, vi c)] jk ∧
    Sat w0 w (rowA 3 1 (.slice a l.length cap) l.length (l.map vi) :: itemA b t :: G)) l.length
    ⟨0, _, by omega, updL_self _ _ ⟨rfl, rfl, rfl, rfl, rfl, trivial⟩, hS⟩ ?_
  rintro k g w ⟨j, jk, hjk, rfl, hS⟩
  (repeat (first | (apply o_pure ok; · conv => { lhs; whnf; arg 1; whnf }) | refine c_seq ?_ | refine c_region ?_ | refine o_nil ?_ | refine q_then ?_))
  refine c_cond_d rfl (fun h1 => ?_) (fun h1 => ?_)
  · have hj : j < l.length := by omega
    obtain ⟨b2, rfl⟩ := ha (by omega)
    have hge : l[j]? = some l[j] := List.getElem?_eq_getElem hj
    have htk : lastL (l.take (j + 1)) c = lastF c (lastL (l.take j) c) l[j] := by
      unfold lastL; rw [List.take_add_one, hge, List.foldl_append]; rfl
    have hq : (l.map vi)[0 + (j : Int).toNat * 1]? = some (vi l[j]) := by simp [hj]
    generalize l[j] = y at htk hq
    (repeat (first | refine c_seq ?_ | refine c_region ?_ | refine c_block ?_ | refine c_skip ?_ | refine q_then ?_))
    apply o_rd hS (rd_indexAddr ok rfl rfl rfl rfl (by omega))
    apply o_rd hS (rd_loadR (v := vi y) ok rfl rfl rfl (i := 0) rfl rfl hq)
    (repeat (first | (apply o_pure ok; · conv => { lhs; whnf; arg 1; whnf }) | refine c_seq ?_ | refine c_region ?_ | refine o_nil ?_ | refine q_then ?_))
    refine c_cond_d rfl (fun h2 => ?_) (fun h2 => ?_)
    · (repeat (first | (apply o_add; rfl; rfl; omega) | (apply o_pure ok; · conv => { lhs; whnf; arg 1; whnf }) | refine c_region ?_ | refine o_nil ?_ | refine q_then ?_ | refine q_blk_n ?_))
      exact ⟨k - 1, by omega, j + 1, _, by omega, updL_self _ _ ⟨rfl, rfl, rfl, by rw [htk]; unfold lastF; rw [if_pos h2]; rfl, rfl, trivial⟩, hS⟩
    · (repeat (first | (apply o_add; rfl; rfl; omega) | (apply o_pure ok; · conv => { lhs; whnf; arg 1; whnf }) | refine c_region ?_ | refine c_skip ?_ | refine o_nil ?_ | refine q_then ?_ | refine q_blk_n ?_))
      exact ⟨k - 1, by omega, j + 1, _, by omega, updL_self _ _ ⟨rfl, rfl, rfl, by rw [htk]; unfold lastF; rw [if_neg h2]; rfl, rfl, trivial⟩, hS⟩
  · obtain rfl : j = l.length := by omega
    rw [List.take_length, hl.last] 
    (repeat (first | (apply o_pure ok; · conv => { lhs; whnf; arg 1; whnf }) | refine c_seq ?_ | refine c_region ?_ | refine c_ret ?_ | refine c_exit ?_ | refine o_nil ?_ | refine q_then ?_ | refine q_then_e ?_ | refine q_blk_e ?_))
    exact out1 rfl ⟨rfl, hS.tail⟩
def groupOf (i : Int) : Int := if i < 0 then -1 else i / 8
theorem group_spec {w0 w : World} {G : List Asn} (i : Int) (hi : i ≤ 9223372036854775807) (hS : Sat w0 w G) : CR Tryz.prog 207 [vi i] w fun v w' => v = vi (groupOf i) ∧ Sat w0 w' G := by
  refine calls_enter Tryz.func207 rfl rfl rfl ?_
  (repeat (first | (apply o_pure ok; · conv => { lhs; whnf; arg 1; whnf }) | refine c_seq ?_ | refine c_region ?_ | refine o_nil ?_ | refine q_then ?_))
  refine c_cond_d rfl (fun h1 => ?_) (fun h1 => ?_)
  · (repeat (first | (apply o_pure ok; · conv => { lhs; whnf; arg 1; whnf }) | refine c_seq ?_ | refine c_region ?_ | refine c_ret ?_ | refine o_nil ?_ | refine q_then ?_ | refine q_then_r ?_))
    exact out1 rfl ⟨by unfold groupOf; rw [if_pos h1]; rfl, hS⟩
  · (repeat (first | (apply o_quo; rfl; rfl; omega) | (apply o_pure ok; · conv => { lhs; whnf; arg 1; whnf }) | refine c_seq ?_ | refine c_region ?_ | refine c_skip ?_ | refine c_ret ?_ | refine o_nil ?_ | refine q_then ?_))
    exact out1 rfl ⟨by unfold groupOf; rw [if_neg h1]; rfl, hS⟩
theorem lastL_le (c B : Int) : ∀ (l : List Int) (n : Int), -1 ≤ n → n ≤ B → (∀ i ∈ l, i ≤ B) → -1 ≤ l.foldl (lastF c) n ∧ l.foldl (lastF c) n ≤ B
  | [], n, h1, h2, _ => ⟨h1, h2⟩
  | i :: l, n, h1, h2, h => by
    have hi := h i List.mem_cons_self
    exact lastL_le c B l _ (by unfold lastF; split <;> omega) (by unfold lastF; split <;> omega) fun j hj => h j (List.mem_cons_of_mem _ hj)
theorem mem_rangeI {n i : Int} (h : i ∈ rangeI n) : 0 ≤ i ∧ i < n := by
  unfold rangeI at h
  obtain ⟨j, hj, rfl⟩ := List.mem_map.1 h
  have := List.mem_range.1 hj
  omega
theorem lastOf_le {t : It} (hs : ItOk t) (c : Int) : -1 ≤ lastOf t c ∧ lastOf t c ≤ 1099511627776 := by
  refine lastL_le c 1099511627776 _ _ (by omega) (by omega) fun i hi => ?_
  unfold idxOf at hi
  split at hi
  · have := mem_rangeI hi
    have h2 := hs.small.1
    unfold blocksOf at this
    split at this <;> omega
  · obtain ⟨p, hp, rfl⟩ := List.mem_map.1 hi
    have := hs.idx p hp
    omega
end Go.Proofs.YtllomopjoomdiaaGreat
end

section
namespace Go.Proofs.YtllomopjoomdiaaGreat
open Go.SL
section
variable {P : Program} {ops : Array Oper} {Q : QF} {rest : List Oper} {n : Nat} {f : Nat → Value} {w w0 : World} {l : List Asn} {ty : TypeId} {pos : String} {after : Array Edge} {tb : Tab} {i r : Nat} {t : TypeId} {x y : Operand} {k : Int} {dm : Value} {D : List (Int × List Int)} {left : List (Int × Value)}
theorem o_deleteD (ok : TabOk P tb) {kt et ats : TypeId} {q : Int} {v : Value} {dst : Option Tmp} (hd : dst = none) (hS : Sat w0 w l) (ht : tb.u t = some (.map kt et)) (hk : tb.u kt = some (.int .i64)) (hi : l[i]? = some (iterD r k dm D left (some (q, v)))) (hx : ev n f x = dm) (hy : ev n f y = encI q) (hl : D ≠ []) (hq : ∀ p ∈ left, p.1 ≠ q)
    (h : ∀ w', Sat w0 w' (l.set i (iterD r k dm (withoutD D q) left none)) → WL P ops Q rest n f w') : WL P ops Q (⟨dst, .call ⟨.builtin .delete, #[x, y], #[t, ats]⟩, ty, pos, after, none⟩ :: rest) n f w := by
  rcases Sat.iterCase hS hi with ⟨_, rfl, h3, _, _⟩ | ⟨mb, rfl, hS'⟩
  · exact absurd h3 hl
  · refine o_deleteI ok keyOk_int encI_inj hd hS' ht hk hx hy (i := i) (by rw [List.getElem?_set_self (lt_of_get hi)]) hq fun w' hS2 => h w' ?_
    rw [mdel_dataKV] at hS2
    have := hS2.conseq (i := i) (A' := iterD r k (.map (some mb)) (withoutD D q) left none) (by rw [List.getElem?_set_self (by simpa using lt_of_get hi)]) fun g hg => .inr ⟨mb, rfl, hg⟩
    simpa only [List.set_set] using this
end
theorem rowA_take {e size n m cap : Nat} {a : Option Addr} {xs : List Value} (hm : m ≤ n) {h : Hp} (hg : rowA e size (.slice a n cap) n xs h) : rowA e size (.slice a m cap) m (xs.take (m * size)) h := by
  obtain ⟨h1, h2⟩ := hg
  refine ⟨?_, ?_⟩
  · rw [List.length_take, h1]; exact Nat.min_eq_left (Nat.mul_le_mul_right _ hm)
  · rcases h2 with ⟨h3, h4⟩ | ⟨g, c, cur, h3, h4, h5, h6, h7, h8⟩
    · cases h3
      obtain rfl : m = 0 := by omega
      exact .inl ⟨rfl, rfl⟩
    · cases h3
      refine .inr ⟨g, _, cur, rfl, h4, by omega, h6, h7, ?_⟩
      rw [← h8, List.take_take, Nat.min_eq_left (Nat.mul_le_mul_right _ hm)]
def fromOf (t : It) (size : Int) : Int := max (blocksOf size) (groupOf (lastOf t (blocksOf size)) * 8)
def trimSz (t : It) (size : Int) : Int := min t.size (fromOf t size * 1024)
/-- One StepTrim. -/
def trimOf (t : It) (size : Int) : It := { t with data := t.data.filter (fun p => decide (p.1 < fromOf t size)), size := trimSz t size, slots := if t.kind = 2 then t.slots.take (trimSz t size / 16).toNat else t.slots }
theorem blocksOf_le {s : Int} (h : s ≤ 1099511627776) : 0 ≤ blocksOf s ∧ blocksOf s ≤ 1073741824 := by unfold blocksOf; split <;> omega
theorem groupOf_le {i : Int} (h : -1 ≤ i ∧ i ≤ 1099511627776) : -1 ≤ groupOf i ∧ groupOf i ≤ 137438953472 := by unfold groupOf; split <;> omega
theorem fromOf_le {t : It} (ht : ItOk t) {s : Int} (h : s ≤ 1099511627776) : 0 ≤ fromOf t s ∧ fromOf t s ≤ 1099511627776 := by
  have h1 := blocksOf_le h
  have h2 := groupOf_le (lastOf_le ht (blocksOf s))
  unfold fromOf; omega
theorem slotsOk_take {s : List (Int × ByteArray)} (h : SlotsOk s) (n : Nat) : SlotsOk (s.take n) := ⟨by have := h.1; rw [List.length_take]; omega, fun e he => h.2 e (List.mem_of_mem_take he)⟩
theorem trim_ok {t : It} (ht : ItOk t) {s : Int} (h : s ≤ 1099511627776) : ItOk (trimOf t s) := by
  have hf := fromOf_le ht h
  have hsz := ht.size0
  have hs1 := ht.small.1
  have hts : 0 ≤ trimSz t s ∧ trimSz t s ≤ t.size := by unfold trimSz; omega
  refine ⟨⟨by show trimSz t s ≤ _; omega, Nat.le_trans (List.length_filter_le _ _) ht.small.2⟩, ?_, fun p hp => ht.blk p (List.mem_filter.1 hp).1, fun p hp => ht.idx p (List.mem_filter.1 hp).1, ht.nd.sublist (List.filter_sublist.map _), hts.1, by have := ht.size1; show trimSz t s ≤ _; omega, fun hk => ?_, ht.links⟩
  · show SlotsOk (if t.kind = 2 then t.slots.take (trimSz t s / 16).toNat else t.slots)
    split
    · exact slotsOk_take ht.slots _
    · exact ht.slots
  · have hk : t.kind = 2 := hk
    show trimSz t s = 16 * ((if t.kind = 2 then t.slots.take (trimSz t s / 16).toNat else t.slots).length : Int)
    rw [if_pos hk, List.length_take]
    have := ht.dir hk
    unfold trimSz at *
    omega
theorem Fine.upd {m : Mod} (hf : Fine m) {k : Int} {t : It} (ht : ItOk t) : Fine (updM m k t) := by
  refine ⟨hf.blocks, hf.inodes, hf.dataAt, by show (updI m.items k t).length ≤ _; unfold updI; rw [List.length_map]; exact hf.many, fun x hx => ?_, fun x hx => ?_⟩
  · obtain ⟨y, hy, rfl⟩ := List.mem_map.1 hx
    have := hf.key y hy
    split <;> exact this
  · obtain ⟨y, hy, rfl⟩ := List.mem_map.1 hx
    split
    · exact ht
    · exact hf.it y hy
theorem getX_cons (y : Itm) (l : List Itm) (q : Int) : getX (y :: l) q = if y.1 = q then some y else getX l q := by
  unfold getX
  rw [List.find?_cons]
  by_cases h : y.1 = q
  · rw [if_pos h]; simp [h]
  · rw [if_neg h]; simp [h]
theorem updI_cons (y : Itm) (l : List Itm) (k : Int) (t : It) : updI (y :: l) k t = (if y.1 = k then (y.1, y.2.1, t) else y) :: updI l k t := rfl
theorem getX_upd {l : List Itm} {k : Int} {x : Itm} (hx : getX l k = some x) (t : It) : getX (updI l k t) k = some (x.1, x.2.1, t) := by
  induction l with
  | nil => cases hx
  | cons y l ih =>
    rw [getX_cons] at hx
    rw [updI_cons, getX_cons]
    by_cases h : y.1 = k
    · rw [if_pos h] at hx
      cases hx
      rw [if_pos h, if_pos h]
    · rw [if_neg h] at hx
      rw [if_neg h, if_neg h]
      exact ih hx
theorem getX_upd_ne {l : List Itm} {k q : Int} (t : It) (h : q ≠ k) : getX (updI l k t) q = getX l q := by
  induction l with
  | nil => rfl
  | cons y l ih =>
    rw [updI_cons, getX_cons, getX_cons, ih]
    by_cases h1 : y.1 = k
    · rw [if_pos h1, if_neg (show ¬ y.1 = q from fun e => h (e.symm.trans h1)), if_neg (show ¬ y.1 = q from fun e => h (e.symm.trans h1))]
    · rw [if_neg h1]

theorem slotsC_take (s : List (Int × ByteArray)) : ∀ n : Nat, (slotsC s).take (n * 2) = slotsC (s.take n) := by
  induction s with
  | nil => intro n; simp [slotsC]
  | cons e s ih =>
    intro n
    cases n with
    | zero => simp [slotsC]
    | succ n =>
      have := ih n
      rw [List.take_succ_cons, show slotsC (e :: s) = entC e ++ slotsC s from rfl, show slotsC (e :: s.take n) = entC e ++ slotsC (s.take n) from rfl, ← this, Nat.succ_mul, Nat.add_comm]
      exact List.take_length_add_append (l₁ := entC e) (l₂ := slotsC s) (n * 2)
theorem trim_spec {w0 w : World} {G : List Asn} {p : Nat} {m : Mod} {k size : Int} {x : Itm} (hf : Fine m) (hT : m.told.length ≤ 1000000000) (hx : getX m.items k = some x) (hs : size ≤ 1099511627776) (hS : Sat w0 w (modA p m :: G)) :
    CR Tryz.prog 160 [ptr p, ptr x.2.1, vi size] w fun v w' => v = .tuple #[] ∧ Sat w0 w' (modA p (stepM (updM m k (trimOf x.2.2 size))) :: G) := by
  have hit := hf.it x (getX_some hx).1
  have hfr := fromOf_le hit hs
  have hgr := groupOf_le (lastOf_le hit (blocksOf size))
  have hkeys := Sat.keysM hS
  refine calls_enter Tryz.func160 rfl rfl rfl ?_
  (repeat (first | (apply o_pure ok; · conv => { lhs; whnf; arg 1; whnf }) | refine c_seq ?_ | refine c_region ?_))
  refine o_call ok rfl rfl (blocks_spec size _ (by omega)) (fun v w' h => ?_)
  obtain ⟨rfl, rfl⟩ := h
  have hS := Sat.itTake hx hS
  (repeat (first | (apply o_ptr ok; rfl; · conv => { lhs; whnf }) | (apply o_pure ok; · conv => { lhs; whnf; arg 1; whnf }) | refine c_seq ?_ | refine c_region ?_ | refine o_nil ?_ | refine q_then ?_))
  refine o_call ok rfl rfl (last_spec hit.small hS) (fun v w h => ?_)
  obtain ⟨rfl, hS⟩ := h
  refine o_call ok rfl rfl (group_spec _ (by have := lastOf_le hit (blocksOf size); omega) hS) (fun v w h => ?_)
  obtain ⟨rfl, hS⟩ := h
  apply o_mul; rfl; rfl; omega
  (repeat (first | (apply o_ptr ok; rfl; · conv => { lhs; whnf }) | (apply o_pure ok; · conv => { lhs; whnf; arg 1; whnf }) | refine c_seq ?_ | refine c_region ?_ | refine o_nil ?_ | refine q_then ?_))
  obtain ⟨dm, sv, hS⟩ := Sat.itemOpen hS
  (repeat (first | (apply o_rd hS; apply rd_load ok (i := 0); rfl; rfl; rfl; rfl; · conv => { lhs; whnf; arg 1; whnf })))
  refine o_rangeD ok hS rfl (i := 1) rfl rfl (fun r w hS => ?_)
  obtain ⟨hlen, a, cap, rfl, hcap, ha⟩ := Sat.rowForm hS (i := 2) rfl
  (repeat (first | refine c_block ?_ | refine o_nil ?_ | refine q_then ?_))
  refine c_cutB (K := fun g w => ∃ (jk : Nat → Value), g = updL [(0, ptr p), (1, ptr x.2.1), (8, vi (fromOf x.2.2 size))] jk ∧
    Sat w0 w (pt x.2.1 (.cells (itemC x.2.2 dm (.slice a x.2.2.slots.length cap)) 135) :: dataA x.2.2.kind dm (x.2.2.data.filter fun p => decide (p.1 < fromOf x.2.2 size)) :: slotsA (.slice a x.2.2.slots.length cap) x.2.2.slots :: modK p m k :: G)) ?_ ?_
  · refine c_loop (fun k' g w => ∃ (lft : List (Int × List Int)) (cur : Option (Int × Value)) (jk : Nat → Value), lft.length = k' ∧ (∀ y ∈ lft, y ∈ x.2.2.data) ∧ (lft.map (·.1)).Nodup ∧
      g = updL [(24, .pointer (some ⟨r, 0, none⟩)), (0, ptr p), (1, ptr x.2.1), (8, vi (fromOf x.2.2 size))] jk ∧
      Sat w0 w (pt x.2.1 (.cells (itemC x.2.2 dm (.slice a x.2.2.slots.length cap)) 135) :: iterD r x.2.2.kind dm (x.2.2.data.filter fun p => decide (p.1 < fromOf x.2.2 size) || decide (p.1 ∈ lft.map (·.1))) (dataKV lft) cur :: slotsA (.slice a x.2.2.slots.length cap) x.2.2.slots :: modK p m k :: G)) x.2.2.data.length
      ⟨x.2.2.data, none, _, rfl, fun _ h => h, ?_, updL_self _ _ ⟨rfl, rfl, rfl, rfl, trivial⟩, ?_⟩ ?_
    · have := (Sat.iterSubD hS (i := 1) rfl).2
      rwa [dataKV_keys] at this
    · have e : (x.2.2.data.filter fun p => decide (p.1 < fromOf x.2.2 size) || decide (p.1 ∈ x.2.2.data.map (·.1))) = x.2.2.data := by
        apply List.filter_eq_self.2
        intro y hy
        have : y.1 ∈ x.2.2.data.map (·.1) := List.mem_map_of_mem hy
        simp [this]
      rw [e]; exact hS
    rintro k' g w ⟨lft, cur, jk, hk, hsub, hnd, rfl, hS⟩
    (repeat (first | refine c_seq ?_ | refine c_region ?_))
    refine o_nextD hS rfl (i := 1) rfl (fun h => ?_) (fun q w' hq hS' => ?_)
    · have h0 : lft = [] := by simpa [dataKV] using h
      subst h0
      (repeat (first | (apply o_pure ok; · conv => { lhs; whnf; arg 1; whnf }) | refine c_seq ?_ | refine c_exit ?_ | refine o_nil ?_ | refine q_then ?_ | refine q_then_e ?_ | refine q_blk_e ?_ | (apply c_cond_f; rfl)))
      refine ⟨_, updL_self _ _ ⟨rfl, rfl, rfl, trivial⟩, ?_⟩
      have := Sat.iterDoneD hS (i := 1) rfl
      simpa using this
    · have hS := hS'
      obtain ⟨y, hy, rfl⟩ := List.mem_map.1 hq
      have hpm := perm_withoutD hnd hy
      have hlen3 : lft.length = (withoutD lft y.1).length + 1 := by have := hpm.length_eq; simpa using this
      have hsub2 : ∀ z ∈ withoutD lft y.1, z ∈ x.2.2.data := fun z hz => hsub z (List.mem_filter.1 hz).1
      have hnd2 : ((withoutD lft y.1).map (·.1)).Nodup := hnd.sublist (List.filter_sublist.map _)
      have hin : y ∈ x.2.2.data.filter fun p => decide (p.1 < fromOf x.2.2 size) || decide (p.1 ∈ lft.map (·.1)) := by
        refine List.mem_filter.2 ⟨hsub y hy, ?_⟩
        have : y.1 ∈ lft.map (·.1) := List.mem_map_of_mem hy
        simp [this]
      have hkeys2 : ∀ z : Int, z ∈ (withoutD lft y.1).map (·.1) ↔ z ∈ lft.map (·.1) ∧ z ≠ y.1 := by
        intro z
        unfold withoutD
        simp only [List.mem_map, List.mem_filter, decide_eq_true_eq]
        constructor
        · rintro ⟨u, ⟨h1, h2⟩, rfl⟩; exact ⟨⟨u, h1, rfl⟩, h2⟩
        · rintro ⟨⟨u, h1, rfl⟩, h2⟩; exact ⟨u, ⟨h1, h2⟩, rfl⟩
      have hm : ∀ z : Int, decide (z ∈ (withoutD lft y.1).map (·.1)) = (decide (z ∈ lft.map (·.1)) && decide (z ≠ y.1)) := by
        intro z
        rw [Bool.eq_iff_iff]
        simp only [decide_eq_true_eq, Bool.and_eq_true]
        exact hkeys2 z
      (repeat (first | (apply o_pure ok; · conv => { lhs; whnf; arg 1; whnf }) | refine c_seq ?_ | refine c_region ?_ | refine c_block ?_ | refine c_skip ?_ | refine o_nil ?_ | refine q_then ?_ | (apply c_cond_t; rfl)))
      refine o_entryD hS rfl (i := 1) rfl (fun e => by rw [e] at hin; cases hin) ?_
      (repeat (first | (apply o_pure ok; · conv => { lhs; whnf; arg 1; whnf }) | refine c_seq ?_ | refine c_region ?_ | refine o_nil ?_ | refine q_then ?_))
      refine c_cond_d rfl (fun h1 => ?_) (fun h1 => ?_)
      · (repeat (first | (apply o_ptr ok; rfl; · conv => { lhs; whnf }) | (apply o_pure ok; · conv => { lhs; whnf; arg 1; whnf }) | refine c_region ?_ | (apply o_rd hS; apply rd_load ok (i := 0); rfl; rfl; rfl; rfl; · conv => { lhs; whnf; arg 1; whnf })))
        refine o_deleteD ok rfl hS rfl rfl (i := 1) rfl rfl rfl (fun e => by rw [e] at hin; cases hin) (fun z hz => by unfold mdel at hz; simpa using (List.mem_filter.1 hz).2) (fun w hS => ?_)
        (repeat (first | refine o_nil ?_ | refine q_then ?_ | refine q_blk_n ?_))
        refine ⟨(withoutD lft y.1).length, by omega, withoutD lft y.1, none, _, rfl, hsub2, hnd2, updL_self _ _ ⟨rfl, rfl, rfl, rfl, trivial⟩, ?_⟩
        have e : (x.2.2.data.filter fun p => decide (p.1 < fromOf x.2.2 size) || decide (p.1 ∈ (withoutD lft y.1).map (·.1))) = withoutD (x.2.2.data.filter fun p => decide (p.1 < fromOf x.2.2 size) || decide (p.1 ∈ lft.map (·.1))) y.1 := by
          refine Eq.trans ?_ (List.filter_filter (p := fun z : Int × List Int => decide (z.1 ≠ y.1)) (l := x.2.2.data)).symm
          apply List.filter_congr
          intro z _
          rw [hm z.1]
          by_cases h2 : z.1 = y.1
          · have h3 : ¬ z.1 < fromOf x.2.2 size := by omega
            simp [h2]; omega
          · simp [h2]
        rw [e, ← mdel_dataKV]
        exact hS
      · (repeat (first | refine c_skip ?_ | refine q_then ?_ | refine q_blk_n ?_))
        refine ⟨(withoutD lft y.1).length, by omega, withoutD lft y.1, some (y.1, blkV y.2), _, rfl, hsub2, hnd2, updL_self _ _ ⟨rfl, rfl, rfl, rfl, trivial⟩, ?_⟩
        have e : (x.2.2.data.filter fun p => decide (p.1 < fromOf x.2.2 size) || decide (p.1 ∈ (withoutD lft y.1).map (·.1))) = (x.2.2.data.filter fun p => decide (p.1 < fromOf x.2.2 size) || decide (p.1 ∈ lft.map (·.1))) := by
          apply List.filter_congr
          intro z _
          rw [hm z.1]
          by_cases h2 : z.1 = y.1
          · have h3 : z.1 < fromOf x.2.2 size := by omega
            simp [h3]
          · simp [h2]
        rw [e, ← mdel_dataKV]
        exact hS
  · rintro g w ⟨jk, rfl, hS⟩
    have e1 : IntKind.i64.wrap (fromOf x.2.2 size * 1024) = fromOf x.2.2 size * 1024 := w_i64 (by omega)
    have hsz := hit.size0
    have hs1 := hit.small.1
    have hts : 0 ≤ trimSz x.2.2 size ∧ trimSz x.2.2 size ≤ x.2.2.size := by unfold trimSz; omega
    have fin : ∀ {w : World} {sv : Value}, Sat w0 w (pt x.2.1 (.cells (itemC (trimOf x.2.2 size) dm sv) 135) :: dataA (trimOf x.2.2 size).kind dm (trimOf x.2.2 size).data :: slotsA sv (trimOf x.2.2 size).slots :: modK p m k :: G) → Sat w0 w (modA p (updM m k (trimOf x.2.2 size)) :: G) := fun hS => Sat.itGive hkeys hx (Sat.itemClose hS)
    (repeat (first | (apply o_ptr ok; rfl; · conv => { lhs; whnf }) | (apply o_pure ok; · conv => { lhs; whnf; arg 1; whnf }) | refine c_seq ?_ | refine c_region ?_ | (apply o_rd hS; apply rd_load ok (i := 0); rfl; rfl; rfl; rfl; · conv => { lhs; whnf; arg 1; whnf })))
    (apply o_store ok hS (i := 0); rfl; (conv => { lhs; whnf }); rfl; rfl; rfl; rfl; intro w hS)
    rw [e1] at hS
    have hS : Sat w0 w (pt x.2.1 (.cells #[.int .u16 x.2.2.kind, vi x.2.2.links, vi (trimSz x.2.2 size), dm, .slice a x.2.2.slots.length cap] 135) :: dataA x.2.2.kind dm (x.2.2.data.filter fun p => decide (p.1 < fromOf x.2.2 size)) :: slotsA (.slice a x.2.2.slots.length cap) x.2.2.slots :: modK p m k :: G) := hS
    (repeat (first | (apply o_ptr ok; rfl; · conv => { lhs; whnf }) | (apply o_pure ok; · conv => { lhs; whnf; arg 1; whnf }) | refine c_seq ?_ | refine c_region ?_ | refine o_nil ?_ | refine q_then ?_ | (apply o_rd hS; apply rd_load ok (i := 0); rfl; rfl; rfl; rfl; · conv => { lhs; whnf; arg 1; whnf })))
    refine c_cond_d rfl (fun h1 => ?_) (fun h1 => ?_)
    · have hdir := hit.dir h1
      skip
      refine region_q 11 mixed (by kernel_rfl) hS ?_
      (repeat (first | (apply r_quo rfl; rfl; rfl; omega) | (apply r_ptr ok rfl; rfl; · conv => { lhs; whnf }) | (apply r_rd rfl; apply rd_load ok (i := 0); rfl; rfl; rfl; rfl; · conv => { lhs; whnf; arg 1; whnf })))
      apply r_rd rfl (rd_slice (l := 0) (h := (trimSz x.2.2 size / 16).toNat) ok rfl rfl rfl rfl (by exact ⟨.i64, by show vi _ = vi _; congr 1; omega⟩) (by omega) (by omega))
      have e2 : (if cap = 0 then a else Option.map (fun a : Addr => a.add (0 * 2)) a) = a := by
        split
        · rfl
        · cases a with
          | none => rfl
          | some q =>
            rcases Nat.eq_zero_or_pos x.2.2.slots.length with h0 | h0
            · simp [Addr.add]
            · obtain ⟨b9, h9⟩ := ha h0; cases h9; rfl
      rw [e2]
      (repeat (first | refine r_nil ?_))
      intro w hS
      (repeat (first | (apply o_ptr ok; rfl; · conv => { lhs; whnf })))
      (apply o_store ok hS (i := 0); rfl; (conv => { lhs; whnf }); rfl; rfl; rfl; rfl; intro w hS)
      (repeat (first | (apply o_ptr ok; rfl; · conv => { lhs; whnf }) | refine c_region ?_ | refine o_nil ?_ | refine q_then ?_))
      have hS : Sat w0 w (pt x.2.1 (.cells #[.int .u16 x.2.2.kind, vi x.2.2.links, vi (trimSz x.2.2 size), dm, .slice a ((trimSz x.2.2 size / 16).toNat - 0) (cap - 0)] 135) :: dataA x.2.2.kind dm (x.2.2.data.filter fun p => decide (p.1 < fromOf x.2.2 size)) :: slotsA (.slice a x.2.2.slots.length cap) x.2.2.slots :: modK p m k :: G) := hS
      rw [Nat.sub_zero, Nat.sub_zero] at hS
      have ecl : (slotsC x.2.2.slots).take ((trimSz x.2.2 size / 16).toNat * 2) = slotsC (x.2.2.slots.take (trimSz x.2.2 size / 16).toNat) := slotsC_take _ _
      have hll : (x.2.2.slots.take (trimSz x.2.2 size / 16).toNat).length = (trimSz x.2.2 size / 16).toNat := by rw [List.length_take]; omega
      have hS := hS.conseq (i := 2) (A' := slotsA (.slice a (trimSz x.2.2 size / 16).toNat cap) (x.2.2.slots.take (trimSz x.2.2 size / 16).toNat)) rfl (fun g hg => by
        have := rowA_take (m := (trimSz x.2.2 size / 16).toNat) (by omega) hg
        unfold slotsA
        rw [hll, ← ecl]; exact this)
      have e3 : trimOf x.2.2 size = ⟨x.2.2.kind, x.2.2.links, trimSz x.2.2 size, x.2.2.data.filter (fun p => decide (p.1 < fromOf x.2.2 size)), x.2.2.slots.take (trimSz x.2.2 size / 16).toNat⟩ := by unfold trimOf; rw [if_pos h1]
      have hS := fin (sv := .slice a (trimSz x.2.2 size / 16).toNat cap) (by rw [e3]; exact hS)
      refine o_call ok rfl rfl (step_spec (hf.upd (trim_ok hit hs)) hT hS) (fun v w h => ?_)
      obtain ⟨rfl, hS⟩ := h
      (repeat (first | refine o_nil ?_))
      exact end0 rfl ⟨rfl, hS⟩
    · have e3 : trimOf x.2.2 size = ⟨x.2.2.kind, x.2.2.links, trimSz x.2.2 size, x.2.2.data.filter (fun p => decide (p.1 < fromOf x.2.2 size)), x.2.2.slots⟩ := by unfold trimOf; rw [if_neg h1]
      have hS := fin (sv := .slice a x.2.2.slots.length cap) (by rw [e3]; exact hS)
      (repeat (first | (apply o_ptr ok; rfl; · conv => { lhs; whnf }) | refine c_region ?_ | refine c_skip ?_ | refine q_then ?_))
      refine o_call ok rfl rfl (step_spec (hf.upd (trim_ok hit hs)) hT hS) (fun v w h => ?_)
      obtain ⟨rfl, hS⟩ := h
      (repeat (first | refine o_nil ?_))
      exact end0 rfl ⟨rfl, hS⟩
end Go.Proofs.YtllomopjoomdiaaGreat
end

section
namespace Go.Proofs.YtllomopjoomdiaaGreat
open Go.SL
def getB (d : List (Int × List Int)) (i : Int) : Option (List Int) := (d.find? fun p => decide (p.1 = i)).map (·.2)
def setB (d : List (Int × List Int)) (i : Int) (b : List Int) : List (Int × List Int) := if (getB d i).isSome then d.map fun p => if p.1 = i then (i, b) else p else d ++ [(i, b)]
def zeroB : List Int := List.replicate 1024 0
theorem zeroB_len : zeroB.length = 1024 := by unfold zeroB; rw [List.length_replicate]
theorem zeroB_blk : blkC zeroB = zB := by unfold blkC zeroB zB; rw [List.map_replicate]
theorem mget_data (d : List (Int × List Int)) (i : Int) : mget (dataKV d) i = (getB d i).map blkV := by
  have := mget_map d (fun p => p.1) (fun p => blkV p.2) i
  unfold getB
  rw [Option.map_map]
  exact this
theorem mget_dataD (d : List (Int × List Int)) (i : Int) : (mget (dataKV d) i).getD (.agg zB.toArray) = blkV ((getB d i).getD zeroB) := by
  rw [mget_data]
  cases getB d i with
  | none => show Value.agg zB.toArray = Value.agg (blkC zeroB).toArray; rw [zeroB_blk]
  | some b => rfl
theorem mset_data (d : List (Int × List Int)) (i : Int) (b : List Int) : mset (dataKV d) i (blkV b) = dataKV (setB d i b) := by
  unfold mset setB
  rw [mget_data, Option.isSome_map]
  split
  · unfold dataKV
    rw [List.map_map, List.map_map]
    apply List.map_congr_left
    intro p _
    simp only [Function.comp_apply]
    split <;> rfl
  · unfold dataKV
    rw [List.map_append]; rfl
theorem getB_mem {d : List (Int × List Int)} {i : Int} {b : List Int} (h : getB d i = some b) : (i, b) ∈ d := by
  unfold getB at h
  obtain ⟨p, hp, rfl⟩ := Option.map_eq_some_iff.1 h
  have h1 := List.find?_some hp
  have h2 := List.mem_of_find?_eq_some hp
  simp at h1
  subst h1
  exact h2
theorem getB_len {t : It} (hB : ∀ p ∈ t.data, p.2.length = 1024) (i : Int) : ((getB t.data i).getD zeroB).length = 1024 := by
  cases h : getB t.data i with
  | none => exact zeroB_len
  | some b => exact hB _ (getB_mem h)
theorem blkC_len (b : List Int) : (blkC b).length = b.length := by unfold blkC; rw [List.length_map]
def zTail (b : List Int) (k : Nat) : List Int := b.take k ++ List.replicate (1024 - k) 0
theorem zTail_len {b : List Int} (hb : b.length = 1024) {k : Nat} (hk : k ≤ 1024) : (zTail b k).length = 1024 := by
  unfold zTail; rw [List.length_append, List.length_take, List.length_replicate, hb]; omega
theorem splice_zero {b : List Int} (hb : b.length = 1024) {k : Nat} (hk : k ≤ 1024) : splice (blkC b).toArray k (List.replicate (1024 - k) (Value.int .u8 0)) = (blkC (zTail b k)).toArray := by
  unfold splice zTail blkC
  rw [List.length_replicate]
  apply Array.ext'
  show (b.map _).take k ++ _ ++ (b.map _).drop (k + (1024 - k)) = List.map _ _
  rw [List.drop_eq_nil_of_le (by rw [List.length_map]; omega), List.append_nil, List.map_append, List.map_take, List.map_replicate]
theorem setB_mem {d : List (Int × List Int)} {i : Int} {b : List Int} {p : Int × List Int} (h : p ∈ setB d i b) : p ∈ d ∨ p = (i, b) := by
  unfold setB at h
  split at h
  · obtain ⟨q, hq, rfl⟩ := List.mem_map.1 h
    split
    · exact .inr rfl
    · exact .inl hq
  · rcases List.mem_append.1 h with h | h
    · exact .inl h
    · exact .inr (by simpa using h)
theorem getB_none {d : List (Int × List Int)} {i : Int} (h : (getB d i).isSome = false) : i ∉ d.map (·.1) := by
  intro hm
  obtain ⟨p, hp, rfl⟩ := List.mem_map.1 hm
  unfold getB at h
  rw [Option.isSome_map] at h
  have : d.find? (fun q => decide (q.1 = p.1)) = none := by simpa using h
  rw [List.find?_eq_none] at this
  exact this p hp (by simp)
theorem setB_nd {d : List (Int × List Int)} (hn : (d.map (·.1)).Nodup) (i : Int) (b : List Int) : ((setB d i b).map (·.1)).Nodup := by
  unfold setB
  cases h : (getB d i).isSome with
  | true =>
    rw [if_pos rfl]
    have e : (d.map fun p => if p.1 = i then (i, b) else p).map (·.1) = d.map (·.1) := by
      rw [List.map_map]
      apply List.map_congr_left
      intro p _
      simp only [Function.comp_apply]
      split
      · rename_i e; exact e.symm
      · rfl
    rw [e]; exact hn
  | false =>
    rw [if_neg (by simp), List.map_append, List.nodup_append]
    refine ⟨hn, by simp, ?_⟩
    intro a ha c hc
    simp at hc
    subst hc
    intro e; subst e
    exact getB_none h ha
theorem setB_length (d : List (Int × List Int)) (i : Int) (b : List Int) : (setB d i b).length ≤ d.length + 1 := by unfold setB; split <;> simp
theorem setB_length_some {d : List (Int × List Int)} {i : Int} (b : List Int) (h : (getB d i).isSome = true) : (setB d i b).length = d.length := by unfold setB; rw [if_pos h]; simp
def resizeD (t : It) (size : Int) : List (Int × List Int) := match getB t.data (size / 1024) with
  | some b => if size < t.size then setB t.data (size / 1024) (zTail b (size % 1024).toNat) else t.data
  | none => t.data
/-- One StepSize. -/
def resizeOf (t : It) (size : Int) : It := { t with size := size, data := resizeD t size }
theorem resize_ok {t : It} (ht : ItOk t) (hk : ¬t.kind = 2) {s : Int} (h : 0 ≤ s ∧ s ≤ 67381248) : ItOk (resizeOf t s) := by
  have key : ∀ p ∈ resizeD t s, p ∈ t.data ∨ (p.2.length = 1024 ∧ 0 ≤ p.1 ∧ p.1 < 65802 ) := by
    intro p hp
    unfold resizeD at hp
    cases hb : getB t.data (s / 1024) with
    | none => rw [hb] at hp; exact .inl hp
    | some b =>
      rw [hb] at hp
      simp only at hp
      split at hp
      · rcases setB_mem hp with h2 | rfl
        · exact .inl h2
        · have := ht.idx _ (getB_mem hb)
          exact .inr ⟨zTail_len (ht.blk _ (getB_mem hb)) (by omega), this⟩
      · exact .inl hp
  refine ⟨⟨by show s ≤ _; omega, ?_⟩, ht.slots, fun p hp => ?_, fun p hp => ?_, ?_, h.1, h.2, fun h2 => absurd h2 hk, ht.links⟩
  · show (resizeD t s).length ≤ _
    have := ht.small.2
    unfold resizeD
    split
    · rename_i b hb
      split
      · rw [setB_length_some _ (by rw [hb]; rfl)]; exact this
      · exact this
    · exact this
  · rcases key p hp with h1 | h1
    · exact ht.blk p h1
    · exact h1.1
  · rcases key p hp with h1 | h1
    · exact ht.idx p h1
    · exact h1.2
  · show ((resizeD t s).map (·.1)).Nodup
    unfold resizeD
    split
    · split
      · exact setB_nd ht.nd _ _
      · exact ht.nd
    · exact ht.nd
theorem resize_spec {w0 w : World} {G : List Asn} {p : Nat} {m : Mod} {k size : Int} {x : Itm} (hf : Fine m) (hT : m.told.length ≤ 1000000000) (hx : getX m.items k = some x) (hk : ¬x.2.2.kind = 2) (hs : 0 ≤ size ∧ size ≤ 67381248) (hS : Sat w0 w (modA p m :: G)) :
    CR Tryz.prog 105 [ptr p, ptr x.2.1, vi size] w fun v w' => v = .tuple #[] ∧ Sat w0 w' (modA p (stepM (updM m k (resizeOf x.2.2 size))) :: G) := by
  have hit := hf.it x (getX_some hx).1
  have hkeys := Sat.keysM hS
  refine calls_enter Tryz.func105 rfl rfl rfl ?_
  have hS := Sat.itTake hx hS
  obtain ⟨dm, sv, hS⟩ := Sat.itemOpen hS
  obtain ⟨mb, rfl, hS⟩ := Sat.dataFile hS (i := 1) rfl hk
  have hlen := getB_len (t := x.2.2) hit.blk (size / 1024)
  have hlenC : (blkC ((getB x.2.2.data (size / 1024)).getD zeroB)).toArray.size = 1024 := by rw [List.size_toArray, blkC_len]; exact hlen
  (repeat (first | (apply o_quo; rfl; rfl; omega) | (apply o_ptr ok; rfl; · conv => { lhs; whnf }) | (apply o_pure ok; · conv => { lhs; whnf; arg 1; whnf }) | refine c_seq ?_ | refine c_region ?_ | (apply o_rd hS; apply rd_load ok (i := 0); rfl; rfl; rfl; rfl; · conv => { lhs; whnf; arg 1; whnf })))
  apply o_rd hS (rd_lookup2 ok keyOk_int rfl rfl rfl rfl rfl (i := 1) rfl)
  rw [show (Value.agg (List.replicate 1024 (Value.int IntKind.u8 0)).toArray) = .agg zB.toArray from rfl, mget_dataD, mget_data, Option.isSome_map]
  (repeat (first | (apply o_pure ok; · conv => { lhs; whnf; arg 1; whnf })))
  refine o_alloc ok hS rfl (fun b6 w hS => ?_)
  refine o_storeW (m := 1024) (vs := (blkC ((getB x.2.2.data (size / 1024)).getD zeroB)).toArray) ok hS rfl rfl rfl (i := 0) rfl (oneCells_blk _) hlenC zb_size (fun w hS => ?_)
  have hS : Sat w0 w (pt b6 (.cells (blkC ((getB x.2.2.data (size / 1024)).getD zeroB)).toArray 137) :: pt x.2.1 (.cells (itemC x.2.2 (.map (some mb)) sv) 135) :: mapA encI mb (dataKV x.2.2.data) :: slotsA sv x.2.2.slots :: modK p m k :: G) := hS
  have hfin : ∀ {w : World} {D : List (Int × List Int)}, resizeD x.2.2 size = D → Sat w0 w (pt x.2.1 (.cells #[.int .u16 x.2.2.kind, vi x.2.2.links, vi size, .map (some mb), sv] 135) :: mapA encI mb (dataKV D) :: slotsA sv x.2.2.slots :: modK p m k :: G) → Sat w0 w (modA p (updM m k (resizeOf x.2.2 size)) :: G) := fun {w D} hD hS => by
    subst hD
    have hS := Sat.dataBack hS (i := 1) (k := x.2.2.kind) rfl
    exact Sat.itGive (t := resizeOf x.2.2 size) hkeys hx (Sat.itemClose hS)
  have hstep := fun {w : World} hS => step_spec (w0 := w0) (w := w) (G := G) (p := p) (hf.upd (k := k) (resize_ok hit hk hs)) hT hS
  cases hb : getB x.2.2.data (size / 1024) with
  | none =>
    have hD : resizeD x.2.2 size = x.2.2.data := by unfold resizeD; rw [hb]
    (repeat (first | (apply o_ptr ok; rfl; · conv => { lhs; whnf }) | (apply o_pure ok; · conv => { lhs; whnf; arg 1; whnf }) | refine c_seq ?_ | refine c_region ?_ | refine c_skip ?_ | refine o_nil ?_ | refine q_then ?_ | (apply c_cond_f; rfl) | refine o_pass rfl rfl rfl rfl ?_))
    (apply o_store ok hS (i := 1); rfl; (conv => { lhs; whnf }); rfl; rfl; rfl; rfl; intro w hS)
    have hS := hfin hD hS.tail
    (repeat (first | (apply o_ptr ok; rfl; · conv => { lhs; whnf }) | refine c_region ?_ | refine o_nil ?_ | refine q_then ?_))
    refine o_call ok rfl rfl (hstep hS) (fun v w h => ?_)
    obtain ⟨rfl, hS⟩ := h
    (repeat (first | refine o_nil ?_))
    exact end0 rfl ⟨rfl, hS⟩
  | some b =>
    have hbl := hit.blk _ (getB_mem hb)
    rw [hb] at hS
    (repeat (first | (apply o_ptr ok; rfl; · conv => { lhs; whnf }) | (apply o_pure ok; · conv => { lhs; whnf; arg 1; whnf }) | refine c_seq ?_ | refine c_region ?_ | refine o_nil ?_ | refine q_then ?_ | refine o_want rfl rfl rfl ?_ | (apply o_rd hS; apply rd_load ok (i := 1); rfl; rfl; rfl; rfl; · conv => { lhs; whnf; arg 1; whnf })))
    refine c_cond_d rfl (fun h1 => ?_) (fun h1 => ?_)
    · have hD : resizeD x.2.2 size = setB x.2.2.data (size / 1024) (zTail b (size % 1024).toNat) := by unfold resizeD; rw [hb]; simp only; rw [if_pos h1]
      have hmod : (size % 1024).toNat < 1024 := by omega
      (repeat (first | (apply o_rem; rfl; rfl; omega) | (apply o_pure ok; · conv => { lhs; whnf; arg 1; whnf }) | refine c_seq ?_ | refine c_region ?_))
      apply o_rd hS (rd_sliceA (l := (size % 1024).toNat) (h := 1024) ok rfl rfl rfl (by exact ⟨.i64, by show vi _ = vi _; congr 1; omega⟩) rfl (by omega) (by omega))
      rw [if_neg (show ¬(1024 = (size % 1024).toNat) by omega)]
      have hcl : (blkC b).toArray.size = 1024 := by rw [List.size_toArray, blkC_len]; exact hbl
      refine o_clear ok (b := b6) (o := 0 + (size % 1024).toNat * 1) rfl hS rfl rfl rfl (by rw [addr_add]; rfl) (i := 0) rfl (by show _ ≤ (blkC b).toArray.size; rw [hcl]; omega) rfl (fun w hS => ?_)
      have hsp : splice (blkC b).toArray (0 + (size % 1024).toNat * 1) (List.replicate (1024 - (size % 1024).toNat) (Value.int .u8 0)) = (blkC (zTail b (size % 1024).toNat)).toArray := by
        rw [Nat.zero_add, Nat.mul_one]; exact splice_zero hbl (by omega)
      have hS : Sat w0 w (pt b6 (.cells (splice (blkC b).toArray (0 + (size % 1024).toNat * 1) (List.replicate (1024 - (size % 1024).toNat) (Value.int .u8 0))) 137) :: pt x.2.1 (.cells (itemC x.2.2 (.map (some mb)) sv) 135) :: mapA encI mb (dataKV x.2.2.data) :: slotsA sv x.2.2.slots :: modK p m k :: G) := hS
      rw [hsp] at hS
      have hcl2 : (blkC (zTail b (size % 1024).toNat)).toArray.size = 1024 := by rw [List.size_toArray, blkC_len]; exact zTail_len hbl (by omega)
      (repeat (first | refine o_nil ?_ | refine q_then ?_))
      refine region_q 7 mixed (by kernel_rfl) hS ?_
      (repeat (first | (apply r_quo rfl; rfl; rfl; omega) | (apply r_ptr ok rfl; rfl; · conv => { lhs; whnf }) | (apply r_pure ok rfl; · conv => { lhs; whnf; arg 1; whnf }) | (apply r_rd rfl; apply rd_load ok (i := 1); rfl; rfl; rfl; rfl; · conv => { lhs; whnf; arg 1; whnf })))
      refine r_rd rfl (rd_loadW ok (i := 0) rfl rfl rfl rfl rfl hcl2) ?_
      (repeat (first | refine r_nil ?_))
      intro w hS
      refine o_mapUpdate ok keyOk_int (v := blkV (zTail b (size % 1024).toNat)) hS rfl rfl rfl rfl rfl (i := 2) rfl (fun w hS => ?_)
      rw [mset_data] at hS
      (repeat (first | (apply o_ptr ok; rfl; · conv => { lhs; whnf }) | (apply o_pure ok; · conv => { lhs; whnf; arg 1; whnf }) | refine c_seq ?_ | refine c_region ?_ | refine o_nil ?_ | refine q_then ?_))
      (apply o_store ok hS (i := 1); rfl; (conv => { lhs; whnf }); rfl; rfl; rfl; rfl; intro w hS)
      have hS := hfin hD hS.tail
      (repeat (first | (apply o_ptr ok; rfl; · conv => { lhs; whnf }) | refine c_region ?_ | refine o_nil ?_ | refine q_then ?_))
      refine o_call ok rfl rfl (hstep hS) (fun v w h => ?_)
      obtain ⟨rfl, hS⟩ := h
      (repeat (first | refine o_nil ?_))
      exact end0 rfl ⟨rfl, hS⟩
    · have hD : resizeD x.2.2 size = x.2.2.data := by unfold resizeD; rw [hb]; simp only; rw [if_neg h1]
      (repeat (first | (apply o_ptr ok; rfl; · conv => { lhs; whnf }) | (apply o_pure ok; · conv => { lhs; whnf; arg 1; whnf }) | refine c_seq ?_ | refine c_region ?_ | refine c_skip ?_ | refine q_then ?_))
      (apply o_store ok hS (i := 1); rfl; (conv => { lhs; whnf }); rfl; rfl; rfl; rfl; intro w hS)
      have hS := hfin hD hS.tail
      (repeat (first | (apply o_ptr ok; rfl; · conv => { lhs; whnf }) | refine c_region ?_ | refine o_nil ?_ | refine q_then ?_))
      refine o_call ok rfl rfl (hstep hS) (fun v w h => ?_)
      obtain ⟨rfl, hS⟩ := h
      (repeat (first | refine o_nil ?_))
      exact end0 rfl ⟨rfl, hS⟩
end Go.Proofs.YtllomopjoomdiaaGreat
end
