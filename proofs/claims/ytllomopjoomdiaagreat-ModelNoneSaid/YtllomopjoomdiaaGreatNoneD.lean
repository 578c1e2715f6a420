/- Part 4 of the proof: modelNone holds: a model that is nil, or that nobody made, answers every call with ErrNil and nothing else, for every list of calls; without conditions. -/
import Derived.Test.YtllomopjoomdiaaGreatNoneC
section
namespace Go.Proofs.YtllomopjoomdiaaGreat
open Go.SL
theorem lastF_mem (c : Int) : ∀ (l : List Int) (n : Int), (l.foldl (lastF c) n = n) ∨ (l.foldl (lastF c) n ∈ l ∧ c ≤ l.foldl (lastF c) n)
  | [], n => .inl rfl
  | i :: l, n => by
    have h := lastF_mem c l (lastF c n i)
    simp only [List.foldl_cons]
    rcases h with h | ⟨h1, h2⟩
    · rw [h]
      unfold lastF
      split
      · rename_i hi
        by_cases h3 : n ≤ i
        · right; rw [Int.max_eq_right h3]; exact ⟨List.mem_cons_self, hi⟩
        · left; omega
      · exact .inl rfl
    · exact .inr ⟨List.mem_cons_of_mem _ h1, h2⟩
theorem lastOf_ge {t : It} {c : Int} (h : 0 ≤ lastOf t c) : c ≤ lastOf t c := by
  rcases lastF_mem c (idxOf t) (-1) with h1 | h1
  · have : lastOf t c = -1 := h1
    omega
  · exact h1.2
theorem lastOf_lt {t : It} (c B : Int) (hB : 0 ≤ B) (h : ∀ i ∈ idxOf t, i < B) : lastOf t c < B := by
  have := lastL_le c (B - 1) (idxOf t) (-1) (by omega) (by omega) fun i hi => by have := h i hi; omega
  unfold lastOf lastL; omega
theorem lastOf_max {t : It} (ht : ItOk t) (c : Int) : -1 ≤ lastOf t c ∧ lastOf t c < 65802 := by
  have h0 := lastOf_le ht c
  refine ⟨h0.1, lastOf_lt c 65802 (by omega) fun i hi => ?_⟩
  unfold idxOf at hi
  split at hi
  · have := mem_rangeI hi
    have h2 := ht.size1
    unfold blocksOf at this
    split at this <;> omega
  · obtain ⟨p, hp, rfl⟩ := List.mem_map.1 hi
    exact (ht.idx p hp).2
theorem trim_last {t : It} (ht : ItOk t) {s : Int} (hs : s ≤ 1099511627776) (h : 0 ≤ lastOf t (blocksOf s)) : lastOf (trimOf t s) (blocksOf s) < lastOf t (blocksOf s) := by
  have h1 := lastOf_ge h
  have hf := fromOf_le ht hs
  have h2 : fromOf t s ≤ lastOf t (blocksOf s) := by
    unfold fromOf groupOf
    rw [if_neg (by omega)]
    omega
  have h3 : lastOf (trimOf t s) (blocksOf s) < fromOf t s := by
    refine lastOf_lt _ _ hf.1 fun i hi => ?_
    unfold idxOf at hi
    split at hi
    · have h4 := mem_rangeI hi
      have h5 : (trimOf t s).size ≤ fromOf t s * 1024 := by show trimSz t s ≤ _; unfold trimSz; omega
      unfold blocksOf at h4
      split at h4 <;> omega
    · obtain ⟨p, hp, rfl⟩ := List.mem_map.1 hi
      have := (List.mem_filter.1 hp).2
      simpa using this
  omega
/-- StepTrims, until no index from the bound on is mapped. -/
def trimAll : Nat → Mod → Int → Int → Mod
  | 0, m, _, _ => m
  | n + 1, m, k, s => match getX m.items k with
    | none => m
    | some x => if 0 ≤ lastOf x.2.2 (blocksOf s) then trimAll n (stepM (updM m k (trimOf x.2.2 s))) k s else m
def fuelOf (t : It) (s : Int) : Nat := (lastOf t (blocksOf s) + 1).toNat
def trimsM (m : Mod) (k s : Int) : Mod := match getX m.items k with
  | none => m
  | some x => trimAll (fuelOf x.2.2 s) m k s
/-- A file is made shorter. -/
def cutM (m : Mod) (k s : Int) : Mod := match getX m.items k with
  | none => m
  | some x => if x.2.2.size ≤ s then m else match getX (trimsM m k s).items k with
    | none => trimsM m k s
    | some y => if s < y.2.2.size then stepM (updM (trimsM m k s) k (resizeOf y.2.2 s)) else trimsM m k s
theorem Fine.step {m : Mod} (hf : Fine m) : Fine (stepM m) := ⟨hf.blocks, hf.inodes, hf.dataAt, hf.many, hf.key, hf.it⟩
/-- What stands behind some trims. -/
structure Trimmed (m m' : Mod) (k : Int) (b : Nat) (kind : Int) (n : Nat) (y : Itm) : Prop where
  fine : Fine m'
  at_ : getX m'.items k = some y
  ptr : y.2.1 = b
  kind : y.2.2.kind = kind
  told : m'.told.length ≤ m.told.length + n
theorem trimAll_ok {m0 : Mod} {k s : Int} {b : Nat} {kind : Int} (hs : s ≤ 1099511627776) : ∀ (n : Nat) (m : Mod) (j : Nat) (x : Itm), Trimmed m0 m k b kind j x → ∃ y, Trimmed m0 (trimAll n m k s) k b kind (j + n) y
  | 0, m, j, x, h => ⟨x, h⟩
  | n + 1, m, j, x, h => by
    unfold trimAll
    rw [h.at_]
    simp only
    split
    · have h1 : Trimmed m0 (stepM (updM m k (trimOf x.2.2 s))) k b kind (j + 1) (x.1, x.2.1, trimOf x.2.2 s) := by
        refine ⟨(h.fine.upd (trim_ok (h.fine.it x (getX_some h.at_).1) hs)).step, getX_upd h.at_ _, h.ptr, h.kind, ?_⟩
        have := h.told
        show (m.told ++ [_]).length ≤ _
        rw [List.length_append]; simp; omega
      obtain ⟨y, hy⟩ := trimAll_ok hs n _ _ _ h1
      exact ⟨y, by rw [show j + (n + 1) = j + 1 + n by omega]; exact hy⟩
    · exact ⟨x, h.fine, h.at_, h.ptr, h.kind, by have := h.told; omega⟩
theorem trimAll_stop {m : Mod} {k s : Int} {x : Itm} (hx : getX m.items k = some x) (h : ¬0 ≤ lastOf x.2.2 (blocksOf s)) : ∀ n, trimAll n m k s = m
  | 0 => rfl
  | n + 1 => by unfold trimAll; rw [hx]; simp only; rw [if_neg h]
theorem cut_spec {w0 w : World} {G : List Asn} {p : Nat} {m : Mod} {k size : Int} {x : Itm} (hf : Fine m) (hT : m.told.length ≤ 900000000) (hx : getX m.items k = some x) (hk : ¬x.2.2.kind = 2) (hs : 0 ≤ size ∧ size ≤ 67381248) (hS : Sat w0 w (modA p m :: G)) :
    CR Tryz.prog 102 [ptr p, ptr x.2.1, vi size] w fun v w' => v = .tuple #[] ∧ Sat w0 w' (modA p (cutM m k size) :: G) := by
  have hit := hf.it x (getX_some hx).1
  have hkeys := Sat.keysM hS
  have hlm := lastOf_max hit (blocksOf size)
  refine calls_enter Tryz.func102 rfl rfl rfl ?_
  unfold cutM
  rw [hx]
  simp only
  have hS := Sat.itTake hx hS
  obtain ⟨dm, sv, hS⟩ := Sat.itemOpen hS
  (repeat (first | (apply o_ptr ok; rfl; · conv => { lhs; whnf }) | (apply o_pure ok; · conv => { lhs; whnf; arg 1; whnf }) | refine c_seq ?_ | refine c_region ?_ | refine o_nil ?_ | refine q_then ?_ | (apply o_rd hS; apply rd_load ok (i := 0); rfl; rfl; rfl; rfl; · conv => { lhs; whnf; arg 1; whnf })))
  have hS : Sat w0 w (modA p m :: G) := by
    exact Sat.itBack hkeys hx (Sat.itemClose hS)
  refine c_cond_d rfl (fun h1 => ?_) (fun h1 => ?_)
  · rw [if_pos h1]
    (repeat (first | refine c_ret ?_ | refine q_then_r ?_))
    exact out0 rfl ⟨rfl, hS⟩
  · rw [if_neg h1]
    (repeat (first | refine c_seq ?_ | refine c_block ?_ | refine c_skip ?_ | refine q_then ?_))
    refine c_loop (fun n g w => ∃ (m' : Mod) (y : Itm) (j : Nat) (jk : Nat → Value), Trimmed m m' k x.2.1 x.2.2.kind j y ∧ j + n ≤ fuelOf x.2.2 size ∧ trimsM m k size = trimAll n m' k size ∧ lastOf y.2.2 (blocksOf size) + 1 ≤ n ∧
      g = updL [(0, ptr p), (1, ptr x.2.1), (2, vi size)] jk ∧ Sat w0 w (modA p m' :: G)) (fuelOf x.2.2 size)
      ⟨m, x, 0, _, ⟨hf, hx, rfl, rfl, by omega⟩, by omega, by unfold trimsM; rw [hx], by unfold fuelOf; omega, updL_self _ _ ⟨rfl, rfl, rfl, trivial⟩, hS⟩ ?_
    rintro n g w ⟨m', y, j, jk, hm', hjn, htr, hln, rfl, hS⟩
    have hfu : fuelOf x.2.2 size ≤ 65803 := by unfold fuelOf; omega
    have hity := hm'.fine.it y (getX_some hm'.at_).1
    have hkeys' := Sat.keysM hS
    have htold := hm'.told
    (repeat (first | (apply o_ptr ok; rfl; · conv => { lhs; whnf }) | (apply o_pure ok; · conv => { lhs; whnf; arg 1; whnf }) | refine c_seq ?_ | refine c_region ?_))
    refine o_call ok rfl rfl (blocks_spec size _ (by omega)) (fun v w' h => ?_)
    obtain ⟨rfl, rfl⟩ := h
    have hS := Sat.itTake hm'.at_ hS
    rw [hm'.ptr] at hS
    refine o_call ok rfl rfl (last_spec hity.small hS) (fun v w h => ?_)
    obtain ⟨rfl, hS⟩ := h
    have hS : Sat w0 w (modA p m' :: G) := by
      exact Sat.itBack hkeys' hm'.at_ (by rw [hm'.ptr]; exact hS)
    (repeat (first | (apply o_pure ok; · conv => { lhs; whnf; arg 1; whnf }) | refine o_nil ?_ | refine q_then ?_))
    refine c_cond_d rfl (fun h2 => ?_) (fun h2 => ?_)
    · obtain ⟨n, rfl⟩ : ∃ n', n = n' + 1 := ⟨n - 1, by omega⟩
      have htl := trim_last hity (s := size) (by omega) h2
      (repeat (first | (apply o_ptr ok; rfl; · conv => { lhs; whnf }) | (apply o_pure ok; · conv => { lhs; whnf; arg 1; whnf }) | refine c_region ?_ | refine c_block ?_ | refine c_skip ?_ | refine q_then ?_))
      refine o_call ok rfl rfl (by rw [← hm'.ptr]; exact trim_spec hm'.fine (by omega) hm'.at_ (by omega) hS) (fun v w h => ?_)
      obtain ⟨rfl, hS⟩ := h
      (repeat (first | refine o_nil ?_ | refine q_then ?_ | refine q_blk_n ?_))
      refine ⟨n, by omega, stepM (updM m' k (trimOf y.2.2 size)), (y.1, y.2.1, trimOf y.2.2 size), j + 1, _, ?_, by omega, ?_, by show lastOf (trimOf y.2.2 size) _ + 1 ≤ _; omega, updL_self _ _ ⟨rfl, rfl, rfl, trivial⟩, hS⟩
      · refine ⟨(hm'.fine.upd (trim_ok hity (by omega))).step, getX_upd hm'.at_ _, hm'.ptr, hm'.kind, ?_⟩
        show (m'.told ++ [_]).length ≤ _
        rw [List.length_append]; simp; omega
      · rw [htr]
        conv => { lhs; unfold trimAll }
        rw [hm'.at_]
        simp only
        rw [if_pos h2]
    · have he : trimsM m k size = m' := by rw [htr]; exact trimAll_stop hm'.at_ h2 n
      rw [he, hm'.at_]
      simp only
      have hS := Sat.itTake hm'.at_ hS
      obtain ⟨dm, sv, hS⟩ := Sat.itemOpen hS
      rw [hm'.ptr] at hS
      (repeat (first | (apply o_ptr ok; rfl; · conv => { lhs; whnf }) | (apply o_pure ok; · conv => { lhs; whnf; arg 1; whnf }) | refine c_seq ?_ | refine c_region ?_ | refine c_exit ?_ | refine o_nil ?_ | refine q_then ?_ | refine q_then_e ?_ | refine q_blk_e ?_ | (apply o_rd hS; apply rd_load ok (i := 0); rfl; rfl; rfl; rfl; · conv => { lhs; whnf; arg 1; whnf })))
      have hS : Sat w0 w (modA p m' :: G) := by
        exact Sat.itBack hkeys' hm'.at_ (by rw [hm'.ptr]; exact Sat.itemClose hS)
      refine c_cond_d rfl (fun h3 => ?_) (fun h3 => ?_)
      · rw [if_pos h3]
        (repeat (first | (apply o_ptr ok; rfl; · conv => { lhs; whnf }) | (apply o_pure ok; · conv => { lhs; whnf; arg 1; whnf }) | refine c_region ?_))
        refine o_call ok rfl rfl (by rw [← hm'.ptr]; exact resize_spec hm'.fine (by omega) hm'.at_ (by rw [hm'.kind]; exact hk) hs hS) (fun v w h => ?_)
        obtain ⟨rfl, hS⟩ := h
        (repeat (first | refine o_nil ?_))
        exact end0 rfl ⟨rfl, hS⟩
      · rw [if_neg h3]
        (repeat (first | refine c_skip ?_))
        exact end0 rfl ⟨rfl, hS⟩
end Go.Proofs.YtllomopjoomdiaaGreat
end

section
namespace Go.Proofs.YtllomopjoomdiaaGreat
open Go.SL
def delM (m : Mod) (k : Int) : Mod := { m with items := without m.items k }
/-- An inode is given back, if it is an orphan that is not held. -/
def reclaimM (m : Mod) (k : Int) : Mod := match getX m.items k with
  | none => m
  | some x => if ¬x.2.2.links = 0 then m else if 0 < holdsOf m k then m else stepM (delM (trimsM m k 0) k)
theorem Fine.del {m : Mod} (hf : Fine m) (k : Int) : Fine (delM m k) :=
  ⟨hf.blocks, hf.inodes, hf.dataAt, Nat.le_trans (List.length_filter_le _ _) hf.many, fun x hx => hf.key x (List.mem_filter.1 hx).1, fun x hx => hf.it x (List.mem_filter.1 hx).1⟩
theorem lookup2_item {P : Program} {w0 : World} {L : List Asn} {n : Nat} {f : Nat → Value} {tb : Tab} (ok : TabOk P tb) {l : List Itm} {k : Int} {t kt et : TypeId} {a y : Operand} {ib i : Nat} (ht : tb.u t = some (.map kt et)) (hk : tb.u kt = some (.int .i64)) (hz : tb.zero et = some (.pointer none)) (ha : ev n f a = .map (some ib)) (hy : ev n f y = vi k) (hi : L[i]? = some (mapA encI ib (itemsKV l))) :
    Rd P w0 L n f (.lookup t a y true) (.tuple #[((getX l k).map fun x => ptr x.2.1).getD (.pointer none), .bool (getX l k).isSome]) := by
  have h := rd_lookup2 (w0 := w0) ok keyOk_int ht hk hz ha hy hi
  rw [mget_kv, Option.isSome_map] at h
  exact h
theorem reclaim_spec {w0 w : World} {G : List Asn} {p : Nat} {m : Mod} {k : Int} (hf : Fine m) (hT : m.told.length ≤ 900000000) (hS : Sat w0 w (modA p m :: G)) :
    CR Tryz.prog 106 [ptr p, vi k] w fun v w' => v = .tuple #[] ∧ Sat w0 w' (modA p (reclaimM m k) :: G) := by
  have hkeys := Sat.keysM hS
  refine calls_enter Tryz.func106 rfl rfl rfl ?_
  unfold reclaimM
  obtain ⟨ib, tv, hS⟩ := Sat.modOpen hS
  (repeat (first | (apply o_ptr ok; rfl; · conv => { lhs; whnf }) | (apply o_pure ok; · conv => { lhs; whnf; arg 1; whnf }) | refine c_seq ?_ | refine c_region ?_ | (apply o_rd hS; apply rd_load ok (i := 0); rfl; rfl; rfl; rfl; · conv => { lhs; whnf; arg 1; whnf })))
  apply o_rd hS (lookup2_item ok rfl rfl rfl rfl rfl (i := 1) rfl)
  cases hx : getX m.items k with
  | none =>
    (repeat (first | (apply o_pure ok; · conv => { lhs; whnf; arg 1; whnf }) | refine c_seq ?_ | refine c_region ?_ | refine c_ret ?_ | refine o_nil ?_ | refine q_then ?_ | refine q_then_r ?_ | (apply c_cond_t; rfl) | refine o_pass rfl rfl rfl rfl ?_))
    exact out0 rfl ⟨rfl, Sat.modClose hS⟩
  | some x =>
    have hit := hf.it x (getX_some hx).1
    have hlm := lastOf_max hit (blocksOf 0)
    have hS := Sat.itTake hx (Sat.modClose hS)
    obtain ⟨dm, sv, hS⟩ := Sat.itemOpen hS
    simp only
    (repeat (first | (apply o_ptr ok; rfl; · conv => { lhs; whnf }) | (apply o_pure ok; · conv => { lhs; whnf; arg 1; whnf }) | refine c_seq ?_ | refine c_region ?_ | refine o_nil ?_ | refine q_then ?_ | refine o_want rfl rfl rfl ?_ | (apply o_rd hS; apply rd_load ok (i := 0); rfl; rfl; rfl; rfl; · conv => { lhs; whnf; arg 1; whnf })))
    have hS : Sat w0 w (modA p m :: G) := Sat.itBack hkeys hx (Sat.itemClose hS)
    refine o_guard_d rfl rfl rfl (fun h1 => ?_) (fun h1 => ?_)
    · rw [if_pos (show ¬x.2.2.links = 0 from h1)]
      (repeat (first | (apply o_pure ok; · conv => { lhs; whnf; arg 1; whnf }) | refine c_ret ?_ | refine o_nil ?_ | refine q_then ?_ | refine q_then_r ?_ | (apply c_cond_t; rfl) | refine o_pass rfl rfl rfl rfl ?_))
      exact out0 rfl ⟨rfl, hS⟩
    · rw [if_neg (show ¬¬x.2.2.links = 0 from h1)]
      (repeat (first | (apply o_ptr ok; rfl; · conv => { lhs; whnf }) | (apply o_pure ok; · conv => { lhs; whnf; arg 1; whnf }) | refine o_want rfl rfl rfl ?_))
      refine o_call ok rfl rfl (holds_spec k hS) (fun v w h => ?_)
      obtain ⟨rfl, hS⟩ := h
      (repeat (first | (apply o_pure ok; · conv => { lhs; whnf; arg 1; whnf }) | refine o_nil ?_ | refine q_then ?_ | refine o_want rfl rfl rfl ?_))
      refine c_cond_d rfl (fun h2 => ?_) (fun h2 => ?_)
      · rw [if_pos h2]
        (repeat (first | refine c_ret ?_ | refine q_then_r ?_))
        exact out0 rfl ⟨rfl, hS⟩
      · rw [if_neg h2]
        (repeat (first | refine c_seq ?_ | refine c_block ?_ | refine c_skip ?_ | refine q_then ?_))
        refine c_loop (fun n g w => ∃ (m' : Mod) (y : Itm) (j : Nat) (jk : Nat → Value), Trimmed m m' k x.2.1 x.2.2.kind j y ∧ j + n ≤ fuelOf x.2.2 0 ∧ trimsM m k 0 = trimAll n m' k 0 ∧ lastOf y.2.2 (blocksOf 0) + 1 ≤ n ∧
          g = updL [(0, ptr p), (1, vi k), (4, ptr x.2.1)] jk ∧ Sat w0 w (modA p m' :: G)) (fuelOf x.2.2 0)
          ⟨m, x, 0, _, ⟨hf, hx, rfl, rfl, by omega⟩, by omega, by unfold trimsM; rw [hx], by unfold fuelOf; omega, updL_self _ _ ⟨rfl, rfl, rfl, trivial⟩, hS⟩ ?_
        rintro n g w ⟨m', y, j, jk, hm', hjn, htr, hln, rfl, hS⟩
        have hfu : fuelOf x.2.2 0 ≤ 65803 := by unfold fuelOf; omega
        have hity := hm'.fine.it y (getX_some hm'.at_).1
        have hkeys' := Sat.keysM hS
        have htold := hm'.told
        have hb0 : blocksOf 0 = 0 := rfl
        have hS := Sat.itTake hm'.at_ hS
        rw [hm'.ptr] at hS
        (repeat (first | (apply o_ptr ok; rfl; · conv => { lhs; whnf }) | refine c_seq ?_ | refine c_region ?_))
        refine o_call ok rfl rfl (last_spec hity.small hS) (fun v w h => ?_)
        obtain ⟨rfl, hS⟩ := h
        have hS : Sat w0 w (modA p m' :: G) := Sat.itBack hkeys' hm'.at_ (by rw [hm'.ptr]; exact hS)
        (repeat (first | (apply o_pure ok; · conv => { lhs; whnf; arg 1; whnf }) | refine o_nil ?_ | refine q_then ?_))
        refine c_cond_d rfl (fun h2 => ?_) (fun h2 => ?_)
        · have h2 : 0 ≤ lastOf y.2.2 (blocksOf 0) := by rw [hb0]; exact h2
          obtain ⟨n, rfl⟩ : ∃ n', n = n' + 1 := ⟨n - 1, by omega⟩
          have htl := trim_last hity (s := 0) (by omega) h2
          (repeat (first | (apply o_ptr ok; rfl; · conv => { lhs; whnf }) | refine c_region ?_ | refine c_block ?_ | refine c_skip ?_ | refine q_then ?_))
          refine o_call ok rfl rfl (by rw [← hm'.ptr]; exact trim_spec hm'.fine (by omega) hm'.at_ (by omega) hS) (fun v w h => ?_)
          obtain ⟨rfl, hS⟩ := h
          (repeat (first | refine o_nil ?_ | refine q_then ?_ | refine q_blk_n ?_))
          refine ⟨n, by omega, stepM (updM m' k (trimOf y.2.2 0)), (y.1, y.2.1, trimOf y.2.2 0), j + 1, _, ?_, by omega, ?_, by show lastOf (trimOf y.2.2 0) _ + 1 ≤ _; omega, updL_self _ _ ⟨rfl, rfl, rfl, trivial⟩, hS⟩
          · refine ⟨(hm'.fine.upd (trim_ok hity (by omega))).step, getX_upd hm'.at_ _, hm'.ptr, hm'.kind, ?_⟩
            show (m'.told ++ [_]).length ≤ _
            rw [List.length_append]; simp; omega
          · rw [htr]
            conv => { lhs; unfold trimAll }
            rw [hm'.at_]
            simp only
            rw [if_pos h2]
        · have h2 : ¬0 ≤ lastOf y.2.2 (blocksOf 0) := by rw [hb0]; exact h2
          have he : trimsM m k 0 = m' := by rw [htr]; exact trimAll_stop hm'.at_ h2 n
          rw [he]
          obtain ⟨ib, tv, hS⟩ := Sat.modOpen hS
          (repeat (first | (apply o_ptr ok; rfl; · conv => { lhs; whnf }) | (apply o_pure ok; · conv => { lhs; whnf; arg 1; whnf }) | refine c_seq ?_ | refine c_region ?_ | refine c_exit ?_ | refine q_then ?_ | refine q_then_e ?_ | refine q_blk_e ?_ | (apply o_rd hS; apply rd_load ok (i := 0); rfl; rfl; rfl; rfl; · conv => { lhs; whnf; arg 1; whnf })))
          refine o_delete ok keyOk_int rfl hS rfl rfl rfl rfl (i := 1) rfl (fun w hS => ?_)
          rw [mdel_kv] at hS
          have hS := (Sat.itOpen hkeys' hm'.at_ (hS.bring 2 rfl)).tail
          have hS := Sat.modClose (m := delM m' k) (hS.back 2 rfl)
          (repeat (first | (apply o_ptr ok; rfl; · conv => { lhs; whnf }) | refine c_region ?_ | refine o_nil ?_ | refine q_then ?_))
          refine o_call ok rfl rfl (step_spec (hm'.fine.del k) (by show m'.told.length ≤ _; omega) hS) (fun v w h => ?_)
          obtain ⟨rfl, hS⟩ := h
          (repeat (first | refine o_nil ?_))
          exact end0 rfl ⟨rfl, hS⟩
end Go.Proofs.YtllomopjoomdiaaGreat
end

section
namespace Go.Proofs.YtllomopjoomdiaaGreat
open Go.SL
theorem getOk_some {m : Mod} {fd flag : Int} {x : Nat × Dsc} (h : getOk m fd flag = some x) : 0 ≤ fd ∧ fd < 16 ∧ m.d fd.toNat = some x := by
  unfold getOk at h
  split at h
  · cases h
  · split at h
    · cases h
    · cases hd : m.d fd.toNat with
      | none => rw [hd] at h; cases h
      | some y =>
        rw [hd] at h
        simp only at h
        split at h
        · exact ⟨by omega, by omega, h⟩
        · cases h
def putD (m : Mod) (fd : Int) (o : Option (Nat × Dsc)) : Mod := { m with d := setD m.d fd.toNat o }
theorem Fine.putD {m : Mod} (hf : Fine m) (fd : Int) (o : Option (Nat × Dsc)) : Fine (putD m fd o) := ⟨hf.blocks, hf.inodes, hf.dataAt, hf.many, hf.key, hf.it⟩
/-- A descriptor is closed. -/
def closeM (m : Mod) (fd : Int) : Mod × Int := match getOk m fd 0 with
  | none => (m, 13)
  | some x => (reclaimM (putD m fd none) x.2.inum, 0)
theorem close_spec {w0 w : World} {G : List Asn} {p : Nat} {m : Mod} {fd : Int} (hf : Fine m) (hT : m.told.length ≤ 900000000) (hS : Sat w0 w (modA p m :: G)) :
    CR Tryz.prog 60 [ptr p, vi fd] w fun v w' => v = vi (closeM m fd).2 ∧ Sat w0 w' (modA p (closeM m fd).1 :: G) := by
  refine calls_enter Tryz.func60 rfl rfl rfl ?_
  unfold closeM
  (repeat (first | (apply o_ptr ok; rfl; · conv => { lhs; whnf }) | (apply o_pure ok; · conv => { lhs; whnf; arg 1; whnf }) | refine c_seq ?_ | refine c_region ?_ | refine o_nil ?_ | refine q_then ?_))
  refine o_call ok rfl rfl (get_spec fd 0 hS) (fun v w h => ?_)
  obtain ⟨rfl, hS⟩ := h
  cases hg : getOk m fd 0 with
  | none =>
    unfold getR
    (repeat (first | (apply o_pure ok; · conv => { lhs; whnf; arg 1; whnf }) | refine c_seq ?_ | refine c_region ?_ | refine c_ret ?_ | refine o_nil ?_ | refine q_then ?_ | refine q_then_r ?_ | (apply c_cond_t; rfl)))
    exact out1 rfl ⟨rfl, hS⟩
  | some x =>
    obtain ⟨h1, h2, hd⟩ := getOk_some hg
    have hj : fd.toNat < 16 := by omega
    obtain ⟨ib, tv, hS⟩ := Sat.modOpen hS
    have hc := modC_desc (y := m.lay) (ib := ib) (d := m.d) (tv := tv) hj
    have hS := Sat.descOpen (hS.bring 3 rfl) hj
    rw [hd] at hS
    unfold getR
    (repeat (first | (apply o_ptr ok; rfl; · conv => { lhs; whnf }) | (apply o_pure ok; · conv => { lhs; whnf; arg 1; whnf }) | refine c_seq ?_ | refine c_region ?_ | refine c_skip ?_ | refine o_nil ?_ | refine q_then ?_ | (apply c_cond_f; rfl)))
    apply o_rd hS (rd_indexAddrA ok rfl rfl rfl rfl (by omega))
    refine o_store (k := 10 + fd.toNat) (v := .pointer none) (cs := modC m.lay ib m.d tv) (T := 58) (i := 2) ok hS (by show Value.pointer (some ⟨p, 10 + fd.toNat * 1, _⟩) = _; rw [Nat.mul_one]) rfl rfl rfl rfl hc (fun w hS => ?_)
    rw [show (modC m.lay ib m.d tv).setIfInBounds (10 + fd.toNat) (.pointer none) = modC m.lay ib (setD m.d fd.toNat none) tv from modC_set (o := none) hj] at hS
    have hS : Sat w0 w (descA (some x) :: restD m.d fd.toNat :: pt p (.cells (modC m.lay ib (setD m.d fd.toNat none) tv) 58) :: mapA encI ib (itemsKV m.items) :: itemsA m.items :: toldA tv m.told :: G) := hS
    have hS := Sat.closeH [] (hS.bring 1 rfl) (C := descA none) (fun _ _ => trivial)
    have hS := Sat.descClose hj none hS
    have hS := ((hS.bring 1 rfl).back 5 rfl).back 3 rfl
    have hS : Sat w0 w (modA p (putD m fd none) :: pt x.1 (.cells #[vi x.2.inum, vi x.2.place, vi x.2.flags] 125) :: G) := Sat.modClose (m := putD m fd none) hS
    (repeat (first | (apply o_ptr ok; rfl; · conv => { lhs; whnf }) | refine c_seq ?_ | refine c_region ?_ | refine o_nil ?_ | refine q_then ?_ | (apply o_rd hS; apply rd_load ok (i := 1); rfl; rfl; rfl; rfl; · conv => { lhs; whnf; arg 1; whnf })))
    refine o_call ok rfl rfl (reclaim_spec (hf.putD fd none) hT hS) (fun v w h => ?_)
    obtain ⟨rfl, hS⟩ := h
    (repeat (first | (apply o_pure ok; · conv => { lhs; whnf; arg 1; whnf }) | refine c_seq ?_ | refine c_region ?_ | refine c_ret ?_ | refine o_nil ?_ | refine q_then ?_))
    exact out1 rfl ⟨rfl, ((hS.bring 1 rfl).tail)⟩
end Go.Proofs.YtllomopjoomdiaaGreat
end

section
namespace Go.Proofs.YtllomopjoomdiaaGreat
open Go.SL
theorem nodup_len : ∀ (n : Nat) (l : List Int), l.Nodup → (∀ x ∈ l, 1 ≤ x ∧ x ≤ n) → l.length ≤ n
  | 0, l, _, h => by
    cases l with
    | nil => exact Nat.le_refl _
    | cons a l => have := h a List.mem_cons_self; omega
  | n + 1, l, hn, h => by
    have h1 := nodup_len n (l.filter fun x => decide (x ≠ ((n + 1 : Nat) : Int))) (hn.sublist List.filter_sublist) (fun x hx => by
      have h2 := List.mem_filter.1 hx
      have h3 := h x h2.1
      have h4 := of_decide_eq_true h2.2
      omega)
    have h5 : ∀ l : List Int, l.Nodup → l.length ≤ (l.filter fun x => decide (x ≠ ((n + 1 : Nat) : Int))).length + 1 := by
      intro l
      induction l with
      | nil => intro _; simp
      | cons a l ih =>
        intro hn
        simp only [List.nodup_cons] at hn
        by_cases ha : a = ((n + 1 : Nat) : Int)
        · rw [List.filter_cons_of_neg (by simpa using ha)]
          have : l.filter (fun x => decide (x ≠ ((n + 1 : Nat) : Int))) = l := by
            apply List.filter_eq_self.2
            intro x hx
            have : x ≠ a := fun e => hn.1 (by rw [← e]; exact hx)
            rw [ha] at this
            simpa using this
          rw [this]; simp
        · rw [List.filter_cons_of_pos (by simpa using ha)]
          have := ih hn.2
          simp only [List.length_cons]; omega
    have := h5 l hn
    omega
def addM (m : Mod) (k : Int) (b : Nat) (t : It) : Mod := { m with items := m.items ++ [(k, b, t)] }
theorem getX_append (l : List Itm) (y : Itm) (k : Int) : getX (l ++ [y]) k = match getX l k with
  | some x => some x
  | none => if y.1 = k then some y else none := by
  induction l with
  | nil => rw [List.nil_append, getX_cons]; rfl
  | cons x l ih =>
    rw [List.cons_append, getX_cons, getX_cons]
    by_cases h : x.1 = k
    · rw [if_pos h, if_pos h]
    · rw [if_neg h, if_neg h]; exact ih
theorem hasI_getX (l : List Itm) (k : Int) : hasI l k = (getX l k).isSome := by unfold hasI; rw [mget_kv, Option.isSome_map]
theorem spareFrom_ok (l : List Itm) : ∀ (k : Nat) (i : Int), 1 ≤ i → (spareFrom l k i = 0) ∨ (i ≤ spareFrom l k i ∧ spareFrom l k i < i + k ∧ getX l (spareFrom l k i) = none)
  | 0, i, _ => .inl rfl
  | k + 1, i, hi => by
    unfold spareFrom
    cases h : hasI l i with
    | true =>
      rw [if_pos rfl]
      rcases spareFrom_ok l k (i + 1) (by omega) with h1 | h1
      · exact .inl h1
      · exact .inr ⟨by omega, by omega, h1.2.2⟩
    | false =>
      rw [if_neg (by simp)]
      rw [hasI_getX] at h
      exact .inr ⟨by omega, by omega, by simpa using h⟩
theorem spareOf_ok {m : Mod} (hf : Fine m) (h : ¬spareOf m = 0) : 1 ≤ spareOf m ∧ spareOf m ≤ m.lay.inodes ∧ getX m.items (spareOf m) = none := by
  have := hf.inodes
  rcases spareFrom_ok m.items m.lay.inodes.toNat 1 (by omega) with h1 | h1
  · exact absurd h1 h
  · have h2 : 1 ≤ spareOf m ∧ spareOf m < 1 + (m.lay.inodes.toNat : Int) ∧ getX m.items (spareOf m) = none := h1
    exact ⟨h2.1, by omega, h2.2.2⟩
theorem Fine.add {m : Mod} (hf : Fine m) (hn : (m.items.map (·.1)).Nodup) {k : Int} {b : Nat} {t : It} (hk : 1 ≤ k ∧ k ≤ 65535) (ht : ItOk t) : Fine (addM m k b t) := by
  refine ⟨hf.blocks, hf.inodes, hf.dataAt, ?_, fun x hx => ?_, fun x hx => ?_⟩
  · have := nodup_len 65535 _ hn (fun x hx => by obtain ⟨y, hy, rfl⟩ := List.mem_map.1 hx; exact hf.key y hy)
    rw [List.length_map] at this
    show (m.items ++ [_]).length ≤ _
    rw [List.length_append]; simp; omega
  · rcases List.mem_append.1 hx with h | h
    · exact hf.key x h
    · rw [List.mem_singleton] at h; subst h; exact hk
  · rcases List.mem_append.1 hx with h | h
    · exact hf.it x h
    · rw [List.mem_singleton] at h; subst h; exact ht
theorem put_ok {t : It} (ht : ItOk t) (hk : t.kind = 2) {slot : Int} {e : Int × ByteArray} (h : 0 ≤ slot ∧ slot ≤ t.slots.length) (hsz : slot = t.slots.length → t.size < 67381248) (he : 0 ≤ e.1 ∧ e.1 ≤ 65535) : ItOk (putOf t slot e) := by
  have hd := ht.dir hk
  have hs0 := ht.size0
  have hs1 := ht.size1
  have h1 := ht.slots.1
  unfold putOf
  split
  · rename_i h2
    have h3 := hsz h2
    refine ⟨⟨by show t.size + 16 ≤ _; omega, ht.small.2⟩, ⟨by show (t.slots ++ [e]).length ≤ _; rw [List.length_append, List.length_singleton]; omega, fun x hx => ?_⟩, ht.blk, ht.idx, ht.nd, by show 0 ≤ t.size + 16; omega, by show t.size + 16 ≤ _; omega, fun _ => ?_, ht.links⟩
    · rcases List.mem_append.1 hx with h4 | h4
      · exact ht.slots.2 x h4
      · rw [List.mem_singleton] at h4; subst h4; exact he
    · show t.size + 16 = 16 * ((t.slots ++ [e]).length : Int)
      rw [List.length_append, List.length_singleton]; omega
  · refine ⟨ht.small, ⟨by show (t.slots.set slot.toNat e).length ≤ _; rw [List.length_set]; exact h1, fun x hx => ?_⟩, ht.blk, ht.idx, ht.nd, hs0, hs1, fun _ => ?_, ht.links⟩
    · rcases List.mem_or_eq_of_mem_set hx with h4 | h4
      · exact ht.slots.2 x h4
      · subst h4; exact he
    · show t.size = 16 * ((t.slots.set slot.toNat e).length : Int)
      rw [List.length_set]; exact hd
theorem freeSlot_ok : ∀ (s : List (Int × ByteArray)) (i : Int) {j : Int}, freeSlot s i = some j → i ≤ j ∧ j < i + s.length
  | [], i, j, h => by cases h
  | e :: r, i, j, h => by
    unfold freeSlot at h
    split at h
    · cases h; simp; omega
    · have := freeSlot_ok r (i + 1) h
      simp only [List.length_cons]; omega
theorem spotOf_ok {t : It} (h : (spotOf t).2.2 = 0) : 0 ≤ (spotOf t).1 ∧ (spotOf t).1 ≤ t.slots.length ∧ ((spotOf t).1 = t.slots.length → t.size < 67381248) := by
  unfold spotOf at *
  split
  · rename_i i hi
    have := freeSlot_ok _ _ hi
    exact ⟨by show 0 ≤ i; omega, by show i ≤ _; omega, fun e => by have e : i = t.slots.length := e; omega⟩
  · rename_i hi
    rw [hi] at h
    simp only at h
    split at h
    · cases h
    · rename_i h2
      rw [if_neg h2]
      exact ⟨by simp, by simp, fun _ => by omega⟩
theorem roomOf_ok {m : Mod} {t : It} {a b : Int} (h : (roomOf m t a b).2 = 0) : 0 ≤ (roomOf m t a b).1 ∧ (roomOf m t a b).1 ≤ t.slots.length ∧ ((roomOf m t a b).1 = t.slots.length → t.size < 67381248) ∧ (0 < b → ¬spareOf m = 0) := by
  unfold roomOf at *
  by_cases h1 : (spotOf t).2.2 = 0
  · rw [if_neg (fun h => h h1)] at *
    by_cases h2 : freeOf m < (spotOf t).2.1 + a
    · rw [if_pos h2] at h; cases h
    · rw [if_neg h2] at *
      by_cases h3 : 0 < b ∧ spareOf m = 0
      · rw [if_pos h3] at h; cases h
      · rw [if_neg h3]
        have := spotOf_ok h1
        exact ⟨this.1, this.2.1, this.2.2, fun hb e => h3 ⟨hb, e⟩⟩
  · rw [if_pos h1] at h; exact absurd h h1
def fileIt : It := ⟨1, 1, 0, [], []⟩
theorem fileIt_ok : ItOk fileIt := ⟨⟨by decide, by decide⟩, ⟨by decide, fun e he => by cases he⟩, fun p hp => (by cases hp), fun p hp => (by cases hp), List.nodup_nil, by decide, by decide, fun h => (by cases h), by decide⟩
/-- A new file, opened: b1, b2 are the new item's and the new descriptor's places. -/
def createM (m : Mod) (fd dir : Int) (name : ByteArray) (flags : Int) (b1 b2 : Nat) : Mod × Int × Int :=
  if crowdedOf m 0 then (m, 0, 15) else match getX m.items dir with
  | none => (m, 0, 0)
  | some x => if ¬(roomOf m x.2.2 0 1).2 = 0 then (m, 0, (roomOf m x.2.2 0 1).2) else
    (putD (stepM (updM (addM m (spareOf m) b1 fileIt) dir (putOf x.2.2 (roomOf m x.2.2 0 1).1 (spareOf m, name)))) fd (some (b2, ⟨spareOf m, 0, flags⟩)), fd, 0)
theorem create_spec {w0 w : World} {G : List Asn} {p : Nat} {m : Mod} {fd dir flags : Int} {name : ByteArray} {x : Itm} (hf : Fine m) (hT : m.told.length ≤ 900000000) (hx : getX m.items dir = some x) (hk : x.2.2.kind = 2) (hfd : 0 ≤ fd ∧ fd < 16) (hS : Sat w0 w (modA p m :: G)) :
    CR Tryz.prog 99 [ptr p, vi fd, vi dir, .string name, vi flags] w fun v w' => ∃ b1 b2, v = .tuple #[vi (createM m fd dir name flags b1 b2).2.1, vi (createM m fd dir name flags b1 b2).2.2] ∧ Sat w0 w' (modA p (createM m fd dir name flags b1 b2).1 :: G) := by
  have hit := hf.it x (getX_some hx).1
  have hkeys := Sat.keysM hS
  have hfi := hf.inodes
  refine calls_enter Tryz.func99 rfl rfl rfl ?_
  (repeat (first | (apply o_ptr ok; rfl; · conv => { lhs; whnf }) | (apply o_pure ok; · conv => { lhs; whnf; arg 1; whnf }) | refine c_seq ?_ | refine c_region ?_ | refine o_nil ?_ | refine q_then ?_))
  refine o_call ok rfl rfl (crowded_spec 0 hS) (fun v w h => ?_)
  obtain ⟨rfl, hS⟩ := h
  (repeat (first | refine o_nil ?_ | refine q_then ?_))
  refine c_cond_b rfl (fun h1 => ?_) (fun h1 => ?_)
  · have e : createM m fd dir name flags 0 0 = (m, 0, 15) := by unfold createM; rw [if_pos h1]
    (repeat (first | (apply o_pure ok; · conv => { lhs; whnf; arg 1; whnf }) | refine c_seq ?_ | refine c_region ?_ | refine c_ret ?_ | refine o_nil ?_ | refine q_then ?_ | refine q_then_r ?_))
    exact out2 rfl ⟨0, 0, by rw [e]; rfl, by rw [e]; exact hS⟩
  · have h1' : ¬crowdedOf m 0 = true := by rw [h1]; simp
    (repeat (first | (apply o_ptr ok; rfl; · conv => { lhs; whnf }) | (apply o_pure ok; · conv => { lhs; whnf; arg 1; whnf }) | refine c_seq ?_ | refine c_region ?_ | refine c_skip ?_ | refine q_then ?_))
    refine o_call ok rfl rfl (room_spec hf hx hit.size0 (by decide) hS) (fun v w h => ?_)
    obtain ⟨rfl, hS⟩ := h
    have hroom := @roomOf_ok m x.2.2 0 1
    (repeat (first | (apply o_pure ok; · conv => { lhs; whnf; arg 1; whnf }) | refine c_seq ?_ | refine c_region ?_ | refine o_nil ?_ | refine q_then ?_))
    refine c_cond_d rfl (fun h2 => ?_) (fun h2 => ?_)
    · have e : createM m fd dir name flags 0 0 = (m, 0, (roomOf m x.2.2 0 1).2) := by unfold createM; rw [if_neg h1', hx]; simp only; rw [if_pos (show ¬(roomOf m x.2.2 0 1).2 = 0 from h2)]
      (repeat (first | (apply o_pure ok; · conv => { lhs; whnf; arg 1; whnf }) | refine c_seq ?_ | refine c_region ?_ | refine c_ret ?_ | refine o_nil ?_ | refine q_then ?_ | refine q_then_r ?_))
      exact out2 rfl ⟨0, 0, by rw [e]; rfl, by rw [e]; exact hS⟩
    · have h2' : (roomOf m x.2.2 0 1).2 = 0 := Decidable.not_not.1 h2
      have e : ∀ b1 b2, createM m fd dir name flags b1 b2 = (putD (stepM (updM (addM m (spareOf m) b1 fileIt) dir (putOf x.2.2 (roomOf m x.2.2 0 1).1 (spareOf m, name)))) fd (some (b2, ⟨spareOf m, 0, flags⟩)), fd, 0) := fun b1 b2 => by
        unfold createM; rw [if_neg h1', hx]; simp only; rw [if_neg (fun h => h h2')]
      obtain ⟨hr1, hr2, hr3, hr4⟩ := hroom h2'
      obtain ⟨hs1, hs2, hs3⟩ := spareOf_ok hf (hr4 (by decide))
      (repeat (first | (apply o_ptr ok; rfl; · conv => { lhs; whnf }) | refine c_seq ?_ | refine c_region ?_ | refine c_skip ?_ | refine q_then ?_))
      refine o_call ok rfl rfl (spare_spec hf hS) (fun v w h => ?_)
      obtain ⟨rfl, hS⟩ := h
      generalize spareOf m = inum at hs1 hs2 hs3 e ⊢
      generalize roomOf m x.2.2 0 1 = r at hr1 hr2 hr3 e ⊢
      obtain ⟨ib, tv, hS⟩ := Sat.modOpen hS
      (repeat (first | (apply o_ptr ok; rfl; · conv => { lhs; whnf }) | (apply o_pure ok; · conv => { lhs; whnf; arg 1; whnf }) | refine c_seq ?_ | refine c_region ?_ | refine o_nil ?_ | refine q_then ?_ | (apply o_rd hS; apply rd_load ok (i := 0); rfl; rfl; rfl; rfl; · conv => { lhs; whnf; arg 1; whnf })))
      refine o_makeMap hS (fun b3 w hS => ?_)
      (repeat (first | (apply o_rd hS; apply rd_build1 ok; rfl; rfl; rfl; rfl)))
      refine o_box hS rfl (fun b1 w hS => ?_)
      refine o_mapUpdate ok keyOk_int (v := ptr b1) hS rfl rfl rfl rfl rfl (i := 3) rfl (fun w hS => ?_)
      have hne : ¬inum = dir := by rintro rfl; rw [hx] at hs3; cases hs3
      have hms : mset (itemsKV m.items) inum (ptr b1) = itemsKV (m.items ++ [(inum, b1, fileIt)]) := by
        unfold mset
        rw [mget_kv, hs3]
        show itemsKV m.items ++ [(inum, ptr b1)] = _
        unfold itemsKV; rw [List.map_append]; rfl
      rw [hms] at hS
      have hS : Sat w0 w (pt b1 (.cells (itemC fileIt (.map (some b3)) (.slice none 0 0)) 135) :: pt b3 (.map #[] 0) :: pt p (.cells (modC m.lay ib m.d tv) 58) :: mapA encI ib (itemsKV (m.items ++ [(inum, b1, fileIt)])) :: itemsA m.items :: descsA m.d :: toldA tv m.told :: G) := hS
      have hS := hS.conseq (i := 1) (A' := dataA fileIt.kind (.map (some b3)) fileIt.data) rfl (fun g hg => .inr ⟨b3, rfl, #[], 0, mapOk_new encI, hg⟩)
      have hS := Sat.closeAt [_, _] [] hS (C := slotsA (.slice none 0 0) fileIt.slots) (fun g _ => rowA_nil _ _ g)
      have hS := Sat.itemClose hS
      have hS := hS.bring 3 rfl
      have hS : Sat w0 w (itA (inum, b1, fileIt) :: grp (m.items.map itA) :: pt p (.cells (modC m.lay ib m.d tv) 58) :: mapA encI ib (itemsKV (m.items ++ [(inum, b1, fileIt)])) :: descsA m.d :: toldA tv m.told :: G) := hS.bring 1 rfl
      have hS := Sat.snoc (F := itA) hS
      have hS := Sat.modClose (m := addM m inum b1 fileIt) (hS.back 2 rfl)
      have hf2 := hf.add hkeys (b := b1) ⟨hs1, by omega⟩ fileIt_ok
      have hx2 : getX (addM m inum b1 fileIt).items dir = some x := by
        show getX (m.items ++ [_]) dir = _
        rw [getX_append, hx]
      have hkeys2 := Sat.keysM hS
      obtain ⟨ib, tv, hS⟩ := Sat.modOpen hS
      (repeat (first | (apply o_ptr ok; rfl; · conv => { lhs; whnf }) | (apply o_pure ok; · conv => { lhs; whnf; arg 1; whnf }) | refine c_seq ?_ | refine c_region ?_ | refine o_nil ?_ | refine q_then ?_ | (apply o_rd hS; apply rd_load ok (i := 0); rfl; rfl; rfl; rfl; · conv => { lhs; whnf; arg 1; whnf })))
      refine o_rd (v := ptr x.2.1) hS (rd_item ok hx2 rfl rfl rfl rfl rfl (i := 1) rfl) ?_
      have hS := Sat.itTake hx2 (Sat.modClose hS)
      (repeat (first | (apply o_pure ok; · conv => { lhs; whnf; arg 1; whnf }) | (apply o_rd hS; apply rd_build1 ok; rfl; rfl; rfl; rfl)))
      rw [w_u16 (show 0 ≤ inum ∧ inum ≤ 65535 by omega)]
      refine o_call (l := [ptr x.2.1, vi r.1, .agg (entC (inum, name)).toArray]) ok rfl rfl (put_spec hit.slots.1 ⟨hit.size0, hit.small.1⟩ ⟨hr1, hr2⟩ hS) (fun v w h => ?_)
      obtain ⟨rfl, hS⟩ := h
      have hS := Sat.itGive hkeys2 hx2 hS
      (repeat (first | (apply o_ptr ok; rfl; · conv => { lhs; whnf }) | refine c_seq ?_ | refine c_region ?_ | refine o_nil ?_ | refine q_then ?_))
      refine o_call ok rfl rfl (step_spec (hf2.upd (put_ok hit hk ⟨hr1, hr2⟩ hr3 (by show 0 ≤ inum ∧ inum ≤ 65535; omega))) (by show m.told.length ≤ _; omega) hS) (fun v w h => ?_)
      obtain ⟨rfl, hS⟩ := h
      generalize hm3 : stepM (updM (addM m inum b1 fileIt) dir (putOf x.2.2 r.1 (inum, name))) = m3 at hS
      obtain ⟨ib, tv, hS⟩ := Sat.modOpen hS
      have hj : fd.toNat < 16 := by omega
      have hc := modC_desc (y := m3.lay) (ib := ib) (d := m3.d) (tv := tv) hj
      have hS := Sat.descOpen (hS.bring 3 rfl) hj
      (repeat (first | (apply o_ptr ok; rfl; · conv => { lhs; whnf }) | (apply o_pure ok; · conv => { lhs; whnf; arg 1; whnf }) | refine c_seq ?_ | refine c_region ?_ | refine o_nil ?_ | refine q_then ?_ | (apply o_rd hS; apply rd_build1 ok; rfl; rfl; rfl; rfl)))
      refine o_box hS rfl (fun b2 w hS => ?_)
      (repeat (first | (apply o_ptr ok; rfl; · conv => { lhs; whnf })))
      apply o_rd hS (rd_indexAddrA ok rfl rfl rfl rfl (by omega))
      refine o_store (k := 10 + fd.toNat) (v := ptr b2) (cs := modC m3.lay ib m3.d tv) (T := 58) (i := 3) ok hS (by show Value.pointer (some ⟨p, 10 + fd.toNat * 1, _⟩) = _; rw [Nat.mul_one]) rfl rfl rfl rfl hc (fun w hS => ?_)
      rw [show (modC m3.lay ib m3.d tv).setIfInBounds (10 + fd.toNat) (ptr b2) = modC m3.lay ib (setD m3.d fd.toNat (some (b2, ⟨inum, 0, flags⟩))) tv from modC_set (o := some (b2, ⟨inum, 0, flags⟩)) hj] at hS
      have hS : Sat w0 w (descA (some (b2, ⟨inum, 0, flags⟩)) :: descA (m3.d fd.toNat) :: restD m3.d fd.toNat :: pt p (.cells (modC m3.lay ib (setD m3.d fd.toNat (some (b2, ⟨inum, 0, flags⟩))) tv) 58) :: mapA encI ib (itemsKV m3.items) :: itemsA m3.items :: toldA tv m3.told :: G) := hS
      have hS := ((hS.bring 1 rfl).tail)
      have hS := Sat.descClose hj (some (b2, ⟨inum, 0, flags⟩)) hS
      have hS := Sat.modClose (m := putD m3 fd (some (b2, ⟨inum, 0, flags⟩))) (hS.back 3 rfl)
      (repeat (first | (apply o_pure ok; · conv => { lhs; whnf; arg 1; whnf }) | refine c_seq ?_ | refine c_region ?_ | refine c_ret ?_ | refine o_nil ?_ | refine q_then ?_))
      refine out2 rfl ⟨b1, b2, by rw [e]; rfl, by rw [e, hm3]; exact hS⟩
end Go.Proofs.YtllomopjoomdiaaGreat
end

section
namespace Go.Proofs.YtllomopjoomdiaaGreat
open Go.SL
def lastN (l : List ByteArray) : ByteArray := l.getD (l.length - 1) ⟨#[]⟩
theorem specialOf_false {l : List ByteArray} (h : specialOf l = false) : 1 ≤ l.length := by
  cases l with
  | nil => cases h
  | cons a l => simp
theorem lastN_get {l : List ByteArray} (h : 1 ≤ l.length) : (l.map Value.string)[0 + ((l.length : Int) - 1).toNat * 1]? = some (.string (lastN l)) := by
  have : 0 + ((l.length : Int) - 1).toNat * 1 = l.length - 1 := by omega
  rw [this]
  unfold lastN
  have hlt : l.length - 1 < l.length := by omega
  simp [List.getD, hlt]
/-- A file that is there is opened. -/
def openOld (m : Mod) (names : List ByteArray) (fd flags : Int) (b2 : Nat) : Option (Mod × Int × Int) := match findS m names 1 with
  | none => none
  | some r => if ¬r.2 = 0 then some (m, 0, r.2) else match getX m.items r.1 with
    | none => none
    | some x => if ¬band flags 4 = 0 ∧ ¬band flags 8 = 0 then some (m, 0, 6) else if x.2.2.kind = 2 ∧ ¬band flags 2 = 0 then some (m, 0, 8) else if crowdedOf m r.1 = true then some (m, 0, 15) else
      some (if ¬band flags 16 = 0 then cutM (putD m fd (some (b2, ⟨r.1, 0, flags⟩))) r.1 0 else putD m fd (some (b2, ⟨r.1, 0, flags⟩)), fd, 0)
def openM (m : Mod) (path : ByteArray) (flags : Int) (b1 b2 : Nat) : Option (Mod × Int × Int) :=
  if oddOf flags = true then some (m, 0, 4) else if ¬(parseOf path).2 = 0 then some (m, 0, (parseOf path).2) else if descOf m < 0 then some (m, 0, 14) else
  if ¬band flags 4 = 0 ∧ specialOf (parseOf path).1 = false then match parentS m (parseOf path).1 with
    | none => none
    | some r => if ¬r.2 = 0 then some (m, 0, r.2) else match getX m.items r.1 with
      | none => none
      | some x => if (lookOf x.2.2 (lastN (parseOf path).1)).1 < 0 then some (createM m (descOf m) r.1 (lastN (parseOf path).1) flags b1 b2) else openOld m (parseOf path).1 (descOf m) flags b2
  else openOld m (parseOf path).1 (descOf m) flags b2
theorem parentS_dir {m : Mod} {names : List ByteArray} {r : Int × Int} (h : parentS m names = some r) (h0 : r.2 = 0) : ∃ x, getX m.items r.1 = some x ∧ x.2.2.kind = 2 := by
  unfold parentS at h
  split at h
  · cases h
  · split at h
    · cases h; exact absurd h0 (by assumption)
    · split at h
      · cases h
      · rename_i x hx
        split at h
        · cases h; cases h0
        · rename_i hk
          cases h
          exact ⟨x, hx, Decidable.not_not.1 hk⟩
theorem descFrom_le (d : Nat → Option (Nat × Dsc)) : ∀ (k i : Nat), descFrom d k i = -1 ∨ (0 ≤ descFrom d k i ∧ descFrom d k i < i + k)
  | 0, i => .inl rfl
  | k + 1, i => by
    unfold descFrom
    split
    · right; omega
    · rcases descFrom_le d k (i + 1) with h | h
      · exact .inl h
      · right; omega
theorem descOf_le (m : Mod) : descOf m < 16 := by
  have := descFrom_le m.d 16 0
  unfold descOf; omega
theorem oddOf_trunc {f : Int} (h : oddOf f = false) (h16 : ¬band f 16 = 0) : ¬band f 2 = 0 := by
  unfold oddOf at h
  simp only [Bool.or_eq_false_iff, Bool.and_eq_false_iff, decide_eq_false_iff_not] at h
  rcases h.2 with h1 | h1
  · exact absurd h16 h1
  · exact h1
set_option maxHeartbeats 1000000 in
theorem open_spec {w0 w : World} {G : List Asn} {p : Nat} {m : Mod} {path : ByteArray} {flags : Int} (hf : Fine m) (hT : m.told.length ≤ 900000000) (hp : path.size ≤ 4611686018427387904) (H : ∀ b1 b2, (openM m path flags b1 b2).isSome = true) (hS : Sat w0 w (modA p m :: G)) :
    CR Tryz.prog 55 [ptr p, .string path, vi flags] w fun v w' => ∃ b1 b2 r, openM m path flags b1 b2 = some r ∧ v = .tuple #[vi r.2.1, vi r.2.2] ∧ Sat w0 w' (modA p r.1 :: G) := by
  refine calls_enter Tryz.func55 rfl rfl rfl ?_
  (repeat (first | (apply o_pure ok; · conv => { lhs; whnf; arg 1; whnf }) | refine c_seq ?_ | refine c_region ?_ | refine o_nil ?_ | refine q_then ?_))
  refine o_call ok rfl rfl (odd_spec flags hS) (fun v w h => ?_)
  obtain ⟨rfl, hS⟩ := h
  (repeat (first | refine o_nil ?_ | refine q_then ?_))
  refine c_cond_b rfl (fun h1 => ?_) (fun h1 => ?_)
  · (repeat (first | (apply o_pure ok; · conv => { lhs; whnf; arg 1; whnf }) | refine c_seq ?_ | refine c_region ?_ | refine c_ret ?_ | refine o_nil ?_ | refine q_then ?_ | refine q_then_r ?_))
    exact out2 rfl ⟨0, 0, (m, 0, 4), by unfold openM; rw [if_pos h1], rfl, hS⟩
  have h1' : ¬oddOf flags = true := by rw [h1]; simp
  (repeat (first | (apply o_pure ok; · conv => { lhs; whnf; arg 1; whnf }) | refine c_seq ?_ | refine c_region ?_ | refine c_skip ?_ | refine q_then ?_))
  refine o_call ok rfl rfl (parse_spec path hp hS) (fun v w h => ?_)
  obtain ⟨nv, rfl, hS⟩ := h
  have hl := parse_len path
  have hO : ∀ b1 b2, openM m path flags b1 b2 = openM m path flags b1 b2 := fun _ _ => rfl
  conv at hO => { intro b1 b2; rhs; unfold openM }
  rw [forall_congr' fun b1 => forall_congr' fun b2 => by rw [if_neg h1']] at hO
  generalize parseOf path = ps at hO hS hl ⊢
  (repeat (first | (apply o_pure ok; · conv => { lhs; whnf; arg 1; whnf }) | refine c_seq ?_ | refine c_region ?_ | refine o_nil ?_ | refine q_then ?_))
  refine c_cond_d rfl (fun h2 => ?_) (fun h2 => ?_)
  · (repeat (first | (apply o_pure ok; · conv => { lhs; whnf; arg 1; whnf }) | refine c_seq ?_ | refine c_region ?_ | refine c_ret ?_ | refine o_nil ?_ | refine q_then ?_ | refine q_then_r ?_))
    exact out2 rfl ⟨0, 0, (m, 0, ps.2), by rw [hO, if_pos (show ¬ps.2 = 0 from h2)], rfl, hS.tail⟩
  have h2' : ¬¬ps.2 = 0 := h2
  rw [forall_congr' fun b1 => forall_congr' fun b2 => by rw [if_neg h2']] at hO
  (repeat (first | (apply o_ptr ok; rfl; · conv => { lhs; whnf }) | refine c_seq ?_ | refine c_region ?_ | refine c_skip ?_ | refine q_then ?_))
  refine o_call ok rfl rfl (desc_spec (hS.bring 1 rfl)) (fun v w h => ?_)
  obtain ⟨rfl, hS⟩ := h
  have hS : Sat w0 w (modA p m :: namesA nv ps.1 :: G) := hS
  have hdl := descOf_le m
  generalize descOf m = fd at hO hdl ⊢
  (repeat (first | (apply o_pure ok; · conv => { lhs; whnf; arg 1; whnf }) | refine c_seq ?_ | refine c_region ?_ | refine o_nil ?_ | refine q_then ?_))
  refine c_cond_d rfl (fun h3 => ?_) (fun h3 => ?_)
  · (repeat (first | (apply o_pure ok; · conv => { lhs; whnf; arg 1; whnf }) | refine c_seq ?_ | refine c_region ?_ | refine c_ret ?_ | refine o_nil ?_ | refine q_then ?_ | refine q_then_r ?_))
    exact out2 rfl ⟨0, 0, (m, 0, 14), by rw [hO, if_pos h3], rfl, (hS.bring 1 rfl).tail⟩
  rw [forall_congr' fun b1 => forall_congr' fun b2 => by rw [if_neg h3]] at hO
  (repeat (first | (apply o_pure ok; · conv => { lhs; whnf; arg 1; whnf }) | refine c_seq ?_ | refine c_region ?_ | refine c_skip ?_ | refine q_then ?_))
  refine o_guard_d rfl rfl rfl (fun h4 => ?_) (fun h4 => ?_)
  have h4' : ¬band flags 4 = 0 := h4
  (repeat (first | (apply o_pure ok; · conv => { lhs; whnf; arg 1; whnf }) | refine o_want rfl rfl rfl ?_))
  refine o_call ok rfl rfl (special_spec (by omega) (hS.bring 1 rfl)) (fun v w h => ?_)
  obtain ⟨rfl, hS⟩ := h
  have hS : Sat w0 w (modA p m :: namesA nv ps.1 :: G) := hS.bring 1 rfl
  rcases hsp : specialOf ps.1 with _ | _
  rw [forall_congr' fun b1 => forall_congr' fun b2 => by rw [if_pos ⟨h4', hsp⟩]] at hO
  have hl1 := specialOf_false hsp
  obtain ⟨r, hps⟩ : ∃ r, parentS m ps.1 = some r := by
    cases hps : parentS m ps.1 with
    | none => have := H 0 0; rw [hO, hps] at this; cases this
    | some r => exact ⟨r, rfl⟩
  rw [hps] at hO
  simp only at hO
  (repeat (first | (apply o_ptr ok; rfl; · conv => { lhs; whnf }) | (apply o_pure ok; · conv => { lhs; whnf; arg 1; whnf }) | refine c_seq ?_ | refine c_region ?_ | refine o_nil ?_ | refine q_then ?_ | (apply c_cond_t; rfl) | refine o_want rfl rfl rfl ?_))
  refine o_call ok rfl rfl (parent_spec hf hl1 (by omega) hps hS) (fun v w h => ?_)
  obtain ⟨rfl, hS⟩ := h
  have hS : Sat w0 w (modA p m :: namesA nv ps.1 :: G) := hS
  (repeat (first | (apply o_pure ok; · conv => { lhs; whnf; arg 1; whnf }) | refine c_seq ?_ | refine c_region ?_ | refine o_nil ?_ | refine q_then ?_))
  refine c_cond_d rfl (fun h5 => ?_) (fun h5 => ?_)
  · (repeat (first | (apply o_pure ok; · conv => { lhs; whnf; arg 1; whnf }) | refine c_seq ?_ | refine c_region ?_ | refine c_ret ?_ | refine o_nil ?_ | refine q_then ?_ | refine q_then_r ?_))
    exact out2 rfl ⟨0, 0, (m, 0, r.2), by rw [hO, if_pos (show ¬r.2 = 0 from h5)], rfl, (hS.bring 1 rfl).tail⟩
  have h5' : r.2 = 0 := Decidable.not_not.1 h5
  obtain ⟨x, hx, hxk⟩ := parentS_dir hps h5'
  rw [forall_congr' fun b1 => forall_congr' fun b2 => by rw [if_neg (show ¬¬r.2 = 0 from h5), hx]] at hO
  simp only at hO
  have hit := hf.it x (getX_some hx).1
  obtain ⟨hlen, a, cap, rfl, hcap, ha⟩ := Sat.rowForm hS (i := 1) rfl
  obtain ⟨b9, rfl⟩ := ha (by omega)
  have hkeys := Sat.keysM hS
  (repeat (first | (apply o_sub; rfl; rfl; omega) | (apply o_pure ok; · conv => { lhs; whnf; arg 1; whnf }) | refine c_seq ?_ | refine c_region ?_ | refine c_skip ?_ | refine q_then ?_))
  apply o_rd hS (rd_indexAddr ok rfl rfl rfl rfl (by omega))
  apply o_rd hS (rd_loadR (v := .string (lastN ps.1)) ok rfl rfl rfl (i := 1) rfl rfl (lastN_get hl1))
  obtain ⟨ib, tv, hS⟩ := Sat.modOpen hS
  (repeat (first | (apply o_ptr ok; rfl; · conv => { lhs; whnf }) | (apply o_pure ok; · conv => { lhs; whnf; arg 1; whnf }) | refine c_seq ?_ | refine c_region ?_ | refine o_nil ?_ | refine q_then ?_ | (apply o_rd hS; apply rd_load ok (i := 0); rfl; rfl; rfl; rfl; · conv => { lhs; whnf; arg 1; whnf })))
  refine o_rd (v := ptr x.2.1) hS (rd_item ok hx rfl rfl rfl rfl rfl (i := 1) rfl) ?_
  have hS := Sat.itTake hx (Sat.modClose hS)
  (repeat (first | (apply o_pure ok; · conv => { lhs; whnf; arg 1; whnf })))
  refine o_call ok rfl rfl (look_spec hit.slots hS) (fun v w h => ?_)
  obtain ⟨rfl, hS⟩ := h
  have hS := Sat.itBack hkeys hx hS
  (repeat (first | (apply o_pure ok; · conv => { lhs; whnf; arg 1; whnf }) | refine c_seq ?_ | refine c_region ?_ | refine o_nil ?_ | refine q_then ?_))
  refine c_cond_d rfl (fun h6 => ?_) (fun h6 => ?_)
  · (repeat (first | (apply o_ptr ok; rfl; · conv => { lhs; whnf }) | (apply o_pure ok; · conv => { lhs; whnf; arg 1; whnf }) | refine c_seq ?_ | refine c_region ?_))
    refine o_call ok rfl rfl (create_spec hf hT hx hxk (by omega) hS) (fun v w h => ?_)
    obtain ⟨b1, b2, rfl, hS⟩ := h
    (repeat (first | (apply o_pure ok; · conv => { lhs; whnf; arg 1; whnf }) | refine c_ret ?_ | refine o_nil ?_ | refine q_then ?_ | refine q_then_r ?_))
    exact out2 rfl ⟨b1, b2, createM m fd r.1 (lastN ps.1) flags b1 b2, by rw [hO, if_pos h6], rfl, (hS.bring 1 rfl).tail⟩
  rw [forall_congr' fun b1 => forall_congr' fun b2 => by rw [if_neg h6]] at hO
  generalize Value.slice (some ⟨b9, 0, none⟩) ps.1.length cap = nv at hS ⊢
  (repeat (first | (apply o_ptr ok; rfl; · conv => { lhs; whnf }) | (apply o_pure ok; · conv => { lhs; whnf; arg 1; whnf }) | refine c_seq ?_ | refine c_region ?_ | refine c_skip ?_ | refine q_then ?_))
  rotate_left
  rw [forall_congr' fun b1 => forall_congr' fun b2 => by rw [if_neg (show ¬(¬band flags 4 = 0 ∧ specialOf ps.1 = false) from fun h => by rw [hsp] at h; cases h.2)]] at hO
  (repeat (first | (apply o_ptr ok; rfl; · conv => { lhs; whnf }) | (apply o_pure ok; · conv => { lhs; whnf; arg 1; whnf }) | refine c_seq ?_ | refine c_region ?_ | refine c_skip ?_ | refine o_nil ?_ | refine q_then ?_ | (apply c_cond_f; rfl) | refine o_want rfl rfl rfl ?_))
  rotate_left
  rw [forall_congr' fun b1 => forall_congr' fun b2 => by rw [if_neg (show ¬(¬band flags 4 = 0 ∧ specialOf ps.1 = false) from fun h => h4 h.1)]] at hO
  (repeat (first | (apply o_ptr ok; rfl; · conv => { lhs; whnf }) | (apply o_pure ok; · conv => { lhs; whnf; arg 1; whnf }) | refine c_seq ?_ | refine c_region ?_ | refine c_skip ?_ | refine o_nil ?_ | refine q_then ?_ | (apply c_cond_f; rfl) | refine o_pass rfl rfl rfl rfl ?_))
  all_goals (
    obtain ⟨q, hfs⟩ : ∃ q, findS m ps.1 1 = some q := by
      cases hfs : findS m ps.1 1 with
      | none => have := H 0 0; rw [hO] at this; unfold openOld at this; rw [hfs] at this; cases this
      | some r => exact ⟨r, rfl⟩
    obtain ⟨hlen, a, cap, rfl, hcap, ha⟩ := Sat.rowForm hS (i := 1) rfl
    refine o_call ok rfl rfl (find_spec (n := ps.1.length) hf (Nat.le_refl _) (by omega) (by rw [List.take_length]; exact hfs) hS) (fun v w h => ?_)
    obtain ⟨rfl, hS⟩ := h
    have hS : Sat w0 w (modA p m :: namesA (.slice a ps.1.length cap) ps.1 :: G) := hS
    have hS := (hS.bring 1 rfl).tail
    (repeat (first | (apply o_pure ok; · conv => { lhs; whnf; arg 1; whnf }) | refine c_seq ?_ | refine c_region ?_ | refine o_nil ?_ | refine q_then ?_))
    refine c_cond_d rfl (fun h5 => ?_) (fun h5 => ?_)
    · (repeat (first | (apply o_pure ok; · conv => { lhs; whnf; arg 1; whnf }) | refine c_seq ?_ | refine c_region ?_ | refine c_ret ?_ | refine o_nil ?_ | refine q_then ?_ | refine q_then_r ?_))
      exact out2 rfl ⟨0, 0, (m, 0, q.2), by rw [hO]; unfold openOld; rw [hfs]; simp only; rw [if_pos (show ¬q.2 = 0 from h5)], rfl, hS⟩
    have h5' : ¬¬q.2 = 0 := h5
    obtain ⟨x, hx⟩ : ∃ x, getX m.items q.1 = some x := by
      cases hx : getX m.items q.1 with
      | none => have := H 0 0; rw [hO] at this; unfold openOld at this; rw [hfs] at this; simp only at this; rw [if_neg h5', hx] at this; cases this
      | some x => exact ⟨x, rfl⟩
    have hO2 : ∀ b1 b2, openM m path flags b1 b2 = if ¬band flags 4 = 0 ∧ ¬band flags 8 = 0 then some (m, 0, 6) else if x.2.2.kind = 2 ∧ ¬band flags 2 = 0 then some (m, 0, 8) else if crowdedOf m q.1 = true then some (m, 0, 15) else
      some (if ¬band flags 16 = 0 then cutM (putD m fd (some (b2, ⟨q.1, 0, flags⟩))) q.1 0 else putD m fd (some (b2, ⟨q.1, 0, flags⟩)), fd, 0) := fun b1 b2 => by
        rw [hO]; unfold openOld; rw [hfs]; simp only; rw [if_neg h5', hx]
    have hkeys := Sat.keysM hS
    obtain ⟨ib, tv, hS⟩ := Sat.modOpen hS
    (repeat (first | (apply o_ptr ok; rfl; · conv => { lhs; whnf }) | (apply o_pure ok; · conv => { lhs; whnf; arg 1; whnf }) | refine c_seq ?_ | refine c_region ?_ | refine c_skip ?_ | refine q_then ?_ | (apply o_rd hS; apply rd_load ok (i := 0); rfl; rfl; rfl; rfl; · conv => { lhs; whnf; arg 1; whnf })))
    refine o_rd (v := ptr x.2.1) hS (rd_item ok hx rfl rfl rfl rfl rfl (i := 1) rfl) ?_
    have hS := Sat.itTake hx (Sat.modClose hS)
    obtain ⟨dm, sv, hS⟩ := Sat.itemOpen hS
    have back : ∀ {w : World}, Sat w0 w (pt x.2.1 (.cells (itemC x.2.2 dm sv) 135) :: dataA x.2.2.kind dm x.2.2.data :: slotsA sv x.2.2.slots :: modK p m q.1 :: G) → Sat w0 w (modA p m :: G) := fun hS => Sat.itBack hkeys hx (Sat.itemClose hS)
    (repeat (first | (apply o_ptr ok; rfl; · conv => { lhs; whnf }) | (apply o_pure ok; · conv => { lhs; whnf; arg 1; whnf }) | refine c_seq ?_ | refine c_region ?_ | refine c_block ?_ | refine o_nil ?_ | refine q_then ?_))
    by_cases hA : ¬band flags 4 = 0 ∧ ¬band flags 8 = 0
    · refine o_guard_d rfl rfl rfl (fun h6 => ?_) (fun h6 => absurd hA.1 h6)
      (repeat (first | (apply o_pure ok; · conv => { lhs; whnf; arg 1; whnf }) | refine o_nil ?_ | refine q_then ?_ | refine o_want rfl rfl rfl ?_))
      refine c_cond_p rfl hA.2 ?_
      (repeat (first | (apply o_pure ok; · conv => { lhs; whnf; arg 1; whnf }) | refine c_seq ?_ | refine c_region ?_ | refine c_ret ?_ | refine o_nil ?_ | refine q_then ?_ | refine q_then_r ?_ | refine q_blk_r ?_))
      exact out2 rfl ⟨0, 0, (m, 0, 6), by rw [hO2, if_pos hA], rfl, back hS⟩
    have hO3 : ∀ b1 b2, openM m path flags b1 b2 = if x.2.2.kind = 2 ∧ ¬band flags 2 = 0 then some (m, 0, 8) else if crowdedOf m q.1 = true then some (m, 0, 15) else
      some (if ¬band flags 16 = 0 then cutM (putD m fd (some (b2, ⟨q.1, 0, flags⟩))) q.1 0 else putD m fd (some (b2, ⟨q.1, 0, flags⟩)), fd, 0) := fun b1 b2 => by rw [hO2, if_neg hA]
    refine o_guard_d rfl rfl rfl (fun h6 => ?_) (fun h6 => ?_)
    (repeat (first | (apply o_pure ok; · conv => { lhs; whnf; arg 1; whnf }) | refine o_nil ?_ | refine q_then ?_ | refine o_want rfl rfl rfl ?_))
    refine c_cond_n rfl (fun h7 => hA ⟨h6, h7⟩) ?_
    (repeat (first | (apply o_ptr ok; rfl; · conv => { lhs; whnf }) | (apply o_pure ok; · conv => { lhs; whnf; arg 1; whnf }) | refine c_seq ?_ | refine c_region ?_ | (apply o_rd hS; apply rd_load ok (i := 0); rfl; rfl; rfl; rfl; · conv => { lhs; whnf; arg 1; whnf })))
    rotate_left
    (repeat (first | (apply o_ptr ok; rfl; · conv => { lhs; whnf }) | (apply o_pure ok; · conv => { lhs; whnf; arg 1; whnf }) | refine c_seq ?_ | refine c_region ?_ | refine o_nil ?_ | refine q_then ?_ | (apply c_cond_f; rfl) | refine o_pass rfl rfl rfl rfl ?_ | (apply o_rd hS; apply rd_load ok (i := 0); rfl; rfl; rfl; rfl; · conv => { lhs; whnf; arg 1; whnf })))
    all_goals (
      by_cases hB : x.2.2.kind = 2 ∧ ¬band flags 2 = 0
      · refine o_guard_d rfl rfl rfl (fun h8 => ?_) (fun h8 => absurd hB.1 h8)
        (repeat (first | (apply o_pure ok; · conv => { lhs; whnf; arg 1; whnf }) | refine o_nil ?_ | refine q_then ?_ | refine o_want rfl rfl rfl ?_))
        refine c_cond_p rfl hB.2 ?_
        (repeat (first | (apply o_pure ok; · conv => { lhs; whnf; arg 1; whnf }) | refine c_seq ?_ | refine c_region ?_ | refine c_ret ?_ | refine o_nil ?_ | refine q_then ?_ | refine q_then_r ?_ | refine q_blk_r ?_))
        exact out2 rfl ⟨0, 0, (m, 0, 8), by rw [hO3, if_pos hB], rfl, back hS⟩
      have hO4 : ∀ b1 b2, openM m path flags b1 b2 = if crowdedOf m q.1 = true then some (m, 0, 15) else
        some (if ¬band flags 16 = 0 then cutM (putD m fd (some (b2, ⟨q.1, 0, flags⟩))) q.1 0 else putD m fd (some (b2, ⟨q.1, 0, flags⟩)), fd, 0) := fun b1 b2 => by rw [hO3, if_neg hB]
      have hS := back hS
      refine o_guard_d rfl rfl rfl (fun h8 => ?_) (fun h8 => ?_)
      (repeat (first | (apply o_pure ok; · conv => { lhs; whnf; arg 1; whnf }) | refine o_nil ?_ | refine q_then ?_ | refine o_want rfl rfl rfl ?_))
      refine c_cond_n rfl (fun h9 => hB ⟨h8, h9⟩) ?_
      (repeat (first | (apply o_ptr ok; rfl; · conv => { lhs; whnf }) | (apply o_pure ok; · conv => { lhs; whnf; arg 1; whnf }) | refine c_seq ?_ | refine c_region ?_))
      rotate_left
      (repeat (first | (apply o_ptr ok; rfl; · conv => { lhs; whnf }) | (apply o_pure ok; · conv => { lhs; whnf; arg 1; whnf }) | refine c_seq ?_ | refine c_region ?_ | refine o_nil ?_ | refine q_then ?_ | (apply c_cond_f; rfl) | refine o_pass rfl rfl rfl rfl ?_))
      all_goals (
        refine o_call ok rfl rfl (crowded_spec q.1 hS) (fun v w h => ?_)
        obtain ⟨rfl, hS⟩ := h
        (repeat (first | (apply o_pure ok; · conv => { lhs; whnf; arg 1; whnf }) | refine o_nil ?_ | refine q_then ?_))
        refine c_cond_b rfl (fun h10 => ?_) (fun h10 => ?_)
        · (repeat (first | (apply o_pure ok; · conv => { lhs; whnf; arg 1; whnf }) | refine c_seq ?_ | refine c_region ?_ | refine c_ret ?_ | refine o_nil ?_ | refine q_then ?_ | refine q_then_r ?_ | refine q_blk_r ?_))
          exact out2 rfl ⟨0, 0, (m, 0, 15), by rw [hO4, if_pos h10], rfl, hS⟩
        have hO5 : ∀ b1 b2, openM m path flags b1 b2 = some (if ¬band flags 16 = 0 then cutM (putD m fd (some (b2, ⟨q.1, 0, flags⟩))) q.1 0 else putD m fd (some (b2, ⟨q.1, 0, flags⟩)), fd, 0) := fun b1 b2 => by
          rw [hO4, if_neg (by rw [h10]; simp)]
        have hj : fd.toNat < 16 := by omega
        obtain ⟨ib, tv, hS⟩ := Sat.modOpen hS
        have hc := modC_desc (y := m.lay) (ib := ib) (d := m.d) (tv := tv) hj
        have hS := Sat.descOpen (hS.bring 3 rfl) hj
        (repeat (first | (apply o_ptr ok; rfl; · conv => { lhs; whnf }) | (apply o_pure ok; · conv => { lhs; whnf; arg 1; whnf }) | refine c_seq ?_ | refine c_region ?_ | refine c_skip ?_ | refine q_then ?_ | refine q_blk_n ?_ | (apply o_rd hS; apply rd_build1 ok; rfl; rfl; rfl; rfl)))
        refine o_box hS rfl (fun b2 w hS => ?_)
        (repeat (first | (apply o_ptr ok; rfl; · conv => { lhs; whnf })))
        apply o_rd hS (rd_indexAddrA ok rfl rfl rfl rfl (by omega))
        refine o_store (k := 10 + fd.toNat) (v := ptr b2) (cs := modC m.lay ib m.d tv) (T := 58) (i := 3) ok hS (by show Value.pointer (some ⟨p, 10 + fd.toNat * 1, _⟩) = _; rw [Nat.mul_one]) rfl rfl rfl rfl hc (fun w hS => ?_)
        rw [show (modC m.lay ib m.d tv).setIfInBounds (10 + fd.toNat) (ptr b2) = modC m.lay ib (setD m.d fd.toNat (some (b2, ⟨q.1, 0, flags⟩))) tv from modC_set (o := some (b2, ⟨q.1, 0, flags⟩)) hj] at hS
        have hS : Sat w0 w (descA (some (b2, ⟨q.1, 0, flags⟩)) :: descA (m.d fd.toNat) :: restD m.d fd.toNat :: pt p (.cells (modC m.lay ib (setD m.d fd.toNat (some (b2, ⟨q.1, 0, flags⟩))) tv) 58) :: mapA encI ib (itemsKV m.items) :: itemsA m.items :: toldA tv m.told :: G) := hS
        have hS := ((hS.bring 1 rfl).tail)
        have hS := Sat.descClose hj (some (b2, ⟨q.1, 0, flags⟩)) hS
        have hS := Sat.modClose (m := putD m fd (some (b2, ⟨q.1, 0, flags⟩))) (hS.back 3 rfl)
        (repeat (first | (apply o_pure ok; · conv => { lhs; whnf; arg 1; whnf }) | refine c_seq ?_ | refine c_region ?_ | refine o_nil ?_ | refine q_then ?_))
        refine c_cond_d rfl (fun h11 => ?_) (fun h11 => ?_)
        · have hk : ¬x.2.2.kind = 2 := fun hk => hB ⟨hk, oddOf_trunc h1 h11⟩
          (repeat (first | (apply o_ptr ok; rfl; · conv => { lhs; whnf }) | refine c_region ?_))
          refine o_call ok rfl rfl (cut_spec (hf.putD fd _) hT (x := x) hx hk (by decide) hS) (fun v w h => ?_)
          obtain ⟨rfl, hS⟩ := h
          (repeat (first | (apply o_pure ok; · conv => { lhs; whnf; arg 1; whnf }) | refine c_seq ?_ | refine c_region ?_ | refine c_ret ?_ | refine o_nil ?_ | refine q_then ?_))
          exact out2 rfl ⟨0, b2, (cutM (putD m fd (some (b2, ⟨q.1, 0, flags⟩))) q.1 0, fd, 0), by rw [hO5, if_pos (show ¬band flags 16 = 0 from h11)], rfl, hS⟩
        · (repeat (first | (apply o_pure ok; · conv => { lhs; whnf; arg 1; whnf }) | refine c_seq ?_ | refine c_region ?_ | refine c_skip ?_ | refine c_ret ?_ | refine o_nil ?_ | refine q_then ?_))
          exact out2 rfl ⟨0, b2, (putD m fd (some (b2, ⟨q.1, 0, flags⟩)), fd, 0), by rw [hO5, if_neg (show ¬¬band flags 16 = 0 from h11)], rfl, hS⟩)))
end Go.Proofs.YtllomopjoomdiaaGreat
end

section
namespace Go.Proofs.YtllomopjoomdiaaGreat
open Go.SL
/-- An item with more links. -/
def linked (t : It) (d : Int) : It := { t with links := t.links + d }
theorem linked_ok {t : It} (h : ItOk t) {d : Int} (hd : 0 ≤ t.links + d ∧ t.links + d ≤ 65536) : ItOk (linked t d) :=
  ⟨h.small, h.slots, h.blk, h.idx, h.nd, h.size0, h.size1, h.dir, hd⟩
theorem dirOf_ok (inum up : Int) (h1 : 0 ≤ inum ∧ inum ≤ 65535) (h2 : 0 ≤ up ∧ up ≤ 65535) : ItOk (dirOf inum up) := by
  refine ⟨⟨by show (32 : Int) ≤ _; decide, by show 0 ≤ _; decide⟩, ⟨by show 2 ≤ _; decide, fun e he => ?_⟩, fun p hp => (by cases hp), fun p hp => (by cases hp), List.nodup_nil, by show (0 : Int) ≤ 32; decide, by show (32 : Int) ≤ _; decide, fun _ => rfl, by show (0 : Int) ≤ 2 ∧ (2 : Int) ≤ _; decide⟩
  simp only [dirOf, List.mem_cons, List.not_mem_nil, or_false] at he
  rcases he with rfl | rfl
  · exact h1
  · exact h2
/-- A new directory; b is its item's place. -/
def mkdirM (m : Mod) (path : ByteArray) (b : Nat) : Option (Mod × Int) :=
  if ¬(parseOf path).2 = 0 then some (m, (parseOf path).2) else if specialOf (parseOf path).1 = true then some (m, 6) else
  match parentS m (parseOf path).1 with
  | none => none
  | some r => if ¬r.2 = 0 then some (m, r.2) else match getX m.items r.1 with
    | none => none
    | some x => if 0 ≤ (lookOf x.2.2 (lastN (parseOf path).1)).1 then some (m, 6) else if 1000 ≤ x.2.2.links then some (m, 18) else
      if ¬(roomOf m x.2.2 1 1).2 = 0 then some (m, (roomOf m x.2.2 1 1).2) else
      some (stepM (updM (addM m (spareOf m) b (dirOf (spareOf m) r.1)) r.1 (linked (putOf x.2.2 (roomOf m x.2.2 1 1).1 (spareOf m, lastN (parseOf path).1)) 1)), 0)
theorem putOf_links (t : It) (s : Int) (e : Int × ByteArray) : (putOf t s e).links = t.links := by unfold putOf; split <;> rfl
theorem putOf_kind (t : It) (s : Int) (e : Int × ByteArray) : (putOf t s e).kind = t.kind := by unfold putOf; split <;> rfl
theorem mkdir_spec {w0 w : World} {G : List Asn} {p : Nat} {m : Mod} {path : ByteArray} (hf : Fine m) (hT : m.told.length ≤ 900000000) (hp : path.size ≤ 4611686018427387904) (H : ∀ b, (mkdirM m path b).isSome = true) (hS : Sat w0 w (modA p m :: G)) :
    CR Tryz.prog 65 [ptr p, .string path] w fun v w' => ∃ b r, mkdirM m path b = some r ∧ v = vi r.2 ∧ Sat w0 w' (modA p r.1 :: G) := by
  refine calls_enter Tryz.func65 rfl rfl rfl ?_
  (repeat (first | (apply o_pure ok; · conv => { lhs; whnf; arg 1; whnf }) | refine c_seq ?_ | refine c_region ?_ | refine o_nil ?_ | refine q_then ?_))
  refine o_call ok rfl rfl (parse_spec path hp hS) (fun v w h => ?_)
  obtain ⟨nv, rfl, hS⟩ := h
  have hl := parse_len path
  have hO : ∀ b, mkdirM m path b = mkdirM m path b := fun _ => rfl
  conv at hO => { intro b; rhs; unfold mkdirM }
  generalize parseOf path = ps at hO hS hl ⊢
  (repeat (first | (apply o_pure ok; · conv => { lhs; whnf; arg 1; whnf }) | refine c_seq ?_ | refine c_region ?_ | refine o_nil ?_ | refine q_then ?_))
  refine c_cond_d rfl (fun h1 => ?_) (fun h1 => ?_)
  · (repeat (first | (apply o_pure ok; · conv => { lhs; whnf; arg 1; whnf }) | refine c_seq ?_ | refine c_region ?_ | refine c_ret ?_ | refine o_nil ?_ | refine q_then ?_ | refine q_then_r ?_))
    exact out1 rfl ⟨0, (m, ps.2), by rw [hO, if_pos (show ¬ps.2 = 0 from h1)], rfl, hS.tail⟩
  rw [forall_congr' fun b => by rw [if_neg (show ¬¬ps.2 = 0 from h1)]] at hO
  (repeat (first | (apply o_pure ok; · conv => { lhs; whnf; arg 1; whnf }) | refine c_seq ?_ | refine c_region ?_ | refine c_skip ?_ | refine q_then ?_))
  refine o_call ok rfl rfl (special_spec (by omega) hS) (fun v w h => ?_)
  obtain ⟨rfl, hS⟩ := h
  (repeat (first | refine o_nil ?_ | refine q_then ?_))
  refine c_cond_b rfl (fun h2 => ?_) (fun h2 => ?_)
  · (repeat (first | (apply o_pure ok; · conv => { lhs; whnf; arg 1; whnf }) | refine c_seq ?_ | refine c_region ?_ | refine c_ret ?_ | refine o_nil ?_ | refine q_then ?_ | refine q_then_r ?_))
    exact out1 rfl ⟨0, (m, 6), by rw [hO, if_pos h2], rfl, hS.tail⟩
  rw [forall_congr' fun b => by rw [if_neg (by rw [h2]; simp)]] at hO
  have hl1 := specialOf_false h2
  obtain ⟨r, hps⟩ : ∃ r, parentS m ps.1 = some r := by
    cases hps : parentS m ps.1 with
    | none => have := H 0; rw [hO, hps] at this; cases this
    | some r => exact ⟨r, rfl⟩
  rw [hps] at hO
  simp only at hO
  (repeat (first | (apply o_ptr ok; rfl; · conv => { lhs; whnf }) | (apply o_pure ok; · conv => { lhs; whnf; arg 1; whnf }) | refine c_seq ?_ | refine c_region ?_ | refine c_skip ?_ | refine q_then ?_))
  refine o_call ok rfl rfl (parent_spec hf hl1 (by omega) hps (hS.bring 1 rfl)) (fun v w h => ?_)
  obtain ⟨rfl, hS⟩ := h
  have hS : Sat w0 w (modA p m :: namesA nv ps.1 :: G) := hS
  (repeat (first | (apply o_pure ok; · conv => { lhs; whnf; arg 1; whnf }) | refine c_seq ?_ | refine c_region ?_ | refine o_nil ?_ | refine q_then ?_))
  refine c_cond_d rfl (fun h5 => ?_) (fun h5 => ?_)
  · (repeat (first | (apply o_pure ok; · conv => { lhs; whnf; arg 1; whnf }) | refine c_seq ?_ | refine c_region ?_ | refine c_ret ?_ | refine o_nil ?_ | refine q_then ?_ | refine q_then_r ?_))
    exact out1 rfl ⟨0, (m, r.2), by rw [hO, if_pos (show ¬r.2 = 0 from h5)], rfl, (hS.bring 1 rfl).tail⟩
  have h5' : r.2 = 0 := Decidable.not_not.1 h5
  obtain ⟨x, hx, hxk⟩ := parentS_dir hps h5'
  rw [forall_congr' fun b => by rw [if_neg (show ¬¬r.2 = 0 from h5), hx]] at hO
  simp only at hO
  have hit := hf.it x (getX_some hx).1
  have hln := hit.links
  obtain ⟨hlen, a, cap, rfl, hcap, ha⟩ := Sat.rowForm hS (i := 1) rfl
  obtain ⟨b9, rfl⟩ := ha (by omega)
  have hkeys := Sat.keysM hS
  obtain ⟨ib, tv, hS⟩ := Sat.modOpen hS
  (repeat (first | refine c_seq ?_ | refine c_skip ?_ | refine q_then ?_))
  refine region_q 13 mixed (by kernel_rfl) hS ?_
  (repeat (first | (apply r_ptr ok rfl; rfl; · conv => { lhs; whnf }) | (apply r_pure ok rfl; · conv => { lhs; whnf; arg 1; whnf }) | (apply r_rd rfl; apply rd_load ok (i := 0); rfl; rfl; rfl; rfl; · conv => { lhs; whnf; arg 1; whnf })))
  apply r_rd rfl (v := ptr x.2.1) (rd_item ok hx rfl rfl rfl rfl rfl (i := 1) rfl)
  (repeat (first | (apply r_sub rfl; rfl; rfl; omega) | (apply r_pure ok rfl; · conv => { lhs; whnf; arg 1; whnf })))
  apply r_rd rfl (rd_indexAddr ok rfl rfl rfl rfl (by omega))
  apply r_rd rfl (v := .string (lastN ps.1)) (rd_loadR ok rfl rfl rfl (i := 5) rfl rfl (lastN_get hl1))
  (repeat (first | (apply r_ptr ok rfl; rfl; · conv => { lhs; whnf }) | refine r_nil ?_))
  intro w hS
  have hS := Sat.itTake hx (Sat.modClose hS)
  (repeat (first | (apply o_ptr ok; rfl; · conv => { lhs; whnf }) | (apply o_pure ok; · conv => { lhs; whnf; arg 1; whnf }) | refine c_seq ?_ | refine c_region ?_ | refine o_nil ?_ | refine q_then ?_))
  refine o_call ok rfl rfl (look_spec hit.slots hS) (fun v w h => ?_)
  obtain ⟨rfl, hS⟩ := h
  have hS := Sat.itBack hkeys hx hS
  (repeat (first | (apply o_pure ok; · conv => { lhs; whnf; arg 1; whnf }) | refine c_seq ?_ | refine c_region ?_ | refine o_nil ?_ | refine q_then ?_))
  generalize lastN ps.1 = nm at hO ⊢
  refine c_cond_d rfl (fun h6 => ?_) (fun h6 => ?_)
  · (repeat (first | (apply o_pure ok; · conv => { lhs; whnf; arg 1; whnf }) | refine c_seq ?_ | refine c_region ?_ | refine c_ret ?_ | refine o_nil ?_ | refine q_then ?_ | refine q_then_r ?_))
    exact out1 rfl ⟨0, (m, 6), by rw [hO, if_pos h6], rfl, (hS.bring 1 rfl).tail⟩
  rw [forall_congr' fun b => by rw [if_neg h6]] at hO
  have hS := Sat.itTake hx hS
  obtain ⟨dm, sv, hS⟩ := Sat.itemOpen hS
  (repeat (first | (apply o_ptr ok; rfl; · conv => { lhs; whnf }) | (apply o_pure ok; · conv => { lhs; whnf; arg 1; whnf }) | refine c_seq ?_ | refine c_region ?_ | refine c_skip ?_ | refine o_nil ?_ | refine q_then ?_ | (apply o_rd hS; apply rd_load ok (i := 0); rfl; rfl; rfl; rfl; · conv => { lhs; whnf; arg 1; whnf })))
  refine c_cond_d rfl (fun h7 => ?_) (fun h7 => ?_)
  · (repeat (first | (apply o_pure ok; · conv => { lhs; whnf; arg 1; whnf }) | refine c_seq ?_ | refine c_region ?_ | refine c_ret ?_ | refine o_nil ?_ | refine q_then ?_ | refine q_then_r ?_))
    exact out1 rfl ⟨0, (m, 18), by rw [hO, if_pos h7], rfl, (Sat.itBack hkeys hx (Sat.itemClose hS)).bring 1 rfl |>.tail⟩
  rw [forall_congr' fun b => by rw [if_neg h7]] at hO
  have hS := Sat.itBack hkeys hx (Sat.itemClose hS)
  (repeat (first | (apply o_ptr ok; rfl; · conv => { lhs; whnf }) | (apply o_pure ok; · conv => { lhs; whnf; arg 1; whnf }) | refine c_seq ?_ | refine c_region ?_ | refine c_skip ?_ | refine q_then ?_))
  refine o_call ok rfl rfl (room_spec hf hx hit.size0 (by decide) hS) (fun v w h => ?_)
  obtain ⟨rfl, hS⟩ := h
  have hroom := @roomOf_ok m x.2.2 1 1
  (repeat (first | (apply o_pure ok; · conv => { lhs; whnf; arg 1; whnf }) | refine c_seq ?_ | refine c_region ?_ | refine o_nil ?_ | refine q_then ?_))
  refine c_cond_d rfl (fun h8 => ?_) (fun h8 => ?_)
  · (repeat (first | (apply o_pure ok; · conv => { lhs; whnf; arg 1; whnf }) | refine c_seq ?_ | refine c_region ?_ | refine c_ret ?_ | refine o_nil ?_ | refine q_then ?_ | refine q_then_r ?_))
    exact out1 rfl ⟨0, (m, (roomOf m x.2.2 1 1).2), by rw [hO, if_pos (show ¬(roomOf m x.2.2 1 1).2 = 0 from h8)], rfl, (hS.bring 1 rfl).tail⟩
  have h8' : (roomOf m x.2.2 1 1).2 = 0 := Decidable.not_not.1 h8
  rw [forall_congr' fun b => by rw [if_neg (show ¬¬(roomOf m x.2.2 1 1).2 = 0 from h8)]] at hO
  obtain ⟨hr1, hr2, hr3, hr4⟩ := hroom h8'
  obtain ⟨hs1, hs2, hs3⟩ := spareOf_ok hf (hr4 (by decide))
  have hfi := hf.inodes
  (repeat (first | (apply o_ptr ok; rfl; · conv => { lhs; whnf }) | refine c_seq ?_ | refine c_region ?_ | refine c_skip ?_ | refine q_then ?_))
  refine o_call ok rfl rfl (spare_spec hf hS) (fun v w h => ?_)
  obtain ⟨rfl, hS⟩ := h
  generalize spareOf m = inum at hs1 hs2 hs3 hO ⊢
  generalize roomOf m x.2.2 1 1 = q at hr1 hr2 hr3 hO ⊢
  have hr0 := hf.key x (getX_some hx).1
  have hxe := (getX_some hx).2
  obtain ⟨ib, tv, hS⟩ := Sat.modOpen hS
  (repeat (first | (apply o_pure ok; · conv => { lhs; whnf; arg 1; whnf }) | refine c_seq ?_ | refine o_nil ?_ | refine q_then ?_))
  have hS : Sat w0 w ([] ++ (pt p (.cells (modC m.lay ib m.d tv) 58) :: mapA encI ib (itemsKV m.items) :: itemsA m.items :: descsA m.d :: toldA tv m.told :: namesA (.slice (some ⟨b9, 0, none⟩) ps.1.length cap) ps.1 :: G)) := hS
  refine region_c (L := _ :: _) 8 [7] [] mixed (by kernel_rfl) hS ?_
  (repeat (first | (apply r_ptr ok rfl; rfl; · conv => { lhs; whnf }) | (apply r_pure ok rfl; · conv => { lhs; whnf; arg 1; whnf }) | (apply r_rd rfl; apply rd_load ok (i := 0); rfl; rfl; rfl; rfl; · conv => { lhs; whnf; arg 1; whnf })))
  refine r_chain undef rfl rfl ?_
  (repeat (first | refine r_nil ?_))
  refine ch_step rfl rfl (fun G2 w hS => ?_)
  refine o_call ok rfl rfl (directory_spec inum r.1 (by omega) (by omega) hS) (fun v w h => ?_)
  obtain ⟨b1, rfl, hS⟩ := h
  refine o_nil ⟨rfl, [_], hS, ch_nil ?_⟩
  intro w hS
  have hne : ¬inum = r.1 := by rintro rfl; rw [hx] at hs3; cases hs3
  refine o_mapUpdate ok keyOk_int (v := ptr b1) hS rfl rfl rfl rfl rfl (i := 2) rfl (fun w hS => ?_)
  have hms : mset (itemsKV m.items) inum (ptr b1) = itemsKV (m.items ++ [(inum, b1, dirOf inum r.1)]) := by
    unfold mset
    rw [mget_kv, hs3]
    show itemsKV m.items ++ [(inum, ptr b1)] = _
    unfold itemsKV; rw [List.map_append]; rfl
  rw [hms] at hS
  have hS : Sat w0 w (itA (inum, b1, dirOf inum r.1) :: pt p (.cells (modC m.lay ib m.d tv) 58) :: mapA encI ib (itemsKV (m.items ++ [(inum, b1, dirOf inum r.1)])) :: grp (m.items.map itA) :: descsA m.d :: toldA tv m.told :: namesA (.slice (some ⟨b9, 0, none⟩) ps.1.length cap) ps.1 :: G) := hS
  have hS := (hS.bring 3 rfl).bring 1 rfl
  have hS := Sat.snoc (F := itA) hS
  have hS := Sat.modClose (m := addM m inum b1 (dirOf inum r.1)) (hS.back 2 rfl)
  have hf2 := hf.add hkeys (b := b1) ⟨hs1, by omega⟩ (dirOf_ok inum r.1 (by omega) (by omega))
  have hx2 : getX (addM m inum b1 (dirOf inum r.1)).items r.1 = some x := by
    show getX (m.items ++ [_]) r.1 = _
    rw [getX_append, hx]
  have hkeys2 := Sat.keysM hS
  have hS := Sat.itTake hx2 hS
  (repeat (first | (apply o_ptr ok; rfl; · conv => { lhs; whnf }) | (apply o_pure ok; · conv => { lhs; whnf; arg 1; whnf }) | refine c_seq ?_ | refine c_region ?_ | refine o_nil ?_ | refine q_then ?_ | (apply o_rd hS; apply rd_build1 ok; rfl; rfl; rfl; rfl)))
  rw [w_u16 (show 0 ≤ inum ∧ inum ≤ 65535 by omega)]
  refine o_call (l := [ptr x.2.1, vi q.1, .agg (entC (inum, nm)).toArray]) ok rfl rfl (put_spec hit.slots.1 ⟨hit.size0, hit.small.1⟩ ⟨hr1, hr2⟩ hS) (fun v w h => ?_)
  obtain ⟨rfl, hS⟩ := h
  obtain ⟨dm, sv, hS⟩ := Sat.itemOpen hS
  have hpl : 0 ≤ (putOf x.2.2 q.1 (inum, nm)).links ∧ (putOf x.2.2 q.1 (inum, nm)).links ≤ 65536 := by rw [putOf_links]; exact hln
  (repeat (first | (apply o_add; rfl; rfl; omega) | (apply o_ptr ok; rfl; · conv => { lhs; whnf }) | refine c_seq ?_ | refine c_region ?_ | refine o_nil ?_ | refine q_then ?_ | (apply o_rd hS; apply rd_load ok (i := 0); rfl; rfl; rfl; rfl; · conv => { lhs; whnf; arg 1; whnf })))
  (apply o_store ok hS (i := 0); rfl; (conv => { lhs; whnf }); rfl; rfl; rfl; rfl; intro w hS)
  have hS : Sat w0 w (pt x.2.1 (.cells (itemC (linked (putOf x.2.2 q.1 (inum, nm)) 1) dm sv) 135) :: dataA (linked (putOf x.2.2 q.1 (inum, nm)) 1).kind dm (linked (putOf x.2.2 q.1 (inum, nm)) 1).data :: slotsA sv (linked (putOf x.2.2 q.1 (inum, nm)) 1).slots :: modK p (addM m inum b1 (dirOf inum r.1)) r.1 :: namesA (.slice (some ⟨b9, 0, none⟩) ps.1.length cap) ps.1 :: G) := hS
  have hS := Sat.itGive hkeys2 hx2 (Sat.itemClose hS)
  (repeat (first | (apply o_ptr ok; rfl; · conv => { lhs; whnf }) | refine c_seq ?_ | refine c_region ?_ | refine o_nil ?_ | refine q_then ?_))
  refine o_call ok rfl rfl (step_spec (hf2.upd (linked_ok (put_ok hit hxk ⟨hr1, hr2⟩ hr3 (by show 0 ≤ inum ∧ inum ≤ 65535; omega)) (by rw [putOf_links]; omega))) (by show m.told.length ≤ _; omega) hS) (fun v w h => ?_)
  obtain ⟨rfl, hS⟩ := h
  (repeat (first | (apply o_pure ok; · conv => { lhs; whnf; arg 1; whnf }) | refine c_seq ?_ | refine c_region ?_ | refine c_ret ?_ | refine o_nil ?_ | refine q_then ?_))
  exact out1 rfl ⟨b1, _, hO b1, rfl, (hS.bring 1 rfl).tail⟩
end Go.Proofs.YtllomopjoomdiaaGreat
end

section
namespace Go.Proofs.YtllomopjoomdiaaGreat
open Go.SL
/-- One more name for a file. -/
def linkM (m : Mod) (path other : ByteArray) : Option (Mod × Int) :=
  if ¬(parseOf path).2 = 0 then some (m, (parseOf path).2) else if ¬(parseOf other).2 = 0 then some (m, (parseOf other).2) else
  match findS m (parseOf path).1 1 with
  | none => none
  | some q => if ¬q.2 = 0 then some (m, q.2) else match getX m.items q.1 with
    | none => none
    | some x => if x.2.2.kind = 2 then some (m, 11) else if specialOf (parseOf other).1 = true then some (m, 6) else
      match parentS m (parseOf other).1 with
      | none => none
      | some r => if ¬r.2 = 0 then some (m, r.2) else match getX m.items r.1 with
        | none => none
        | some y => if 0 ≤ (lookOf y.2.2 (lastN (parseOf other).1)).1 then some (m, 6) else if 1000 ≤ x.2.2.links then some (m, 18) else
          if ¬(roomOf m y.2.2 0 0).2 = 0 then some (m, (roomOf m y.2.2 0 0).2) else
          some (stepM (updM (updM m r.1 (putOf y.2.2 (roomOf m y.2.2 0 0).1 (q.1, lastN (parseOf other).1))) q.1 (linked x.2.2 1)), 0)
theorem link_spec {w0 w : World} {G : List Asn} {p : Nat} {m : Mod} {path other : ByteArray} {r : Mod × Int} (hf : Fine m) (hT : m.told.length ≤ 900000000) (hp : path.size ≤ 4611686018427387904) (hp2 : other.size ≤ 4611686018427387904) (hO : linkM m path other = some r) (hS : Sat w0 w (modA p m :: G)) :
    CR Tryz.prog 66 [ptr p, .string path, .string other] w fun v w' => v = vi r.2 ∧ Sat w0 w' (modA p r.1 :: G) := by
  refine calls_enter Tryz.func66 rfl rfl rfl ?_
  unfold linkM at hO
  (repeat (first | (apply o_pure ok; · conv => { lhs; whnf; arg 1; whnf }) | refine c_seq ?_ | refine c_region ?_ | refine o_nil ?_ | refine q_then ?_))
  refine o_call ok rfl rfl (parse_spec path hp hS) (fun v w h => ?_)
  obtain ⟨nv, rfl, hS⟩ := h
  have hl := parse_len path
  generalize parseOf path = ps at hO hS hl ⊢
  (repeat (first | (apply o_pure ok; · conv => { lhs; whnf; arg 1; whnf }) | refine c_seq ?_ | refine c_region ?_ | refine o_nil ?_ | refine q_then ?_))
  refine c_cond_d rfl (fun h1 => ?_) (fun h1 => ?_)
  · rw [if_pos (show ¬ps.2 = 0 from h1)] at hO
    cases hO
    (repeat (first | (apply o_pure ok; · conv => { lhs; whnf; arg 1; whnf }) | refine c_seq ?_ | refine c_region ?_ | refine c_ret ?_ | refine o_nil ?_ | refine q_then ?_ | refine q_then_r ?_))
    exact out1 rfl ⟨rfl, hS.tail⟩
  rw [if_neg (show ¬¬ps.2 = 0 from h1)] at hO
  (repeat (first | (apply o_pure ok; · conv => { lhs; whnf; arg 1; whnf }) | refine c_seq ?_ | refine c_region ?_ | refine c_skip ?_ | refine q_then ?_))
  refine o_call ok rfl rfl (parse_spec other hp2 hS) (fun v w h => ?_)
  obtain ⟨nv2, rfl, hS⟩ := h
  have hl2 := parse_len other
  generalize parseOf other = ps2 at hO hS hl2 ⊢
  (repeat (first | (apply o_pure ok; · conv => { lhs; whnf; arg 1; whnf }) | refine c_seq ?_ | refine c_region ?_ | refine o_nil ?_ | refine q_then ?_))
  refine c_cond_d rfl (fun h2 => ?_) (fun h2 => ?_)
  · rw [if_pos (show ¬ps2.2 = 0 from h2)] at hO
    cases hO
    (repeat (first | (apply o_pure ok; · conv => { lhs; whnf; arg 1; whnf }) | refine c_seq ?_ | refine c_region ?_ | refine c_ret ?_ | refine o_nil ?_ | refine q_then ?_ | refine q_then_r ?_))
    exact out1 rfl ⟨rfl, hS.tail.tail⟩
  rw [if_neg (show ¬¬ps2.2 = 0 from h2)] at hO
  obtain ⟨q, hfs⟩ : ∃ q, findS m ps.1 1 = some q := by
    cases hfs : findS m ps.1 1 with
    | none => rw [hfs] at hO; cases hO
    | some q => exact ⟨q, rfl⟩
  rw [hfs] at hO
  simp only at hO
  obtain ⟨hlen, a, cap, rfl, hcap, ha⟩ := Sat.rowForm hS (i := 1) rfl
  have hS := (hS.bring 1 rfl).bring 2 rfl
  (repeat (first | (apply o_ptr ok; rfl; · conv => { lhs; whnf }) | (apply o_pure ok; · conv => { lhs; whnf; arg 1; whnf }) | refine c_seq ?_ | refine c_region ?_ | refine c_skip ?_ | refine q_then ?_))
  refine o_call ok rfl rfl (find_spec (n := ps.1.length) hf (Nat.le_refl _) (by omega) (by rw [List.take_length]; exact hfs) hS) (fun v w h => ?_)
  obtain ⟨rfl, hS⟩ := h
  have hS : Sat w0 w (modA p m :: namesA (.slice a ps.1.length cap) ps.1 :: namesA nv2 ps2.1 :: G) := hS
  have hS := (hS.bring 1 rfl).tail
  (repeat (first | (apply o_pure ok; · conv => { lhs; whnf; arg 1; whnf }) | refine c_seq ?_ | refine c_region ?_ | refine o_nil ?_ | refine q_then ?_))
  refine c_cond_d rfl (fun h3 => ?_) (fun h3 => ?_)
  · rw [if_pos (show ¬q.2 = 0 from h3)] at hO
    cases hO
    (repeat (first | (apply o_pure ok; · conv => { lhs; whnf; arg 1; whnf }) | refine c_seq ?_ | refine c_region ?_ | refine c_ret ?_ | refine o_nil ?_ | refine q_then ?_ | refine q_then_r ?_))
    exact out1 rfl ⟨rfl, (hS.bring 1 rfl).tail⟩
  rw [if_neg (show ¬¬q.2 = 0 from h3)] at hO
  obtain ⟨x, hx⟩ : ∃ x, getX m.items q.1 = some x := by
    cases hx : getX m.items q.1 with
    | none => rw [hx] at hO; cases hO
    | some x => exact ⟨x, rfl⟩
  rw [hx] at hO
  simp only at hO
  have hkeys := Sat.keysM hS
  obtain ⟨ib, tv, hS⟩ := Sat.modOpen hS
  (repeat (first | (apply o_ptr ok; rfl; · conv => { lhs; whnf }) | (apply o_pure ok; · conv => { lhs; whnf; arg 1; whnf }) | refine c_seq ?_ | refine c_region ?_ | refine c_skip ?_ | refine q_then ?_ | (apply o_rd hS; apply rd_load ok (i := 0); rfl; rfl; rfl; rfl; · conv => { lhs; whnf; arg 1; whnf })))
  refine o_rd (v := ptr x.2.1) hS (rd_item ok hx rfl rfl rfl rfl rfl (i := 1) rfl) ?_
  have hS := Sat.itTake hx (Sat.modClose hS)
  obtain ⟨dm, sv, hS⟩ := Sat.itemOpen hS
  (repeat (first | (apply o_ptr ok; rfl; · conv => { lhs; whnf }) | (apply o_pure ok; · conv => { lhs; whnf; arg 1; whnf }) | refine c_seq ?_ | refine c_region ?_ | refine o_nil ?_ | refine q_then ?_ | (apply o_rd hS; apply rd_load ok (i := 0); rfl; rfl; rfl; rfl; · conv => { lhs; whnf; arg 1; whnf })))
  have hS := Sat.itBack hkeys hx (Sat.itemClose hS)
  by_cases hk : x.2.2.kind = 2
  · rw [if_pos hk] at hO
    cases hO
    refine c_cond_p rfl hk ?_
    (repeat (first | (apply o_pure ok; · conv => { lhs; whnf; arg 1; whnf }) | refine c_seq ?_ | refine c_region ?_ | refine c_ret ?_ | refine o_nil ?_ | refine q_then ?_ | refine q_then_r ?_))
    exact out1 rfl ⟨rfl, (hS.bring 1 rfl).tail⟩
  refine c_cond_n rfl hk ?_
  rw [if_neg hk] at hO
  (repeat (first | (apply o_pure ok; · conv => { lhs; whnf; arg 1; whnf }) | refine c_seq ?_ | refine c_region ?_ | refine c_skip ?_ | refine q_then ?_))
  refine o_call ok rfl rfl (special_spec (by omega) (hS.bring 1 rfl)) (fun v w h => ?_)
  obtain ⟨rfl, hS⟩ := h
  (repeat (first | refine o_nil ?_ | refine q_then ?_))
  refine c_cond_b rfl (fun h4 => ?_) (fun h4 => ?_)
  · rw [if_pos h4] at hO
    cases hO
    (repeat (first | (apply o_pure ok; · conv => { lhs; whnf; arg 1; whnf }) | refine c_seq ?_ | refine c_region ?_ | refine c_ret ?_ | refine o_nil ?_ | refine q_then ?_ | refine q_then_r ?_))
    exact out1 rfl ⟨rfl, hS.tail⟩
  rw [if_neg (by rw [h4]; simp)] at hO
  have hl1 := specialOf_false h4
  obtain ⟨r', hps⟩ : ∃ r, parentS m ps2.1 = some r := by
    cases hps : parentS m ps2.1 with
    | none => rw [hps] at hO; cases hO
    | some r => exact ⟨r, rfl⟩
  rw [hps] at hO
  simp only at hO
  (repeat (first | (apply o_ptr ok; rfl; · conv => { lhs; whnf }) | (apply o_pure ok; · conv => { lhs; whnf; arg 1; whnf }) | refine c_seq ?_ | refine c_region ?_ | refine c_skip ?_ | refine q_then ?_))
  refine o_call ok rfl rfl (parent_spec hf hl1 (by omega) hps (hS.bring 1 rfl)) (fun v w h => ?_)
  obtain ⟨rfl, hS⟩ := h
  have hS : Sat w0 w (modA p m :: namesA nv2 ps2.1 :: G) := hS
  (repeat (first | (apply o_pure ok; · conv => { lhs; whnf; arg 1; whnf }) | refine c_seq ?_ | refine c_region ?_ | refine o_nil ?_ | refine q_then ?_))
  refine c_cond_d rfl (fun h5 => ?_) (fun h5 => ?_)
  · rw [if_pos (show ¬r'.2 = 0 from h5)] at hO
    cases hO
    (repeat (first | (apply o_pure ok; · conv => { lhs; whnf; arg 1; whnf }) | refine c_seq ?_ | refine c_region ?_ | refine c_ret ?_ | refine o_nil ?_ | refine q_then ?_ | refine q_then_r ?_))
    exact out1 rfl ⟨rfl, (hS.bring 1 rfl).tail⟩
  have h5' : r'.2 = 0 := Decidable.not_not.1 h5
  obtain ⟨y, hy, hyk⟩ := parentS_dir hps h5'
  rw [if_neg (show ¬¬r'.2 = 0 from h5), hy] at hO
  simp only at hO
  have hit := hf.it y (getX_some hy).1
  have hitx := hf.it x (getX_some hx).1
  have hln := hitx.links
  have hq0 := hf.key x (getX_some hx).1
  have hqe := (getX_some hx).2
  have hne : ¬r'.1 = q.1 := fun e => by rw [e, hx] at hy; cases hy; exact hk hyk
  obtain ⟨hlen, a, cap, rfl, hcap, ha⟩ := Sat.rowForm hS (i := 1) rfl
  obtain ⟨b9, rfl⟩ := ha (by omega)
  (repeat (first | (apply o_sub; rfl; rfl; omega) | (apply o_pure ok; · conv => { lhs; whnf; arg 1; whnf }) | refine c_seq ?_ | refine c_region ?_ | refine c_skip ?_ | refine q_then ?_))
  apply o_rd hS (rd_indexAddr ok rfl rfl rfl rfl (by omega))
  apply o_rd hS (rd_loadR (v := .string (lastN ps2.1)) ok rfl rfl rfl (i := 1) rfl rfl (lastN_get hl1))
  obtain ⟨ib, tv, hS⟩ := Sat.modOpen hS
  (repeat (first | (apply o_ptr ok; rfl; · conv => { lhs; whnf }) | (apply o_pure ok; · conv => { lhs; whnf; arg 1; whnf }) | refine c_seq ?_ | refine c_region ?_ | refine o_nil ?_ | refine q_then ?_ | (apply o_rd hS; apply rd_load ok (i := 0); rfl; rfl; rfl; rfl; · conv => { lhs; whnf; arg 1; whnf })))
  refine o_rd (v := ptr y.2.1) hS (rd_item ok hy rfl rfl rfl rfl rfl (i := 1) rfl) ?_
  have hS := Sat.itTake hy (Sat.modClose hS)
  (repeat (first | (apply o_pure ok; · conv => { lhs; whnf; arg 1; whnf })))
  refine o_call ok rfl rfl (look_spec hit.slots hS) (fun v w h => ?_)
  obtain ⟨rfl, hS⟩ := h
  have hS := Sat.itBack hkeys hy hS
  (repeat (first | (apply o_pure ok; · conv => { lhs; whnf; arg 1; whnf }) | refine c_seq ?_ | refine c_region ?_ | refine o_nil ?_ | refine q_then ?_))
  generalize lastN ps2.1 = nm at hO ⊢
  refine c_cond_d rfl (fun h6 => ?_) (fun h6 => ?_)
  · rw [if_pos h6] at hO
    cases hO
    (repeat (first | (apply o_pure ok; · conv => { lhs; whnf; arg 1; whnf }) | refine c_seq ?_ | refine c_region ?_ | refine c_ret ?_ | refine o_nil ?_ | refine q_then ?_ | refine q_then_r ?_))
    exact out1 rfl ⟨rfl, (hS.bring 1 rfl).tail⟩
  rw [if_neg h6] at hO
  have hS := Sat.itTake hx hS
  obtain ⟨dm, sv, hS⟩ := Sat.itemOpen hS
  (repeat (first | (apply o_ptr ok; rfl; · conv => { lhs; whnf }) | (apply o_pure ok; · conv => { lhs; whnf; arg 1; whnf }) | refine c_seq ?_ | refine c_region ?_ | refine c_skip ?_ | refine o_nil ?_ | refine q_then ?_ | (apply o_rd hS; apply rd_load ok (i := 0); rfl; rfl; rfl; rfl; · conv => { lhs; whnf; arg 1; whnf })))
  have hS := Sat.itBack hkeys hx (Sat.itemClose hS)
  refine c_cond_d rfl (fun h7 => ?_) (fun h7 => ?_)
  · rw [if_pos h7] at hO
    cases hO
    (repeat (first | (apply o_pure ok; · conv => { lhs; whnf; arg 1; whnf }) | refine c_seq ?_ | refine c_region ?_ | refine c_ret ?_ | refine o_nil ?_ | refine q_then ?_ | refine q_then_r ?_))
    exact out1 rfl ⟨rfl, (hS.bring 1 rfl).tail⟩
  rw [if_neg h7] at hO
  (repeat (first | (apply o_ptr ok; rfl; · conv => { lhs; whnf }) | (apply o_pure ok; · conv => { lhs; whnf; arg 1; whnf }) | refine c_seq ?_ | refine c_region ?_ | refine c_skip ?_ | refine q_then ?_))
  refine o_call ok rfl rfl (room_spec hf hy hit.size0 (by decide) hS) (fun v w h => ?_)
  obtain ⟨rfl, hS⟩ := h
  have hroom := @roomOf_ok m y.2.2 0 0
  (repeat (first | (apply o_pure ok; · conv => { lhs; whnf; arg 1; whnf }) | refine c_seq ?_ | refine c_region ?_ | refine o_nil ?_ | refine q_then ?_))
  refine c_cond_d rfl (fun h8 => ?_) (fun h8 => ?_)
  · rw [if_pos (show ¬(roomOf m y.2.2 0 0).2 = 0 from h8)] at hO
    cases hO
    (repeat (first | (apply o_pure ok; · conv => { lhs; whnf; arg 1; whnf }) | refine c_seq ?_ | refine c_region ?_ | refine c_ret ?_ | refine o_nil ?_ | refine q_then ?_ | refine q_then_r ?_))
    exact out1 rfl ⟨rfl, (hS.bring 1 rfl).tail⟩
  rw [if_neg (show ¬¬(roomOf m y.2.2 0 0).2 = 0 from h8)] at hO
  have h8' : (roomOf m y.2.2 0 0).2 = 0 := Decidable.not_not.1 h8
  obtain ⟨hr1, hr2, hr3, _⟩ := hroom h8'
  generalize roomOf m y.2.2 0 0 = s at hr1 hr2 hr3 hO ⊢
  obtain ⟨ib, tv, hS⟩ := Sat.modOpen hS
  (repeat (first | (apply o_ptr ok; rfl; · conv => { lhs; whnf }) | (apply o_pure ok; · conv => { lhs; whnf; arg 1; whnf }) | refine c_seq ?_ | refine c_region ?_ | refine c_skip ?_ | refine q_then ?_ | (apply o_rd hS; apply rd_load ok (i := 0); rfl; rfl; rfl; rfl; · conv => { lhs; whnf; arg 1; whnf })))
  refine o_rd (v := ptr y.2.1) hS (rd_item ok hy rfl rfl rfl rfl rfl (i := 1) rfl) ?_
  have hS := Sat.itTake hy (Sat.modClose hS)
  (repeat (first | (apply o_pure ok; · conv => { lhs; whnf; arg 1; whnf }) | (apply o_rd hS; apply rd_build1 ok; rfl; rfl; rfl; rfl)))
  rw [w_u16 (show 0 ≤ q.1 ∧ q.1 ≤ 65535 by omega)]
  refine o_call (l := [ptr y.2.1, vi s.1, .agg (entC (q.1, nm)).toArray]) ok rfl rfl (put_spec hit.slots.1 ⟨hit.size0, hit.small.1⟩ ⟨hr1, hr2⟩ hS) (fun v w h => ?_)
  obtain ⟨rfl, hS⟩ := h
  have hS := Sat.itGive hkeys hy hS
  have hkeys2 := Sat.keysM hS
  have hx2 : getX (updM m r'.1 (putOf y.2.2 s.1 (q.1, nm))).items q.1 = some x := by
    show getX (updI m.items r'.1 _) q.1 = _
    rw [getX_upd_ne _ (fun e => hne e.symm), hx]
  have hS := Sat.itTake hx2 hS
  obtain ⟨dm, sv, hS⟩ := Sat.itemOpen hS
  (repeat (first | (apply o_add; rfl; rfl; omega) | (apply o_ptr ok; rfl; · conv => { lhs; whnf }) | refine c_seq ?_ | refine c_region ?_ | refine o_nil ?_ | refine q_then ?_ | (apply o_rd hS; apply rd_load ok (i := 0); rfl; rfl; rfl; rfl; · conv => { lhs; whnf; arg 1; whnf })))
  (apply o_store ok hS (i := 0); rfl; (conv => { lhs; whnf }); rfl; rfl; rfl; rfl; intro w hS)
  have hS : Sat w0 w (pt x.2.1 (.cells (itemC (linked x.2.2 1) dm sv) 135) :: dataA (linked x.2.2 1).kind dm (linked x.2.2 1).data :: slotsA sv (linked x.2.2 1).slots :: modK p (updM m r'.1 (putOf y.2.2 s.1 (q.1, nm))) q.1 :: namesA (.slice (some ⟨b9, 0, none⟩) ps2.1.length cap) ps2.1 :: G) := hS
  have hS := Sat.itGive hkeys2 hx2 (Sat.itemClose hS)
  (repeat (first | (apply o_ptr ok; rfl; · conv => { lhs; whnf }) | refine c_seq ?_ | refine c_region ?_ | refine o_nil ?_ | refine q_then ?_))
  refine o_call ok rfl rfl (step_spec ((hf.upd (put_ok hit hyk ⟨hr1, hr2⟩ hr3 (by show 0 ≤ q.1 ∧ q.1 ≤ 65535; omega))).upd (linked_ok hitx (by omega))) (by show m.told.length ≤ _; omega) hS) (fun v w h => ?_)
  obtain ⟨rfl, hS⟩ := h
  cases hO
  (repeat (first | (apply o_pure ok; · conv => { lhs; whnf; arg 1; whnf }) | refine c_seq ?_ | refine c_region ?_ | refine c_ret ?_ | refine o_nil ?_ | refine q_then ?_))
  exact out1 rfl ⟨rfl, (hS.bring 1 rfl).tail⟩
end Go.Proofs.YtllomopjoomdiaaGreat
end

section
namespace Go.Proofs.YtllomopjoomdiaaGreat
open Go.SL
/-- What a name stood for loses it. -/
def goneM (m : Mod) (dir inum : Int) : Option Mod := match getX m.items inum with
  | none => none
  | some x => if x.2.2.kind = 2 then
      match getX (updM m inum { x.2.2 with links := 0 }).items dir with
      | none => none
      | some y => if y.2.2.links < 1 then none else some (updM (updM m inum { x.2.2 with links := 0 }) dir (linked y.2.2 (-1)))
    else if x.2.2.links < 1 then none else some (updM m inum (linked x.2.2 (-1)))
theorem gone_fine {m m' : Mod} {dir inum : Int} (hf : Fine m) (hr : goneM m dir inum = some m') : Fine m' ∧ m'.told = m.told := by
  unfold goneM at hr
  split at hr
  · cases hr
  rename_i x hx
  have hit := hf.it x (getX_some hx).1
  have h0 : ItOk { x.2.2 with links := 0 } := ⟨hit.small, hit.slots, hit.blk, hit.idx, hit.nd, hit.size0, hit.size1, hit.dir, by show (0 : Int) ≤ 0 ∧ (0 : Int) ≤ _; decide⟩
  split at hr
  · split at hr
    · cases hr
    rename_i y hy
    split at hr
    · cases hr
    cases hr
    have hf2 := hf.upd (k := inum) h0
    have hy2 := hf2.it y (getX_some hy).1
    have := hy2.links
    exact ⟨hf2.upd (linked_ok hy2 (by omega)), rfl⟩
  · split at hr
    · cases hr
    cases hr
    have := hit.links
    exact ⟨hf.upd (linked_ok hit (by omega)), rfl⟩
theorem gone_spec {w0 w : World} {G : List Asn} {p : Nat} {m m' : Mod} {dir inum : Int} (hf : Fine m) (hr : goneM m dir inum = some m') (hS : Sat w0 w (modA p m :: G)) :
    CR Tryz.prog 112 [ptr p, vi dir, vi inum] w fun v w' => v = .tuple #[] ∧ Sat w0 w' (modA p m' :: G) := by
  have hkeys := Sat.keysM hS
  refine calls_enter Tryz.func112 rfl rfl rfl ?_
  unfold goneM at hr
  obtain ⟨x, hx⟩ : ∃ x, getX m.items inum = some x := by
    cases hx : getX m.items inum with
    | none => rw [hx] at hr; cases hr
    | some x => exact ⟨x, rfl⟩
  rw [hx] at hr
  simp only at hr
  have hlx := (hf.it x (getX_some hx).1).links
  obtain ⟨ib, tv, hS⟩ := Sat.modOpen hS
  (repeat (first | (apply o_ptr ok; rfl; · conv => { lhs; whnf }) | (apply o_pure ok; · conv => { lhs; whnf; arg 1; whnf }) | refine c_seq ?_ | refine c_region ?_ | (apply o_rd hS; apply rd_load ok (i := 0); rfl; rfl; rfl; rfl; · conv => { lhs; whnf; arg 1; whnf })))
  refine o_rd (v := ptr x.2.1) hS (rd_item ok hx rfl rfl rfl rfl rfl (i := 1) rfl) ?_
  have hS := Sat.itTake hx (Sat.modClose hS)
  obtain ⟨dm, sv, hS⟩ := Sat.itemOpen hS
  (repeat (first | (apply o_ptr ok; rfl; · conv => { lhs; whnf }) | (apply o_pure ok; · conv => { lhs; whnf; arg 1; whnf }) | refine c_seq ?_ | refine c_region ?_ | refine o_nil ?_ | refine q_then ?_ | (apply o_rd hS; apply rd_load ok (i := 0); rfl; rfl; rfl; rfl; · conv => { lhs; whnf; arg 1; whnf })))
  by_cases hk : x.2.2.kind = 2
  · rw [if_pos hk] at hr
    refine c_cond_p rfl hk ?_
    (repeat (first | (apply o_ptr ok; rfl; · conv => { lhs; whnf }) | refine c_seq ?_ | refine c_region ?_))
    (apply o_store ok hS (i := 0); rfl; (conv => { lhs; whnf }); rfl; rfl; rfl; rfl; intro w hS)
    have hS : Sat w0 w (pt x.2.1 (.cells (itemC { x.2.2 with links := 0 } dm sv) 135) :: dataA x.2.2.kind dm x.2.2.data :: slotsA sv x.2.2.slots :: modK p m inum :: G) := hS
    have hS := Sat.itGive hkeys hx (Sat.itemClose (t := { x.2.2 with links := 0 }) hS)
    have hkeys2 := Sat.keysM hS
    obtain ⟨y, hy⟩ : ∃ y, getX (updM m inum { x.2.2 with links := 0 }).items dir = some y := by
      cases hy : getX (updM m inum { x.2.2 with links := 0 }).items dir with
      | none => rw [hy] at hr; cases hr
      | some x => exact ⟨x, rfl⟩
    rw [hy] at hr
    simp only at hr
    split at hr
    · cases hr
    cases hr
    have hly : 0 ≤ y.2.2.links ∧ y.2.2.links ≤ 65536 := by
      have h1 := (getX_some hy).1
      have h1 : y ∈ m.items.map _ := h1
      obtain ⟨z, hz, rfl⟩ := List.mem_map.1 h1
      split
      · exact ⟨by show (0 : Int) ≤ 0; decide, by show (0 : Int) ≤ 65536; decide⟩
      · exact (hf.it z hz).links
    obtain ⟨ib, tv, hS⟩ := Sat.modOpen hS
    (repeat (first | (apply o_ptr ok; rfl; · conv => { lhs; whnf }) | (apply o_pure ok; · conv => { lhs; whnf; arg 1; whnf }) | refine c_seq ?_ | refine c_region ?_ | refine o_nil ?_ | refine q_then ?_ | (apply o_rd hS; apply rd_load ok (i := 0); rfl; rfl; rfl; rfl; · conv => { lhs; whnf; arg 1; whnf })))
    refine o_rd (v := ptr y.2.1) hS (rd_item ok hy rfl rfl rfl rfl rfl (i := 1) rfl) ?_
    have hS := Sat.itTake hy (Sat.modClose hS)
    obtain ⟨dm, sv, hS⟩ := Sat.itemOpen hS
    (repeat (first | (apply o_sub; rfl; rfl; omega) | (apply o_ptr ok; rfl; · conv => { lhs; whnf }) | (apply o_rd hS; apply rd_load ok (i := 0); rfl; rfl; rfl; rfl; · conv => { lhs; whnf; arg 1; whnf })))
    (apply o_store ok hS (i := 0); rfl; (conv => { lhs; whnf }); rfl; rfl; rfl; rfl; intro w hS)
    have hS : Sat w0 w (pt y.2.1 (.cells (itemC (linked y.2.2 (-1)) dm sv) 135) :: dataA (linked y.2.2 (-1)).kind dm (linked y.2.2 (-1)).data :: slotsA sv (linked y.2.2 (-1)).slots :: modK p (updM m inum { x.2.2 with links := 0 }) dir :: G) := hS
    have hS := Sat.itGive hkeys2 hy (Sat.itemClose hS)
    (repeat (first | refine c_ret ?_ | refine o_nil ?_ | refine q_then ?_ | refine q_then_r ?_))
    exact out0 rfl ⟨rfl, hS⟩
  · rw [if_neg hk] at hr
    split at hr
    · cases hr
    cases hr
    refine c_cond_n rfl hk ?_
    (repeat (first | (apply o_sub; rfl; rfl; omega) | (apply o_ptr ok; rfl; · conv => { lhs; whnf }) | refine c_region ?_ | refine c_skip ?_ | refine q_then ?_ | (apply o_rd hS; apply rd_load ok (i := 0); rfl; rfl; rfl; rfl; · conv => { lhs; whnf; arg 1; whnf })))
    (apply o_store ok hS (i := 0); rfl; (conv => { lhs; whnf }); rfl; rfl; rfl; rfl; intro w hS)
    have hS : Sat w0 w (pt x.2.1 (.cells (itemC (linked x.2.2 (-1)) dm sv) 135) :: dataA (linked x.2.2 (-1)).kind dm (linked x.2.2 (-1)).data :: slotsA sv (linked x.2.2 (-1)).slots :: modK p m inum :: G) := hS
    have hS := Sat.itGive hkeys hx (Sat.itemClose hS)
    (repeat (first | refine o_nil ?_))
    exact end0 rfl ⟨rfl, hS⟩
theorem lookFrom_ok (name : ByteArray) : ∀ (s : List (Int × ByteArray)) (i : Int), (lookFrom name s i).1 = -1 ∨ (i ≤ (lookFrom name s i).1 ∧ (lookFrom name s i).1 < i + s.length)
  | [], i => .inl rfl
  | e :: r, i => by
    have := lookFrom_ok name r (i + 1)
    unfold lookFrom
    simp only [List.length_cons]
    split
    · omega
    · split
      · right; show i ≤ i ∧ i < _; omega
      · omega
theorem lookOf_ok {t : It} {name : ByteArray} (h : ¬(lookOf t name).1 < 0) : 0 ≤ (lookOf t name).1 ∧ (lookOf t name).1 < t.slots.length := by
  have := lookFrom_ok name t.slots 0
  unfold lookOf at *; omega
/-- A name is taken away. -/
def unlinkM (m : Mod) (path : ByteArray) : Option (Mod × Int) :=
  if ¬(parseOf path).2 = 0 then some (m, (parseOf path).2) else if (parseOf path).1.length = 0 then some (m, 10) else if specialOf (parseOf path).1 = true then some (m, 4) else
  match parentS m (parseOf path).1 with
  | none => none
  | some r => if ¬r.2 = 0 then some (m, r.2) else match getX m.items r.1 with
    | none => none
    | some x => if (lookOf x.2.2 (lastN (parseOf path).1)).1 < 0 then some (m, 5) else match getX m.items (lookOf x.2.2 (lastN (parseOf path).1)).2 with
      | none => none
      | some y => if y.2.2.kind = 2 ∧ emptyOf y.2.2 = false then some (m, 9) else
        match goneM (updM m r.1 (putOf x.2.2 (lookOf x.2.2 (lastN (parseOf path).1)).1 (0, ⟨#[]⟩))) r.1 (lookOf x.2.2 (lastN (parseOf path).1)).2 with
        | none => none
        | some m2 => some (reclaimM (stepM m2) (lookOf x.2.2 (lastN (parseOf path).1)).2, 0)
theorem unlink_spec {w0 w : World} {G : List Asn} {p : Nat} {m : Mod} {path : ByteArray} {r : Mod × Int} (hf : Fine m) (hT : m.told.length ≤ 899999999) (hp : path.size ≤ 4611686018427387904) (hO : unlinkM m path = some r) (hS : Sat w0 w (modA p m :: G)) :
    CR Tryz.prog 67 [ptr p, .string path] w fun v w' => v = vi r.2 ∧ Sat w0 w' (modA p r.1 :: G) := by
  refine calls_enter Tryz.func67 rfl rfl rfl ?_
  unfold unlinkM at hO
  (repeat (first | (apply o_pure ok; · conv => { lhs; whnf; arg 1; whnf }) | refine c_seq ?_ | refine c_region ?_ | refine o_nil ?_ | refine q_then ?_))
  refine o_call ok rfl rfl (parse_spec path hp hS) (fun v w h => ?_)
  obtain ⟨nv, rfl, hS⟩ := h
  have hl := parse_len path
  generalize parseOf path = ps at hO hS hl ⊢
  (repeat (first | (apply o_pure ok; · conv => { lhs; whnf; arg 1; whnf }) | refine c_seq ?_ | refine c_region ?_ | refine c_block ?_ | refine o_nil ?_ | refine q_then ?_))
  refine c_cond_d rfl (fun h1 => ?_) (fun h1 => ?_)
  · rw [if_pos (show ¬ps.2 = 0 from h1)] at hO
    cases hO
    (repeat (first | (apply o_pure ok; · conv => { lhs; whnf; arg 1; whnf }) | refine c_seq ?_ | refine c_region ?_ | refine c_ret ?_ | refine o_nil ?_ | refine q_then ?_ | refine q_then_r ?_ | refine q_blk_r ?_))
    exact out1 rfl ⟨rfl, hS.tail⟩
  rw [if_neg (show ¬¬ps.2 = 0 from h1)] at hO
  obtain ⟨hlen, a, cap, rfl, hcap, ha⟩ := Sat.rowForm hS (i := 0) rfl
  (repeat (first | (apply o_pure ok; · conv => { lhs; whnf; arg 1; whnf }) | refine c_seq ?_ | refine c_region ?_ | refine o_nil ?_ | refine q_then ?_))
  refine c_cond_d rfl (fun h2 => ?_) (fun h2 => ?_)
  · rw [if_pos (by omega)] at hO
    cases hO
    (repeat (first | (apply o_pure ok; · conv => { lhs; whnf; arg 1; whnf }) | refine c_seq ?_ | refine c_region ?_ | refine c_ret ?_ | refine o_nil ?_ | refine q_then ?_ | refine q_then_r ?_ | refine q_blk_r ?_))
    exact out1 rfl ⟨rfl, hS.tail⟩
  rw [if_neg (by omega)] at hO
  obtain ⟨b9, rfl⟩ := ha (by omega)
  (repeat (first | (apply o_pure ok; · conv => { lhs; whnf; arg 1; whnf }) | refine c_seq ?_ | refine c_region ?_))
  refine o_call ok rfl rfl (special_spec (by omega) hS) (fun v w h => ?_)
  obtain ⟨rfl, hS⟩ := h
  (repeat (first | (apply o_pure ok; · conv => { lhs; whnf; arg 1; whnf }) | refine o_nil ?_ | refine q_then ?_))
  refine c_cond_b rfl (fun h4 => ?_) (fun h4 => ?_)
  · rw [if_pos h4] at hO
    cases hO
    (repeat (first | (apply o_pure ok; · conv => { lhs; whnf; arg 1; whnf }) | refine c_seq ?_ | refine c_region ?_ | refine c_ret ?_ | refine o_nil ?_ | refine q_then ?_ | refine q_then_r ?_ | refine q_blk_r ?_))
    exact out1 rfl ⟨rfl, hS.tail⟩
  rw [if_neg (by rw [h4]; simp)] at hO
  have hl1 := specialOf_false h4
  obtain ⟨r', hps⟩ : ∃ r, parentS m ps.1 = some r := by
    cases hps : parentS m ps.1 with
    | none => rw [hps] at hO; cases hO
    | some r => exact ⟨r, rfl⟩
  rw [hps] at hO
  simp only at hO
  (repeat (first | (apply o_ptr ok; rfl; · conv => { lhs; whnf }) | (apply o_pure ok; · conv => { lhs; whnf; arg 1; whnf }) | refine c_seq ?_ | refine c_region ?_ | refine c_skip ?_ | refine q_then ?_ | refine q_blk_n ?_))
  refine o_call ok rfl rfl (parent_spec hf hl1 (by omega) hps (hS.bring 1 rfl)) (fun v w h => ?_)
  obtain ⟨rfl, hS⟩ := h
  have hS : Sat w0 w (modA p m :: namesA (.slice (some ⟨b9, 0, none⟩) ps.1.length cap) ps.1 :: G) := hS
  (repeat (first | (apply o_pure ok; · conv => { lhs; whnf; arg 1; whnf }) | refine c_seq ?_ | refine c_region ?_ | refine o_nil ?_ | refine q_then ?_))
  refine c_cond_d rfl (fun h5 => ?_) (fun h5 => ?_)
  · rw [if_pos (show ¬r'.2 = 0 from h5)] at hO
    cases hO
    (repeat (first | (apply o_pure ok; · conv => { lhs; whnf; arg 1; whnf }) | refine c_seq ?_ | refine c_region ?_ | refine c_ret ?_ | refine o_nil ?_ | refine q_then ?_ | refine q_then_r ?_))
    exact out1 rfl ⟨rfl, (hS.bring 1 rfl).tail⟩
  have h5' : r'.2 = 0 := Decidable.not_not.1 h5
  obtain ⟨x, hx, hxk⟩ := parentS_dir hps h5'
  rw [if_neg (show ¬¬r'.2 = 0 from h5), hx] at hO
  simp only at hO
  have hit := hf.it x (getX_some hx).1
  have hkeys := Sat.keysM hS
  obtain ⟨ib, tv, hS⟩ := Sat.modOpen hS
  (repeat (first | refine c_seq ?_ | refine c_skip ?_ | refine q_then ?_))
  have hS := Sat.itOpen hkeys hx (hS.bring 2 rfl)
  have hS : Sat w0 w ([itemA x.2.1 x.2.2] ++ (itemsA (without m.items r'.1) :: pt p (.cells (modC m.lay ib m.d tv) 58) :: mapA encI ib (itemsKV m.items) :: descsA m.d :: toldA tv m.told :: namesA (.slice (some ⟨b9, 0, none⟩) ps.1.length cap) ps.1 :: G)) := hS
  refine region_c (L := _ :: _) 17 [12] _ mixed (by kernel_rfl) hS ?_
  (repeat (first | (apply r_ptr ok rfl; rfl; · conv => { lhs; whnf }) | (apply r_pure ok rfl; · conv => { lhs; whnf; arg 1; whnf }) | (apply r_rd rfl; apply rd_load ok (i := 1); rfl; rfl; rfl; rfl; · conv => { lhs; whnf; arg 1; whnf })))
  apply r_rd rfl (v := ptr x.2.1) (rd_item ok hx rfl rfl rfl rfl rfl (i := 2) rfl)
  (repeat (first | (apply r_sub rfl; rfl; rfl; omega) | (apply r_pure ok rfl; · conv => { lhs; whnf; arg 1; whnf })))
  apply r_rd rfl (rd_indexAddr ok rfl rfl rfl rfl (by omega))
  apply r_rd rfl (v := .string (lastN ps.1)) (rd_loadR ok rfl rfl rfl (i := 5) rfl rfl (lastN_get hl1))
  skip
  refine r_chain (.tuple #[vi (lookOf x.2.2 (lastN ps.1)).1, vi (lookOf x.2.2 (lastN ps.1)).2]) rfl rfl ?_
  (repeat (first | (apply r_pure ok rfl; · conv => { lhs; whnf; arg 1; whnf }) | refine r_nil ?_))
  refine ch_told rfl (fun G2 w hS => ?_)
  refine o_call ok rfl rfl (look_spec hit.slots hS) (fun v w h => ?_)
  obtain ⟨rfl, hS⟩ := h
  refine o_nil ⟨rfl, upd_self _ _ _ rfl, [_], hS, ch_nil ?_⟩
  intro w hS
  have hS := Sat.modClose ((Sat.itSame hkeys hx hS).back 2 rfl)
  have hlok := @lookOf_ok x.2.2 (lastN ps.1)
  generalize lookOf x.2.2 (lastN ps.1) = lk at hO hlok ⊢
  (repeat (first | (apply o_pure ok; · conv => { lhs; whnf; arg 1; whnf }) | refine c_seq ?_ | refine c_region ?_ | refine o_nil ?_ | refine q_then ?_))
  refine c_cond_d rfl (fun h6 => ?_) (fun h6 => ?_)
  · rw [if_pos h6] at hO
    cases hO
    (repeat (first | (apply o_pure ok; · conv => { lhs; whnf; arg 1; whnf }) | refine c_seq ?_ | refine c_region ?_ | refine c_ret ?_ | refine o_nil ?_ | refine q_then ?_ | refine q_then_r ?_))
    exact out1 rfl ⟨rfl, (hS.bring 1 rfl).tail⟩
  rw [if_neg h6] at hO
  have hlk := hlok h6
  obtain ⟨y, hy⟩ : ∃ y, getX m.items lk.2 = some y := by
    cases hy : getX m.items lk.2 with
    | none => rw [hy] at hO; cases hO
    | some x => exact ⟨x, rfl⟩
  rw [hy] at hO
  simp only at hO
  have hity := hf.it y (getX_some hy).1
  obtain ⟨ib, tv, hS⟩ := Sat.modOpen hS
  (repeat (first | (apply o_ptr ok; rfl; · conv => { lhs; whnf }) | (apply o_pure ok; · conv => { lhs; whnf; arg 1; whnf }) | refine c_seq ?_ | refine c_region ?_ | refine c_skip ?_ | refine q_then ?_ | (apply o_rd hS; apply rd_load ok (i := 0); rfl; rfl; rfl; rfl; · conv => { lhs; whnf; arg 1; whnf })))
  refine o_rd (v := ptr y.2.1) hS (rd_item ok hy rfl rfl rfl rfl rfl (i := 1) rfl) ?_
  have hS := Sat.itTake hy (Sat.modClose hS)
  obtain ⟨dm, sv, hS⟩ := Sat.itemOpen hS
  (repeat (first | (apply o_ptr ok; rfl; · conv => { lhs; whnf }) | (apply o_pure ok; · conv => { lhs; whnf; arg 1; whnf }) | refine c_seq ?_ | refine c_region ?_ | refine o_nil ?_ | refine q_then ?_ | (apply o_rd hS; apply rd_load ok (i := 0); rfl; rfl; rfl; rfl; · conv => { lhs; whnf; arg 1; whnf })))
  have hS := Sat.itemClose hS
  refine o_guard_d rfl rfl rfl (fun h7 => ?_) (fun h7 => ?_)
  · (repeat (first | (apply o_ptr ok; rfl; · conv => { lhs; whnf }) | refine o_want rfl rfl rfl ?_))
    refine o_call ok rfl rfl (empty_spec hity.slots.1 hS) (fun v w h => ?_)
    obtain ⟨rfl, hS⟩ := h
    have hS := Sat.itBack hkeys hy hS
    (repeat (first | (apply o_pure ok; · conv => { lhs; whnf; arg 1; whnf }) | refine o_nil ?_ | refine q_then ?_ | refine o_want rfl rfl rfl ?_))
    refine c_cond_b rfl (fun h8 => ?_) (fun h8 => ?_)
    · rw [if_pos ⟨h7, by simpa using h8⟩] at hO
      cases hO
      (repeat (first | (apply o_pure ok; · conv => { lhs; whnf; arg 1; whnf }) | refine c_seq ?_ | refine c_region ?_ | refine c_ret ?_ | refine o_nil ?_ | refine q_then ?_ | refine q_then_r ?_))
      exact out1 rfl ⟨rfl, (hS.bring 1 rfl).tail⟩
    rw [if_neg (by rintro ⟨_, h9⟩; rw [h9] at h8; cases h8)] at hO
    obtain ⟨ib, tv, hS⟩ := Sat.modOpen hS
    (repeat (first | (apply o_ptr ok; rfl; · conv => { lhs; whnf }) | (apply o_pure ok; · conv => { lhs; whnf; arg 1; whnf }) | refine c_seq ?_ | refine c_region ?_ | refine c_skip ?_ | refine q_then ?_ | (apply o_rd hS; apply rd_load ok (i := 0); rfl; rfl; rfl; rfl; · conv => { lhs; whnf; arg 1; whnf })))
    obtain ⟨m2, hgo⟩ : ∃ m2, goneM (updM m r'.1 (putOf x.2.2 lk.1 (0, ⟨#[]⟩))) r'.1 lk.2 = some m2 := by
      cases hg : goneM (updM m r'.1 (putOf x.2.2 lk.1 (0, ⟨#[]⟩))) r'.1 lk.2 with
      | none => rw [hg] at hO; cases hO
      | some m2 => exact ⟨m2, rfl⟩
    rw [hgo] at hO
    cases hO
    refine o_rd (v := ptr x.2.1) hS (rd_item ok hx rfl rfl rfl rfl rfl (i := 1) rfl) ?_
    have hS := Sat.itTake hx (Sat.modClose hS)
    (repeat (first | (apply o_pure ok; · conv => { lhs; whnf; arg 1; whnf }) | (apply o_rd hS; apply rd_build1 ok; rfl; rfl; rfl; rfl)))
    refine o_call (l := [ptr x.2.1, vi lk.1, .agg (entC (0, ⟨#[]⟩)).toArray]) ok rfl rfl (put_spec hit.slots.1 ⟨hit.size0, hit.small.1⟩ ⟨hlk.1, by omega⟩ hS) (fun v w h => ?_)
    obtain ⟨rfl, hS⟩ := h
    have hS := Sat.itGive hkeys hx hS
    have hf1 : Fine (updM m r'.1 (putOf x.2.2 lk.1 (0, ⟨#[]⟩))) := hf.upd (put_ok hit hxk ⟨hlk.1, by omega⟩ (fun e => by omega) (by show (0 : Int) ≤ 0 ∧ (0 : Int) ≤ _; decide))
    have hg := gone_fine hf1 hgo
    have htl : m2.told.length ≤ 899999999 := by rw [hg.2]; exact hT
    (repeat (first | (apply o_ptr ok; rfl; · conv => { lhs; whnf }) | (apply o_pure ok; · conv => { lhs; whnf; arg 1; whnf }) | refine c_seq ?_ | refine c_region ?_ | refine o_nil ?_ | refine q_then ?_))
    refine o_call ok rfl rfl (gone_spec hf1 hgo hS) (fun v w h => ?_)
    obtain ⟨rfl, hS⟩ := h
    (repeat (first | (apply o_ptr ok; rfl; · conv => { lhs; whnf }) | refine c_seq ?_ | refine c_region ?_ | refine o_nil ?_ | refine q_then ?_))
    refine o_call ok rfl rfl (step_spec hg.1 (by omega) hS) (fun v w h => ?_)
    obtain ⟨rfl, hS⟩ := h
    (repeat (first | (apply o_ptr ok; rfl; · conv => { lhs; whnf }) | (apply o_pure ok; · conv => { lhs; whnf; arg 1; whnf }) | refine c_seq ?_ | refine c_region ?_ | refine o_nil ?_ | refine q_then ?_))
    refine o_call ok rfl rfl (reclaim_spec hg.1.step (by show (m2.told ++ [_]).length ≤ _; rw [List.length_append, List.length_singleton]; omega) hS) (fun v w h => ?_)
    obtain ⟨rfl, hS⟩ := h
    (repeat (first | (apply o_pure ok; · conv => { lhs; whnf; arg 1; whnf }) | refine c_seq ?_ | refine c_region ?_ | refine c_ret ?_ | refine o_nil ?_ | refine q_then ?_))
    exact out1 rfl ⟨rfl, (hS.bring 1 rfl).tail⟩
  · rw [if_neg (fun h => h7 h.1)] at hO
    have hS := Sat.itBack hkeys hy hS
    obtain ⟨ib, tv, hS⟩ := Sat.modOpen hS
    (repeat (first | (apply o_ptr ok; rfl; · conv => { lhs; whnf }) | (apply o_pure ok; · conv => { lhs; whnf; arg 1; whnf }) | refine c_seq ?_ | refine c_region ?_ | refine c_skip ?_ | refine o_nil ?_ | refine q_then ?_ | (apply c_cond_f; rfl) | refine o_pass rfl rfl rfl rfl ?_ | (apply o_rd hS; apply rd_load ok (i := 0); rfl; rfl; rfl; rfl; · conv => { lhs; whnf; arg 1; whnf })))
    obtain ⟨m2, hgo⟩ : ∃ m2, goneM (updM m r'.1 (putOf x.2.2 lk.1 (0, ⟨#[]⟩))) r'.1 lk.2 = some m2 := by
      cases hg : goneM (updM m r'.1 (putOf x.2.2 lk.1 (0, ⟨#[]⟩))) r'.1 lk.2 with
      | none => rw [hg] at hO; cases hO
      | some m2 => exact ⟨m2, rfl⟩
    rw [hgo] at hO
    cases hO
    refine o_rd (v := ptr x.2.1) hS (rd_item ok hx rfl rfl rfl rfl rfl (i := 1) rfl) ?_
    have hS := Sat.itTake hx (Sat.modClose hS)
    (repeat (first | (apply o_pure ok; · conv => { lhs; whnf; arg 1; whnf }) | (apply o_rd hS; apply rd_build1 ok; rfl; rfl; rfl; rfl)))
    refine o_call (l := [ptr x.2.1, vi lk.1, .agg (entC (0, ⟨#[]⟩)).toArray]) ok rfl rfl (put_spec hit.slots.1 ⟨hit.size0, hit.small.1⟩ ⟨hlk.1, by omega⟩ hS) (fun v w h => ?_)
    obtain ⟨rfl, hS⟩ := h
    have hS := Sat.itGive hkeys hx hS
    have hf1 : Fine (updM m r'.1 (putOf x.2.2 lk.1 (0, ⟨#[]⟩))) := hf.upd (put_ok hit hxk ⟨hlk.1, by omega⟩ (fun e => by omega) (by show (0 : Int) ≤ 0 ∧ (0 : Int) ≤ _; decide))
    have hg := gone_fine hf1 hgo
    have htl : m2.told.length ≤ 899999999 := by rw [hg.2]; exact hT
    (repeat (first | (apply o_ptr ok; rfl; · conv => { lhs; whnf }) | (apply o_pure ok; · conv => { lhs; whnf; arg 1; whnf }) | refine c_seq ?_ | refine c_region ?_ | refine o_nil ?_ | refine q_then ?_))
    refine o_call ok rfl rfl (gone_spec hf1 hgo hS) (fun v w h => ?_)
    obtain ⟨rfl, hS⟩ := h
    (repeat (first | (apply o_ptr ok; rfl; · conv => { lhs; whnf }) | refine c_seq ?_ | refine c_region ?_ | refine o_nil ?_ | refine q_then ?_))
    refine o_call ok rfl rfl (step_spec hg.1 (by omega) hS) (fun v w h => ?_)
    obtain ⟨rfl, hS⟩ := h
    (repeat (first | (apply o_ptr ok; rfl; · conv => { lhs; whnf }) | (apply o_pure ok; · conv => { lhs; whnf; arg 1; whnf }) | refine c_seq ?_ | refine c_region ?_ | refine o_nil ?_ | refine q_then ?_))
    refine o_call ok rfl rfl (reclaim_spec hg.1.step (by show (m2.told ++ [_]).length ≤ _; rw [List.length_append, List.length_singleton]; omega) hS) (fun v w h => ?_)
    obtain ⟨rfl, hS⟩ := h
    (repeat (first | (apply o_pure ok; · conv => { lhs; whnf; arg 1; whnf }) | refine c_seq ?_ | refine c_region ?_ | refine c_ret ?_ | refine o_nil ?_ | refine q_then ?_))
    exact out1 rfl ⟨rfl, (hS.bring 1 rfl).tail⟩
end Go.Proofs.YtllomopjoomdiaaGreat
end

section
namespace Go.Proofs.YtllomopjoomdiaaGreat
open Go.SL
theorem slotsC_num {s : List (Int × ByteArray)} {j : Nat} {e : Int × ByteArray} (h : s[j]? = some e) : (slotsC s)[j * 2]? = some (.int .u16 e.1) := by
  have h1 := congrArg (fun l : List Value => l[0]?) (flatMap_two entC 2 entC_len s j e h)
  simp only [List.getElem?_take, List.getElem?_drop] at h1
  rw [if_pos (by decide)] at h1
  simpa [slotsC, entC] using h1
/-- Does inode i stand beneath dir? -/
def beneathS (m : Mod) (dir : Int) : Nat → Int → Option Bool
  | 0, _ => none
  | k + 1, i => if i = dir then some true else if i = 1 then some false else match getX m.items i with
    | none => none
    | some x => match x.2.2.slots[1]? with
      | none => none
      | some e => beneathS m dir k e.1
theorem beneath_spec {w0 w : World} {G : List Asn} {p : Nat} {m : Mod} {dir inum : Int} {n : Nat} {b : Bool} (hf : Fine m) (hr : beneathS m dir n inum = some b) (hS : Sat w0 w (modA p m :: G)) :
    CR Tryz.prog 114 [ptr p, vi dir, vi inum] w fun v w' => v = .bool b ∧ Sat w0 w' (modA p m :: G) := by
  have hkeys := Sat.keysM hS
  refine calls_enter Tryz.func114 rfl rfl rfl ?_
  (repeat (first | (apply o_pure ok; · conv => { lhs; whnf; arg 1; whnf }) | refine c_seq ?_ | refine c_region ?_ | refine c_block ?_ | refine o_nil ?_ | refine q_then ?_))
  refine c_loop (fun k g w => ∃ (i : Int) (jk : Nat → Value), beneathS m dir k i = some b ∧
    g = updL [(0, ptr p), (1, vi dir), (2, vi i)] jk ∧ Sat w0 w (modA p m :: G)) n
    ⟨inum, _, hr, updL_self _ _ ⟨rfl, rfl, rfl, trivial⟩, hS⟩ ?_
  rintro k g w ⟨i, jk, hs, rfl, hS⟩
  cases k with
  | zero => cases hs
  | succ k =>
    unfold beneathS at hs
    (repeat (first | (apply o_pure ok; · conv => { lhs; whnf; arg 1; whnf }) | refine c_seq ?_ | refine c_region ?_ | refine c_block ?_ | refine o_nil ?_ | refine q_then ?_))
    refine c_cond_d rfl (fun h1 => ?_) (fun h1 => ?_)
    · rw [if_pos h1] at hs
      cases hs
      (repeat (first | (apply o_pure ok; · conv => { lhs; whnf; arg 1; whnf }) | refine c_seq ?_ | refine c_region ?_ | refine c_ret ?_ | refine o_nil ?_ | refine q_then ?_ | refine q_then_r ?_ | refine q_blk_r ?_))
      exact out1 rfl ⟨rfl, hS⟩
    rw [if_neg h1] at hs
    (repeat (first | (apply o_pure ok; · conv => { lhs; whnf; arg 1; whnf }) | refine c_seq ?_ | refine c_region ?_ | refine c_skip ?_ | refine o_nil ?_ | refine q_then ?_))
    refine c_cond_d rfl (fun h2 => ?_) (fun h2 => ?_)
    · rw [if_pos h2] at hs
      cases hs
      (repeat (first | (apply o_pure ok; · conv => { lhs; whnf; arg 1; whnf }) | refine c_seq ?_ | refine c_region ?_ | refine c_ret ?_ | refine o_nil ?_ | refine q_then ?_ | refine q_then_r ?_ | refine q_blk_r ?_))
      exact out1 rfl ⟨rfl, hS⟩
    rw [if_neg h2] at hs
    obtain ⟨x, hx⟩ : ∃ x, getX m.items i = some x := by
      cases hx : getX m.items i with
      | none => rw [hx] at hs; cases hs
      | some x => exact ⟨x, rfl⟩
    rw [hx] at hs
    simp only at hs
    obtain ⟨e, he⟩ : ∃ e, x.2.2.slots[1]? = some e := by
      cases he : x.2.2.slots[1]? with
      | none => rw [he] at hs; cases hs
      | some x => exact ⟨x, rfl⟩
    rw [he] at hs
    simp only at hs
    have hl := lt_of_get he
    obtain ⟨ib, tv, hS⟩ := Sat.modOpen hS
    (repeat (first | (apply o_ptr ok; rfl; · conv => { lhs; whnf }) | (apply o_pure ok; · conv => { lhs; whnf; arg 1; whnf }) | refine c_region ?_ | refine c_skip ?_ | refine q_then ?_ | (apply o_rd hS; apply rd_load ok (i := 0); rfl; rfl; rfl; rfl; · conv => { lhs; whnf; arg 1; whnf })))
    refine o_rd (v := ptr x.2.1) hS (rd_item ok hx rfl rfl rfl rfl rfl (i := 1) rfl) ?_
    have hS := Sat.itTake hx (Sat.modClose hS)
    obtain ⟨dm, sv, hS⟩ := Sat.itemOpen hS
    obtain ⟨hlen, a, cap, rfl, hcap, ha⟩ := Sat.rowForm hS (i := 2) rfl
    obtain ⟨b9, rfl⟩ := ha (by omega)
    have hnum := slotsC_num he
    have hsl := hf.slots x (getX_some hx).1
    have he16 := hsl.2 e (List.mem_of_getElem? he)
    (repeat (first | (apply o_ptr ok; rfl; · conv => { lhs; whnf }) | (apply o_rd hS; apply rd_load ok (i := 0); rfl; rfl; rfl; rfl; · conv => { lhs; whnf; arg 1; whnf })))
    apply o_rd hS (rd_indexAddr ok rfl rfl rfl rfl (by omega))
    (repeat (first | (apply o_ptr ok; rfl; · conv => { lhs; whnf })))
    apply o_rd hS (rd_loadR (v := .int .u16 e.1) ok rfl rfl rfl (i := 2) rfl rfl hnum)
    have hS := Sat.itBack hkeys hx (Sat.itemClose hS)
    (repeat (first | (apply o_pure ok; · conv => { lhs; whnf; arg 1; whnf }) | refine o_nil ?_ | refine q_then ?_ | refine q_blk_n ?_))
    rw [w_i64 (show -9223372036854775808 ≤ e.1 ∧ e.1 ≤ 9223372036854775807 by omega)]
    exact ⟨k, by omega, e.1, _, hs, updL_self _ _ ⟨rfl, rfl, rfl, trivial⟩, hS⟩
/-- May a thing be moved over another one? -/
def overOf (t u : It) : Int := if t.kind = 2 ∧ ¬u.kind = 2 then 7 else if ¬t.kind = 2 ∧ u.kind = 2 then 8 else if u.kind = 2 ∧ emptyOf u = false then 9 else 0
theorem over_spec {w0 w : World} {G : List Asn} {b c : Nat} {t u : It} (hu : u.slots.length ≤ 1099511627776) (hS : Sat w0 w (itemA b t :: itemA c u :: G)) :
    CR Tryz.prog 115 [ptr b, ptr c] w fun v w' => v = vi (overOf t u) ∧ Sat w0 w' (itemA b t :: itemA c u :: G) := by
  refine calls_enter Tryz.func115 rfl rfl rfl ?_
  obtain ⟨dm, sv, hS⟩ := Sat.itemOpen hS
  obtain ⟨dm2, sv2, hS⟩ := Sat.itemOpen (hS.bring 3 rfl)
  have back : ∀ {w : World}, Sat w0 w (pt c (.cells (itemC u dm2 sv2) 135) :: dataA u.kind dm2 u.data :: slotsA sv2 u.slots :: pt b (.cells (itemC t dm sv) 135) :: dataA t.kind dm t.data :: slotsA sv t.slots :: G) → Sat w0 w (itemA b t :: itemA c u :: G) := fun hS => Sat.itemClose ((Sat.itemClose hS).back 3 rfl)
  unfold overOf
  by_cases h1 : t.kind = 2
  · by_cases h2 : u.kind = 2
    · rw [if_neg (fun h => h.2 h2), if_neg (fun h => h.1 h1)]
      (repeat (first | (apply o_ptr ok; rfl; · conv => { lhs; whnf }) | (apply o_pure ok; · conv => { lhs; whnf; arg 1; whnf }) | refine c_seq ?_ | refine c_region ?_ | refine c_block ?_ | refine o_nil ?_ | refine q_then ?_ | (apply o_rd hS; apply rd_load ok (i := 3); rfl; rfl; rfl; rfl; · conv => { lhs; whnf; arg 1; whnf })))
      refine o_guard_d rfl rfl rfl (fun h => ?_) (fun h => absurd h1 h)
      (repeat (first | (apply o_ptr ok; rfl; · conv => { lhs; whnf }) | (apply o_pure ok; · conv => { lhs; whnf; arg 1; whnf }) | refine o_nil ?_ | refine q_then ?_ | refine o_want rfl rfl rfl ?_ | (apply o_rd hS; apply rd_load ok (i := 0); rfl; rfl; rfl; rfl; · conv => { lhs; whnf; arg 1; whnf })))
      refine c_cond_n rfl (fun h => h h2) ?_
      (repeat (first | (apply o_ptr ok; rfl; · conv => { lhs; whnf }) | (apply o_pure ok; · conv => { lhs; whnf; arg 1; whnf }) | refine c_seq ?_ | refine c_region ?_ | (apply o_rd hS; apply rd_load ok (i := 3); rfl; rfl; rfl; rfl; · conv => { lhs; whnf; arg 1; whnf })))
      refine o_guard_d rfl rfl rfl (fun h => absurd h1 h) (fun h => ?_)
      (repeat (first | (apply o_ptr ok; rfl; · conv => { lhs; whnf }) | (apply o_pure ok; · conv => { lhs; whnf; arg 1; whnf }) | refine c_seq ?_ | refine c_region ?_ | refine o_nil ?_ | refine q_then ?_ | (apply c_cond_f; rfl) | refine o_pass rfl rfl rfl rfl ?_ | (apply o_rd hS; apply rd_load ok (i := 0); rfl; rfl; rfl; rfl; · conv => { lhs; whnf; arg 1; whnf })))
      refine o_guard_d rfl rfl rfl (fun h => ?_) (fun h => absurd h2 h)
      have hS := Sat.itemClose hS
      (repeat (first | (apply o_ptr ok; rfl; · conv => { lhs; whnf }) | refine o_want rfl rfl rfl ?_))
      refine o_call ok rfl rfl (empty_spec hu hS) (fun v w h => ?_)
      obtain ⟨rfl, hS⟩ := h
      have hS := Sat.itemClose (hS.back 3 rfl)
      (repeat (first | (apply o_pure ok; · conv => { lhs; whnf; arg 1; whnf }) | refine o_nil ?_ | refine q_then ?_ | refine o_want rfl rfl rfl ?_))
      refine c_cond_b rfl (fun h8 => ?_) (fun h8 => ?_)
      · rw [if_pos ⟨h2, by simpa using h8⟩]
        (repeat (first | (apply o_pure ok; · conv => { lhs; whnf; arg 1; whnf }) | refine c_seq ?_ | refine c_region ?_ | refine c_ret ?_ | refine o_nil ?_ | refine q_then ?_ | refine q_then_r ?_ | refine q_blk_r ?_))
        exact out1 rfl ⟨rfl, hS⟩
      · rw [if_neg (by rintro ⟨_, h9⟩; rw [h9] at h8; cases h8)]
        (repeat (first | (apply o_pure ok; · conv => { lhs; whnf; arg 1; whnf }) | refine c_seq ?_ | refine c_region ?_ | refine c_skip ?_ | refine c_ret ?_ | refine o_nil ?_ | refine q_then ?_ | refine q_blk_n ?_))
        exact out1 rfl ⟨rfl, hS⟩
    · rw [if_pos ⟨h1, h2⟩]
      (repeat (first | (apply o_ptr ok; rfl; · conv => { lhs; whnf }) | (apply o_pure ok; · conv => { lhs; whnf; arg 1; whnf }) | refine c_seq ?_ | refine c_region ?_ | refine c_block ?_ | refine o_nil ?_ | refine q_then ?_ | (apply o_rd hS; apply rd_load ok (i := 3); rfl; rfl; rfl; rfl; · conv => { lhs; whnf; arg 1; whnf })))
      refine o_guard_d rfl rfl rfl (fun h => ?_) (fun h => absurd h1 h)
      (repeat (first | (apply o_ptr ok; rfl; · conv => { lhs; whnf }) | (apply o_pure ok; · conv => { lhs; whnf; arg 1; whnf }) | refine o_nil ?_ | refine q_then ?_ | refine o_want rfl rfl rfl ?_ | (apply o_rd hS; apply rd_load ok (i := 0); rfl; rfl; rfl; rfl; · conv => { lhs; whnf; arg 1; whnf })))
      refine c_cond_p rfl h2 ?_
      (repeat (first | (apply o_pure ok; · conv => { lhs; whnf; arg 1; whnf }) | refine c_seq ?_ | refine c_region ?_ | refine c_ret ?_ | refine o_nil ?_ | refine q_then ?_ | refine q_then_r ?_ | refine q_blk_r ?_))
      exact out1 rfl ⟨rfl, back hS⟩
  · rw [if_neg (fun h => h1 h.1)]
    by_cases h2 : u.kind = 2
    · rw [if_pos ⟨h1, h2⟩]
      (repeat (first | (apply o_ptr ok; rfl; · conv => { lhs; whnf }) | (apply o_pure ok; · conv => { lhs; whnf; arg 1; whnf }) | refine c_seq ?_ | refine c_region ?_ | refine c_block ?_ | refine o_nil ?_ | refine q_then ?_ | (apply o_rd hS; apply rd_load ok (i := 3); rfl; rfl; rfl; rfl; · conv => { lhs; whnf; arg 1; whnf })))
      refine o_guard_d rfl rfl rfl (fun h => absurd h h1) (fun h => ?_)
      (repeat (first | (apply o_ptr ok; rfl; · conv => { lhs; whnf }) | (apply o_pure ok; · conv => { lhs; whnf; arg 1; whnf }) | refine c_seq ?_ | refine c_region ?_ | refine o_nil ?_ | refine q_then ?_ | (apply c_cond_f; rfl) | refine o_pass rfl rfl rfl rfl ?_ | (apply o_rd hS; apply rd_load ok (i := 3); rfl; rfl; rfl; rfl; · conv => { lhs; whnf; arg 1; whnf })))
      refine o_guard_d rfl rfl rfl (fun h => ?_) (fun h => absurd h1 h)
      (repeat (first | (apply o_ptr ok; rfl; · conv => { lhs; whnf }) | (apply o_pure ok; · conv => { lhs; whnf; arg 1; whnf }) | refine o_nil ?_ | refine q_then ?_ | refine o_want rfl rfl rfl ?_ | (apply o_rd hS; apply rd_load ok (i := 0); rfl; rfl; rfl; rfl; · conv => { lhs; whnf; arg 1; whnf })))
      refine c_cond_p rfl h2 ?_
      (repeat (first | (apply o_pure ok; · conv => { lhs; whnf; arg 1; whnf }) | refine c_seq ?_ | refine c_region ?_ | refine c_ret ?_ | refine o_nil ?_ | refine q_then ?_ | refine q_then_r ?_ | refine q_blk_r ?_))
      exact out1 rfl ⟨rfl, back hS⟩
    · rw [if_neg (fun h => h2 h.2), if_neg (fun h => h2 h.1)]
      (repeat (first | (apply o_ptr ok; rfl; · conv => { lhs; whnf }) | (apply o_pure ok; · conv => { lhs; whnf; arg 1; whnf }) | refine c_seq ?_ | refine c_region ?_ | refine c_block ?_ | refine o_nil ?_ | refine q_then ?_ | (apply o_rd hS; apply rd_load ok (i := 3); rfl; rfl; rfl; rfl; · conv => { lhs; whnf; arg 1; whnf })))
      refine o_guard_d rfl rfl rfl (fun h => absurd h h1) (fun h => ?_)
      (repeat (first | (apply o_ptr ok; rfl; · conv => { lhs; whnf }) | (apply o_pure ok; · conv => { lhs; whnf; arg 1; whnf }) | refine c_seq ?_ | refine c_region ?_ | refine o_nil ?_ | refine q_then ?_ | (apply c_cond_f; rfl) | refine o_pass rfl rfl rfl rfl ?_ | (apply o_rd hS; apply rd_load ok (i := 3); rfl; rfl; rfl; rfl; · conv => { lhs; whnf; arg 1; whnf })))
      refine o_guard_d rfl rfl rfl (fun h => ?_) (fun h => absurd h1 h)
      (repeat (first | (apply o_ptr ok; rfl; · conv => { lhs; whnf }) | (apply o_pure ok; · conv => { lhs; whnf; arg 1; whnf }) | refine o_nil ?_ | refine q_then ?_ | refine o_want rfl rfl rfl ?_ | (apply o_rd hS; apply rd_load ok (i := 0); rfl; rfl; rfl; rfl; · conv => { lhs; whnf; arg 1; whnf })))
      refine c_cond_n rfl h2 ?_
      (repeat (first | (apply o_ptr ok; rfl; · conv => { lhs; whnf }) | (apply o_pure ok; · conv => { lhs; whnf; arg 1; whnf }) | refine c_seq ?_ | refine c_region ?_ | (apply o_rd hS; apply rd_load ok (i := 0); rfl; rfl; rfl; rfl; · conv => { lhs; whnf; arg 1; whnf })))
      refine o_guard_d rfl rfl rfl (fun h => absurd h h2) (fun h => ?_)
      (repeat (first | (apply o_pure ok; · conv => { lhs; whnf; arg 1; whnf }) | refine c_seq ?_ | refine c_region ?_ | refine c_skip ?_ | refine c_ret ?_ | refine o_nil ?_ | refine q_then ?_ | refine q_blk_n ?_ | (apply c_cond_f; rfl) | refine o_pass rfl rfl rfl rfl ?_))
      exact out1 rfl ⟨rfl, back hS⟩
/-- The names of a rename, or what is wrong with them. -/
def endsOf (a b : ByteArray) : List ByteArray × List ByteArray × Int :=
  if ¬(parseOf a).2 = 0 then ([], [], (parseOf a).2) else if ¬(parseOf b).2 = 0 then ([], [], (parseOf b).2) else
  if (parseOf a).1.length = 0 ∨ (parseOf b).1.length = 0 then ([], [], 10) else if specialOf (parseOf a).1 = true ∨ specialOf (parseOf b).1 = true then ([], [], 4) else
  ((parseOf a).1, (parseOf b).1, 0)
theorem ends_spec {w0 w : World} {G : List Asn} (a b : ByteArray) (ha : a.size ≤ 4611686018427387904) (hb : b.size ≤ 4611686018427387904) (hS : Sat w0 w G) :
    CR Tryz.prog 113 [.string a, .string b] w fun v w' => ∃ v1 v2, v = .tuple #[v1, v2, vi (endsOf a b).2.2] ∧ Sat w0 w' (namesA v1 (endsOf a b).1 :: namesA v2 (endsOf a b).2.1 :: G) := by
  have nil : ∀ {w : World}, Sat w0 w G → Sat w0 w (namesA (.slice none 0 0) [] :: namesA (.slice none 0 0) [] :: G) := fun hS => Sat.closeH [] (Sat.closeH [] hS (fun g _ => rowA_nil _ _ g)) (fun g _ => rowA_nil _ _ g)
  refine calls_enter Tryz.func113 rfl rfl rfl ?_
  unfold endsOf
  (repeat (first | (apply o_pure ok; · conv => { lhs; whnf; arg 1; whnf }) | refine c_seq ?_ | refine c_region ?_ | refine o_nil ?_ | refine q_then ?_))
  refine o_call ok rfl rfl (parse_spec a ha hS) (fun v w h => ?_)
  obtain ⟨nv, rfl, hS⟩ := h
  have hl := parse_len a
  generalize parseOf a = ps at hS hl ⊢
  (repeat (first | (apply o_pure ok; · conv => { lhs; whnf; arg 1; whnf }) | refine c_seq ?_ | refine c_region ?_ | refine o_nil ?_ | refine q_then ?_))
  refine c_cond_d rfl (fun h1 => ?_) (fun h1 => ?_)
  · rw [if_pos (show ¬ps.2 = 0 from h1)]
    (repeat (first | (apply o_pure ok; · conv => { lhs; whnf; arg 1; whnf }) | refine c_seq ?_ | refine c_region ?_ | refine c_ret ?_ | refine o_nil ?_ | refine q_then ?_ | refine q_then_r ?_))
    exact out3 rfl ⟨_, _, rfl, nil hS.tail⟩
  rw [if_neg (show ¬¬ps.2 = 0 from h1)]
  (repeat (first | (apply o_pure ok; · conv => { lhs; whnf; arg 1; whnf }) | refine c_seq ?_ | refine c_region ?_ | refine c_skip ?_ | refine q_then ?_))
  refine o_call ok rfl rfl (parse_spec b hb hS) (fun v w h => ?_)
  obtain ⟨nv2, rfl, hS⟩ := h
  have hl2 := parse_len b
  generalize parseOf b = qs at hS hl2 ⊢
  obtain ⟨_, a1, c1, rfl, _, _⟩ := Sat.rowForm hS (i := 1) rfl
  obtain ⟨_, a2, c2, rfl, _, _⟩ := Sat.rowForm hS (i := 0) rfl
  (repeat (first | (apply o_pure ok; · conv => { lhs; whnf; arg 1; whnf }) | refine c_seq ?_ | refine c_region ?_ | refine c_block ?_ | refine o_nil ?_ | refine q_then ?_))
  refine c_cond_d rfl (fun h2 => ?_) (fun h2 => ?_)
  · rw [if_pos (show ¬qs.2 = 0 from h2)]
    (repeat (first | (apply o_pure ok; · conv => { lhs; whnf; arg 1; whnf }) | refine c_seq ?_ | refine c_region ?_ | refine c_ret ?_ | refine o_nil ?_ | refine q_then ?_ | refine q_then_r ?_ | refine q_blk_r ?_))
    exact out3 rfl ⟨_, _, rfl, nil hS.tail.tail⟩
  rw [if_neg (show ¬¬qs.2 = 0 from h2)]
  have fail : ∀ {w : World}, Sat w0 w (namesA (.slice a2 qs.1.length c2) qs.1 :: namesA (.slice a1 ps.1.length c1) ps.1 :: G) → Sat w0 w (namesA (.slice none 0 0) [] :: namesA (.slice none 0 0) [] :: G) := fun hS => nil hS.tail.tail
  (repeat (first | (apply o_pure ok; · conv => { lhs; whnf; arg 1; whnf }) | refine c_seq ?_ | refine c_region ?_))
  refine o_guard_d rfl rfl rfl (fun h3 => ?_) (fun h3 => ?_)
  · rw [if_pos (.inl (by omega))]
    (repeat (first | (apply o_pure ok; · conv => { lhs; whnf; arg 1; whnf }) | refine c_seq ?_ | refine c_region ?_ | refine c_ret ?_ | refine o_nil ?_ | refine q_then ?_ | refine q_then_r ?_ | refine q_blk_r ?_ | (apply c_cond_t; rfl) | refine o_pass rfl rfl rfl rfl ?_))
    exact out3 rfl ⟨_, _, rfl, fail hS⟩
  (repeat (first | (apply o_pure ok; · conv => { lhs; whnf; arg 1; whnf }) | refine o_nil ?_ | refine q_then ?_ | refine o_want rfl rfl rfl ?_))
  refine c_cond_d rfl (fun h4 => ?_) (fun h4 => ?_)
  · rw [if_pos (.inr (by omega))]
    (repeat (first | (apply o_pure ok; · conv => { lhs; whnf; arg 1; whnf }) | refine c_seq ?_ | refine c_region ?_ | refine c_ret ?_ | refine o_nil ?_ | refine q_then ?_ | refine q_then_r ?_ | refine q_blk_r ?_))
    exact out3 rfl ⟨_, _, rfl, fail hS⟩
  rw [if_neg (by omega)]
  (repeat (first | (apply o_pure ok; · conv => { lhs; whnf; arg 1; whnf }) | refine c_seq ?_ | refine c_region ?_))
  refine o_call ok rfl rfl (special_spec (by omega) (hS.bring 1 rfl)) (fun v w h => ?_)
  obtain ⟨rfl, hS⟩ := h
  have hS : Sat w0 w (namesA (.slice a2 qs.1.length c2) qs.1 :: namesA (.slice a1 ps.1.length c1) ps.1 :: G) := hS.bring 1 rfl
  rcases hs1 : specialOf ps.1 with _ | _
  · (repeat (first | (apply o_pure ok; · conv => { lhs; whnf; arg 1; whnf }) | refine o_want rfl rfl rfl ?_))
    refine o_call ok rfl rfl (special_spec (by omega) hS) (fun v w h => ?_)
    obtain ⟨rfl, hS⟩ := h
    (repeat (first | (apply o_pure ok; · conv => { lhs; whnf; arg 1; whnf }) | refine o_nil ?_ | refine q_then ?_))
    refine c_cond_b rfl (fun h5 => ?_) (fun h5 => ?_)
    · rw [if_pos (.inr h5)]
      (repeat (first | (apply o_pure ok; · conv => { lhs; whnf; arg 1; whnf }) | refine c_seq ?_ | refine c_region ?_ | refine c_ret ?_ | refine o_nil ?_ | refine q_then ?_ | refine q_then_r ?_ | refine q_blk_r ?_))
      exact out3 rfl ⟨_, _, rfl, fail hS⟩
    · rw [if_neg (by rw [h5]; simp)]
      (repeat (first | (apply o_pure ok; · conv => { lhs; whnf; arg 1; whnf }) | refine c_seq ?_ | refine c_region ?_ | refine c_skip ?_ | refine c_ret ?_ | refine o_nil ?_ | refine q_then ?_ | refine q_blk_n ?_))
      exact out3 rfl ⟨_, _, rfl, hS.bring 1 rfl⟩
  · rw [if_pos (.inl rfl)]
    (repeat (first | (apply o_pure ok; · conv => { lhs; whnf; arg 1; whnf }) | refine c_seq ?_ | refine c_region ?_ | refine c_ret ?_ | refine o_nil ?_ | refine q_then ?_ | refine q_then_r ?_ | refine q_blk_r ?_ | (apply c_cond_t; rfl) | refine o_pass rfl rfl rfl rfl ?_))
    exact out3 rfl ⟨_, _, rfl, fail hS⟩
end Go.Proofs.YtllomopjoomdiaaGreat
end

section
namespace Go.SL
open Go
theorem wpList_monoL {P : Program} {ops : Array Oper} {Q1 Q2 : Exit → Act → World → Prop} (hq : ∀ e a w, Q1 e a w → Q2 e a w) : ∀ (l : List Oper) (a : Act) (w : World), wpList P ops Q1 l a w → wpList P ops Q2 l a w
  | [], a, w, h => hq _ _ _ h
  | o :: l, a, w, h => by
    unfold wpList at h ⊢
    split
    · rename_i hw
      rw [if_pos hw] at h
      rcases h with h | ⟨h1, a', w', h2⟩
      · refine .inl ?_
        unfold Oper.wp at *
        generalize (execOp a.eval o).run P w = r at *
        cases r with
        | ok x w' =>
          cases x <;> simp only [Oper.upon] at h ⊢
          case value v => exact wpList_monoL hq l _ _ h
          case skip => exact wpList_monoL hq l _ _ h
          case defer d => exact wpList_monoL hq l _ _ h
          case enter F args =>
            refine Calls.mono h fun e w'' hh => ?_
            cases e with
            | returned v => exact wpList_monoL hq l _ _ hh
            | panicked c => exact hq _ _ _ hh
            | outgrown => obtain ⟨a, w3, h3⟩ := hh; exact ⟨a, w3, hq _ _ _ h3⟩
          case row R args => exact Rows.mono h fun v w'' hh => wpList_monoL hq l _ _ hh
          all_goals exact h.elim
        | halt x w' =>
          cases x <;> simp only [Oper.upon] at h ⊢
          case panic v => exact hq _ _ _ h
          all_goals exact h.elim
      · exact .inr ⟨h1, a', w', hq _ _ _ h2⟩
    · rename_i hw
      rw [if_neg hw] at h
      exact wpList_monoL hq l _ _ h
section
variable {P : Program} {ops : Array Oper} {Q : QF} {rest : List Oper} {n : Nat} {f : Nat → Value} {w w0 : World} {l : List Asn} {ty : TypeId} {pos : String} {after : Array Edge} {t i b q : Nat} {x y : Operand} {tb : Tab} (ok : TabOk P tb)
include ok
/-- One cell of a row is stored. -/
theorem o_storeR {e size m c : Nat} {rv : Value} {xs : List Value} {v : Value} (hS : Sat w0 w l) (hz : tb.sz t = some 1) (hx : ev n f x = .pointer (some ⟨b, q, none⟩)) (hy : ev n f y = v) (hi : l[i]? = some (rowA e size rv m xs)) (hrv : rv = .slice (some ⟨b, 0, none⟩) m c)
    (hv : v.oneCell' = true) (hq : q + 1 ≤ xs.length) (h : ∀ w', Sat w0 w' (l.set i (rowA e size rv m (spliceL xs q [v]))) → WL P ops Q rest n f w') : WL P ops Q (⟨none, .store t x y, ty, pos, after, none⟩ :: rest) n f w := by
  subst hrv
  obtain ⟨own, H⟩ := hS.2
  obtain ⟨hl, hr⟩ := H i _ hi
  rcases hr with ⟨h1, _⟩ | ⟨g, cap, cur, hs, hg, h3, h4, h5, h6⟩
  · cases h1
  · cases hs
    have hS1 : Sat w0 w (l.set i (pt b (.cells cur e (0, 0)))) := ⟨hS.1, own, fun j B hj => by
      rw [List.getElem?_set] at hj
      by_cases e2 : i = j
      · subst e2; simp only [if_true, lt_of_get hi] at hj; cases hj; exact hg
      · rw [if_neg e2] at hj; exact H j B hj⟩
    have hcl : q < cur.size := by
      have := congrArg List.length h6
      simp at this; omega
    refine o_store ok hS1 hx hy hv hz (i := i) (by rw [List.getElem?_set_self (lt_of_get hi)]) (Array.getElem?_eq_getElem hcl) fun w' hS' => h w' ?_
    rw [← splice_one cur q v hcl, List.set_set] at hS'
    refine (?_ : (l.set i (pt b (.cells (splice cur q [v]) e (0, 0)))).set i (rowA e size (.slice (some ⟨b, 0, none⟩) m c) m (spliceL xs q [v])) = l.set i (rowA e size (.slice (some ⟨b, 0, none⟩) m c) m (spliceL xs q [v]))) ▸ hS'.conseq (i := i) (by rw [List.getElem?_set_self (lt_of_get hi)]) (fun g hg => ?_)
    · rw [List.set_set]
    · have hk : m * size ≤ cur.toList.length := by rw [Array.length_toList, h5]; exact Nat.mul_le_mul_right _ h3
      have hvl : q + [v].length ≤ m * size := by rw [← hl]; simpa using hq
      refine ⟨?_, .inr ⟨b, c, _, rfl, hg, h3, h4, ?_, ?_⟩⟩
      · simp [spliceL]; simp at hvl; omega
      · rw [splice_size (by simp; omega)]; exact h5
      · have e3 : (splice cur q [v]).toList = spliceL cur.toList q [v] := rfl
        rw [e3, take_spliceL hvl hk, h6]
end
/-- What holds behind the rest of a region is said ahead of it. -/
theorem c_cutL {P : Program} {ops : Array Oper} {Q : QF} {n : Nat} {f : Nat → Value} {w : World} {l : List Oper} {R : (Nat → Value) → World → Prop} (K : (Nat → Value) → World → Prop) (h : WL P ops (thenF K Q) l n f w) (h2 : ∀ f w, K f w → R f w) : WL P ops (thenF R Q) l n f w := by
  refine ⟨wpList_monoL ?_ _ _ _ h.out⟩
  rintro e a w ⟨f, rfl, hq⟩
  refine ⟨f, rfl, ?_⟩
  cases e with
  | normal => exact h2 _ _ hq
  | _ => exact hq
/-- What holds behind a piece of code is said ahead of it. -/
theorem c_cutC {P : Program} {Q : QF} {n : Nat} {f : Nat → Value} {w : World} {c : Code} {R : (Nat → Value) → World → Prop} (K : (Nat → Value) → World → Prop) (h : CW P c (thenF K Q) n f w) (h2 : ∀ f w, K f w → R f w) : CW P c (thenF R Q) n f w := by
  refine ⟨Go.wp_mono h.out ?_⟩
  rintro e a w ⟨f, rfl, hq⟩
  refine ⟨f, rfl, ?_⟩
  cases e with
  | normal => exact h2 _ _ hq
  | _ => exact hq
end Go.SL
end

section
namespace Go.Proofs.YtllomopjoomdiaaGreat
open Go.SL
/-- A directory with another parent. -/
def movedIt (t : It) (b : Int) : It := { t with slots := t.slots.set 1 (b, (t.slots.getD 1 (0, ⟨#[]⟩)).2) }
theorem spliceL_up : ∀ (s : List (Int × ByteArray)) (b : Int), 2 ≤ s.length → spliceL (slotsC s) (0 + (1 : Int).toNat * 2) [.int .u16 b] = slotsC (s.set 1 (b, (s.getD 1 (0, ⟨#[]⟩)).2))
  | [], _, h => by simp at h
  | [_], _, h => by simp at h
  | e0 :: e1 :: r, b, _ => by
    show spliceL (slotsC (e0 :: e1 :: r)) 2 [_] = _
    simp [spliceL, slotsC, entC]
theorem moved_ok {t : It} (h : ItOk t) {b : Int} (hb : 0 ≤ b ∧ b ≤ 65535) : ItOk (movedIt t b) := by
  refine ⟨h.small, ⟨by show (t.slots.set 1 _).length ≤ _; rw [List.length_set]; exact h.slots.1, fun x hx => ?_⟩, h.blk, h.idx, h.nd, h.size0, h.size1, fun hk => ?_, h.links⟩
  · rcases List.mem_or_eq_of_mem_set hx with h4 | h4
    · exact h.slots.2 x h4
    · subst h4; exact hb
  · show t.size = 16 * ((t.slots.set 1 _).length : Int)
    rw [List.length_set]; exact h.dir hk
/-- A directory moved from a to b: its parent and the links of both. -/
def turnUp (m : Mod) (a b inum : Int) : Option Mod := match getX m.items inum with
  | none => none
  | some t => if t.2.2.slots.length < 2 then none else match getX (updM m inum (movedIt t.2.2 b)).items a with
    | none => none
    | some za => if za.2.2.links < 1 then none else match getX (updM (updM m inum (movedIt t.2.2 b)) a (linked za.2.2 (-1))).items b with
      | none => none
      | some zb => if 65535 < zb.2.2.links then none else some (updM (updM (updM m inum (movedIt t.2.2 b)) a (linked za.2.2 (-1))) b (linked zb.2.2 1))
def goneIf (m : Mod) (b there : Int) : Option Mod := if ¬there = 0 then goneM m b there else some m
/-- The thing itself is moved. -/
def moveM (m : Mod) (xb : It) (a b old slot inum there : Int) (name : ByteArray) (k : Int) : Option Mod :=
  match getX (updM m b (putOf xb slot (inum, name))).items a with
  | none => none
  | some ya => if ¬(ya.2.2.kind = 2 ∧ 0 ≤ old ∧ old < ya.2.2.slots.length) then none else
    match (if k = 2 ∧ ¬a = b then turnUp (updM (updM m b (putOf xb slot (inum, name))) a (putOf ya.2.2 old (0, ⟨#[]⟩))) a b inum else some (updM (updM m b (putOf xb slot (inum, name))) a (putOf ya.2.2 old (0, ⟨#[]⟩)))) with
    | none => none
    | some m5 => match goneIf m5 b there with
      | none => none
      | some m6 => some (if ¬there = 0 then reclaimM (stepM m6) there else stepM m6)
/-- Is a directory moved beneath itself? -/
def underOf (m : Mod) (k inum b : Int) : Option Bool := if k = 2 then beneathS m inum 100000 b else some false
def renameM (m : Mod) (path other : ByteArray) : Option (Mod × Int) :=
  if ¬(endsOf path other).2.2 = 0 then some (m, (endsOf path other).2.2) else match parentS m (endsOf path other).1 with
  | none => none
  | some a => if ¬a.2 = 0 then some (m, a.2) else match getX m.items a.1 with
    | none => none
    | some xa => if (lookOf xa.2.2 (lastN (endsOf path other).1)).1 < 0 then some (m, 5) else match parentS m (endsOf path other).2.1 with
      | none => none
      | some b => if ¬b.2 = 0 then some (m, b.2) else match getX m.items b.1 with
        | none => none
        | some xb => if 0 ≤ (lookOf xb.2.2 (lastN (endsOf path other).2.1)).1 ∧ (lookOf xb.2.2 (lastN (endsOf path other).2.1)).2 = (lookOf xa.2.2 (lastN (endsOf path other).1)).2 then some (m, 0) else
          match getX m.items (lookOf xa.2.2 (lastN (endsOf path other).1)).2 with
          | none => none
          | some t => match underOf m t.2.2.kind (lookOf xa.2.2 (lastN (endsOf path other).1)).2 b.1 with
            | none => none
            | some true => some (m, 4)
            | some false => if 0 ≤ (lookOf xb.2.2 (lastN (endsOf path other).2.1)).1 then match getX m.items (lookOf xb.2.2 (lastN (endsOf path other).2.1)).2 with
                | none => none
                | some u => if ¬overOf t.2.2 u.2.2 = 0 then some (m, overOf t.2.2 u.2.2) else
                  (moveM m xb.2.2 a.1 b.1 (lookOf xa.2.2 (lastN (endsOf path other).1)).1 (lookOf xb.2.2 (lastN (endsOf path other).2.1)).1 (lookOf xa.2.2 (lastN (endsOf path other).1)).2 (lookOf xb.2.2 (lastN (endsOf path other).2.1)).2 (lastN (endsOf path other).2.1) t.2.2.kind).map fun m' => (m', 0)
              else if (t.2.2.kind = 2 ∧ ¬a.1 = b.1) ∧ 1000 ≤ xb.2.2.links then some (m, 18) else
                if ¬(roomOf m xb.2.2 0 0).2 = 0 then some (m, (roomOf m xb.2.2 0 0).2) else
                (moveM m xb.2.2 a.1 b.1 (lookOf xa.2.2 (lastN (endsOf path other).1)).1 (roomOf m xb.2.2 0 0).1 (lookOf xa.2.2 (lastN (endsOf path other).1)).2 0 (lastN (endsOf path other).2.1) t.2.2.kind).map fun m' => (m', 0)
theorem getX_without_ne {l : List Itm} {k q : Int} (h : q ≠ k) : getX (without l k) q = getX l q := by
  unfold getX without
  induction l with
  | nil => rfl
  | cons x l ih =>
    by_cases h1 : x.1 = k
    · rw [List.filter_cons_of_neg (by simpa using h1), List.find?_cons_of_neg (by rw [h1]; simpa using fun e => h e.symm)]
      exact ih
    · rw [List.filter_cons_of_pos (by simpa using h1)]
      by_cases h2 : x.1 = q
      · rw [List.find?_cons_of_pos (by simpa using h2), List.find?_cons_of_pos (by simpa using h2)]
      · rw [List.find?_cons_of_neg (by simpa using h2), List.find?_cons_of_neg (by simpa using h2)]
        exact ih
theorem upd_kept {l : List Itm} {k q : Int} {x z : Itm} {y : It} (hx : getX l q = some x) (hz : getX l k = some z) (hk : y.kind = z.2.2.kind) : ∃ x', getX (updI l k y) q = some x' ∧ x'.2.1 = x.2.1 ∧ x'.2.2.kind = x.2.2.kind := by
  by_cases h : q = k
  · subst h
    rw [hx] at hz
    cases hz
    exact ⟨_, getX_upd hx y, rfl, hk⟩
  · exact ⟨x, (getX_upd_ne y h).trans hx, rfl, rfl⟩
theorem turnUp_fine {m m' : Mod} {a b inum : Int} (hf : Fine m) (hb : 0 ≤ b ∧ b ≤ 65535) (hr : turnUp m a b inum = some m') : Fine m' ∧ m'.told = m.told := by
  unfold turnUp at hr
  split at hr
  · cases hr
  rename_i t ht
  split at hr
  · cases hr
  split at hr
  · cases hr
  rename_i za hza
  split at hr
  · cases hr
  split at hr
  · cases hr
  rename_i zb hzb
  split at hr
  · cases hr
  cases hr
  have hf1 : Fine (updM m inum (movedIt t.2.2 b)) := hf.upd (moved_ok (hf.it t (getX_some ht).1) hb)
  have hit1 := hf1.it za (getX_some hza).1
  have hl1 := hit1.links
  have hf2 : Fine (updM (updM m inum (movedIt t.2.2 b)) a (linked za.2.2 (-1))) := hf1.upd (linked_ok hit1 (by omega))
  have hit2 := hf2.it zb (getX_some hzb).1
  have hl2 := hit2.links
  exact ⟨hf2.upd (linked_ok hit2 (by omega)), rfl⟩
theorem goneIf_fine {m m' : Mod} {b there : Int} (hf : Fine m) (hr : goneIf m b there = some m') : Fine m' ∧ m'.told = m.told := by
  unfold goneIf at hr
  split at hr
  · exact gone_fine hf hr
  · cases hr; exact ⟨hf, rfl⟩
theorem ends_len (a b : ByteArray) : (endsOf a b).1.length ≤ 1025 ∧ (endsOf a b).2.1.length ≤ 1025 ∧ ((endsOf a b).2.2 = 0 → 1 ≤ (endsOf a b).1.length ∧ 1 ≤ (endsOf a b).2.1.length) := by
  have h1 := parse_len a
  have h2 := parse_len b
  unfold endsOf
  split
  · exact ⟨by simp, by simp, fun h => absurd h (by assumption)⟩
  split
  · exact ⟨by simp, by simp, fun h => absurd h (by assumption)⟩
  split
  · exact ⟨by simp, by simp, fun h => (by cases h)⟩
  split
  · exact ⟨by simp, by simp, fun h => (by cases h)⟩
  · exact ⟨h1, h2, fun _ => by show 1 ≤ (parseOf a).1.length ∧ 1 ≤ (parseOf b).1.length; omega⟩
theorem rename_spec {w0 w : World} {G : List Asn} {p : Nat} {m : Mod} {path other : ByteArray} {r : Mod × Int} (hf : Fine m) (hT : m.told.length ≤ 899999999) (hp : path.size ≤ 4611686018427387904) (hp2 : other.size ≤ 4611686018427387904) (hO : renameM m path other = some r) (hS : Sat w0 w (modA p m :: G)) :
    CR Tryz.prog 68 [ptr p, .string path, .string other] w fun v w' => v = vi r.2 ∧ Sat w0 w' (modA p r.1 :: G) := by
  refine calls_enter Tryz.func68 rfl rfl rfl ?_
  have hkeys := Sat.keysM hS
  unfold renameM at hO
  (repeat (first | (apply o_pure ok; · conv => { lhs; whnf; arg 1; whnf }) | refine c_seq ?_ | refine c_region ?_ | refine o_nil ?_ | refine q_then ?_))
  refine o_call ok rfl rfl (ends_spec path other hp hp2 hS) (fun v w h => ?_)
  obtain ⟨nv, nv2, rfl, hS⟩ := h
  have hl := ends_len path other
  generalize endsOf path other = es at hO hS hl ⊢
  obtain ⟨ps, qs, e⟩ := es
  simp only at hO hS hl
  (repeat (first | (apply o_pure ok; · conv => { lhs; whnf; arg 1; whnf }) | refine c_seq ?_ | refine c_region ?_ | refine o_nil ?_ | refine q_then ?_))
  refine c_cond_d rfl (fun h1 => ?_) (fun h1 => ?_)
  · rw [if_pos (show ¬e = 0 from h1)] at hO
    cases hO
    (repeat (first | (apply o_pure ok; · conv => { lhs; whnf; arg 1; whnf }) | refine c_seq ?_ | refine c_region ?_ | refine c_ret ?_ | refine o_nil ?_ | refine q_then ?_ | refine q_then_r ?_))
    exact out1 rfl ⟨rfl, hS.tail.tail⟩
  have h1' : e = 0 := Decidable.not_not.1 h1
  rw [if_neg (show ¬¬e = 0 from h1)] at hO
  have hl1 := (hl.2.2 h1').1
  have hl2 := (hl.2.2 h1').2
  obtain ⟨a, hpa⟩ : ∃ r, parentS m ps = some r := by
    cases hps : parentS m ps with
    | none => rw [hps] at hO; cases hO
    | some r => exact ⟨r, rfl⟩
  rw [hpa] at hO
  simp only at hO
  have hS : Sat w0 w (modA p m :: namesA nv ps :: namesA nv2 qs :: G) := hS.bring 2 rfl
  (repeat (first | (apply o_ptr ok; rfl; · conv => { lhs; whnf }) | (apply o_pure ok; · conv => { lhs; whnf; arg 1; whnf }) | refine c_seq ?_ | refine c_region ?_ | refine c_skip ?_ | refine q_then ?_))
  refine o_call ok rfl rfl (parent_spec hf hl1 (by omega) hpa hS) (fun v w h => ?_)
  obtain ⟨rfl, hS⟩ := h
  have hS : Sat w0 w (modA p m :: namesA nv ps :: namesA nv2 qs :: G) := hS
  (repeat (first | (apply o_pure ok; · conv => { lhs; whnf; arg 1; whnf }) | refine c_seq ?_ | refine c_region ?_ | refine o_nil ?_ | refine q_then ?_))
  refine c_cond_d rfl (fun h5 => ?_) (fun h5 => ?_)
  · rw [if_pos (show ¬a.2 = 0 from h5)] at hO
    cases hO
    (repeat (first | (apply o_pure ok; · conv => { lhs; whnf; arg 1; whnf }) | refine c_seq ?_ | refine c_region ?_ | refine c_ret ?_ | refine o_nil ?_ | refine q_then ?_ | refine q_then_r ?_))
    exact out1 rfl ⟨rfl, ((hS.bring 1 rfl).tail.bring 1 rfl).tail⟩
  obtain ⟨xa, hxa, hka⟩ := parentS_dir hpa (Decidable.not_not.1 h5)
  rw [if_neg (show ¬¬a.2 = 0 from h5), hxa] at hO
  simp only at hO
  have hita := hf.it xa (getX_some hxa).1
  obtain ⟨hlen, a1, cap, rfl, hcap, ha⟩ := Sat.rowForm hS (i := 1) rfl
  obtain ⟨b9, rfl⟩ := ha (by omega)
  obtain ⟨ib, tv, hS⟩ := Sat.modOpen hS
  (repeat (first | refine c_seq ?_ | refine c_skip ?_ | refine q_then ?_))
  have hS := Sat.itOpen hkeys hxa (hS.bring 2 rfl)
  have hS : Sat w0 w ([itemA xa.2.1 xa.2.2] ++ (itemsA (without m.items a.1) :: pt p (.cells (modC m.lay ib m.d tv) 58) :: mapA encI ib (itemsKV m.items) :: descsA m.d :: toldA tv m.told :: namesA (.slice (some ⟨b9, 0, none⟩) ps.length cap) ps :: namesA nv2 qs :: G)) := hS
  refine region_c (L := _ :: _) 17 [12] _ mixed (by kernel_rfl) hS ?_
  (repeat (first | (apply r_ptr ok rfl; rfl; · conv => { lhs; whnf }) | (apply r_pure ok rfl; · conv => { lhs; whnf; arg 1; whnf }) | (apply r_rd rfl; apply rd_load ok (i := 1); rfl; rfl; rfl; rfl; · conv => { lhs; whnf; arg 1; whnf })))
  apply r_rd rfl (v := ptr xa.2.1) (rd_item ok hxa rfl rfl rfl rfl rfl (i := 2) rfl)
  (repeat (first | (apply r_sub rfl; rfl; rfl; omega) | (apply r_pure ok rfl; · conv => { lhs; whnf; arg 1; whnf })))
  apply r_rd rfl (rd_indexAddr ok rfl rfl rfl rfl (by omega))
  apply r_rd rfl (v := .string (lastN ps)) (rd_loadR ok rfl rfl rfl (i := 5) rfl rfl (lastN_get hl1))
  skip
  refine r_chain (.tuple #[vi (lookOf xa.2.2 (lastN ps)).1, vi (lookOf xa.2.2 (lastN ps)).2]) rfl rfl ?_
  (repeat (first | (apply r_pure ok rfl; · conv => { lhs; whnf; arg 1; whnf }) | refine r_nil ?_))
  refine ch_told rfl (fun G2 w hS => ?_)
  refine o_call ok rfl rfl (look_spec hita.slots hS) (fun v w h => ?_)
  obtain ⟨rfl, hS⟩ := h
  refine o_nil ⟨rfl, upd_self _ _ _ rfl, [_], hS, ch_nil ?_⟩
  intro w hS
  have hS := Sat.modClose ((Sat.itSame hkeys hxa hS).back 2 rfl)
  have hS := (hS.bring 1 rfl).tail
  have hlok := @lookOf_ok xa.2.2 (lastN ps)
  generalize lookOf xa.2.2 (lastN ps) = la at hO hlok ⊢
  (repeat (first | (apply o_pure ok; · conv => { lhs; whnf; arg 1; whnf }) | refine c_seq ?_ | refine c_region ?_ | refine o_nil ?_ | refine q_then ?_))
  refine c_cond_d rfl (fun h6 => ?_) (fun h6 => ?_)
  · rw [if_pos h6] at hO
    cases hO
    (repeat (first | (apply o_pure ok; · conv => { lhs; whnf; arg 1; whnf }) | refine c_seq ?_ | refine c_region ?_ | refine c_ret ?_ | refine o_nil ?_ | refine q_then ?_ | refine q_then_r ?_))
    exact out1 rfl ⟨rfl, (hS.bring 1 rfl).tail⟩
  rw [if_neg h6] at hO
  have hla := hlok h6
  obtain ⟨b, hpb⟩ : ∃ r, parentS m qs = some r := by
    cases hps : parentS m qs with
    | none => rw [hps] at hO; cases hO
    | some r => exact ⟨r, rfl⟩
  rw [hpb] at hO
  simp only at hO
  (repeat (first | (apply o_ptr ok; rfl; · conv => { lhs; whnf }) | (apply o_pure ok; · conv => { lhs; whnf; arg 1; whnf }) | refine c_seq ?_ | refine c_region ?_ | refine c_skip ?_ | refine q_then ?_))
  refine o_call ok rfl rfl (parent_spec hf hl2 (by omega) hpb hS) (fun v w h => ?_)
  obtain ⟨rfl, hS⟩ := h
  have hS : Sat w0 w (modA p m :: namesA nv2 qs :: G) := hS
  (repeat (first | (apply o_pure ok; · conv => { lhs; whnf; arg 1; whnf }) | refine c_seq ?_ | refine c_region ?_ | refine o_nil ?_ | refine q_then ?_))
  refine c_cond_d rfl (fun h5 => ?_) (fun h5 => ?_)
  · rw [if_pos (show ¬b.2 = 0 from h5)] at hO
    cases hO
    (repeat (first | (apply o_pure ok; · conv => { lhs; whnf; arg 1; whnf }) | refine c_seq ?_ | refine c_region ?_ | refine c_ret ?_ | refine o_nil ?_ | refine q_then ?_ | refine q_then_r ?_))
    exact out1 rfl ⟨rfl, (hS.bring 1 rfl).tail⟩
  obtain ⟨xb, hxb, hkb⟩ := parentS_dir hpb (Decidable.not_not.1 h5)
  rw [if_neg (show ¬¬b.2 = 0 from h5), hxb] at hO
  simp only at hO
  have hitb := hf.it xb (getX_some hxb).1
  obtain ⟨hlen, a1, cap2, rfl, hcap2, ha2⟩ := Sat.rowForm hS (i := 1) rfl
  obtain ⟨b8, rfl⟩ := ha2 (by omega)
  (repeat (first | (apply o_sub; rfl; rfl; omega) | (apply o_pure ok; · conv => { lhs; whnf; arg 1; whnf }) | refine c_seq ?_ | refine c_region ?_ | refine c_skip ?_ | refine q_then ?_))
  apply o_rd hS (rd_indexAddr ok rfl rfl rfl rfl (by omega))
  apply o_rd hS (rd_loadR (v := .string (lastN qs)) ok rfl rfl rfl (i := 1) rfl rfl (lastN_get hl2))
  have hS := (hS.bring 1 rfl).tail
  obtain ⟨ib, tv, hS⟩ := Sat.modOpen hS
  (repeat (first | (apply o_ptr ok; rfl; · conv => { lhs; whnf }) | (apply o_pure ok; · conv => { lhs; whnf; arg 1; whnf }) | refine c_seq ?_ | refine c_region ?_ | refine o_nil ?_ | refine q_then ?_ | (apply o_rd hS; apply rd_load ok (i := 0); rfl; rfl; rfl; rfl; · conv => { lhs; whnf; arg 1; whnf })))
  refine o_rd (v := ptr xb.2.1) hS (rd_item ok hxb rfl rfl rfl rfl rfl (i := 1) rfl) ?_
  have hS := Sat.itTake hxb (Sat.modClose hS)
  (repeat (first | (apply o_pure ok; · conv => { lhs; whnf; arg 1; whnf })))
  refine o_call ok rfl rfl (look_spec hitb.slots hS) (fun v w h => ?_)
  obtain ⟨rfl, hS⟩ := h
  have hS := Sat.itBack hkeys hxb hS
  generalize hlb : lookOf xb.2.2 (lastN qs) = lb at hO ⊢
  have hlbk : 0 ≤ lb.1 → 0 ≤ lb.1 ∧ lb.1 < xb.2.2.slots.length := fun h => by rw [← hlb] at h ⊢; exact lookOf_ok (by omega)
  generalize lastN qs = nm at hO hlb ⊢
  (repeat (first | (apply o_pure ok; · conv => { lhs; whnf; arg 1; whnf }) | refine c_seq ?_ | refine c_region ?_ | refine o_nil ?_ | refine q_then ?_))
  refine c_cutL (K := fun g w => ∃ (jk : Nat → Value), g = updL [(0, ptr p), (10, vi a.1), (11, vi la.1), (12, vi la.2), (13, vi b.1), (14, .string nm), (15, vi lb.1), (16, vi lb.2), (87, .bool (decide (0 ≤ lb.1 ∧ lb.2 = la.2)))] jk ∧ Sat w0 w (modA p m :: G)) ?_ ?_
  · refine o_guard_d rfl rfl rfl (fun h7 => ?_) (fun h7 => ?_)
    · (repeat (first | (apply o_pure ok; · conv => { lhs; whnf; arg 1; whnf }) | refine o_nil ?_ | refine q_then ?_ | refine o_want rfl rfl rfl ?_))
      exact ⟨_, updL_self _ _ ⟨rfl, rfl, rfl, rfl, rfl, rfl, rfl, rfl, congrArg Value.bool (decide_eq_decide.2 ⟨fun h => ⟨h7, h⟩, fun h => h.2⟩), trivial⟩, hS⟩
    · (repeat (first | (apply o_pure ok; · conv => { lhs; whnf; arg 1; whnf }) | refine o_nil ?_ | refine q_then ?_ | refine o_pass rfl rfl rfl rfl ?_))
      exact ⟨_, updL_self _ _ ⟨rfl, rfl, rfl, rfl, rfl, rfl, rfl, rfl, congrArg Value.bool (decide_eq_false (fun h => h7 h.1)).symm, trivial⟩, hS⟩
  rintro g w ⟨jk, rfl, hS⟩
  skip
  refine c_cond_d rfl (fun hC => ?_) (fun hC => ?_)
  · rw [if_pos hC] at hO
    cases hO
    (repeat (first | (apply o_pure ok; · conv => { lhs; whnf; arg 1; whnf }) | refine c_seq ?_ | refine c_region ?_ | refine c_ret ?_ | refine o_nil ?_ | refine q_then ?_ | refine q_then_r ?_))
    exact out1 rfl ⟨rfl, hS⟩
  rw [if_neg hC] at hO
  obtain ⟨t, ht⟩ : ∃ r, getX m.items la.2 = some r := by
    cases hps : getX m.items la.2 with
    | none => rw [hps] at hO; cases hO
    | some r => exact ⟨r, rfl⟩
  rw [ht] at hO
  simp only at hO
  obtain ⟨ud, hud⟩ : ∃ r, underOf m t.2.2.kind la.2 b.1 = some r := by
    cases hps : underOf m t.2.2.kind la.2 b.1 with
    | none => rw [hps] at hO; cases hO
    | some r => exact ⟨r, rfl⟩
  rw [hud] at hO
  unfold underOf at hud
  obtain ⟨ib, tv, hS⟩ := Sat.modOpen hS
  (repeat (first | (apply o_ptr ok; rfl; · conv => { lhs; whnf }) | (apply o_pure ok; · conv => { lhs; whnf; arg 1; whnf }) | refine c_seq ?_ | refine c_region ?_ | refine c_skip ?_ | refine q_then ?_ | (apply o_rd hS; apply rd_load ok (i := 0); rfl; rfl; rfl; rfl; · conv => { lhs; whnf; arg 1; whnf })))
  refine o_rd (v := ptr t.2.1) hS (rd_item ok ht rfl rfl rfl rfl rfl (i := 1) rfl) ?_
  have hS := Sat.itTake ht (Sat.modClose hS)
  obtain ⟨dm, sv, hS⟩ := Sat.itemOpen hS
  (repeat (first | (apply o_ptr ok; rfl; · conv => { lhs; whnf }) | (apply o_pure ok; · conv => { lhs; whnf; arg 1; whnf }) | refine c_seq ?_ | refine c_region ?_ | refine o_nil ?_ | refine q_then ?_ | (apply o_rd hS; apply rd_load ok (i := 0); rfl; rfl; rfl; rfl; · conv => { lhs; whnf; arg 1; whnf })))
  have hS := Sat.itBack hkeys ht (Sat.itemClose hS)
  refine c_cutL (K := fun g w => ∃ (jk : Nat → Value), g = updL [(0, ptr p), (10, vi a.1), (11, vi la.1), (12, vi la.2), (13, vi b.1), (14, .string nm), (15, vi lb.1), (16, vi lb.2), (17, ptr t.2.1), (104, .bool ud)] jk ∧ Sat w0 w (modA p m :: G)) ?_ ?_
  · by_cases hk : t.2.2.kind = 2
    · rw [if_pos hk] at hud
      refine o_guard_d rfl rfl rfl (fun h7 => ?_) (fun h7 => absurd hk h7)
      (repeat (first | (apply o_ptr ok; rfl; · conv => { lhs; whnf }) | (apply o_pure ok; · conv => { lhs; whnf; arg 1; whnf }) | refine o_want rfl rfl rfl ?_))
      refine o_call ok rfl rfl (beneath_spec hf hud hS) (fun v w h => ?_)
      obtain ⟨rfl, hS⟩ := h
      (repeat (first | (apply o_pure ok; · conv => { lhs; whnf; arg 1; whnf }) | refine o_nil ?_ | refine q_then ?_))
      exact ⟨_, updL_self _ _ ⟨rfl, rfl, rfl, rfl, rfl, rfl, rfl, rfl, rfl, rfl, trivial⟩, hS⟩
    · rw [if_neg hk] at hud
      cases hud
      refine o_guard_d rfl rfl rfl (fun h7 => absurd h7 hk) (fun h7 => ?_)
      (repeat (first | (apply o_pure ok; · conv => { lhs; whnf; arg 1; whnf }) | refine o_nil ?_ | refine q_then ?_ | refine o_pass rfl rfl rfl rfl ?_))
      exact ⟨_, updL_self _ _ ⟨rfl, rfl, rfl, rfl, rfl, rfl, rfl, rfl, rfl, rfl, trivial⟩, hS⟩
  rintro g w ⟨jk, rfl, hS⟩
  skip
  refine c_cond_b rfl (fun h8 => ?_) (fun h8 => ?_)
  · subst h8
    cases hO
    (repeat (first | (apply o_pure ok; · conv => { lhs; whnf; arg 1; whnf }) | refine c_seq ?_ | refine c_region ?_ | refine c_ret ?_ | refine o_nil ?_ | refine q_then ?_ | refine q_then_r ?_))
    exact out1 rfl ⟨rfl, hS⟩
  subst h8
  simp only at hO
  (repeat (first | (apply o_pure ok; · conv => { lhs; whnf; arg 1; whnf }) | refine c_seq ?_ | refine c_region ?_ | refine c_skip ?_ | refine o_nil ?_ | refine q_then ?_))
  refine c_cutC (K := fun g w => ∃ (slot there : Int) (m' : Mod) (jk : Nat → Value), 0 ≤ slot ∧ slot ≤ xb.2.2.slots.length ∧ (slot = xb.2.2.slots.length → xb.2.2.size < 67381248) ∧
    moveM m xb.2.2 a.1 b.1 la.1 slot la.2 there nm t.2.2.kind = some m' ∧ r = (m', 0) ∧ g = updL [(0, ptr p), (10, vi a.1), (11, vi la.1), (12, vi la.2), (13, vi b.1), (14, .string nm), (15, vi slot), (16, vi there), (17, ptr t.2.1)] jk ∧ Sat w0 w (modA p m :: G)) ?_ ?_
  · refine c_cond_d rfl (fun h9 => ?_) (fun h9 => ?_)
    · rw [if_pos h9] at hO
      obtain ⟨u, hu⟩ : ∃ r, getX m.items lb.2 = some r := by
        cases hps : getX m.items lb.2 with
        | none => rw [hps] at hO; cases hO
        | some r => exact ⟨r, rfl⟩
      rw [hu] at hO
      simp only at hO
      have hne : ¬lb.2 = la.2 := fun h => hC ⟨h9, h⟩
      obtain ⟨ib, tv, hS⟩ := Sat.modOpen hS
      (repeat (first | (apply o_ptr ok; rfl; · conv => { lhs; whnf }) | (apply o_pure ok; · conv => { lhs; whnf; arg 1; whnf }) | refine c_seq ?_ | refine c_region ?_ | (apply o_rd hS; apply rd_load ok (i := 0); rfl; rfl; rfl; rfl; · conv => { lhs; whnf; arg 1; whnf })))
      refine o_rd (v := ptr u.2.1) hS (rd_item ok hu rfl rfl rfl rfl rfl (i := 1) rfl) ?_
      have hS := Sat.itOpen hkeys hu (hS.bring 2 rfl)
      have hkeys2 : ((without m.items lb.2).map (·.1)).Nodup := hkeys.sublist (List.filter_sublist.map _)
      have ht2 : getX (without m.items lb.2) la.2 = some t := by rw [getX_without_ne (fun e => hne e.symm)]; exact ht
      have hS := Sat.itOpen hkeys2 ht2 (hS.bring 1 rfl)
      have hS : Sat w0 w (itemA t.2.1 t.2.2 :: itemA u.2.1 u.2.2 :: itemsA (without (without m.items lb.2) la.2) :: pt p (.cells (modC m.lay ib m.d tv) 58) :: mapA encI ib (itemsKV m.items) :: descsA m.d :: toldA tv m.told :: G) := hS.bring 2 rfl |>.bring 1 rfl
      skip
      refine o_call ok rfl rfl (over_spec (hf.it u (getX_some hu).1).slots.1 hS) (fun v w h => ?_)
      obtain ⟨rfl, hS⟩ := h
      have hS := Sat.itSame hkeys2 ht2 ((hS.bring 1 rfl).back 2 rfl)
      have hS := Sat.itSame hkeys hu (hS.bring 1 rfl)
      have hS := Sat.modClose (hS.back 2 rfl)
      (repeat (first | (apply o_pure ok; · conv => { lhs; whnf; arg 1; whnf }) | refine c_seq ?_ | refine c_region ?_ | refine o_nil ?_ | refine q_then ?_))
      refine c_cond_d rfl (fun h10 => ?_) (fun h10 => ?_)
      · rw [if_pos (show ¬overOf t.2.2 u.2.2 = 0 from h10)] at hO
        cases hO
        (repeat (first | (apply o_pure ok; · conv => { lhs; whnf; arg 1; whnf }) | refine c_seq ?_ | refine c_region ?_ | refine c_ret ?_ | refine o_nil ?_ | refine q_then ?_ | refine q_then_r ?_))
        exact out1 rfl ⟨rfl, hS⟩
      rw [if_neg (show ¬¬overOf t.2.2 u.2.2 = 0 from h10)] at hO
      obtain ⟨m', hm, hr⟩ := Option.map_eq_some_iff.1 hO
      have hlb2 := hlbk h9
      (repeat (first | refine c_skip ?_ | refine q_then ?_))
      exact ⟨lb.1, lb.2, m', _, h9, by omega, fun h => by omega, hm, hr.symm, updL_self _ _ ⟨rfl, rfl, rfl, rfl, rfl, rfl, rfl, rfl, rfl, trivial⟩, hS⟩
    · rw [if_neg h9] at hO
      have hS := Sat.itTake ht hS
      obtain ⟨dm, sv, hS⟩ := Sat.itemOpen hS
      (repeat (first | (apply o_ptr ok; rfl; · conv => { lhs; whnf }) | (apply o_pure ok; · conv => { lhs; whnf; arg 1; whnf }) | refine c_seq ?_ | refine c_region ?_ | (apply o_rd hS; apply rd_load ok (i := 0); rfl; rfl; rfl; rfl; · conv => { lhs; whnf; arg 1; whnf })))
      have hS := Sat.itBack hkeys ht (Sat.itemClose hS)
      refine c_cutL (K := fun g w => ∃ (jk : Nat → Value), g = updL [(0, ptr p), (10, vi a.1), (11, vi la.1), (12, vi la.2), (13, vi b.1), (14, .string nm), (17, ptr t.2.1), (139, .bool (decide ((t.2.2.kind = 2 ∧ ¬a.1 = b.1) ∧ 1000 ≤ xb.2.2.links)))] jk ∧ Sat w0 w (modA p m :: G)) ?_ ?_
      · by_cases hk : t.2.2.kind = 2
        · refine o_guard_d rfl rfl rfl (fun h7 => ?_) (fun h7 => absurd hk h7)
          obtain ⟨ib, tv, hS⟩ := Sat.modOpen hS
          (repeat (first | (apply o_pure ok; · conv => { lhs; whnf; arg 1; whnf }) | refine o_want rfl rfl rfl ?_))
          refine o_guard_d rfl rfl rfl (fun h8 => ?_) (fun h8 => ?_)
          · (repeat (first | (apply o_ptr ok; rfl; · conv => { lhs; whnf }) | (apply o_pure ok; · conv => { lhs; whnf; arg 1; whnf }) | refine o_want rfl rfl rfl ?_ | (apply o_rd hS; apply rd_load ok (i := 0); rfl; rfl; rfl; rfl; · conv => { lhs; whnf; arg 1; whnf })))
            refine o_rd (v := ptr xb.2.1) hS (rd_item ok hxb rfl rfl rfl rfl rfl (i := 1) rfl) ?_
            have hS := Sat.itTake hxb (Sat.modClose hS)
            obtain ⟨dm, sv, hS⟩ := Sat.itemOpen hS
            (repeat (first | (apply o_ptr ok; rfl; · conv => { lhs; whnf }) | (apply o_pure ok; · conv => { lhs; whnf; arg 1; whnf }) | refine o_nil ?_ | refine q_then ?_ | refine o_want rfl rfl rfl ?_ | (apply o_rd hS; apply rd_load ok (i := 0); rfl; rfl; rfl; rfl; · conv => { lhs; whnf; arg 1; whnf })))
            exact ⟨_, updL_self _ _ ⟨rfl, rfl, rfl, rfl, rfl, rfl, rfl, congrArg Value.bool (decide_eq_decide.2 ⟨fun h => ⟨⟨hk, h8⟩, h⟩, fun h => h.2⟩), trivial⟩, Sat.itBack hkeys hxb (Sat.itemClose hS)⟩
          · (repeat (first | (apply o_pure ok; · conv => { lhs; whnf; arg 1; whnf }) | refine o_nil ?_ | refine q_then ?_ | refine o_pass rfl rfl rfl rfl ?_))
            exact ⟨_, updL_self _ _ ⟨rfl, rfl, rfl, rfl, rfl, rfl, rfl, congrArg Value.bool (decide_eq_false (fun h => h8 h.1.2)).symm, trivial⟩, Sat.modClose hS⟩
        · refine o_guard_d rfl rfl rfl (fun h7 => absurd h7 hk) (fun h7 => ?_)
          (repeat (first | (apply o_pure ok; · conv => { lhs; whnf; arg 1; whnf }) | refine o_nil ?_ | refine q_then ?_ | refine o_pass rfl rfl rfl rfl ?_))
          exact ⟨_, updL_self _ _ ⟨rfl, rfl, rfl, rfl, rfl, rfl, rfl, congrArg Value.bool (decide_eq_false (fun h => hk h.1.1)).symm, trivial⟩, hS⟩
      rintro g w ⟨jk, rfl, hS⟩
      skip
      refine c_cond_d rfl (fun h10 => ?_) (fun h10 => ?_)
      · rw [if_pos h10] at hO
        cases hO
        (repeat (first | (apply o_pure ok; · conv => { lhs; whnf; arg 1; whnf }) | refine c_seq ?_ | refine c_region ?_ | refine c_ret ?_ | refine o_nil ?_ | refine q_then ?_ | refine q_then_r ?_))
        exact out1 rfl ⟨rfl, hS⟩
      rw [if_neg h10] at hO
      (repeat (first | (apply o_ptr ok; rfl; · conv => { lhs; whnf }) | (apply o_pure ok; · conv => { lhs; whnf; arg 1; whnf }) | refine c_seq ?_ | refine c_region ?_ | refine c_skip ?_ | refine q_then ?_))
      refine o_call ok rfl rfl (room_spec hf hxb hitb.size0 (by decide) hS) (fun v w h => ?_)
      obtain ⟨rfl, hS⟩ := h
      have hroom := @roomOf_ok m xb.2.2 0 0
      (repeat (first | (apply o_pure ok; · conv => { lhs; whnf; arg 1; whnf }) | refine c_seq ?_ | refine c_region ?_ | refine o_nil ?_ | refine q_then ?_))
      refine c_cond_d rfl (fun h8 => ?_) (fun h8 => ?_)
      · rw [if_pos (show ¬(roomOf m xb.2.2 0 0).2 = 0 from h8)] at hO
        cases hO
        (repeat (first | (apply o_pure ok; · conv => { lhs; whnf; arg 1; whnf }) | refine c_seq ?_ | refine c_region ?_ | refine c_ret ?_ | refine o_nil ?_ | refine q_then ?_ | refine q_then_r ?_))
        exact out1 rfl ⟨rfl, hS⟩
      rw [if_neg (show ¬¬(roomOf m xb.2.2 0 0).2 = 0 from h8)] at hO
      obtain ⟨hr1, hr2, hr3, _⟩ := hroom (Decidable.not_not.1 h8)
      obtain ⟨m', hm, hr⟩ := Option.map_eq_some_iff.1 hO
      (repeat (first | (apply o_pure ok; · conv => { lhs; whnf; arg 1; whnf }) | refine c_region ?_ | refine c_skip ?_ | refine o_nil ?_ | refine q_then ?_))
      exact ⟨_, 0, m', _, hr1, hr2, hr3, hm, hr.symm, updL_self _ _ ⟨rfl, rfl, rfl, rfl, rfl, rfl, rfl, rfl, rfl, trivial⟩, hS⟩
  rintro g w ⟨slot, there, m', jk, hr1, hr2, hr3, hmv, rfl, rfl, hS⟩
  unfold moveM at hmv
  obtain ⟨ya, hya⟩ : ∃ r, getX (updM m b.1 (putOf xb.2.2 slot (la.2, nm))).items a.1 = some r := by
    cases hps : getX (updM m b.1 (putOf xb.2.2 slot (la.2, nm))).items a.1 with
    | none => rw [hps] at hmv; cases hmv
    | some r => exact ⟨r, rfl⟩
  rw [hya] at hmv
  simp only at hmv
  by_cases hok : ya.2.2.kind = 2 ∧ 0 ≤ la.1 ∧ la.1 < ya.2.2.slots.length
  rotate_left
  · rw [if_pos hok] at hmv; cases hmv
  rw [if_neg (fun h => h hok)] at hmv
  obtain ⟨hyk, hyo, hyl⟩ := hok
  have ht0 := hf.key t (getX_some ht).1
  have hte := (getX_some ht).2
  have hb0 := hf.key xb (getX_some hxb).1
  have hbe := (getX_some hxb).2
  obtain ⟨ib, tv, hS⟩ := Sat.modOpen hS
  (repeat (first | (apply o_ptr ok; rfl; · conv => { lhs; whnf }) | (apply o_pure ok; · conv => { lhs; whnf; arg 1; whnf }) | refine c_seq ?_ | refine c_region ?_ | (apply o_rd hS; apply rd_load ok (i := 0); rfl; rfl; rfl; rfl; · conv => { lhs; whnf; arg 1; whnf })))
  refine o_rd (v := ptr xb.2.1) hS (rd_item ok hxb rfl rfl rfl rfl rfl (i := 1) rfl) ?_
  have hS := Sat.itTake hxb (Sat.modClose hS)
  (repeat (first | (apply o_pure ok; · conv => { lhs; whnf; arg 1; whnf }) | (apply o_rd hS; apply rd_build1 ok; rfl; rfl; rfl; rfl)))
  rw [w_u16 (show 0 ≤ la.2 ∧ la.2 ≤ 65535 by omega)]
  refine o_call (l := [ptr xb.2.1, vi slot, .agg (entC (la.2, nm)).toArray]) ok rfl rfl (put_spec hitb.slots.1 ⟨hitb.size0, hitb.small.1⟩ ⟨hr1, hr2⟩ hS) (fun v w h => ?_)
  obtain ⟨rfl, hS⟩ := h
  have hS := Sat.itGive hkeys hxb hS
  have hf1 : Fine (updM m b.1 (putOf xb.2.2 slot (la.2, nm))) := hf.upd (put_ok hitb hkb ⟨hr1, hr2⟩ hr3 (by show 0 ≤ la.2 ∧ la.2 ≤ 65535; omega))
  have ht1 : (updM m b.1 (putOf xb.2.2 slot (la.2, nm))).told = m.told := rfl
  obtain ⟨t1, htx1, htp1, htk1⟩ : ∃ x', getX (updM m b.1 (putOf xb.2.2 slot (la.2, nm))).items la.2 = some x' ∧ x'.2.1 = t.2.1 ∧ x'.2.2.kind = t.2.2.kind := upd_kept ht hxb (putOf_kind _ _ _)
  generalize updM m b.1 (putOf xb.2.2 slot (la.2, nm)) = m1 at hya hmv hS hf1 ht1 htx1
  have hkeys1 := Sat.keysM hS
  have hity := hf1.it ya (getX_some hya).1
  obtain ⟨ib, tv, hS⟩ := Sat.modOpen hS
  (repeat (first | (apply o_ptr ok; rfl; · conv => { lhs; whnf }) | (apply o_pure ok; · conv => { lhs; whnf; arg 1; whnf }) | refine c_seq ?_ | refine c_region ?_ | refine o_nil ?_ | refine q_then ?_ | (apply o_rd hS; apply rd_load ok (i := 0); rfl; rfl; rfl; rfl; · conv => { lhs; whnf; arg 1; whnf })))
  refine o_rd (v := ptr ya.2.1) hS (rd_item ok hya rfl rfl rfl rfl rfl (i := 1) rfl) ?_
  have hS := Sat.itTake hya (Sat.modClose hS)
  (repeat (first | (apply o_pure ok; · conv => { lhs; whnf; arg 1; whnf }) | (apply o_rd hS; apply rd_build1 ok; rfl; rfl; rfl; rfl)))
  refine o_call (l := [ptr ya.2.1, vi la.1, .agg (entC (0, ⟨#[]⟩)).toArray]) ok rfl rfl (put_spec hity.slots.1 ⟨hity.size0, hity.small.1⟩ ⟨hyo, by omega⟩ hS) (fun v w h => ?_)
  obtain ⟨rfl, hS⟩ := h
  have hS := Sat.itGive hkeys1 hya hS
  have hf2 : Fine (updM m1 a.1 (putOf ya.2.2 la.1 (0, ⟨#[]⟩))) := hf1.upd (put_ok hity hyk ⟨hyo, by omega⟩ (fun h => by omega) (by show (0 : Int) ≤ 0 ∧ (0 : Int) ≤ _; decide))
  have ht2 : (updM m1 a.1 (putOf ya.2.2 la.1 (0, ⟨#[]⟩))).told = m.told := ht1
  obtain ⟨t2, htx2, htp2, htk2⟩ : ∃ x', getX (updM m1 a.1 (putOf ya.2.2 la.1 (0, ⟨#[]⟩))).items la.2 = some x' ∧ x'.2.1 = t1.2.1 ∧ x'.2.2.kind = t1.2.2.kind := upd_kept htx1 hya (putOf_kind _ _ _)
  generalize updM m1 a.1 (putOf ya.2.2 la.1 (0, ⟨#[]⟩)) = m2 at hmv hS hf2 ht2 htx2
  have hkeys2 := Sat.keysM hS
  rw [← htp1, ← htp2]
  have htk : t2.2.2.kind = t.2.2.kind := htk2.trans htk1
  rw [← htk] at hmv
  have hS := Sat.itTake htx2 hS
  obtain ⟨dm, sv, hS⟩ := Sat.itemOpen hS
  (repeat (first | (apply o_ptr ok; rfl; · conv => { lhs; whnf }) | (apply o_pure ok; · conv => { lhs; whnf; arg 1; whnf }) | refine c_seq ?_ | refine c_region ?_ | refine o_nil ?_ | refine q_then ?_ | (apply o_rd hS; apply rd_load ok (i := 0); rfl; rfl; rfl; rfl; · conv => { lhs; whnf; arg 1; whnf })))
  have hS := Sat.itBack hkeys2 htx2 (Sat.itemClose hS)
  refine c_cutL (K := fun g w => ∃ (jk : Nat → Value), g = updL [(0, ptr p), (10, vi a.1), (13, vi b.1), (16, vi there), (17, ptr t2.2.1), (179, .bool (decide (t2.2.2.kind = 2 ∧ ¬a.1 = b.1)))] jk ∧ Sat w0 w (modA p m2 :: G)) ?_ ?_
  · refine o_guard_d rfl rfl rfl (fun h7 => ?_) (fun h7 => ?_)
    · (repeat (first | (apply o_pure ok; · conv => { lhs; whnf; arg 1; whnf }) | refine o_nil ?_ | refine q_then ?_ | refine o_want rfl rfl rfl ?_))
      exact ⟨_, updL_self _ _ ⟨rfl, rfl, rfl, rfl, rfl, congrArg Value.bool (decide_eq_decide.2 ⟨fun h => ⟨h7, h⟩, fun h => h.2⟩), trivial⟩, hS⟩
    · (repeat (first | (apply o_pure ok; · conv => { lhs; whnf; arg 1; whnf }) | refine o_nil ?_ | refine q_then ?_ | refine o_pass rfl rfl rfl rfl ?_))
      exact ⟨_, updL_self _ _ ⟨rfl, rfl, rfl, rfl, rfl, congrArg Value.bool (decide_eq_false (fun h => h7 h.1)).symm, trivial⟩, hS⟩
  rintro g w ⟨jk, rfl, hS⟩
  skip
  refine c_cutC (K := fun g w => ∃ (m5 m6 : Mod) (jk : Nat → Value), Fine m5 ∧ m5.told = m.told ∧ goneIf m5 b.1 there = some m6 ∧ m' = (if ¬there = 0 then reclaimM (stepM m6) there else stepM m6) ∧
    g = updL [(0, ptr p), (13, vi b.1), (16, vi there)] jk ∧ Sat w0 w (modA p m5 :: G)) ?_ ?_
  · refine c_cond_d rfl (fun h9 => ?_) (fun h9 => ?_)
    · rw [if_pos h9] at hmv
      obtain ⟨m5, hm5⟩ : ∃ r, turnUp m2 a.1 b.1 la.2 = some r := by
        cases hps : turnUp m2 a.1 b.1 la.2 with
        | none => rw [hps] at hmv; cases hmv
        | some r => exact ⟨r, rfl⟩
      rw [hm5] at hmv
      simp only at hmv
      obtain ⟨m6, hm6⟩ : ∃ r, goneIf m5 b.1 there = some r := by
        cases hps : goneIf m5 b.1 there with
        | none => rw [hps] at hmv; cases hmv
        | some r => exact ⟨r, rfl⟩
      rw [hm6] at hmv
      have hf5 := turnUp_fine hf2 (by omega) hm5
      unfold turnUp at hm5
      rw [htx2] at hm5
      simp only at hm5
      by_cases hlen2 : t2.2.2.slots.length < 2
      · rw [if_pos hlen2] at hm5; cases hm5
      rw [if_neg hlen2] at hm5
      obtain ⟨za, hza⟩ : ∃ r, getX (updM m2 la.2 (movedIt t2.2.2 b.1)).items a.1 = some r := by
        cases hps : getX (updM m2 la.2 (movedIt t2.2.2 b.1)).items a.1 with
        | none => rw [hps] at hm5; cases hm5
        | some r => exact ⟨r, rfl⟩
      rw [hza] at hm5
      simp only at hm5
      by_cases hzal : za.2.2.links < 1
      · rw [if_pos hzal] at hm5; cases hm5
      rw [if_neg hzal] at hm5
      obtain ⟨zb, hzb⟩ : ∃ r, getX (updM (updM m2 la.2 (movedIt t2.2.2 b.1)) a.1 (linked za.2.2 (-1))).items b.1 = some r := by
        cases hps : getX (updM (updM m2 la.2 (movedIt t2.2.2 b.1)) a.1 (linked za.2.2 (-1))).items b.1 with
        | none => rw [hps] at hm5; cases hm5
        | some r => exact ⟨r, rfl⟩
      rw [hzb] at hm5
      simp only at hm5
      by_cases hzbl : 65535 < zb.2.2.links
      · rw [if_pos hzbl] at hm5; cases hm5
      rw [if_neg hzbl] at hm5
      cases hm5
      have hf3 : Fine (updM m2 la.2 (movedIt t2.2.2 b.1)) := hf2.upd (moved_ok (hf2.it t2 (getX_some htx2).1) (by omega))
      have hzaL := (hf3.it za (getX_some hza).1).links
      have hf4 : Fine (updM (updM m2 la.2 (movedIt t2.2.2 b.1)) a.1 (linked za.2.2 (-1))) := hf3.upd (linked_ok (hf3.it za (getX_some hza).1) (by omega))
      have hzbL := (hf4.it zb (getX_some hzb).1).links
      have hS := Sat.itTake htx2 hS
      obtain ⟨dm, sv, hS⟩ := Sat.itemOpen hS
      obtain ⟨hlen, a5, cap5, rfl, hcap5, ha5⟩ := Sat.rowForm hS (i := 2) rfl
      obtain ⟨b7, rfl⟩ := ha5 (by omega)
      (repeat (first | (apply o_ptr ok; rfl; · conv => { lhs; whnf }) | (apply o_pure ok; · conv => { lhs; whnf; arg 1; whnf }) | refine c_seq ?_ | refine c_region ?_ | (apply o_rd hS; apply rd_load ok (i := 0); rfl; rfl; rfl; rfl; · conv => { lhs; whnf; arg 1; whnf })))
      rw [w_u16 (show 0 ≤ b.1 ∧ b.1 ≤ 65535 by omega)]
      apply o_rd hS (rd_indexAddr ok rfl rfl rfl rfl (by omega))
      (repeat (first | (apply o_ptr ok; rfl; · conv => { lhs; whnf })))
      refine o_storeR (q := 2) ok hS rfl rfl rfl (i := 2) rfl rfl rfl (by rw [slotsC, flatMap_len entC 2 entC_len]; omega) (fun w hS => ?_)
      have hS : Sat w0 w (pt t2.2.1 (.cells (itemC t2.2.2 dm (.slice (some ⟨b7, 0, none⟩) t2.2.2.slots.length cap5)) 135) :: dataA t2.2.2.kind dm t2.2.2.data :: rowA 142 2 (.slice (some ⟨b7, 0, none⟩) t2.2.2.slots.length cap5) t2.2.2.slots.length (spliceL (slotsC t2.2.2.slots) (0 + (1 : Int).toNat * 2) [.int .u16 b.1]) :: modK p m2 la.2 :: G) := hS
      rw [spliceL_up _ _ (by omega)] at hS
      have hS : Sat w0 w (pt t2.2.1 (.cells (itemC (movedIt t2.2.2 b.1) dm (.slice (some ⟨b7, 0, none⟩) t2.2.2.slots.length cap5)) 135) :: dataA (movedIt t2.2.2 b.1).kind dm (movedIt t2.2.2 b.1).data :: rowA 142 2 (.slice (some ⟨b7, 0, none⟩) t2.2.2.slots.length cap5) t2.2.2.slots.length (slotsC (movedIt t2.2.2 b.1).slots) :: modK p m2 la.2 :: G) := hS
      have e5 : (movedIt t2.2.2 b.1).slots.length = t2.2.2.slots.length := by unfold movedIt; simp
      have hS := Sat.itGive hkeys2 htx2 (Sat.itemClose (t := movedIt t2.2.2 b.1) (dm := dm) (sv := .slice (some ⟨b7, 0, none⟩) t2.2.2.slots.length cap5) (by unfold slotsA; rw [e5]; exact hS))
      have hkeys3 := Sat.keysM hS
      obtain ⟨ib, tv, hS⟩ := Sat.modOpen hS
      (repeat (first | (apply o_ptr ok; rfl; · conv => { lhs; whnf }) | (apply o_pure ok; · conv => { lhs; whnf; arg 1; whnf }) | refine c_seq ?_ | refine c_region ?_ | refine o_nil ?_ | refine q_then ?_ | (apply o_rd hS; apply rd_load ok (i := 0); rfl; rfl; rfl; rfl; · conv => { lhs; whnf; arg 1; whnf })))
      refine o_rd (v := ptr za.2.1) hS (rd_item ok hza rfl rfl rfl rfl rfl (i := 1) rfl) ?_
      have hS := Sat.itTake hza (Sat.modClose hS)
      obtain ⟨dm, sv, hS⟩ := Sat.itemOpen hS
      (repeat (first | (apply o_sub; rfl; rfl; omega) | (apply o_ptr ok; rfl; · conv => { lhs; whnf }) | (apply o_rd hS; apply rd_load ok (i := 0); rfl; rfl; rfl; rfl; · conv => { lhs; whnf; arg 1; whnf })))
      (apply o_store ok hS (i := 0); rfl; (conv => { lhs; whnf }); rfl; rfl; rfl; rfl; intro w hS)
      have hS : Sat w0 w (pt za.2.1 (.cells (itemC (linked za.2.2 (-1)) dm sv) 135) :: dataA (linked za.2.2 (-1)).kind dm (linked za.2.2 (-1)).data :: slotsA sv (linked za.2.2 (-1)).slots :: modK p (updM m2 la.2 (movedIt t2.2.2 b.1)) a.1 :: G) := hS
      have hS := Sat.itGive hkeys3 hza (Sat.itemClose hS)
      have hkeys4 := Sat.keysM hS
      obtain ⟨ib, tv, hS⟩ := Sat.modOpen hS
      (repeat (first | (apply o_ptr ok; rfl; · conv => { lhs; whnf }) | (apply o_pure ok; · conv => { lhs; whnf; arg 1; whnf }) | refine c_region ?_ | refine o_nil ?_ | refine q_then ?_ | (apply o_rd hS; apply rd_load ok (i := 0); rfl; rfl; rfl; rfl; · conv => { lhs; whnf; arg 1; whnf })))
      refine o_rd (v := ptr zb.2.1) hS (rd_item ok hzb rfl rfl rfl rfl rfl (i := 1) rfl) ?_
      have hS := Sat.itTake hzb (Sat.modClose hS)
      obtain ⟨dm, sv, hS⟩ := Sat.itemOpen hS
      (repeat (first | (apply o_add; rfl; rfl; omega) | (apply o_ptr ok; rfl; · conv => { lhs; whnf }) | (apply o_rd hS; apply rd_load ok (i := 0); rfl; rfl; rfl; rfl; · conv => { lhs; whnf; arg 1; whnf })))
      (apply o_store ok hS (i := 0); rfl; (conv => { lhs; whnf }); rfl; rfl; rfl; rfl; intro w hS)
      have hS : Sat w0 w (pt zb.2.1 (.cells (itemC (linked zb.2.2 1) dm sv) 135) :: dataA (linked zb.2.2 1).kind dm (linked zb.2.2 1).data :: slotsA sv (linked zb.2.2 1).slots :: modK p (updM (updM m2 la.2 (movedIt t2.2.2 b.1)) a.1 (linked za.2.2 (-1))) b.1 :: G) := hS
      have hS := Sat.itGive hkeys4 hzb (Sat.itemClose hS)
      (repeat (first | refine o_nil ?_ | refine q_then ?_))
      exact ⟨_, m6, _, hf5.1, hf5.2.trans ht2, hm6, (Option.some.inj hmv).symm, updL_self _ _ ⟨rfl, rfl, rfl, trivial⟩, hS⟩
    · rw [if_neg h9] at hmv
      simp only at hmv
      obtain ⟨m6, hm6⟩ : ∃ r, goneIf m2 b.1 there = some r := by
        cases hps : goneIf m2 b.1 there with
        | none => rw [hps] at hmv; cases hmv
        | some r => exact ⟨r, rfl⟩
      rw [hm6] at hmv
      (repeat (first | refine c_skip ?_ | refine q_then ?_))
      exact ⟨m2, m6, _, hf2, ht2, hm6, (Option.some.inj hmv).symm, updL_self _ _ ⟨rfl, rfl, rfl, trivial⟩, hS⟩
  rintro g w ⟨m5, m6, jk, hf5, ht5, hm6, hm', rfl, hS⟩
  have hg6 := goneIf_fine hf5 hm6
  (repeat (first | (apply o_pure ok; · conv => { lhs; whnf; arg 1; whnf }) | refine c_seq ?_ | refine c_region ?_ | refine o_nil ?_ | refine q_then ?_))
  refine c_cutC (K := fun g w => ∃ (jk : Nat → Value), g = updL [(0, ptr p), (13, vi b.1), (16, vi there)] jk ∧ Sat w0 w (modA p m6 :: G)) ?_ ?_
  · refine c_cond_d rfl (fun h9 => ?_) (fun h9 => ?_)
    · unfold goneIf at hm6
      rw [if_pos (show ¬there = 0 from h9)] at hm6
      (repeat (first | (apply o_ptr ok; rfl; · conv => { lhs; whnf }) | (apply o_pure ok; · conv => { lhs; whnf; arg 1; whnf }) | refine c_region ?_))
      refine o_call ok rfl rfl (gone_spec hf5 hm6 hS) (fun v w h => ?_)
      obtain ⟨rfl, hS⟩ := h
      (repeat (first | refine o_nil ?_ | refine q_then ?_))
      exact ⟨_, updL_self _ _ ⟨rfl, rfl, rfl, trivial⟩, hS⟩
    · unfold goneIf at hm6
      rw [if_neg (show ¬¬there = 0 from h9)] at hm6
      cases hm6
      (repeat (first | refine c_skip ?_ | refine q_then ?_))
      exact ⟨_, updL_self _ _ ⟨rfl, rfl, rfl, trivial⟩, hS⟩
  rintro g w ⟨jk, rfl, hS⟩
  have htl : m6.told.length ≤ 899999999 := by rw [hg6.2, ht5]; exact hT
  (repeat (first | (apply o_ptr ok; rfl; · conv => { lhs; whnf }) | refine c_seq ?_ | refine c_region ?_))
  refine o_call ok rfl rfl (step_spec hg6.1 (by omega) hS) (fun v w h => ?_)
  obtain ⟨rfl, hS⟩ := h
  (repeat (first | (apply o_pure ok; · conv => { lhs; whnf; arg 1; whnf }) | refine c_seq ?_ | refine c_region ?_ | refine o_nil ?_ | refine q_then ?_))
  refine c_cond_d rfl (fun h9 => ?_) (fun h9 => ?_)
  · rw [if_pos (show ¬there = 0 from h9)] at hm'
    subst hm'
    (repeat (first | (apply o_ptr ok; rfl; · conv => { lhs; whnf }) | (apply o_pure ok; · conv => { lhs; whnf; arg 1; whnf }) | refine c_region ?_))
    refine o_call ok rfl rfl (reclaim_spec hg6.1.step (by show (m6.told ++ [_]).length ≤ _; rw [List.length_append, List.length_singleton]; omega) hS) (fun v w h => ?_)
    obtain ⟨rfl, hS⟩ := h
    (repeat (first | (apply o_pure ok; · conv => { lhs; whnf; arg 1; whnf }) | refine c_seq ?_ | refine c_region ?_ | refine c_ret ?_ | refine o_nil ?_ | refine q_then ?_))
    exact out1 rfl ⟨rfl, hS⟩
  · rw [if_neg (show ¬¬there = 0 from h9)] at hm'
    subst hm'
    (repeat (first | (apply o_pure ok; · conv => { lhs; whnf; arg 1; whnf }) | refine c_seq ?_ | refine c_region ?_ | refine c_skip ?_ | refine c_ret ?_ | refine o_nil ?_ | refine q_then ?_))
    exact out1 rfl ⟨rfl, hS⟩
end Go.Proofs.YtllomopjoomdiaaGreat
end

section
namespace Go.Proofs.YtllomopjoomdiaaGreat
open Go.SL
def piecesGo : Nat → Int → Int → List (Int × Int)
  | 0, _, _ => []
  | k + 1, a, e => if a < e then (a, min e ((a / 8192 + 1) * 8192) - a) :: piecesGo k (min e ((a / 8192 + 1) * 8192)) e else []
/-- Bytes of a file, cut at the ends of groups. -/
def piecesOf (a n : Int) : List (Int × Int) := if a < 0 ∨ n < 1 ∨ 67381248 < a ∨ 67381248 - a < n then [] else piecesGo n.toNat a (a + n)
def pieceC (x : Int × Int) : List Value := [vi x.1, vi x.2]
theorem pieces_spec {w0 w : World} {G : List Asn} (a n : Int) (ha : -4611686018427387904 ≤ a ∧ a ≤ 4611686018427387904) (hn : n ≤ 4611686018427387904) (hS : Sat w0 w G) :
    CR Tryz.prog 103 [vi a, vi n] w fun v w' => Sat w0 w' (rowA 178 2 v (piecesOf a n).length ((piecesOf a n).flatMap pieceC) :: G) := by
  refine calls_enter Tryz.func103 rfl rfl rfl ?_
  have nil0 : ∀ {w : World} {G : List Asn}, Sat w0 w G → Sat w0 w (rowA 178 2 (.slice none 0 0) 0 ([] : List Value) :: G) := fun hS => Sat.closeH [] hS (fun g _ => rowA_nil _ _ g)
  have bad : ∀ {w : World}, (a < 0 ∨ n < 1 ∨ 67381248 < a ∨ 67381248 - a < n) → Sat w0 w G → Sat w0 w (rowA 178 2 (.slice none 0 0) (piecesOf a n).length ((piecesOf a n).flatMap pieceC) :: G) := fun h hS => by
    unfold piecesOf; rw [if_pos h]; exact nil0 hS
  (repeat (first | (apply o_pure ok; · conv => { lhs; whnf; arg 1; whnf }) | refine c_seq ?_ | refine c_region ?_ | refine o_nil ?_ | refine q_then ?_))
  refine o_guard_d rfl rfl rfl (fun h1 => ?_) (fun h1 => ?_)
  · (repeat (first | (apply o_pure ok; · conv => { lhs; whnf; arg 1; whnf }) | refine c_seq ?_ | refine c_region ?_ | refine c_ret ?_ | refine o_nil ?_ | refine q_then ?_ | refine q_then_r ?_ | (apply c_cond_t; rfl) | refine o_pass rfl rfl rfl rfl ?_))
    exact out1 rfl (bad (.inl h1) hS)
  · (repeat (first | (apply o_pure ok; · conv => { lhs; whnf; arg 1; whnf }) | refine o_want rfl rfl rfl ?_))
    refine o_guard_d rfl rfl rfl (fun h2 => ?_) (fun h2 => ?_)
    · (repeat (first | (apply o_pure ok; · conv => { lhs; whnf; arg 1; whnf }) | refine c_seq ?_ | refine c_region ?_ | refine c_ret ?_ | refine o_nil ?_ | refine q_then ?_ | refine q_then_r ?_ | (apply c_cond_t; rfl) | refine o_pass rfl rfl rfl rfl ?_))
      exact out1 rfl (bad (.inr (.inl h2)) hS)
    · (repeat (first | (apply o_pure ok; · conv => { lhs; whnf; arg 1; whnf }) | refine o_want rfl rfl rfl ?_))
      refine o_guard_d rfl rfl rfl (fun h3 => ?_) (fun h3 => ?_)
      · (repeat (first | (apply o_pure ok; · conv => { lhs; whnf; arg 1; whnf }) | refine c_seq ?_ | refine c_region ?_ | refine c_ret ?_ | refine o_nil ?_ | refine q_then ?_ | refine q_then_r ?_ | (apply c_cond_t; rfl) | refine o_pass rfl rfl rfl rfl ?_))
        exact out1 rfl (bad (.inr (.inr (.inl h3))) hS)
      · (repeat (first | (apply o_sub; rfl; rfl; omega) | (apply o_pure ok; · conv => { lhs; whnf; arg 1; whnf }) | refine o_nil ?_ | refine q_then ?_ | refine o_want rfl rfl rfl ?_))
        refine c_cond_d rfl (fun h4 => ?_) (fun h4 => ?_)
        · (repeat (first | (apply o_pure ok; · conv => { lhs; whnf; arg 1; whnf }) | refine c_seq ?_ | refine c_region ?_ | refine c_ret ?_ | refine o_nil ?_ | refine q_then ?_ | refine q_then_r ?_))
          exact out1 rfl (bad (.inr (.inr (.inr h4))) hS)
        · have hgood : piecesOf a n = piecesGo n.toNat a (a + n) := by unfold piecesOf; rw [if_neg (by omega)]
          have hS := nil0 hS
          (repeat (first | (apply o_add; rfl; rfl; omega) | (apply o_pure ok; · conv => { lhs; whnf; arg 1; whnf }) | refine c_seq ?_ | refine c_region ?_ | refine c_block ?_ | refine c_skip ?_ | refine o_nil ?_ | refine q_then ?_))
          refine c_loop (fun k g w => ∃ (b : Int) (l : List (Int × Int)) (v : Value) (jk : Nat → Value), a ≤ b ∧ b ≤ a + n ∧ a + n - b ≤ k ∧ l.length + k = n.toNat ∧ piecesOf a n = l ++ piecesGo k b (a + n) ∧
            g = updL [(0, vi b), (5, v), (6, vi (a + n))] jk ∧ Sat w0 w (rowA 178 2 v l.length (l.flatMap pieceC) :: G)) n.toNat
            ⟨a, [], _, _, by omega, by omega, by omega, by simp, by rw [hgood]; rfl, updL_self _ _ ⟨rfl, rfl, rfl, trivial⟩, hS⟩ ?_
          rintro k g w ⟨b, l, v, jk, hab, hbn, hbk, hlk, hp, rfl, hS⟩
          (repeat (first | (apply o_pure ok; · conv => { lhs; whnf; arg 1; whnf }) | refine c_seq ?_ | refine c_region ?_ | refine o_nil ?_ | refine q_then ?_))
          refine c_cond_d rfl (fun h5 => ?_) (fun h5 => ?_)
          · obtain ⟨k, rfl⟩ : ∃ k', k = k' + 1 := ⟨k - 1, by omega⟩
            unfold piecesGo at hp
            rw [if_pos h5] at hp
            have hmin : b < min (a + n) ((b / 8192 + 1) * 8192) ∧ min (a + n) ((b / 8192 + 1) * 8192) ≤ a + n := by omega
            (repeat (first | (apply o_mul; rfl; rfl; omega) | (apply o_add; rfl; rfl; omega) | (apply o_sub; rfl; rfl; omega) | (apply o_quo; rfl; rfl; omega) | (apply o_pure ok; · conv => { lhs; whnf; arg 1; whnf }) | refine c_seq ?_ | refine c_region ?_ | refine c_block ?_ | refine c_skip ?_ | refine o_nil ?_ | refine q_then ?_ | (apply o_rd hS; apply rd_build1 ok; rfl; rfl; rfl; rfl)))
            generalize min (a + n) ((b / 8192 + 1) * 8192) = nx at hp hmin ⊢
            skip
            refine o_buildS ok (vs := [.agg (pieceC (b, nx - b)).toArray]) hS rfl rfl rfl rfl rfl rfl rfl rfl rfl (fun b8 w hS => ?_)
            refine o_append ok hS rfl rfl rfl rfl rfl rfl rfl (i := 1) rfl (hS.ptSrc0 (i := 0) rfl) rfl rfl (by omega) (by omega) (fun v' w hS => ?_)
            have hS : Sat w0 w (_ :: rowA 178 2 v' (l.length + 1) (l.flatMap pieceC ++ pieceC (b, nx - b)) :: G) := hS
            have hS := hS.tail
            have e1 : l.flatMap pieceC ++ pieceC (b, nx - b) = (l ++ [(b, nx - b)]).flatMap pieceC := by rw [List.flatMap_append, List.flatMap_cons, List.flatMap_nil, List.append_nil]
            have e2 : l.length + 1 = (l ++ [(b, nx - b)]).length := by simp
            rw [e1, e2] at hS
            (repeat (first | (apply o_pure ok; · conv => { lhs; whnf; arg 1; whnf }) | refine c_region ?_ | refine o_nil ?_ | refine q_then ?_ | refine q_blk_n ?_))
            exact ⟨k, by omega, nx, l ++ [(b, nx - b)], v', _, by omega, by omega, by omega, by simp; omega, by rw [hp, List.append_assoc]; rfl, updL_self _ _ ⟨rfl, rfl, rfl, trivial⟩, hS⟩
          · have he : piecesGo k b (a + n) = [] := by
              cases k with
              | zero => rfl
              | succ k => unfold piecesGo; rw [if_neg h5]
            rw [he, List.append_nil] at hp
            (repeat (first | (apply o_pure ok; · conv => { lhs; whnf; arg 1; whnf }) | refine c_seq ?_ | refine c_region ?_ | refine c_ret ?_ | refine c_exit ?_ | refine o_nil ?_ | refine q_then ?_ | refine q_then_e ?_ | refine q_blk_e ?_))
            exact out1 rfl (by rw [hp]; exact hS)
end Go.Proofs.YtllomopjoomdiaaGreat
end

section
namespace Go.Proofs.YtllomopjoomdiaaGreat
open Go.SL
def idxFrom : Nat → Int → Int → List Int
  | 0, _, _ => []
  | k + 1, i, e => if i * 1024 < e then i :: idxFrom k (i + 1) e else []
def newIdx (a len : Int) : List Int := idxFrom (len / 1024 + 2).toNat (a / 1024) (a + len)
def pieceFits (m : Mod) (t : It) (a len : Int) : Bool := decide (totalOf (idxOf t ++ newIdx a len) - usedOf t ≤ freeOf m)
def putB (b : List Int) (o : Nat) (q : List Int) : List Int := b.take o ++ q ++ b.drop (o + q.length)
/-- Bytes are written at a place. -/
def writeD : Nat → List (Int × List Int) → Int → List Int → List (Int × List Int)
  | 0, d, _, _ => d
  | k + 1, d, a, q => if q = [] then d else
    writeD k (setB d (a / 1024) (putB ((getB d (a / 1024)).getD zeroB) (a % 1024).toNat (q.take (min q.length (1024 - (a % 1024).toNat))))) (a + (min q.length (1024 - (a % 1024).toNat) : Nat)) (q.drop (min q.length (1024 - (a % 1024).toNat)))
def pieceOf (t : It) (a : Int) (q : List Int) : It := { t with data := writeD q.length t.data a q, size := max t.size (a + q.length) }
def pieceM (m : Mod) (k : Int) (t : It) (a : Int) (q : List Int) : Mod := if pieceFits m t a q.length = true then stepM (updM m k (pieceOf t a q)) else m
theorem writeD_succ {k : Nat} {d : List (Int × List Int)} {a : Int} {q : List Int} (h : ¬q = []) : writeD (k + 1) d a q =
    writeD k (setB d (a / 1024) (putB ((getB d (a / 1024)).getD zeroB) (a % 1024).toNat (q.take (min q.length (1024 - (a % 1024).toNat))))) (a + (min q.length (1024 - (a % 1024).toNat) : Nat)) (q.drop (min q.length (1024 - (a % 1024).toNat))) := by
  conv => { lhs; unfold writeD }
  rw [if_neg h]
theorem putB_len {b : List Int} (hb : b.length = 1024) {o : Nat} {q : List Int} (h : o + q.length ≤ 1024) : (putB b o q).length = 1024 := by
  unfold putB; rw [List.length_append, List.length_append, List.length_take, List.length_drop, hb]; omega
theorem splice_blk (b : List Int) (o : Nat) (q : List Int) : splice (blkC b).toArray o (blkC q) = (blkC (putB b o q)).toArray := by
  unfold splice putB blkC
  apply Array.ext'
  show (b.map _).take o ++ _ ++ (b.map _).drop (o + (q.map _).length) = List.map _ _
  rw [List.length_map, List.map_append, List.map_append, List.map_take, List.map_drop]
/-- Blocks that are whole, at indices that there are, none twice. -/
structure DataOk (d : List (Int × List Int)) : Prop where
  blk : ∀ p ∈ d, p.2.length = 1024
  idx : ∀ p ∈ d, 0 ≤ p.1 ∧ p.1 < 65802
  nd : (d.map (·.1)).Nodup
theorem DataOk.set {d : List (Int × List Int)} (h : DataOk d) {i : Int} {b : List Int} (hi : 0 ≤ i ∧ i < 65802) (hb : b.length = 1024) : DataOk (setB d i b) := by
  refine ⟨fun p hp => ?_, fun p hp => ?_, setB_nd h.nd _ _⟩
  · rcases setB_mem hp with h1 | rfl
    · exact h.blk p h1
    · exact hb
  · rcases setB_mem hp with h1 | rfl
    · exact h.idx p h1
    · exact hi
theorem DataOk.len {d : List (Int × List Int)} (h : DataOk d) : d.length ≤ 65802 := by
  have := nodup_len 65802 ((d.map (·.1)).map (· + 1)) (h.nd.map _ (by intro a b hab; simpa using hab)) (fun x hx => by
    obtain ⟨y, hy, rfl⟩ := List.mem_map.1 hx
    obtain ⟨p, hp, rfl⟩ := List.mem_map.1 hy
    have := h.idx p hp
    omega)
  simpa using this
theorem getB_len' {d : List (Int × List Int)} (h : ∀ p ∈ d, p.2.length = 1024) (i : Int) : ((getB d i).getD zeroB).length = 1024 := by
  cases hg : getB d i with
  | none => exact zeroB_len
  | some b => exact h _ (getB_mem hg)
theorem DataOk.write : ∀ (k : Nat) {d : List (Int × List Int)} {a : Int} {q : List Int}, DataOk d → 0 ≤ a → a + q.length ≤ 67381248 → DataOk (writeD k d a q)
  | 0, d, a, q, h, _, _ => h
  | k + 1, d, a, q, h, h0, h1 => by
    unfold writeD
    split
    · exact h
    · rename_i hq
      have hpos : 0 < q.length := by
        cases q with
        | nil => exact absurd rfl hq
        | cons a q => simp
      have hm : min q.length (1024 - (a % 1024).toNat) ≤ q.length := Nat.min_le_left _ _
      have hm2 : min q.length (1024 - (a % 1024).toNat) ≤ 1024 - (a % 1024).toNat := Nat.min_le_right _ _
      refine DataOk.write k (h.set (by omega) (putB_len (getB_len' h.blk _) (by rw [List.length_take]; omega))) (by omega) (by rw [List.length_drop]; omega)
theorem ItOk.data {t : It} (h : ItOk t) : DataOk t.data := ⟨h.blk, h.idx, h.nd⟩
theorem piece_ok {t : It} (h : ItOk t) (hk : ¬t.kind = 2) {a : Int} {q : List Int} (h0 : 0 ≤ a) (h1 : a + q.length ≤ 67381248) : ItOk (pieceOf t a q) := by
  have hd := DataOk.write q.length (q := q) h.data h0 h1
  have hs0 := h.size0
  have hs1 := h.size1
  exact ⟨⟨by show max t.size (a + q.length) ≤ _; omega, Nat.le_trans hd.len (by decide)⟩, h.slots, hd.blk, hd.idx, hd.nd, by show 0 ≤ max t.size (a + q.length); omega, by show max t.size (a + q.length) ≤ _; omega, fun h2 => absurd h2 hk, h.links⟩
theorem IdxOk.perm {t : It} {l : List Int} (h : IdxOk t l) : l.Perm (idxOf t) := by
  unfold IdxOk at h; unfold idxOf
  split at h
  · rename_i h2; rw [if_pos h2, h]
  · rename_i h2; rw [if_neg h2]; exact h
theorem idxFrom_len : ∀ (k : Nat) (i e : Int), (idxFrom k i e).length ≤ k
  | 0, i, e => Nat.le_refl _
  | k + 1, i, e => by
    unfold idxFrom
    split
    · have := idxFrom_len k (i + 1) e
      simp; omega
    · simp
theorem piece_spec {w0 w : World} {G : List Asn} {A : Asn} {p : Nat} {m : Mod} {k a : Int} {q : List Int} {pv : Value} {x : Itm} (hf : Fine m) (hT : m.told.length ≤ 900000000) (hx : getX m.items k = some x) (hk : ¬x.2.2.kind = 2) (h0 : 0 ≤ a) (h1 : a + q.length ≤ 67381248)
    (hA : ∀ h, A h → SrcH h pv q.length (blkC q)) (hS : Sat w0 w (modA p m :: A :: G)) :
    CR Tryz.prog 104 [ptr p, ptr x.2.1, .agg #[vi a, vi q.length], pv] w fun v w' => v = .bool (pieceFits m x.2.2 a q.length) ∧ Sat w0 w' (modA p (pieceM m k x.2.2 a q) :: A :: G) := by
  have hit := hf.it x (getX_some hx).1
  have hkeys := Sat.keysM hS
  have hfr := freeOf_le hf
  have hpv : (pv = .slice none 0 0 ∧ q.length = 0 ∧ blkC q = []) ∨ ∃ b o c, pv = .slice (some ⟨b, o, none⟩) q.length c ∧ q.length ≤ c := Sat.srcForm hS (i := 1) rfl hA
  obtain ⟨av, cv, rfl⟩ : ∃ av cv, pv = .slice av q.length cv := by
    rcases hpv with ⟨rfl, h4, _⟩ | ⟨b, o, c, rfl, _⟩
    · exact ⟨none, 0, by rw [h4]⟩
    · exact ⟨_, _, rfl⟩
  refine calls_enter Tryz.func104 rfl rfl rfl ?_
  (repeat (first | refine c_seq ?_ | refine c_region ?_))
  refine o_box hS rfl (fun b6 w hS => ?_)
  have hS : Sat w0 w (pt b6 (.cells #[vi a, vi q.length] 178) :: modA p m :: A :: G) := hS
  have hS := Sat.itTake hx (hS.bring 1 rfl)
  (repeat (first | (apply o_ptr ok; rfl; · conv => { lhs; whnf }) | (apply o_pure ok; · conv => { lhs; whnf; arg 1; whnf }) | refine c_seq ?_ | refine c_region ?_ | refine o_nil ?_ | refine q_then ?_))
  refine o_call ok rfl rfl (indices_spec hit.small hS) (fun v w h => ?_)
  obtain ⟨l1, hl1, hS⟩ := h
  have hlm := hl1.len hit.small
  have hus := usedOf_le hit.small
  (repeat (first | (apply o_pure ok; · conv => { lhs; whnf; arg 1; whnf }) | refine c_seq ?_ | refine c_region ?_ | refine o_nil ?_ | refine q_then ?_))
  refine o_call ok rfl rfl (total_spec l1 hlm hS) (fun v w h => ?_)
  obtain ⟨rfl, hS⟩ := h
  rw [hl1.total, show totalOf (idxOf x.2.2) = usedOf x.2.2 from rfl]
  (repeat (first | (apply o_quo; rfl; rfl; omega) | (apply o_ptr ok; rfl; · conv => { lhs; whnf }) | (apply o_pure ok; · conv => { lhs; whnf; arg 1; whnf }) | refine c_seq ?_ | refine c_region ?_ | refine c_block ?_ | refine o_nil ?_ | refine q_then ?_ | (apply o_rd hS; apply rd_load ok (i := 3); rfl; rfl; rfl; rfl; · conv => { lhs; whnf; arg 1; whnf })))
  refine c_loop (fun k' g w => ∃ (i : Int) (nw : List Int) (v : Value) (jk : Nat → Value), a + q.length - i * 1024 ≤ k' * 1024 ∧ nw.length + k' ≤ ((q.length : Int) / 1024 + 2).toNat ∧ 0 ≤ i ∧ i ≤ 65803 ∧ newIdx a q.length = nw ++ idxFrom k' i (a + q.length) ∧
    g = updL [(0, ptr p), (1, ptr x.2.1), (3, .slice av q.length cv), (6, ptr b6), (9, v), (10, vi (usedOf x.2.2)), (11, vi i)] jk ∧
    Sat w0 w (rowA 3 1 v (l1.length + nw.length) ((l1 ++ nw).map vi) :: itemA x.2.1 x.2.2 :: modK p m k :: pt b6 (.cells #[vi a, vi q.length] 178) :: A :: G)) ((q.length : Int) / 1024 + 2).toNat
    ⟨a / 1024, [], _, _, by omega, by simp, by omega, by omega, rfl, updL_self _ _ ⟨rfl, rfl, rfl, rfl, rfl, rfl, rfl, trivial⟩, by rw [List.append_nil]; exact hS⟩ ?_
  rintro k' g w ⟨i, nw, v, jk, hik, hnk, hi0, hi1, hni, rfl, hS⟩
  (repeat (first | (apply o_mul; rfl; rfl; omega) | (apply o_add; rfl; rfl; omega) | (apply o_ptr ok; rfl; · conv => { lhs; whnf }) | (apply o_pure ok; · conv => { lhs; whnf; arg 1; whnf }) | refine c_seq ?_ | refine c_region ?_ | refine o_nil ?_ | refine q_then ?_ | (apply o_rd hS; apply rd_load ok (i := 3); rfl; rfl; rfl; rfl; · conv => { lhs; whnf; arg 1; whnf })))
  refine c_cond_d rfl (fun h2 => ?_) (fun h2 => ?_)
  · obtain ⟨k', rfl⟩ : ∃ k'', k' = k'' + 1 := ⟨k' - 1, by omega⟩
    unfold idxFrom at hni
    rw [if_pos h2] at hni
    (repeat (first | (apply o_pure ok; · conv => { lhs; whnf; arg 1; whnf }) | refine c_seq ?_ | refine c_region ?_ | refine c_block ?_ | refine c_skip ?_ | refine q_then ?_))
    refine o_buildS ok (vs := [vi i]) hS rfl rfl rfl rfl rfl rfl rfl rfl rfl (fun b8 w hS => ?_)
    refine o_append ok hS rfl rfl rfl rfl rfl rfl rfl (i := 1) rfl (hS.ptSrc0 (i := 0) rfl) rfl rfl (by omega) (by omega) (fun v' w hS => ?_)
    have hS : Sat w0 w (_ :: rowA 3 1 v' (l1.length + nw.length + 1) ((l1 ++ nw).map vi ++ [vi i]) :: itemA x.2.1 x.2.2 :: modK p m k :: pt b6 (.cells #[vi a, vi q.length] 178) :: A :: G) := hS
    have hS := hS.tail
    have e1 : (l1 ++ nw).map vi ++ [vi i] = (l1 ++ (nw ++ [i])).map vi := by simp
    have e2 : l1.length + nw.length + 1 = l1.length + (nw ++ [i]).length := by simp; omega
    rw [e1, e2] at hS
    (repeat (first | (apply o_add; rfl; rfl; omega) | (apply o_pure ok; · conv => { lhs; whnf; arg 1; whnf }) | refine c_region ?_ | refine o_nil ?_ | refine q_then ?_ | refine q_blk_n ?_))
    exact ⟨k', by omega, i + 1, nw ++ [i], v', _, by omega, by simp; omega, by omega, by omega, by rw [hni, List.append_assoc]; rfl, updL_self _ _ ⟨rfl, rfl, rfl, rfl, rfl, rfl, rfl, trivial⟩, hS⟩
  · have he : idxFrom k' i (a + q.length) = [] := by
      cases k' with
      | zero => rfl
      | succ k' => unfold idxFrom; rw [if_neg h2]
    rw [he, List.append_nil] at hni
    have htot : totalOf (l1 ++ nw) = totalOf (idxOf x.2.2 ++ newIdx a q.length) := by
      rw [hni]; exact totalOf_perm (hl1.perm.append_right nw)
    have htl := totalOf_le (l1 ++ nw)
    have hl1' : l1.length ≤ 1048576 := by
      have h3 := hl1.perm.length_eq
      unfold idxOf at h3
      rw [if_neg hk, List.length_map] at h3
      have := hit.small.2
      omega
    have hln : (l1 ++ nw).length ≤ 1099511627776 := by rw [List.length_append]; omega
    rw [show l1.length + nw.length = (l1 ++ nw).length by simp] at hS
    (repeat (first | (apply o_pure ok; · conv => { lhs; whnf; arg 1; whnf }) | refine c_seq ?_ | refine c_region ?_ | refine c_exit ?_ | refine q_then ?_ | refine q_then_e ?_ | refine q_blk_e ?_))
    refine o_call ok rfl rfl (total_spec _ hln hS) (fun v w h => ?_)
    obtain ⟨rfl, hS⟩ := h
    have hS := Sat.itBack hkeys hx hS.tail
    (repeat (first | (apply o_sub; rfl; rfl; omega) | (apply o_ptr ok; rfl; · conv => { lhs; whnf }) | (apply o_pure ok; · conv => { lhs; whnf; arg 1; whnf })))
    refine o_call ok rfl rfl (free_spec hf hS) (fun v w h => ?_)
    obtain ⟨rfl, hS⟩ := h
    rw [htot]
    have hfit : ∀ b : Bool, decide (freeOf m < totalOf (idxOf x.2.2 ++ newIdx a q.length) - usedOf x.2.2) = !b → pieceFits m x.2.2 a q.length = b := fun b hb => by
      unfold pieceFits
      cases b <;> simp at hb <;> simp <;> omega
    (repeat (first | (apply o_pure ok; · conv => { lhs; whnf; arg 1; whnf }) | refine o_nil ?_ | refine q_then ?_))
    refine c_cond_d rfl (fun h3 => ?_) (fun h3 => ?_)
    · have hno := hfit false (by simpa using h3)
      (repeat (first | (apply o_pure ok; · conv => { lhs; whnf; arg 1; whnf }) | refine c_seq ?_ | refine c_region ?_ | refine c_ret ?_ | refine o_nil ?_ | refine q_then ?_ | refine q_then_r ?_))
      refine out1 rfl ⟨by rw [hno]; rfl, ?_⟩
      unfold pieceM
      rw [hno, if_neg (by simp)]
      exact (hS.bring 1 rfl).tail
    · have hyes := hfit true (by simpa using h3)
      have hS := Sat.itTake hx hS
      obtain ⟨dm, sv, hS⟩ := Sat.itemOpen hS
      obtain ⟨mb, rfl, hS⟩ := Sat.dataFile hS (i := 1) rfl hk
      (repeat (first | (apply o_ptr ok; rfl; · conv => { lhs; whnf }) | (apply o_pure ok; · conv => { lhs; whnf; arg 1; whnf }) | refine c_seq ?_ | refine c_region ?_ | refine c_block ?_ | refine c_skip ?_ | refine o_nil ?_ | refine q_then ?_ | (apply o_rd hS; apply rd_load ok (i := 4); rfl; rfl; rfl; rfl; · conv => { lhs; whnf; arg 1; whnf })))
      refine c_loop (fun k' g w => ∃ (D : List (Int × List Int)) (a' : Int) (q' : List Int) (av : Option Addr) (cv : Nat) (jk : Nat → Value), q'.length ≤ k' ∧ k' ≤ q.length ∧ DataOk D ∧ 0 ≤ a' ∧ a' + q'.length ≤ 67381248 ∧ writeD q.length x.2.2.data a q = writeD k' D a' q' ∧ (∀ h, A h → SrcH h (.slice av q'.length cv) q'.length (blkC q')) ∧
        g = updL [(0, ptr p), (1, ptr x.2.1), (3, .slice av q'.length cv), (6, ptr b6), (12, vi a')] jk ∧
        Sat w0 w (pt x.2.1 (.cells (itemC x.2.2 (.map (some mb)) sv) 135) :: mapA encI mb (dataKV D) :: slotsA sv x.2.2.slots :: modK p m k :: pt b6 (.cells #[vi a, vi q.length] 178) :: A :: G)) q.length
        ⟨x.2.2.data, a, q, av, cv, _, Nat.le_refl _, Nat.le_refl _, hit.data, h0, h1, rfl, hA, updL_self _ _ ⟨rfl, rfl, rfl, rfl, rfl, trivial⟩, hS⟩ ?_
      rintro k' g w ⟨D, a', q', av, cv, jk, hqk, hkq, hD, ha0, ha1, hw, hA', rfl, hS⟩
      (repeat (first | (apply o_pure ok; · conv => { lhs; whnf; arg 1; whnf }) | refine c_seq ?_ | refine c_region ?_ | refine o_nil ?_ | refine q_then ?_))
      refine c_cond_d rfl (fun h4 => ?_) (fun h4 => ?_)
      · obtain ⟨k', rfl⟩ : ∃ k'', k' = k'' + 1 := ⟨k' - 1, by omega⟩
        have hqne : ¬q' = [] := fun e => by rw [e] at h4; simp at h4
        rw [writeD_succ (k := k') (d := D) (a := a') hqne] at hw
        have hbl := getB_len' hD.blk (a' / 1024)
        generalize hbv : (getB D (a' / 1024)).getD zeroB = bV at hbl hw
        have hblC : (blkC bV).toArray.size = 1024 := by rw [List.size_toArray, blkC_len]; exact hbl
        (repeat (first | (apply o_quo; rfl; rfl; omega) | (apply o_ptr ok; rfl; · conv => { lhs; whnf }) | (apply o_pure ok; · conv => { lhs; whnf; arg 1; whnf }) | refine c_seq ?_ | refine c_region ?_ | refine c_block ?_ | refine c_skip ?_ | refine q_then ?_ | (apply o_rd hS; apply rd_load ok (i := 0); rfl; rfl; rfl; rfl; · conv => { lhs; whnf; arg 1; whnf })))
        apply o_rd hS (rd_lookup ok keyOk_int rfl rfl rfl rfl rfl (i := 1) rfl)
        rw [show (Value.agg (List.replicate 1024 (Value.int IntKind.u8 0)).toArray) = .agg zB.toArray from rfl, mget_dataD, hbv]
        refine o_alloc ok hS rfl (fun b13 w hS => ?_)
        refine o_storeW (m := 1024) (vs := (blkC bV).toArray) ok hS rfl rfl rfl (i := 0) rfl (oneCells_blk _) hblC zb_size (fun w hS => ?_)
        have hS : Sat w0 w (pt b13 (.cells (blkC bV).toArray 137) :: pt x.2.1 (.cells (itemC x.2.2 (.map (some mb)) sv) 135) :: mapA encI mb (dataKV D) :: slotsA sv x.2.2.slots :: modK p m k :: pt b6 (.cells #[vi a, vi q.length] 178) :: A :: G) := hS
        (repeat (first | (apply o_rem; rfl; rfl; omega) | (apply o_pure ok; · conv => { lhs; whnf; arg 1; whnf }) | refine c_seq ?_ | refine c_region ?_ | refine o_nil ?_ | refine q_then ?_))
        apply o_rd hS (rd_sliceA (l := (a' % 1024).toNat) (h := 1024) ok rfl rfl rfl (by exact ⟨.i64, by show vi _ = vi _; congr 1; omega⟩) rfl (by omega) (by omega))
        rw [if_neg (show ¬(1024 = (a' % 1024).toNat) by omega)]
        (repeat (first | (apply o_pure ok; · conv => { lhs; whnf; arg 1; whnf })))
        obtain ⟨nn, hnn⟩ : ∃ nn, nn = min q'.length (1024 - (a' % 1024).toNat) := ⟨_, rfl⟩
        have hnn2 : Nat.min q'.length (1024 - (a' % 1024).toNat) = nn := hnn.symm
        have hnb : nn ≤ q'.length ∧ nn ≤ 1024 - (a' % 1024).toNat ∧ 1 ≤ nn := by omega
        rw [← hnn] at hw
        refine o_copy (b := b13) (o := 0 + (a' % 1024).toNat * 1) ok hS rfl rfl (by rw [addr_add]; rfl) rfl (i := 0) rfl (hS.srcOf (i := 6) rfl hA') (blkC_len _) (by rw [hblC]; omega) (oneCells_blk _) (fun w hS => ?_)
        rw [hnn2]
        have hS : Sat w0 w (pt b13 (.cells (splice (blkC bV).toArray (0 + (a' % 1024).toNat * 1) ((blkC q').take (Nat.min q'.length (1024 - (a' % 1024).toNat)))) 137) :: pt x.2.1 (.cells (itemC x.2.2 (.map (some mb)) sv) 135) :: mapA encI mb (dataKV D) :: slotsA sv x.2.2.slots :: modK p m k :: pt b6 (.cells #[vi a, vi q.length] 178) :: A :: G) := hS
        rw [hnn2, Nat.zero_add, Nat.mul_one, show (blkC q').take nn = blkC (q'.take nn) from List.map_take.symm, splice_blk] at hS
        have hpl : (putB bV (a' % 1024).toNat (q'.take nn)).length = 1024 := putB_len hbl (by rw [List.length_take]; omega)
        have hplC : (blkC (putB bV (a' % 1024).toNat (q'.take nn))).toArray.size = 1024 := by rw [List.size_toArray, blkC_len]; exact hpl
        have hD2 := hD.set (i := a' / 1024) (by omega) hpl
        generalize putB bV (a' % 1024).toNat (q'.take nn) = bW at hS hw hpl hplC hD2
        (repeat (first | (apply o_pure ok; · conv => { lhs; whnf; arg 1; whnf }) | refine c_seq ?_ | refine o_nil ?_ | refine q_then ?_))
        refine region_q 7 mixed (by kernel_rfl) hS ?_
        (repeat (first | (apply r_quo rfl; rfl; rfl; omega) | (apply r_ptr ok rfl; rfl; · conv => { lhs; whnf }) | (apply r_pure ok rfl; · conv => { lhs; whnf; arg 1; whnf }) | (apply r_rd rfl; apply rd_load ok (i := 1); rfl; rfl; rfl; rfl; · conv => { lhs; whnf; arg 1; whnf })))
        refine r_rd rfl (rd_loadW ok (i := 0) rfl rfl rfl rfl rfl hplC) ?_
        (repeat (first | refine r_nil ?_))
        intro w hS
        refine o_mapUpdate ok keyOk_int (v := blkV bW) hS rfl rfl rfl rfl rfl (i := 2) rfl (fun w hS => ?_)
        rw [mset_data] at hS
        have hS : Sat w0 w ([] ++ (pt b13 (.cells (blkC bW).toArray 137) :: pt x.2.1 (.cells (itemC x.2.2 (.map (some mb)) sv) 135) :: mapA encI mb (dataKV (setB D (a' / 1024) bW)) :: slotsA sv x.2.2.slots :: modK p m k :: pt b6 (.cells #[vi a, vi q.length] 178) :: A :: G)) := hS
        have hform : ∃ b o, av = some (⟨b, o, none⟩ : Addr) ∧ q'.length ≤ cv := by
          rcases Sat.srcForm hS (i := 6) rfl hA' with ⟨h5, h6, _⟩ | ⟨b, o, c, h5, h6⟩
          · omega
          · cases h5; exact ⟨b, o, rfl, h6⟩
        obtain ⟨bs, os, rfl, hqc⟩ := hform
        (repeat (first | refine o_nil ?_ | refine q_then ?_))
        refine region_c (L := _ :: _) 7 [6] [] mixed (by kernel_rfl) hS ?_
        (repeat (first | (apply r_add rfl; rfl; rfl; omega) | (apply r_pure ok rfl; · conv => { lhs; whnf; arg 1; whnf })))
        apply r_rd rfl (rd_slice (l := nn) (h := q'.length) ok rfl rfl rfl (by exact ⟨.i64, rfl⟩) rfl (by omega) (by omega))
        skip
        refine r_chainE rfl rfl rfl ?_
        (repeat (first | refine r_nil ?_))
        refine ch_step rfl rfl (fun G2 w hS => ?_)
        (repeat (first | (apply o_pure ok; · conv => { lhs; whnf; arg 1; whnf }) | refine o_nil ?_))
        refine ⟨rfl, [], hS, ch_nil ?_⟩
        intro w hS
        (repeat (first | (apply o_pure ok; · conv => { lhs; whnf; arg 1; whnf }) | refine o_nil ?_ | refine q_then ?_ | refine q_blk_n ?_))
        have hld : (q'.drop nn).length = q'.length - nn := List.length_drop
        refine ⟨k', by omega, setB D (a' / 1024) bW, a' + nn, q'.drop nn, (if cv = nn then some ⟨bs, os, none⟩ else (some (⟨bs, os, none⟩ : Addr)).map (·.add (nn * 1))), cv - nn, _, by omega, by omega, hD2, by omega, by omega, hw, fun h hh => ?_, updL_self _ _ ⟨rfl, rfl, by rw [hld]; rfl, rfl, rfl, trivial⟩, Sat.tail (A := pt b13 (.cells (blkC bW).toArray 137)) hS⟩
        have h5 := (hA' h hh).sub (blkC_len _) (l := nn) (k := q'.length) (by omega) (Nat.le_refl _) _ rfl
        have e5 : ((blkC q').drop nn).take (q'.length - nn) = blkC (q'.drop nn) := by
          unfold blkC
          rw [← List.map_drop, List.take_of_length_le (by rw [List.length_map, hld]; exact Nat.le_refl _)]
        rw [e5] at h5
        rw [hld]; exact h5
      · have hq0 : q' = [] := List.eq_nil_of_length_eq_zero (by omega)
        have hwD : writeD q.length x.2.2.data a q = D := by
          rw [hw, hq0]
          cases k' with
          | zero => rfl
          | succ k' => rfl
        have hs0 := hit.size0
        have hs1 := hit.size1
        (repeat (first | refine c_seq ?_ | refine c_exit ?_ | refine q_then ?_ | refine q_then_e ?_ | refine q_blk_e ?_))
        refine region_q 11 mixed (by kernel_rfl) hS ?_
        (repeat (first | (apply r_add rfl; rfl; rfl; omega) | (apply r_ptr ok rfl; rfl; · conv => { lhs; whnf }) | (apply r_pure ok rfl; · conv => { lhs; whnf; arg 1; whnf }) | (apply r_rd rfl; apply rd_load ok (i := 0); rfl; rfl; rfl; rfl; · conv => { lhs; whnf; arg 1; whnf }) | (apply r_rd rfl; apply rd_load ok (i := 4); rfl; rfl; rfl; rfl; · conv => { lhs; whnf; arg 1; whnf }) | refine r_nil ?_))
        intro w hS
        (repeat (first | (apply o_ptr ok; rfl; · conv => { lhs; whnf })))
        (apply o_store ok hS (i := 0); rfl; (conv => { lhs; whnf }); rfl; rfl; rfl; rfl; intro w hS)
        have hS : Sat w0 w (pt x.2.1 (.cells (itemC (pieceOf x.2.2 a q) (.map (some mb)) sv) 135) :: mapA encI mb (dataKV D) :: slotsA sv x.2.2.slots :: modK p m k :: pt b6 (.cells #[vi a, vi q.length] 178) :: A :: G) := hS
        have hS := Sat.dataBack hS (i := 1) (k := (pieceOf x.2.2 a q).kind) rfl
        have hS : Sat w0 w (pt x.2.1 (.cells (itemC (pieceOf x.2.2 a q) (.map (some mb)) sv) 135) :: dataA (pieceOf x.2.2 a q).kind (.map (some mb)) D :: slotsA sv (pieceOf x.2.2 a q).slots :: modK p m k :: pt b6 (.cells #[vi a, vi q.length] 178) :: A :: G) := hS
        rw [show D = (pieceOf x.2.2 a q).data from hwD.symm] at hS
        have hS := Sat.itGive hkeys hx (Sat.itemClose hS)
        (repeat (first | (apply o_ptr ok; rfl; · conv => { lhs; whnf }) | refine c_seq ?_ | refine c_region ?_ | refine o_nil ?_ | refine q_then ?_))
        refine o_call ok rfl rfl (step_spec (hf.upd (piece_ok hit hk h0 h1)) (by show m.told.length ≤ _; omega) hS) (fun v w h => ?_)
        obtain ⟨rfl, hS⟩ := h
        (repeat (first | (apply o_pure ok; · conv => { lhs; whnf; arg 1; whnf }) | refine c_seq ?_ | refine c_region ?_ | refine c_ret ?_ | refine o_nil ?_ | refine q_then ?_))
        refine out1 rfl ⟨by rw [hyes]; rfl, ?_⟩
        unfold pieceM
        rw [if_pos hyes]
        exact (((hS.bring 1 rfl).tail))
end Go.Proofs.YtllomopjoomdiaaGreat
end

section
namespace Go.Proofs.YtllomopjoomdiaaGreat
open Go.SL
/-- Pieces are written, as long as there is room: what was written. -/
def piecesRun : Nat → Mod → Int → Int → Int → List Int → Int → Mod × Int
  | 0, m, _, _, _, _, dn => (m, dn)
  | n + 1, m, k, b, e, q, dn => if b < e then match getX m.items k with
    | none => (m, dn)
    | some x => if pieceFits m x.2.2 b ((min e ((b / 8192 + 1) * 8192) - b).toNat : Int) = true then
        piecesRun n (pieceM m k x.2.2 b (q.take (min e ((b / 8192 + 1) * 8192) - b).toNat)) k (min e ((b / 8192 + 1) * 8192)) e (q.drop (min e ((b / 8192 + 1) * 8192) - b).toNat) (dn + ((min e ((b / 8192 + 1) * 8192) - b).toNat : Int))
      else (m, dn)
    else (m, dn)
def writeRun (m : Mod) (k place : Int) (q : List Int) : Mod × Int := piecesRun q.length m k place (place + q.length) q 0
def writeM (m : Mod) (fd : Int) (q : List Int) : Mod × Int × Int := match getOk m fd 2 with
  | none => (m, 0, 13)
  | some x => if 65536 < (q.length : Int) then (m, 0, 4) else if 67381248 < x.2.place + q.length then (m, 0, 17) else
    let r := writeRun m x.2.inum x.2.place q
    let m2 := putD r.1 fd (some (x.1, ⟨x.2.inum, x.2.place + r.2, x.2.flags⟩))
    if r.2 = 0 ∧ 0 < (q.length : Int) then (m2, 0, 16) else (m2, r.2, 0)
theorem pieceM_yes {m : Mod} {k : Int} {t : It} {a : Int} {q : List Int} (h : pieceFits m t a q.length = true) : pieceM m k t a q = stepM (updM m k (pieceOf t a q)) := by unfold pieceM; rw [if_pos h]
theorem piecesGo_len : ∀ (k : Nat) (a e : Int), (piecesGo k a e).length ≤ k
  | 0, _, _ => Nat.le_refl _
  | k + 1, a, e => by
    unfold piecesGo
    split
    · have := piecesGo_len k (min e ((a / 8192 + 1) * 8192)) e
      simp; omega
    · simp
theorem set_same {cs : Array Value} {k : Nat} {v : Value} (h : cs[k]? = some v) : cs.setIfInBounds k v = cs := by
  apply Array.ext_getElem?
  intro i
  rw [Array.getElem?_setIfInBounds]
  by_cases e : k = i
  · subst e
    rw [if_pos rfl]
    split
    · exact h.symm
    · rename_i h2; rw [Array.getElem?_eq_none (by omega)]
  · rw [if_neg e]
theorem write_spec {w0 w : World} {G : List Asn} {A : Asn} {p : Nat} {m : Mod} {fd : Int} {q : List Int} {pv : Value} (hf : Fine m) (hT : m.told.length ≤ 800000000) (hq : q.length ≤ 4611686018427387904)
    (hd : ∀ x, getOk m fd 2 = some x → (0 ≤ x.2.place ∧ x.2.place ≤ 67381248) ∧ ∃ y, getX m.items x.2.inum = some y ∧ ¬y.2.2.kind = 2)
    (hA : ∀ h, A h → SrcH h pv q.length (blkC q)) (hS : Sat w0 w (modA p m :: A :: G)) :
    CR Tryz.prog 57 [ptr p, vi fd, pv] w fun v w' => v = .tuple #[vi (writeM m fd q).2.1, vi (writeM m fd q).2.2] ∧ Sat w0 w' (modA p (writeM m fd q).1 :: A :: G) := by
  have hpv : (pv = .slice none 0 0 ∧ q.length = 0 ∧ blkC q = []) ∨ ∃ b o c, pv = .slice (some ⟨b, o, none⟩) q.length c ∧ q.length ≤ c := Sat.srcForm hS (i := 1) rfl hA
  obtain ⟨av, cv, rfl, hcv⟩ : ∃ av cv, pv = .slice av q.length cv ∧ q.length ≤ cv := by
    rcases hpv with ⟨rfl, h4, _⟩ | ⟨b, o, c, rfl, h4⟩
    · exact ⟨none, 0, by rw [h4], by omega⟩
    · exact ⟨_, _, rfl, h4⟩
  refine calls_enter Tryz.func57 rfl rfl rfl ?_
  unfold writeM
  (repeat (first | (apply o_ptr ok; rfl; · conv => { lhs; whnf }) | (apply o_pure ok; · conv => { lhs; whnf; arg 1; whnf }) | refine c_seq ?_ | refine c_region ?_ | refine o_nil ?_ | refine q_then ?_))
  refine o_call ok rfl rfl (get_spec fd 2 hS) (fun v w h => ?_)
  obtain ⟨rfl, hS⟩ := h
  cases hg : getOk m fd 2 with
  | none =>
    unfold getR
    (repeat (first | (apply o_pure ok; · conv => { lhs; whnf; arg 1; whnf }) | refine c_seq ?_ | refine c_region ?_ | refine c_block ?_ | refine c_ret ?_ | refine o_nil ?_ | refine q_then ?_ | refine q_then_r ?_ | refine q_blk_r ?_ | (apply c_cond_t; rfl)))
    exact out2 rfl ⟨rfl, hS⟩
  | some x =>
    obtain ⟨hp, y, hy, hyk⟩ := hd x hg
    obtain ⟨hf0, hf16, hdx⟩ := getOk_some hg
    have hj : fd.toNat < 16 := by omega
    unfold getR
    simp only
    (repeat (first | (apply o_ptr ok; rfl; · conv => { lhs; whnf }) | (apply o_pure ok; · conv => { lhs; whnf; arg 1; whnf }) | refine c_seq ?_ | refine c_region ?_ | refine c_block ?_ | refine o_nil ?_ | refine q_then ?_ | (apply c_cond_f; rfl)))
    refine c_cond_d rfl (fun h1 => ?_) (fun h1 => ?_)
    · rw [if_pos h1]
      (repeat (first | (apply o_pure ok; · conv => { lhs; whnf; arg 1; whnf }) | refine c_seq ?_ | refine c_region ?_ | refine c_ret ?_ | refine o_nil ?_ | refine q_then ?_ | refine q_then_r ?_ | refine q_blk_r ?_))
      exact out2 rfl ⟨rfl, hS⟩
    rw [if_neg h1]
    obtain ⟨ib, tv, hS⟩ := Sat.modOpen hS
    have hS := Sat.descOpen (hS.bring 3 rfl) hj
    rw [hdx] at hS
    have back : ∀ {w : World}, Sat w0 w (descA (some x) :: restD m.d fd.toNat :: pt p (.cells (modC m.lay ib m.d tv) 58) :: mapA encI ib (itemsKV m.items) :: itemsA m.items :: toldA tv m.told :: A :: G) → Sat w0 w (modA p m :: A :: G) := fun hS =>
      Sat.modClose ((Sat.descSome hj hdx hS).back 3 rfl)
    (repeat (first | (apply o_add; rfl; rfl; omega) | (apply o_ptr ok; rfl; · conv => { lhs; whnf }) | (apply o_pure ok; · conv => { lhs; whnf; arg 1; whnf }) | refine c_seq ?_ | refine c_region ?_ | refine o_nil ?_ | refine q_then ?_ | (apply o_rd hS; apply rd_load ok (i := 0); rfl; rfl; rfl; rfl; · conv => { lhs; whnf; arg 1; whnf })))
    refine c_cond_d rfl (fun h2 => ?_) (fun h2 => ?_)
    · rw [if_pos h2]
      (repeat (first | (apply o_pure ok; · conv => { lhs; whnf; arg 1; whnf }) | refine c_seq ?_ | refine c_region ?_ | refine c_ret ?_ | refine o_nil ?_ | refine q_then ?_ | refine q_then_r ?_ | refine q_blk_r ?_))
      exact out2 rfl ⟨rfl, back hS⟩
    rw [if_neg h2]
    (repeat (first | refine c_seq ?_ | refine c_skip ?_ | refine q_then ?_ | refine q_blk_n ?_))
    refine region_q 9 mixed (by kernel_rfl) hS ?_
    (repeat (first | (apply r_ptr ok rfl; rfl; · conv => { lhs; whnf }) | (apply r_rd rfl; apply rd_load ok (i := 0); rfl; rfl; rfl; rfl; · conv => { lhs; whnf; arg 1; whnf }) | (apply r_rd rfl; apply rd_load ok (i := 2); rfl; rfl; rfl; rfl; · conv => { lhs; whnf; arg 1; whnf })))
    refine r_rd (v := ptr y.2.1) rfl (rd_item ok hy rfl rfl rfl rfl rfl (i := 3) rfl) ?_
    (repeat (first | refine r_nil ?_))
    intro w hS
    (repeat (first | (apply o_ptr ok; rfl; · conv => { lhs; whnf }) | (apply o_pure ok; · conv => { lhs; whnf; arg 1; whnf }) | refine c_seq ?_ | refine c_region ?_ | refine o_nil ?_ | refine q_then ?_ | (apply o_rd hS; apply rd_load ok (i := 0); rfl; rfl; rfl; rfl; · conv => { lhs; whnf; arg 1; whnf })))
    have hS := back hS
    refine o_call ok rfl rfl (pieces_spec x.2.place q.length (by omega) (by omega) hS) (fun v w hS => ?_)
    have hL : piecesOf x.2.place q.length = piecesGo q.length x.2.place (x.2.place + q.length) := by
      unfold piecesOf
      split
      · rename_i hbad
        have : q.length = 0 := by omega
        rw [this]; rfl
      · rw [Int.toNat_natCast]
    obtain ⟨hlen, ar, cr, rfl, hcr, har⟩ := Sat.rowForm hS (i := 0) rfl
    have hLl : (piecesOf x.2.place q.length).length ≤ q.length := by rw [hL]; exact piecesGo_len _ _ _
    generalize piecesOf x.2.place q.length = L at hL hS hcr har hLl ⊢
    have hS : Sat w0 w (modA p m :: rowA 178 2 (.slice ar L.length cr) L.length (L.flatMap pieceC) :: A :: G) := hS.bring 1 rfl
    have hlm : (q.length : Int) ≤ 65536 := by omega
    (repeat (first | (apply o_pure ok; · conv => { lhs; whnf; arg 1; whnf }) | refine c_block ?_ | refine o_nil ?_ | refine q_then ?_))
    refine c_cutB (K := fun g w => ∃ (m' : Mod) (dn : Int) (jk : Nat → Value), writeRun m x.2.inum x.2.place q = (m', dn) ∧ m'.d = m.d ∧ 0 ≤ dn ∧ dn ≤ q.length ∧
      g = updL [(0, ptr p), (2, .slice av q.length cv), (8, ptr x.1), (11, vi dn)] jk ∧ Sat w0 w (modA p m' :: A :: G)) ?_ ?_
    · refine c_loop (fun k' g w => ∃ (j : Nat) (l0 : List (Int × Int)) (b dn : Int) (m' : Mod) (y' : Itm) (jk : Nat → Value), l0.length = j ∧ j + k' = q.length ∧ L = l0 ++ piecesGo k' b (x.2.place + q.length) ∧ b = x.2.place + dn ∧ 0 ≤ dn ∧ b ≤ x.2.place + q.length ∧ x.2.place + q.length - b ≤ k' ∧
        Trimmed m m' x.2.inum y.2.1 y.2.2.kind j y' ∧ m'.d = m.d ∧ writeRun m x.2.inum x.2.place q = piecesRun k' m' x.2.inum b (x.2.place + q.length) (q.drop dn.toNat) dn ∧
        g = updL [(0, ptr p), (2, .slice av q.length cv), (8, ptr x.1), (10, ptr y.2.1), (11, vi dn), (52, .slice ar L.length cr), (53, vi L.length), (54, vi j)] jk ∧
        Sat w0 w (modA p m' :: rowA 178 2 (.slice ar L.length cr) L.length (L.flatMap pieceC) :: A :: G)) q.length
        ⟨0, [], x.2.place, 0, m, y, _, rfl, by omega, by rw [hL]; rfl, by omega, by omega, by omega, by omega, ⟨hf, hy, rfl, rfl, by omega⟩, rfl, rfl, updL_self _ _ ⟨rfl, rfl, rfl, rfl, rfl, rfl, rfl, rfl, trivial⟩, hS⟩ ?_
      rintro k' g w ⟨j, l0, b, dn, m', y', jk, hl0, hjk, hL2, hbd, hdn, hbe, hek, hm', hmd, hrun, rfl, hS⟩
      (repeat (first | (apply o_pure ok; · conv => { lhs; whnf; arg 1; whnf }) | refine c_seq ?_ | refine c_region ?_ | refine o_nil ?_ | refine q_then ?_))
      refine c_cond_d rfl (fun h3 => ?_) (fun h3 => ?_)
      · obtain ⟨k', rfl, hbe2⟩ : ∃ k'', k' = k'' + 1 ∧ b < x.2.place + q.length := by
          have hne : piecesGo k' b (x.2.place + q.length) ≠ [] := fun e => by rw [e, List.append_nil] at hL2; rw [hL2] at h3; omega
          cases k' with
          | zero => exact absurd rfl hne
          | succ k' => exact ⟨k', rfl, Decidable.byContradiction fun h => hne (by unfold piecesGo; rw [if_neg h])⟩
        have hL3 : L = l0 ++ (b, min (x.2.place + q.length) ((b / 8192 + 1) * 8192) - b) :: piecesGo k' (min (x.2.place + q.length) ((b / 8192 + 1) * 8192)) (x.2.place + q.length) := by
          rw [hL2]; congr 1; conv => { lhs; unfold piecesGo }; rw [if_pos hbe2]
        have hnx : b < min (x.2.place + q.length) ((b / 8192 + 1) * 8192) ∧ min (x.2.place + q.length) ((b / 8192 + 1) * 8192) ≤ x.2.place + q.length := by omega
        have hrun3 : piecesRun (k' + 1) m' x.2.inum b (x.2.place + q.length) (q.drop dn.toNat) dn = if pieceFits m' y'.2.2 b ((min (x.2.place + q.length) ((b / 8192 + 1) * 8192) - b).toNat : Int) = true then
            piecesRun k' (pieceM m' x.2.inum y'.2.2 b ((q.drop dn.toNat).take (min (x.2.place + q.length) ((b / 8192 + 1) * 8192) - b).toNat)) x.2.inum (min (x.2.place + q.length) ((b / 8192 + 1) * 8192)) (x.2.place + q.length) ((q.drop dn.toNat).drop (min (x.2.place + q.length) ((b / 8192 + 1) * 8192) - b).toNat) (dn + ((min (x.2.place + q.length) ((b / 8192 + 1) * 8192) - b).toNat : Int))
            else (m', dn) := by
          conv => { lhs; unfold piecesRun }
          rw [if_pos hbe2, hm'.at_]
        rw [hrun3] at hrun
        generalize min (x.2.place + q.length) ((b / 8192 + 1) * 8192) = nx at hL3 hnx hrun hrun3
        obtain ⟨nl, hnl⟩ : ∃ nl : Nat, nx - b = nl := ⟨(nx - b).toNat, by omega⟩
        rw [hnl, Int.toNat_natCast] at hrun
        rw [hnl] at hL3
        have hge : L[j]? = some (b, (nl : Int)) := by rw [hL3, ← hl0]; simp
        have hck := flatMap_two pieceC 2 (fun _ => rfl) L j _ hge
        have hcl := flatMap_len pieceC 2 (fun _ => rfl) L
        obtain ⟨br, rfl⟩ := har (by omega)
        have hdnl : dn.toNat + nl ≤ q.length := by omega
        (repeat (first | refine c_seq ?_ | refine c_region ?_ | refine c_block ?_ | refine c_skip ?_ | refine q_then ?_))
        apply o_rd hS (rd_indexAddr ok rfl rfl rfl rfl (by omega))
        apply o_rd hS (rd_loadAR (vs := pieceC (b, (nl : Int))) ok rfl rfl rfl rfl (i := 1) rfl rfl (by rw [hcl]; simp; omega) (by simpa using hck))
        (repeat (first | refine c_seq ?_ | refine o_nil ?_ | refine q_then ?_ | refine o_alloc ok hS rfl (fun bx w hS => ?_) | (refine o_storeW ok hS rfl rfl rfl (i := 0) rfl rfl rfl rfl (fun w hS => ?_))))
        refine region_q 10 mixed (by kernel_rfl) hS ?_
        (repeat (first | (apply r_add rfl; rfl; rfl; omega) | (apply r_ptr ok rfl; rfl; · conv => { lhs; whnf }) | (apply r_pure ok rfl; · conv => { lhs; whnf; arg 1; whnf }) | (apply r_rd rfl; apply rd_load ok (i := 0); rfl; rfl; rfl; rfl; · conv => { lhs; whnf; arg 1; whnf }) | refine r_rd rfl (rd_loadW ok (i := 0) rfl rfl rfl rfl rfl rfl) ?_))
        apply r_rd rfl (rd_slice (l := dn.toNat) (h := dn.toNat + nl) ok rfl rfl rfl (by exact ⟨.i64, by show vi _ = vi _; congr 1; omega⟩) (by exact ⟨.i64, by show vi _ = vi _; congr 1; omega⟩) (by omega) (by omega))
        (repeat (first | refine r_nil ?_))
        intro w hS
        have hS : Sat w0 w (pt bx (.cells (pieceC (b, (nl : Int))).toArray 178) :: modA p m' :: rowA 178 2 (.slice (some ⟨br, 0, none⟩) L.length cr) L.length (L.flatMap pieceC) :: A :: G) := hS
        have hS := ((hS.bring 3 rfl).bring 2 rfl)
        obtain ⟨bq, oq, hav⟩ : ∃ b o, av = some (⟨b, o, none⟩ : Addr) := by
          rcases hpv with ⟨_, h5, _⟩ | ⟨b, o, c, h5, _⟩
          · omega
          · cases h5; exact ⟨b, o, rfl⟩
        subst hav
        have hAs : ∀ h, A h → SrcH h (.slice (if cv = dn.toNat then some ⟨bq, oq, none⟩ else (some (⟨bq, oq, none⟩ : Addr)).map (·.add (dn.toNat * 1))) (dn.toNat + nl - dn.toNat) (cv - dn.toNat)) nl (blkC ((q.drop dn.toNat).take nl)) := fun h hh => by
          have h5 := (hA h hh).sub (blkC_len _) (l := dn.toNat) (k := dn.toNat + nl) (by omega) (by omega) _ rfl
          have e5 : ((blkC q).drop dn.toNat).take (dn.toNat + nl - dn.toNat) = blkC ((q.drop dn.toNat).take nl) := by
            unfold blkC
            rw [← List.map_drop, ← List.map_take, Nat.add_sub_cancel_left]
          rw [e5] at h5
          rw [Nat.add_sub_cancel_left] at h5 ⊢
          exact h5
        have hqs : nl = ((q.drop dn.toNat).take nl).length := by rw [List.length_take, List.length_drop]; omega
        generalize (q.drop dn.toNat).take nl = qs at hqs hAs hrun
        subst hqs
        have hnk : ¬y'.2.2.kind = 2 := by rw [hm'.kind]; exact hyk
        have htold := hm'.told
        refine o_call ok rfl rfl (by rw [← hm'.ptr]; exact piece_spec hm'.fine (by omega) hm'.at_ hnk (by omega) (by omega) hAs hS) (fun v w h => ?_)
        obtain ⟨rfl, hS⟩ := h
        have hS := ((hS.bring 2 rfl).bring 3 rfl).bring 2 rfl
        have hS : Sat w0 w (modA p (pieceM m' x.2.inum y'.2.2 b qs) :: rowA 178 2 (.slice (some ⟨br, 0, none⟩) L.length cr) L.length (L.flatMap pieceC) :: pt bx (.cells (pieceC (b, (qs.length : Int))).toArray 178) :: A :: G) := hS
        cases hfit : pieceFits m' y'.2.2 b qs.length with
        | false =>
          rw [hfit, if_neg (by simp)] at hrun
          have e6 : pieceM m' x.2.inum y'.2.2 b qs = m' := by unfold pieceM; rw [hfit, if_neg (by simp)]
          rw [e6] at hS
          (repeat (first | (apply o_pure ok; · conv => { lhs; whnf; arg 1; whnf }) | refine c_exit ?_ | refine o_nil ?_ | refine q_then ?_ | refine q_then_e ?_ | refine q_blk_e ?_ | refine q_blk_o rfl ?_ | (apply c_cond_t; rfl)))
          exact ⟨m', dn, _, hrun, hmd, hdn, by omega, updL_self _ _ ⟨rfl, rfl, rfl, rfl, trivial⟩, ((hS.bring 1 rfl).tail.bring 1 rfl).tail⟩
        | true =>
          rw [hfit, if_pos rfl] at hrun
          have e6 : pieceM m' x.2.inum y'.2.2 b qs = stepM (updM m' x.2.inum (pieceOf y'.2.2 b qs)) := pieceM_yes hfit
          have hity := hm'.fine.it y' (getX_some hm'.at_).1
          have ht2 : Trimmed m (pieceM m' x.2.inum y'.2.2 b qs) x.2.inum y.2.1 y.2.2.kind (j + 1) (y'.1, y'.2.1, pieceOf y'.2.2 b qs) := by
            rw [e6]
            refine ⟨(hm'.fine.upd (piece_ok hity hnk (by omega) (by omega))).step, getX_upd hm'.at_ _, hm'.ptr, hm'.kind, ?_⟩
            show (m'.told ++ [_]).length ≤ _
            rw [List.length_append]; simp; omega
          have hmd2 : (pieceM m' x.2.inum y'.2.2 b qs).d = m.d := by rw [e6]; exact hmd
          generalize pieceM m' x.2.inum y'.2.2 b qs = m2 at hS ht2 hmd2 hrun
          (repeat (first | (apply o_add; rfl; rfl; omega) | (apply o_ptr ok; rfl; · conv => { lhs; whnf }) | (apply o_pure ok; · conv => { lhs; whnf; arg 1; whnf }) | refine c_region ?_ | refine c_skip ?_ | refine o_nil ?_ | refine q_then ?_ | refine q_blk_n ?_ | (apply c_cond_f; rfl) | (apply o_rd hS; apply rd_load ok (i := 2); rfl; rfl; rfl; rfl; · conv => { lhs; whnf; arg 1; whnf })))
          refine ⟨k', by omega, j + 1, l0 ++ [(b, (qs.length : Int))], nx, dn + qs.length, m2, _, _, by simp [hl0], by omega, by rw [hL3, List.append_assoc]; rfl, by omega, by omega, by omega, by omega, ht2, hmd2, ?_, updL_self _ _ ⟨rfl, rfl, rfl, rfl, rfl, rfl, rfl, rfl, trivial⟩, ((hS.bring 2 rfl).tail)⟩
          rw [hrun, List.drop_drop]
          congr 2
          omega
      · have hk0 : piecesGo k' b (x.2.place + q.length) = [] := by
          have h5 := congrArg List.length hL2
          rw [List.length_append] at h5
          exact List.eq_nil_of_length_eq_zero (by omega)
        have hbe2 : ¬b < x.2.place + q.length := fun h => by
          cases k' with
          | zero => omega
          | succ k' => unfold piecesGo at hk0; rw [if_pos h] at hk0; cases hk0
        have hr : piecesRun k' m' x.2.inum b (x.2.place + q.length) (q.drop dn.toNat) dn = (m', dn) := by
          cases k' with
          | zero => rfl
          | succ k' => unfold piecesRun; rw [if_neg hbe2]
        rw [hr] at hrun
        (repeat (first | refine c_exit ?_ | refine q_then ?_ | refine q_then_e ?_ | refine q_blk_e ?_))
        exact ⟨m', dn, _, hrun, hmd, hdn, by omega, updL_self _ _ ⟨rfl, rfl, rfl, rfl, trivial⟩, (hS.bring 1 rfl).tail⟩
    · rintro g w ⟨m', dn, jk, hrun, hmd, hdn, hdq, rfl, hS⟩
      rw [hrun]
      simp only
      obtain ⟨ib, tv, hS⟩ := Sat.modOpen hS
      have hS := Sat.descOpen (hS.bring 3 rfl) hj
      rw [hmd, hdx] at hS
      have hS : Sat w0 w (pt x.1 (.cells #[vi x.2.inum, vi x.2.place, vi x.2.flags] 125) :: restD m.d fd.toNat :: pt p (.cells (modC m'.lay ib m.d tv) 58) :: mapA encI ib (itemsKV m'.items) :: itemsA m'.items :: toldA tv m'.told :: A :: G) := hS
      (repeat (first | (apply o_add; rfl; rfl; omega) | (apply o_ptr ok; rfl; · conv => { lhs; whnf }) | (apply o_pure ok; · conv => { lhs; whnf; arg 1; whnf }) | refine c_seq ?_ | refine c_region ?_ | (apply o_rd hS; apply rd_load ok (i := 0); rfl; rfl; rfl; rfl; · conv => { lhs; whnf; arg 1; whnf })))
      (apply o_store ok hS (i := 0); rfl; (conv => { lhs; whnf }); rfl; rfl; rfl; rfl; intro w hS)
      have hS : Sat w0 w (descA (some (x.1, ⟨x.2.inum, x.2.place + dn, x.2.flags⟩)) :: restD m.d fd.toNat :: pt p (.cells (modC m'.lay ib m.d tv) 58) :: mapA encI ib (itemsKV m'.items) :: itemsA m'.items :: toldA tv m'.told :: A :: G) := hS
      have hS := Sat.descClose hj (some (x.1, ⟨x.2.inum, x.2.place + dn, x.2.flags⟩)) hS
      have hS := hS.back 3 rfl
      have hmc : modC m'.lay ib m.d tv = modC m'.lay ib (setD m.d fd.toNat (some (x.1, ⟨x.2.inum, x.2.place + dn, x.2.flags⟩))) tv := by
        rw [← modC_set (o := some (x.1, (⟨x.2.inum, x.2.place + dn, x.2.flags⟩ : Dsc))) hj]
        have h7 := modC_desc (y := m'.lay) (ib := ib) (d := m.d) (tv := tv) hj
        rw [hdx] at h7
        exact (set_same h7).symm
      have hS : Sat w0 w (pt p (.cells (modC m'.lay ib m.d tv) 58) :: mapA encI ib (itemsKV m'.items) :: itemsA m'.items :: descsA (setD m.d fd.toNat (some (x.1, ⟨x.2.inum, x.2.place + dn, x.2.flags⟩))) :: toldA tv m'.told :: A :: G) := hS
      rw [hmc] at hS
      have hS : Sat w0 w (modA p (putD m' fd (some (x.1, ⟨x.2.inum, x.2.place + dn, x.2.flags⟩))) :: A :: G) := by
        have e7 : putD m' fd (some (x.1, ⟨x.2.inum, x.2.place + dn, x.2.flags⟩)) = { m' with d := setD m.d fd.toNat (some (x.1, ⟨x.2.inum, x.2.place + dn, x.2.flags⟩)) } := by unfold putD; rw [hmd]
        rw [e7]
        exact Sat.modClose (m := { m' with d := setD m.d fd.toNat (some (x.1, ⟨x.2.inum, x.2.place + dn, x.2.flags⟩)) }) hS
      (repeat (first | (apply o_pure ok; · conv => { lhs; whnf; arg 1; whnf }) | refine c_seq ?_ | refine c_region ?_ | refine o_nil ?_ | refine q_then ?_))
      refine o_guard_d rfl rfl rfl (fun h5 => ?_) (fun h5 => ?_)
      · (repeat (first | (apply o_pure ok; · conv => { lhs; whnf; arg 1; whnf }) | refine o_nil ?_ | refine q_then ?_ | refine o_want rfl rfl rfl ?_))
        refine c_cond_d rfl (fun h6 => ?_) (fun h6 => ?_)
        · rw [if_pos ⟨h5, h6⟩]
          (repeat (first | (apply o_pure ok; · conv => { lhs; whnf; arg 1; whnf }) | refine c_seq ?_ | refine c_region ?_ | refine c_ret ?_ | refine o_nil ?_ | refine q_then ?_ | refine q_then_r ?_))
          exact out2 rfl ⟨rfl, hS⟩
        · rw [if_neg (fun h => h6 h.2)]
          (repeat (first | (apply o_pure ok; · conv => { lhs; whnf; arg 1; whnf }) | refine c_seq ?_ | refine c_region ?_ | refine c_skip ?_ | refine c_ret ?_ | refine o_nil ?_ | refine q_then ?_))
          exact out2 rfl ⟨rfl, hS⟩
      · rw [if_neg (fun h => h5 h.1)]
        (repeat (first | (apply o_pure ok; · conv => { lhs; whnf; arg 1; whnf }) | refine c_seq ?_ | refine c_region ?_ | refine c_skip ?_ | refine c_ret ?_ | refine o_nil ?_ | refine q_then ?_ | (apply c_cond_f; rfl) | refine o_pass rfl rfl rfl rfl ?_))
        exact out2 rfl ⟨rfl, hS⟩
end Go.Proofs.YtllomopjoomdiaaGreat
end
