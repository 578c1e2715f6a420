/- Part 2 of the proof: modelNone holds: a model that is nil, or that nobody made, answers every call with ErrNil and nothing else, for every list of calls; without conditions. -/
import Derived.Test.YtllomopjoomdiaaGreatNoneA
import Derived.Great.FillDense
import Derived.Test.YtllomopjoomdiaaGreatProg
import Derived.KernelRfl
section
namespace Go.SL

/-! ## Lists of assertions: one of them to the front, and back -/

theorem grp_pack {A : Asn} {B : List Asn} {h : Hp} (hg : grp (A :: B) h) : grp [A, grp B] h := grp_close (l := [A]) hg
theorem grp_emp {l : List Asn} {h : Hp} (hg : grp (emp :: l) h) : grp l h := by
  obtain ⟨own, H⟩ := hg
  refine ⟨fun x => own x - 1 + (if own x = 0 then l.length else 0), fun i B hi => ?_⟩
  have := H (i + 1) B (by simpa using hi)
  have hl := lt_of_get hi
  refine (?_ : cutHp _ i h = cutHp own (i + 1) h) ▸ this
  funext x; unfold cutHp
  by_cases h1 : own x = i + 1
  · rw [if_pos h1, if_pos]
    show own x - 1 + (if own x = 0 then l.length else 0) = i
    rw [if_neg (by omega)]; omega
  · rw [if_neg h1, if_neg]
    show ¬ (own x - 1 + (if own x = 0 then l.length else 0) = i)
    by_cases h2 : own x = 0
    · rw [if_pos h2]; omega
    · rw [if_neg h2]; omega
theorem grp_unpack {A : Asn} {B : List Asn} {h : Hp} (hg : grp [A, grp B] h) : grp (A :: B) h := by
  have h1 := grp_open hg (i := 1) (l2 := B) rfl
  have h2 : grp ([A, emp] ++ B) h := h1
  have h3 := grp_bring h2 (i := 1) (A := emp) rfl
  exact grp_emp h3

theorem grp_unbring {l : List Asn} {h : Hp} {i : Nat} {A : Asn} (hi : i < l.length) (hg : grp (A :: l.eraseIdx i) h) : grp (l.set i A) h := by
  obtain ⟨own, H⟩ := hg
  refine ⟨fun x => if own x = 0 then i else if own x ≤ i then own x - 1 else own x, fun j X hj => ?_⟩
  have key : ∀ q, (∀ x, (if own x = 0 then i else if own x ≤ i then own x - 1 else own x) = j ↔ own x = q) → (A :: l.eraseIdx i)[q]? = some X →
      X (cutHp (fun x => if own x = 0 then i else if own x ≤ i then own x - 1 else own x) j h) := fun q hq hX => by
    have := H q X hX
    have e : cutHp (fun x => if own x = 0 then i else if own x ≤ i then own x - 1 else own x) j h = cutHp own q h := by
      funext x; unfold cutHp
      by_cases h1 : own x = q
      · rw [if_pos h1, if_pos ((hq x).2 h1)]
      · rw [if_neg h1, if_neg (fun h2 => h1 ((hq x).1 h2))]
    rw [e]; exact this
  rw [List.getElem?_set] at hj
  by_cases e : i = j
  · subst e
    simp only [if_true, hi] at hj
    cases hj
    refine key 0 (fun x => ?_) rfl
    by_cases h1 : own x = 0
    · rw [if_pos h1]; exact ⟨fun _ => h1, fun _ => rfl⟩
    · rw [if_neg h1]
      by_cases h2 : own x ≤ i
      · rw [if_pos h2]; omega
      · rw [if_neg h2]; omega
  · rw [if_neg e] at hj
    rcases Nat.lt_or_ge j i with g | g
    · refine key (j + 1) (fun x => ?_) (by simp only [List.getElem?_cons_succ, List.getElem?_eraseIdx, if_pos g]; exact hj)
      by_cases h1 : own x = 0
      · rw [if_pos h1]; omega
      · rw [if_neg h1]
        by_cases h2 : own x ≤ i
        · rw [if_pos h2]; omega
        · rw [if_neg h2]; omega
    · cases j with
      | zero => exact absurd g (by omega)
      | succ j =>
        refine key (j + 1) (fun x => ?_) (by simp only [List.getElem?_cons_succ, List.getElem?_eraseIdx, if_neg (show ¬ j < i by omega)]; exact hj)
        by_cases h1 : own x = 0
        · rw [if_pos h1]; omega
        · rw [if_neg h1]
          by_cases h2 : own x ≤ i
          · rw [if_pos h2]; omega
          · rw [if_neg h2]

theorem map_erase {α : Type} {β : Type _} (F : α → β) (xs : List α) (j : Nat) : (xs.map F).eraseIdx j = (xs.eraseIdx j).map F := by
  induction xs generalizing j with
  | nil => rfl
  | cons a xs ih => cases j with
    | zero => rfl
    | succ j => simp [ih j]

section
variable {α : Type} {F : α → Asn} {xs : List α} {j : Nat} {x : α} {w0 w : World} {l : List Asn} {h : Hp}

theorem grp_focus (hx : xs[j]? = some x) (hg : grp (xs.map F) h) : grp [F x, grp ((xs.eraseIdx j).map F)] h := by
  have := grp_bring hg (i := j) (A := F x) (by simp [hx])
  rw [map_erase] at this
  exact grp_pack this
theorem grp_unfocus {x' : α} (hj : j < xs.length) (hg : grp [F x', grp ((xs.eraseIdx j).map F)] h) : grp ((xs.set j x').map F) h := by
  have := grp_unpack hg
  rw [← map_erase] at this
  have := grp_unbring (by simpa using hj) this
  rwa [← List.map_set] at this
theorem grp_snoc (hg : grp [F x, grp (xs.map F)] h) : grp ((xs ++ [x]).map F) h := by
  have h1 : grp ([F x] ++ xs.map F) h := grp_unpack hg
  have := grp_comm h1
  simpa using this

/-- One of many to the front. -/
theorem Sat.focus (hS : Sat w0 w (grp (xs.map F) :: l)) (j : Nat) (hx : xs[j]? = some x) : Sat w0 w (F x :: grp ((xs.eraseIdx j).map F) :: l) :=
  hS.openH [F x, grp ((xs.eraseIdx j).map F)] fun _ hg => grp_focus hx hg
theorem Sat.unfocus {x' : α} (hS : Sat w0 w (F x' :: grp ((xs.eraseIdx j).map F) :: l)) (hj : j < xs.length) : Sat w0 w (grp ((xs.set j x').map F) :: l) :=
  Sat.closeH [F x', grp ((xs.eraseIdx j).map F)] hS fun _ hg => grp_unfocus hj hg
theorem Sat.refocus (hS : Sat w0 w (F x :: grp ((xs.eraseIdx j).map F) :: l)) (hx : xs[j]? = some x) : Sat w0 w (grp (xs.map F) :: l) := by
  have := hS.unfocus (lt_of_get hx)
  have e : xs.set j x = xs := by
    apply List.ext_getElem?; intro q
    rw [List.getElem?_set]
    by_cases h : j = q
    · subst h; rw [if_pos rfl, if_pos (lt_of_get hx), hx]
    · rw [if_neg h]
  rwa [e] at this
theorem Sat.snoc (hS : Sat w0 w (F x :: grp (xs.map F) :: l)) : Sat w0 w (grp ((xs ++ [x]).map F) :: l) :=
  Sat.closeH [F x, grp (xs.map F)] hS fun _ hg => grp_snoc hg
end

theorem Sat.back {w0 w : World} {l : List Asn} {A : Asn} (h : Sat w0 w (A :: l)) (i : Nat) (hi : Nat.ble i l.length = true) : Sat w0 w (l.take i ++ A :: l.drop i) := by
  have hle := Nat.le_of_ble_eq_true hi
  have e1 : (l.take i ++ emp :: l.drop i).eraseIdx i = l := by
    rw [List.eraseIdx_append_of_length_le (by simp; omega)]
    simp [Nat.min_eq_left hle]
  have e2 : (l.take i ++ emp :: l.drop i).set i A = l.take i ++ A :: l.drop i := by
    rw [List.set_append_right _ _ (by simp; omega)]
    simp [Nat.min_eq_left hle]
  have := grp_unbring (l := l.take i ++ emp :: l.drop i) (i := i) (A := A) (by simp; omega) (by rw [e1]; exact h.2)
  exact ⟨h.1, by rw [e2] at this; exact this⟩

/-! ## Frames of which some slots are known -/
def updL : List (Nat × Value) → (Nat → Value) → (Nat → Value)
  | [], f => f
  | (d, v) :: l, f => upd (updL l f) d v
def Knows : List (Nat × Value) → (Nat → Value) → Prop
  | [], _ => True
  | (d, v) :: l, f => f d = v ∧ Knows l f
theorem updL_self : ∀ (l : List (Nat × Value)) (f : Nat → Value), Knows l f → f = updL l f
  | [], _, _ => rfl
  | (d, v) :: l, f, h => by
    unfold updL
    rw [← updL_self l f h.2, upd_self f d v h.1]
/-- A frame, taken to its known slots. -/
theorem known (l : List (Nat × Value)) {f : Nat → Value} (h : Knows l f) : ∃ g, f = updL l g := ⟨f, updL_self l f h⟩

/-! ### Results that stand in variables -/
section
variable {P : Program} {fn : Func} {R : Value → World → Prop} {n : Nat} {f : Nat → Value} {w w0 : World} {tb : Tab} (ok : TabOk P tb) {L : List Asn}
include ok
theorem run_varA {ty m b i T : Nat} {dsc : TypeDesc} {cs : Array Value} {fz : Nat × Nat} (hS : Sat w0 w L) (ht : tb.u ty = some dsc) (hag : aggT dsc = true) (hz : tb.sz ty = some m) (hi : L[i]? = some (pt b (.cells cs T fz))) (hk : cs.size = m) :
    (loadVar ty ⟨b, 0, none⟩).run P w = .ok (.agg cs) w := by
  have hr := run_loadCells (P := P) (k := 0) (m := m) (hS.block hi) (by omega)
  have e : cs.extract 0 (0 + m) = cs := by apply Array.ext' ; simp [← hk]
  rw [e] at hr
  simp [loadVar, run_isAgg ok ht, hag, run_sz ok hz, hr]
theorem outCA {t ty m b i T : Nat} {dsc : TypeDesc} {cs : Array Value} {fz : Nat × Nat} (h : fn.results = #[.cell t ty]) (hS : Sat w0 w L) (ht : tb.u ty = some dsc) (hag : aggT dsc = true) (hz : tb.sz ty = some m) (ha : ev n f (.tmp t) = .pointer (some ⟨b, 0, none⟩)) (hi : L[i]? = some (pt b (.cells cs T fz))) (hk : cs.size = m) (hR : R (.agg cs) w) : QA (doneF P fn R n) .ret f w :=
  outC h ha (run_varA ok hS ht hag hz hi hk) hR
theorem outCA1 {t u ty m b i T : Nat} {dsc : TypeDesc} {cs : Array Value} {fz : Nat × Nat} (h : fn.results = #[.cell t ty, .tmp u]) (hS : Sat w0 w L) (ht : tb.u ty = some dsc) (hag : aggT dsc = true) (hz : tb.sz ty = some m) (ha : ev n f (.tmp t) = .pointer (some ⟨b, 0, none⟩)) (hi : L[i]? = some (pt b (.cells cs T fz))) (hk : cs.size = m) (hR : R (.tuple #[.agg cs, ev n f (.tmp u)]) w) : QA (doneF P fn R n) .ret f w :=
  outC1 h ha (run_varA ok hS ht hag hz hi hk) hR
end

/-! ### Rows -/
theorem Sat.rowForm {w0 w : World} {L : List Asn} (hS : Sat w0 w L) {i e size n : Nat} {v : Value} {xs : List Value} (hi : L[i]? = some (rowA e size v n xs)) : xs.length = n * size ∧ ∃ a cap, v = .slice a n cap ∧ n ≤ cap ∧ (0 < n → ∃ b, a = some ⟨b, 0, none⟩) := by
  refine hS.pure (p := xs.length = n * size ∧ ∃ a cap, v = .slice a n cap ∧ n ≤ cap ∧ (0 < n → ∃ b, a = some ⟨b, 0, none⟩)) hi ?_
  rintro h ⟨h1, ⟨rfl, rfl⟩ | ⟨g, cap, cur, rfl, _, hc, _⟩⟩
  · exact ⟨h1, none, 0, rfl, Nat.le_refl _, fun h => absurd h (by omega)⟩
  · exact ⟨h1, some ⟨g, 0, none⟩, cap, rfl, hc, fun _ => ⟨g, rfl⟩⟩

theorem mget_map {α β : Type} [DecidableEq α] (l : List β) (key : β → α) (val : β → Value) (k : α) : mget (l.map fun x => (key x, val x)) k = (l.find? fun x => decide (key x = k)).map val := by
  unfold mget
  rw [List.find?_map]
  simp [Function.comp_def]
theorem mget_const {α : Type} [DecidableEq α] (l : List α) (u : Value) (k : α) : mget (l.map fun x => (x, u)) k = if k ∈ l then some u else none := by
  have e := mget_map l id (fun _ => u) k
  have e2 : (l.map fun x => (id x, u)) = l.map fun x => (x, u) := rfl
  rw [e2] at e; rw [e]
  by_cases h : k ∈ l
  · rw [if_pos h]
    cases hf : l.find? (fun x => decide (id x = k)) with
    | none => exact absurd (List.find?_eq_none.1 hf k h) (by simp)
    | some x => rfl
  · rw [if_neg h]
    cases hf : l.find? (fun x => decide (id x = k)) with
    | none => rfl
    | some x => have := List.find?_some hf; simp at this; subst this; exact absurd (List.mem_of_find?_eq_some hf) h
theorem mset_const {α : Type} [DecidableEq α] (l : List α) (u : Value) (k : α) : mset (l.map fun x => (x, u)) k u = (if k ∈ l then l else l ++ [k]).map fun x => (x, u) := by
  unfold mset
  rw [mget_const]
  by_cases h : k ∈ l
  · rw [if_pos h, if_pos h, if_pos (by rfl)]
    rw [List.map_map]
    apply List.map_congr_left
    intro x _
    by_cases e : x = k
    · subst e; simp
    · simp [e]
  · rw [if_neg h, if_neg h, if_neg (by simp)]
    simp

/-! ### Maps that serve as sets -/
def setKV {α : Type} (l : List α) (u : Value) : List (α × Value) := l.map fun x => (x, u)
section
variable {P : Program} {ops : Array Oper} {Q : QF} {rest : List Oper} {n : Nat} {f : Nat → Value} {w w0 : World} {L : List Asn} {d : Nat} {ty : TypeId} {pos : String} {after : Array Edge} {tb : Tab} {i b : Nat} {t : TypeId} {x y z : Operand}
variable (ok : TabOk P tb) {α : Type} [DecidableEq α] {kt et : TypeId} {kd : TypeDesc} {enc : α → Value} (ko : KeyOk kd enc) {l : List α} {u : Value} {q : α}
include ok ko
theorem rd_set (ht : tb.u t = some (.map kt et)) (hk : tb.u kt = some kd) (hz : tb.zero et = some u) (hx : ev n f x = .map (some b)) (hy : ev n f y = enc q) (hi : L[i]? = some (mapA enc b (setKV l u))) :
    Rd P w0 L n f (.lookup t x y true) (.tuple #[u, .bool (decide (q ∈ l))]) := by
  have h := rd_lookup2 (w0 := w0) ok ko ht hk hz hx hy hi
  have e : Value.tuple #[(mget (setKV l u) q).getD u, .bool (mget (setKV l u) q).isSome] = .tuple #[u, .bool (decide (q ∈ l))] := by
    unfold setKV; rw [mget_const]; by_cases h : q ∈ l <;> simp [h]
  rwa [e] at h
theorem o_setAdd {ty : TypeId} (hS : Sat w0 w L) (ht : tb.u t = some (.map kt et)) (hk : tb.u kt = some kd) (hx : ev n f x = .map (some b)) (hy : ev n f y = enc q) (hz : ev n f z = u) (hi : L[i]? = some (mapA enc b (setKV l u)))
    (h : ∀ w', Sat w0 w' (L.set i (mapA enc b (setKV (if q ∈ l then l else l ++ [q]) u))) → WL P ops Q rest n f w') : WL P ops Q (⟨none, .mapUpdate t x y z, ty, pos, after, none⟩ :: rest) n f w :=
  o_mapUpdate ok ko hS ht hk hx hy hz hi fun w' hS' => h w' (by unfold setKV at hS' ⊢; rwa [mset_const] at hS')
end

/-! ### Several cells of a row -/
section
variable {P : Program} {w0 : World} {L : List Asn} {n : Nat} {f : Nat → Value} {i b : Nat} {t : TypeId} {x : Operand} {tb : Tab} (ok : TabOk P tb)
include ok
theorem rd_loadAR {q e size m sz : Nat} {rv : Value} {xs vs : List Value} {dsc : TypeDesc} {c : Nat} (ht : tb.u t = some dsc) (hag : aggT dsc = true) (hz : tb.sz t = some sz) (hx : ev n f x = .pointer (some ⟨b, q, none⟩))
    (hi : L[i]? = some (rowA e size rv m xs)) (hrv : rv = .slice (some ⟨b, 0, none⟩) m c) (hl : q + sz ≤ xs.length) (hv : (xs.drop q).take sz = vs) : Rd P w0 L n f (.load t x) (.agg vs.toArray) := ⟨fun G w _ _ _ _ hS => by
  subst hrv
  have ho := hS.rowOwn (i := i) (by rw [List.getElem?_append_left (lt_of_get hi)]; exact hi)
  rcases ho.2 with ⟨h1, _⟩ | ⟨g, cap, cur, hs, _, hg, _, _, hcur, htake⟩
  · cases h1
  · cases hs
    have hsz : q + sz ≤ cur.size := by
      have := congrArg List.length htake
      simp at this; omega
    have hr := run_loadCells (P := P) hg hsz
    have e1 : cur.extract q (q + sz) = vs.toArray := by
      apply Array.ext'
      rw [← hv, ← htake]
      have h1 : q + sz ≤ m * size := by rw [← htake] at hl; simp at hl; omega
      simp only [Array.toList_extract, List.extract_eq_take_drop]
      rw [List.drop_take, List.take_take, show q + sz - q = sz by omega, Nat.min_eq_left (by omega)]
    rw [e1] at hr
    simp [execOp, Instr.loadAt, hx, Instr.sureAddr, loadVar, run_isAgg ok ht, hag, run_sz ok hz, hr]⟩
end
theorem flatMap_two {α : Type} (g : α → List Value) (k : Nat) (hg : ∀ a, (g a).length = k) : ∀ (l : List α) (j : Nat) (a : α), l[j]? = some a → ((l.flatMap g).drop (j * k)).take k = g a
  | [], j, a, h => by simp at h
  | b :: l, 0, a, h => by
    simp at h; subst h
    simp only [List.flatMap_cons, Nat.zero_mul, List.drop_zero]
    rw [List.take_append_of_le_length (by rw [hg]; exact Nat.le_refl _), List.take_of_length_le (by rw [hg]; exact Nat.le_refl _)]
  | b :: l, j + 1, a, h => by
    simp only [List.getElem?_cons_succ] at h
    rw [List.flatMap_cons, Nat.succ_mul, Nat.add_comm (j * k) k, ← List.drop_drop, List.drop_left' (hg b)]
    exact flatMap_two g k hg l j a h
theorem flatMap_len {α : Type} (g : α → List Value) (k : Nat) (hg : ∀ a, (g a).length = k) : ∀ (l : List α), (l.flatMap g).length = l.length * k
  | [] => by simp
  | b :: l => by rw [List.flatMap_cons, List.length_append, hg, flatMap_len g k hg l, List.length_cons, Nat.succ_mul, Nat.add_comm]

/-! ### Ranging over a map: what is left -/
section
variable {α : Type} [DecidableEq α] {enc : α → Value} {left kvs : List (α × Value)} {cur : Option (α × Value)}
omit [DecidableEq α] in
theorem iter_nodup (hinj : ∀ a b, enc a = enc b → a = b) {es : Array MapEntry} {clock : Nat} {seen : Array Nat} (hI : IterOk enc es clock seen kvs left cur) : (left.map (·.1)).Nodup := by
  have h1 : (left.map fun p => (enc p.1, p.2)).Sublist (kvs.map fun p => (enc p.1, p.2)) := by
    rw [← hI.lef, ← hI.ok.kv]
    apply List.Sublist.map
    unfold leftOf
    rw [Array.toList_filter]
    exact List.filter_sublist
  have h2 : (left.map fun p => enc p.1).Sublist (kvs.map fun p => enc p.1) := by
    have := h1.map Prod.fst
    simpa [List.map_map, Function.comp_def] using this
  have h3 : (kvs.map fun p => enc p.1).Nodup := by
    have := hI.ok.keys
    have e : (kvs.map fun p => enc p.1) = (kvs.map (·.1)).map enc := by simp [List.map_map, Function.comp_def]
    rw [e]
    rw [List.nodup_iff_pairwise_ne] at this ⊢
    exact List.pairwise_map.2 (this.imp fun h e => h (hinj _ _ e))
  have h4 := h3.sublist h2
  have e : (left.map fun p => enc p.1) = (left.map (·.1)).map enc := by simp [List.map_map, Function.comp_def]
  rw [e] at h4
  rw [List.nodup_iff_pairwise_ne] at h4 ⊢
  exact (List.pairwise_map.1 h4).imp fun h e => h (by rw [e])
theorem perm_mdel : ∀ {left : List (α × Value)}, (left.map (·.1)).Nodup → ∀ {p : α × Value}, p ∈ left → left.Perm (p :: mdel left p.1)
  | q :: left, hn, p, hp => by
    simp only [List.map_cons, List.nodup_cons] at hn
    rcases List.mem_cons.1 hp with rfl | hp
    · have e : mdel (p :: left) p.1 = left := by
        unfold mdel
        rw [List.filter_cons_of_neg (by simp)]
        apply List.filter_eq_self.2
        intro x hx
        have : x.1 ≠ p.1 := fun e => hn.1 (by rw [← e]; exact List.mem_map_of_mem hx)
        simpa using this
      rw [e]
    · have hne : q.1 ≠ p.1 := fun e => hn.1 (by rw [e]; exact List.mem_map_of_mem hp)
      have e : mdel (q :: left) p.1 = q :: mdel left p.1 := by
        unfold mdel
        rw [List.filter_cons_of_pos (by simpa using hne)]
      rw [e]
      exact ((perm_mdel hn.2 hp).cons q).trans (List.Perm.swap _ _ _)
theorem Sat.iterPerm (hinj : ∀ a b, enc a = enc b → a = b) {w0 w : World} {l : List Asn} {i r b : Nat} (hS : Sat w0 w l) (hi : l[i]? = some (iterA enc r b kvs left cur)) {p : α × Value} (hp : p ∈ left) : left.Perm (p :: mdel left p.1) := by
  have : (left.map (·.1)).Nodup := hS.pure hi (by rintro g ⟨es, clock, seen, hI, _⟩; exact iter_nodup hinj hI)
  exact perm_mdel this hp
end

/-! ### Parts and wholes behind others -/
theorem Sat.closeAt {w0 w : World} {l : List Asn} {C : Asn} (B As : List Asn) (h : Sat w0 w (B ++ (As ++ l))) (himp : ∀ g, grp As g → C g) : Sat w0 w (B ++ C :: l) := by
  have h1 := h.comm
  rw [List.append_assoc] at h1
  have h2 := Sat.closeH As h1 himp
  exact Sat.comm (A := C :: l) h2
theorem Sat.openAt {w0 w : World} {l : List Asn} {C : Asn} (B As : List Asn) (h : Sat w0 w (B ++ C :: l)) (himp : ∀ g, C g → grp As g) : Sat w0 w (B ++ (As ++ l)) := by
  have h1 := h.comm
  have h2 := Sat.openH As (l := l ++ B) h1 himp
  rw [← List.append_assoc] at h2
  exact h2.comm

section
variable {P : Program} {ops : Array Oper} {Q : QF} {rest : List Oper} {n : Nat} {f : Nat → Value} {w w0 : World} {l : List Asn} {ty : TypeId} {pos : String} {after : Array Edge} {d t : Nat} {tb : Tab} (ok : TabOk P tb)
include ok
def allCells (sz : Nat) : List Value → Bool
  | [] => true
  | v :: r => Nat.beq v.cells.size sz && allCells sz r
omit ok in
theorem allCells_spec {sz : Nat} : ∀ {vs : List Value}, allCells sz vs = true → ∀ v ∈ vs, v.cells.size = sz
  | v :: r, h, u, hu => by
    simp only [allCells, Bool.and_eq_true] at h
    rcases List.mem_cons.1 hu with rfl | hu
    · exact Nat.eq_of_beq_eq_true h.1
    · exact allCells_spec h.2 u hu
/-- A slice literal. -/
theorem o_buildS (hS : Sat w0 w l) {e sz len : Nat} {z : Value} {vs : List Value} {parts : Array (Nat × Operand)} (ht : tb.u t = some (.slice e)) (hsz : tb.sz e = some sz) (hz : tb.zero e = some z) (hpos : Nat.blt 0 sz = true) (hlen : Nat.blt 0 len = true) (hle : Nat.ble (len * sz) 16777216 = true)
    (hp : (parts.toList.map fun p => (p.1, ev n f p.2)) = (vs.zipIdx 0).map fun x => (x.2, x.1)) (hv : allCells sz vs = true) (hl : vs.length = len)
    (h : ∀ b w', Sat w0 w' (pt b (.cells (vs.flatMap fun v => v.cells.toList).toArray e) :: l) → WL P ops Q rest n (upd f d (.slice (some ⟨b, 0, none⟩) len len)) w') :
    WL P ops Q (⟨some d, .buildSlice t len parts, ty, pos, after, none⟩ :: rest) n f w := by
  have h0 : 0 < sz := by simpa [Nat.blt_eq] using hpos
  have h1 : 0 < len := by simpa [Nat.blt_eq] using hlen
  refine o_buildSlice ok hS ht hsz hz ?_ hle ?_ h
  · have : len * sz ≠ 0 := Nat.mul_ne_zero (by omega) (by omega)
    simpa using this
  · rw [hp]
    refine Go.Great.fill_whole h0 vs _ (allCells_spec hv) ?_
    simp [hl]
end
theorem Sat.ptSrc0 {w0 w : World} {l : List Asn} (hS : Sat w0 w l) {i b m c T : Nat} {fz : Nat × Nat} {news : List Value} (hi : l[i]? = some (pt b (.cells news.toArray T fz))) : Src w (.slice (some ⟨b, 0, none⟩) m c) m news :=
  hS.ptSrc hi fun j u hu => by simpa using hu
theorem Sat.iterSub {α : Type} {enc : α → Value} {left kvs : List (α × Value)} {cur : Option (α × Value)} {w0 w : World} {l : List Asn} {i r b : Nat} (hS : Sat w0 w l) (hi : l[i]? = some (iterA enc r b kvs left cur)) : ∀ p ∈ left, p ∈ kvs :=
  hS.pure hi (by rintro g ⟨es, clock, seen, hI, _⟩; exact hI.sub)
theorem Sat.iterNodup {α : Type} {enc : α → Value} (hinj : ∀ a b, enc a = enc b → a = b) {left kvs : List (α × Value)} {cur : Option (α × Value)} {w0 w : World} {l : List Asn} {i r b : Nat} (hS : Sat w0 w l) (hi : l[i]? = some (iterA enc r b kvs left cur)) : (left.map (·.1)).Nodup :=
  hS.pure hi (by rintro g ⟨es, clock, seen, hI, _⟩; exact iter_nodup hinj hI)
theorem Sat.mapNodup {α : Type} {enc : α → Value} {kvs : List (α × Value)} {w0 w : World} {l : List Asn} {i b : Nat} (hS : Sat w0 w l) (hi : l[i]? = some (mapA enc b kvs)) : (kvs.map (·.1)).Nodup :=
  hS.pure hi (by rintro g ⟨es, clock, hm, _⟩; exact hm.keys)

/-! ### A struct out of parts of several cells -/
def buildGB (tb : Tab) (fs : Array Field) (zs : Nat) (ρ : Operand → Value) : List (Nat × Operand) → Bool
  | [] => true
  | p :: r => (match fs[p.1]? with
    | some f => (match tb.sz f.type with | some s => Nat.beq (ρ p.2).cells.size s | none => false) && Nat.ble (f.offset + (ρ p.2).cells.size) zs
    | none => false) && buildGB tb fs zs ρ r
def bfoldG (fs : Array Field) (ρ : Operand → Value) : List (Nat × Operand) → Array Value → Array Value
  | [], cs => cs
  | p :: r, cs => bfoldG fs ρ r (splice cs ((fs[p.1]?).elim 0 (·.offset)) (ρ p.2).cells.toList)
theorem splice_size {cs : Array Value} {k : Nat} {vs : List Value} (h : k + vs.length ≤ cs.size) : (splice cs k vs).size = cs.size := by
  simp [splice]; omega
theorem foldl_splice (cs : Array Value) (off : Nat) (vs : List Value) (h : off + vs.length ≤ cs.size) : (vs.zipIdx 0).foldl (fun (cs : Array Value) (x : Value × Nat) => cs.setIfInBounds (off + x.2) x.1) cs = splice cs off vs := by
  obtain ⟨h1, h2⟩ := Go.Great.foldl_set off vs 0 cs
  apply Array.ext_getElem?
  intro k
  rw [h2 k]
  simp only [splice, List.getElem?_toArray, Nat.add_zero]
  by_cases hk : off ≤ k ∧ k < off + vs.length ∧ k < cs.size
  · rw [if_pos hk, List.append_assoc, List.getElem?_append_right (by simp; omega), List.getElem?_append_left (by simp; omega)]
    congr 1
    simp; omega
  · rw [if_neg hk]
    by_cases h3 : k < off
    · rw [List.append_assoc, List.getElem?_append_left (by simp; omega)]
      simp [h3]
    · rw [List.getElem?_append_right (by simp; omega)]
      have h4 : off + vs.length ≤ k ∨ cs.size ≤ k := by omega
      rw [List.getElem?_drop]
      have e : off + vs.length + (k - (cs.toList.take off ++ vs).length) = k := by simp; omega
      rw [e]; simp
section
variable {P : Program} {w0 : World} {L : List Asn} {n : Nat} {f : Nat → Value} {t : TypeId} {tb : Tab} (ok : TabOk P tb)
theorem fill_bfoldG {fs : Array Field} {ρ : Operand → Value} {pl : Array (Nat × Nat)} (hpl : ∀ (j : Nat) (f : Field), fs[j]? = some f → ∀ s, tb.sz f.type = some s → pl[j]? = some (f.offset, s)) : ∀ (l : List (Nat × Operand)) (cs : Array Value), buildGB tb fs cs.size ρ l = true →
    Instr.fill (pl[·]?) cs (l.map fun p => (p.1, ρ p.2)) = some (bfoldG fs ρ l cs)
  | [], cs, _ => rfl
  | p :: r, cs, h => by
    simp only [buildGB, Bool.and_eq_true] at h
    obtain ⟨h1, h2⟩ := h
    cases hf : fs[p.1]? with
    | none => rw [hf] at h1; cases h1
    | some f =>
      rw [hf] at h1
      simp only [Bool.and_eq_true] at h1
      obtain ⟨h3, h4⟩ := h1
      have hle := Nat.le_of_ble_eq_true h4
      have hs : tb.sz f.type = some (ρ p.2).cells.size := by
        cases hh : tb.sz f.type with
        | none => rw [hh] at h3; cases h3
        | some s => rw [hh] at h3; rw [Nat.eq_of_beq_eq_true h3]
      have hp := hpl p.1 f hf _ hs
      simp only [List.map_cons, Instr.fill, hp]
      rw [if_neg (by simp; omega)]
      have ez : Array.foldl (fun (cs : Array Value) (x : Value × Nat) => cs.setIfInBounds (f.offset + x.2) x.1) cs ((ρ p.2).cells.zipIdx) = splice cs f.offset (ρ p.2).cells.toList := by
        rw [← foldl_splice cs f.offset (ρ p.2).cells.toList (by simpa using hle), ← Array.foldl_toList, Array.toList_zipIdx]
      have := fill_bfoldG hpl r (splice cs f.offset (ρ p.2).cells.toList) (by rw [splice_size (by simpa using hle)]; exact h2)
      simp only [bfoldG, hf, Option.elim_some]
      rw [← this, ← ez]
include ok
theorem rd_buildG {fs : Array Field} {zc : Array Value} {parts : Array (Nat × Operand)} (ht : tb.u t = some (.struct fs)) (hz : tb.zero t = some (.agg zc)) (hs : allSz tb fs.toList = true) (hb : buildGB tb fs zc.size (ev n f) parts.toList = true) :
    Rd P w0 L n f (.build t parts) (.agg (bfoldG fs (ev n f) parts.toList zc)) := ⟨fun G w _ _ _ _ hS => by
  obtain ⟨pl, h1, h2⟩ := run_places ok fs w hs
  have h3 := fill_bfoldG (tb := tb) (ρ := ev n f) h2 parts.toList zc hb
  have hp : (parts.map fun (i, x) => (i, ev n f x)).toList = parts.toList.map fun p => (p.1, ev n f p.2) := by simp
  simp only [execOp, Instr.build, Sem.run_bind, run_zero ok hz, run_u ok ht, Result.andThen_ok, h1, Value.cells, hp, h3, Sem.run_pure]⟩
end

/-! ### Storing into a row -/
def spliceL (xs : List Value) (q : Nat) (vs : List Value) : List Value := xs.take q ++ vs ++ xs.drop (q + vs.length)
theorem get_spliceL {xs vs : List Value} {q : Nat} (h : q + vs.length ≤ xs.length) (j : Nat) : (spliceL xs q vs)[j]? = if j < q then xs[j]? else if j < q + vs.length then vs[j - q]? else xs[j]? := by
  unfold spliceL
  rw [List.append_assoc]
  by_cases h2 : j < q
  · rw [if_pos h2, List.getElem?_append_left (by simp; omega), List.getElem?_take_of_lt h2]
  · rw [if_neg h2, List.getElem?_append_right (by simp; omega)]
    have e : (xs.take q).length = q := by simp; omega
    rw [e]
    by_cases h3 : j < q + vs.length
    · rw [if_pos h3, List.getElem?_append_left (by omega)]
    · rw [if_neg h3, List.getElem?_append_right (by omega), List.getElem?_drop]
      congr 1; omega
theorem take_spliceL {xs vs : List Value} {q k : Nat} (h : q + vs.length ≤ k) (hk : k ≤ xs.length) : (spliceL xs q vs).take k = spliceL (xs.take k) q vs := by
  apply List.ext_getElem?
  intro j
  rw [get_spliceL (by simp; omega)]
  by_cases h1 : j < k
  · rw [List.getElem?_take_of_lt h1, get_spliceL (by omega), List.getElem?_take_of_lt h1]
  · rw [List.getElem?_take_eq_none (by omega), List.getElem?_take_eq_none (by omega), if_neg (by omega), if_neg (by omega)]
section
variable {P : Program} {ops : Array Oper} {Q : QF} {rest : List Oper} {n : Nat} {f : Nat → Value} {w w0 : World} {l : List Asn} {ty : TypeId} {pos : String} {after : Array Edge} {t i b q : Nat} {x y : Operand} {tb : Tab} (ok : TabOk P tb)
include ok
theorem o_storeAR {e size m c sz : Nat} {rv : Value} {xs : List Value} {vs : Array Value} (hS : Sat w0 w l) (hz : tb.sz t = some sz) (hx : ev n f x = .pointer (some ⟨b, q, none⟩)) (hy : ev n f y = .agg vs) (hi : l[i]? = some (rowA e size rv m xs)) (hrv : rv = .slice (some ⟨b, 0, none⟩) m c)
    (hv : oneCells vs.toList = true) (hm : vs.size = sz) (hq : q + sz ≤ xs.length) (h : ∀ w', Sat w0 w' (l.set i (rowA e size rv m (spliceL xs q vs.toList))) → WL P ops Q rest n f w') : WL P ops Q (⟨none, .store t x y, ty, pos, after, none⟩ :: rest) n f w := by
  subst hrv
  -- the row's block, as a block
  obtain ⟨own, H⟩ := hS.2
  obtain ⟨hl, hr⟩ := H i _ hi
  rcases hr with ⟨h1, _⟩ | ⟨g, cap, cur, hs, hg, h3, h4, h5, h6⟩
  · cases h1
  · cases hs
    have hS1 : Sat w0 w (l.set i (pt b (.cells cur e (0, 0)))) := ⟨hS.1, own, fun j B hj => by
      rw [List.getElem?_set] at hj
      by_cases e2 : i = j
      · subst e2; simp only [if_true, lt_of_get hi] at hj; cases hj; exact hg
      · rw [if_neg e2] at hj; exact H j B hj⟩
    have hcl : q + vs.size ≤ cur.size := by
      have := congrArg List.length h6
      simp at this; omega
    refine o_storeA ok hS1 hx hy hv (by rw [hm]; exact hz) (i := i) (by rw [List.getElem?_set_self (lt_of_get hi)]) hcl fun w' hS' => h w' ?_
    rw [List.set_set] at hS'
    refine (?_ : (l.set i (pt b (.cells (splice cur q vs.toList) e (0, 0)))).set i (rowA e size (.slice (some ⟨b, 0, none⟩) m c) m (spliceL xs q vs.toList)) = l.set i (rowA e size (.slice (some ⟨b, 0, none⟩) m c) m (spliceL xs q vs.toList))) ▸ hS'.conseq (i := i) (by rw [List.getElem?_set_self (lt_of_get hi)]) (fun g hg => ?_)
    · rw [List.set_set]
    · have hk : m * size ≤ cur.toList.length := by rw [Array.length_toList, h5]; exact Nat.mul_le_mul_right _ h3
      have hvl : q + vs.toList.length ≤ m * size := by rw [← hl]; simpa [hm] using hq
      refine ⟨?_, .inr ⟨b, c, _, rfl, hg, h3, h4, ?_, ?_⟩⟩
      · simp [spliceL]; simp at hvl; omega
      · rw [splice_size (by simpa using hcl)]; exact h5
      · have e3 : (splice cur q vs.toList).toList = spliceL cur.toList q vs.toList := rfl
        rw [e3, take_spliceL hvl hk, h6]
end
end Go.SL
end

section
/- More operations: whole loads, copy, clear, delete while ranging, ranging over a nil map, bytes that a caller hands in. -/
namespace Go.SL
section
variable {P : Program} {w0 : World} {L : List Asn} {n : Nat} {f : Nat → Value} {i b : Nat} {t : TypeId} {x : Operand} {tb : Tab} (ok : TabOk P tb)
include ok
/-- A whole variable. -/
theorem rd_loadW {m : Nat} {cs : Array Value} {T : TypeId} {fz : Nat × Nat} {dsc : TypeDesc} (ht : tb.u t = some dsc) (hag : aggT dsc = true) (hz : tb.sz t = some m) (hx : ev n f x = .pointer (some ⟨b, 0, none⟩))
    (hi : L[i]? = some (pt b (.cells cs T fz))) (hk : cs.size = m) : Rd P w0 L n f (.load t x) (.agg cs) := by
  have h := rd_loadA (P := P) (w0 := w0) ok ht hag hz hx hi (by omega)
  have e : cs.extract 0 (0 + m) = cs := by apply Array.ext' ; simp [← hk]
  rwa [e] at h
end

/-- A reading through an assertion that is closed. -/
theorem Rd.inside {P : Program} {w0 : World} {L : List Asn} {n : Nat} {f : Nat → Value} {op : Op} {v : Value} {C : Asn} (As : List Asn) (i : Nat) (hi : L[i]? = some C) (himp : ∀ g, C g → grp As g) (h : Rd P w0 (As ++ L.eraseIdx i) n f op v) : Rd P w0 L n f op v := ⟨fun G w dst ty pos after hS => by
  have hlt := lt_of_get hi
  have h1 := hS.bring i (A := C) (by rw [List.getElem?_append_left hlt]; exact hi)
  have h2 := h1.openH As himp
  rw [List.eraseIdx_append_of_lt_length hlt] at h2
  rw [← List.append_assoc] at h2
  exact h.out G w dst ty pos after h2⟩

/-- What holds behind a block is said ahead of it. -/
theorem c_cutB {P : Program} {Q : QF} {n i : Nat} {f : Nat → Value} {w : World} {c : Code} {R : (Nat → Value) → World → Prop} (K : (Nat → Value) → World → Prop) (h : CW P c (blockF i (thenF K Q)) n f w) (h2 : ∀ f w, K f w → R f w) : CW P c (blockF i (thenF R Q)) n f w := by
  refine ⟨Go.wp_mono h.out ?_⟩
  rintro e a w ⟨f, rfl, hq⟩
  refine ⟨f, rfl, ?_⟩
  cases e with
  | normal => exact h2 _ _ hq
  | exit j =>
    have hq : (if j = i then thenF K Q .normal f w else thenF K Q (.exit j) f w) := hq
    show (if j = i then thenF R Q .normal f w else thenF R Q (.exit j) f w)
    by_cases e : j = i
    · rw [if_pos e] at hq ⊢; exact h2 _ _ hq
    · rw [if_neg e] at hq ⊢; exact hq
  | _ => exact hq

theorem rd_iface {P : Program} {w0 : World} {L : List Asn} {n e : Nat} {f : Nat → Value} {t : TypeId} {x : Operand} {v : Value} {tb : Tab} (ok : TabOk P tb) (ht : tb.u t = some (.slice e)) (hx : ev n f x = v) : Rd P w0 L n f (.makeInterface t x) (.iface t v) := ⟨fun G w _ _ _ _ _ => by
  simp only [execOp, Instr.makeInterface, Sem.run_bind, run_u ok ht, Result.andThen_ok, Sem.run_pure, hx]⟩

theorem rd_func {P : Program} {w0 : World} {L : List Asn} {n : Nat} {f : Nat → Value} {g : Fn} {fs cs : Array Operand} {l1 l2 : List Value} (h1 : fs.toList.map (ev n f) = l1) (h2 : cs.toList.map (ev n f) = l2) : Rd P w0 L n f (.makeFunc g fs cs) (.func g l1.toArray l2.toArray) := ⟨fun G w _ _ _ _ _ => by
  have e1 : fs.map (ev n f) = l1.toArray := by apply Array.ext'; simpa using h1
  have e2 : cs.map (ev n f) = l2.toArray := by apply Array.ext'; simpa using h2
  simp only [execOp, e1, e2]; rfl⟩

/-! ### Bytes that are handed in -/
/-- In this part of memory the slice v has these cells. -/
def SrcH (h : Hp) (v : Value) (m : Nat) (news : List Value) : Prop :=
  (v = .slice none 0 0 ∧ m = 0 ∧ news = []) ∨ ∃ b o c, v = .slice (some ⟨b, o, none⟩) m c ∧ m ≤ c ∧ ∀ j u, news[j]? = some u → ∃ cs T fz, h b = some (.cells cs T fz) ∧ cs[o + j]? = some u
theorem Sat.srcOf {w0 w : World} {L : List Asn} (hS : Sat w0 w L) {i m : Nat} {A : Asn} {v : Value} {news : List Value} (hi : L[i]? = some A) (hA : ∀ h, A h → SrcH h v m news) : Src w v m news := by
  obtain ⟨own, H⟩ := hS.2
  rcases hA _ (H i _ hi) with ⟨rfl, rfl, rfl⟩ | ⟨b, o, c, rfl, _, hn⟩
  · exact .nil
  · refine .at b o c m news fun j u hu => ?_
    obtain ⟨cs, T, fz, hb, hc⟩ := hn j u hu
    have hb := (cutHp_some hb).2
    unfold World.cell?
    have hb' : w.heap[b]? = some (.cells cs T fz) := hb
    simp [hb', hc]
theorem Sat.srcForm {w0 w : World} {L : List Asn} (hS : Sat w0 w L) {i m : Nat} {A : Asn} {v : Value} {news : List Value} (hi : L[i]? = some A) (hA : ∀ h, A h → SrcH h v m news) : (v = .slice none 0 0 ∧ m = 0 ∧ news = []) ∨ ∃ b o c, v = .slice (some ⟨b, o, none⟩) m c ∧ m ≤ c := by
  obtain ⟨own, H⟩ := hS.2
  rcases hA _ (H i _ hi) with h | ⟨b, o, c, rfl, h, _⟩
  · exact .inl h
  · exact .inr ⟨b, o, c, rfl, h⟩
/-- A part of it: what slicing gives. -/
theorem SrcH.sub {h : Hp} {b o c m : Nat} {news : List Value} (hs : SrcH h (.slice (some ⟨b, o, none⟩) m c) m news) (hn : news.length = m) {l k : Nat} (hlk : l ≤ k) (hk : k ≤ m) (a : Option Addr) (ha : a = if c = l then some ⟨b, o, none⟩ else (some (⟨b, o, none⟩ : Addr)).map (·.add (l * 1))) : SrcH h (.slice a (k - l) (c - l)) (k - l) ((news.drop l).take (k - l)) := by
  rcases hs with ⟨h1, _⟩ | ⟨b', o', c', h1, h2, h3⟩
  · cases h1
  · cases h1
    by_cases e : c = l
    · rw [if_pos e] at ha
      subst ha
      refine .inr ⟨b, o, c - l, rfl, by omega, fun j u hu => ?_⟩
      have : k - l = 0 := by omega
      rw [this] at hu; simp at hu
    · rw [if_neg e] at ha
      have ha : a = some (⟨b, o + l, none⟩ : Addr) := by rw [ha]; simp [addr_add]
      subst ha
      refine .inr ⟨b, o + l, c - l, rfl, by omega, fun j u hu => ?_⟩
      rw [List.getElem?_take] at hu
      split at hu
      · rw [List.getElem?_drop] at hu
        obtain ⟨cs, T, fz, h4, h5⟩ := h3 _ _ hu
        exact ⟨cs, T, fz, h4, by rw [Nat.add_assoc]; exact h5⟩
      · cases hu

section
variable {P : Program} {ops : Array Oper} {Q : QF} {rest : List Oper} {n : Nat} {f : Nat → Value} {w w0 : World} {l : List Asn} {d : Nat} {ty : TypeId} {pos : String} {after : Array Edge} {tb : Tab} {i b r : Nat} {t : TypeId} {x y z : Operand}

theorem Src.take {w : World} {v : Value} {m : Nat} {news : List Value} (h : Src w v m news) (k : Nat) : (v = .slice none 0 0 ∧ m = 0 ∧ news = []) ∨ ∃ a c, v = .slice (some a) m c ∧ ∀ j u, (news.take k)[j]? = some u → w.cell? (a.add j) = some u := by
  cases h with
  | nil => exact .inl ⟨rfl, rfl, rfl⟩
  | «at» b o c m news hn => exact .inr ⟨_, c, rfl, fun j u hu => by
      rw [List.getElem?_take] at hu
      split at hu
      · rw [addr_add]; exact hn j u hu
      · cases hu⟩

/-- copy: into a variable's cells. -/
theorem o_copy (ok : TabOk P tb) {e o dl dc m T : Nat} {xv : Value} {news : List Value} {cs : Array Value} {ats : TypeId} (hS : Sat w0 w l) (ht : tb.u t = some (.slice e)) (hz : tb.sz e = some 1) (hx : ev n f x = .slice (some ⟨b, o, none⟩) dl dc) (hy : ev n f y = xv)
    (hi : l[i]? = some (pt b (.cells cs T (0, 0)))) (hsrc : Src w xv m news) (hl : news.length = m) (hfit : o + dl ≤ cs.size) (h1 : oneCells news = true)
    (h : ∀ w', Sat w0 w' (l.set i (pt b (.cells (splice cs o (news.take (Nat.min m dl))) T (0, 0)))) → WL P ops Q rest n (upd f d (.int .i64 (Nat.min m dl : Nat))) w') :
    WL P ops Q (⟨some d, .call ⟨.builtin .copy, #[x, y], #[t, ats]⟩, ty, pos, after, none⟩ :: rest) n f w := by
  have hb := hS.block hi
  have hs1 : (P.info? e).map (·.size) = some 1 := ok.sz _ _ hz
  rcases hsrc.take (Nat.min m dl) with ⟨rfl, rfl, rfl⟩ | ⟨a, c, rfl, hn⟩
  · have hr := run_copy_nil (P := P) w t ats ty e ⟨b, o, none⟩ dl dc (ok.u _ _ ht) (by rw [Option.isSome_map]; cases hh : P.info? e with | none => rw [hh] at hs1; cases hs1 | some _ => rfl)
    have e1 : splice cs o (([] : List Value).take (Nat.min 0 dl)) = cs := by apply Array.ext'; simp [splice]
    have e2 : l.set i (pt b (.cells cs T (0, 0))) = l := by
      apply List.ext_getElem?; intro q
      rw [List.getElem?_set]
      by_cases hq : i = q
      · subst hq; rw [if_pos rfl, if_pos (lt_of_get hi), hi]
      · rw [if_neg hq]
    have h2 := h w (by rw [e1, e2]; exact hS)
    refine o_run rfl rfl ?_ h2
    simp only [execOp, resolve, invoke, builtin, Sem.run_bind, Sem.run_pure, Result.andThen_ok, List.map_toArray, List.map_cons, List.map_nil, hx, hy, hr]
    simp [goInt]
  · have hlen : (news.take (Nat.min m dl)).length = Nat.min m dl := by rw [List.length_take, hl]; exact Nat.min_eq_left (Nat.min_le_left _ _)
    have h1' : ∀ v ∈ news.take (Nat.min m dl), v.oneCell' = true := fun v hv => by
      have := List.all_eq_true.1 h1 v (List.mem_of_mem_take hv); exact this
    have hmin := Nat.min_le_right m dl
    have hr := run_copy_row (P := P) w t ats ty e b o dl dc a m c cs T (news.take (Nat.min m dl)) (ok.u _ _ ht) hs1 hb hlen hn (by rw [hlen]; exact Nat.le_trans (Nat.add_le_add_left hmin o) hfit) h1'
    have hsp : splice cs o (news.take (Nat.min m dl)) = (cs.toList.take o ++ news.take (Nat.min m dl) ++ cs.toList.drop (o + Nat.min m dl)).toArray := by unfold splice; rw [hlen]
    have hS' := hS.setBlock hi (.cells (splice cs o (news.take (Nat.min m dl))) T (0, 0))
    rw [← setRow_block w b cs _ T hb] at hS'
    refine o_run rfl rfl ?_ (h _ hS')
    simp only [execOp, resolve, invoke, builtin, Sem.run_bind, Sem.run_pure, Result.andThen_ok, List.map_toArray, List.map_cons, List.map_nil, hx, hy, hr, hlen, hsp]
    rfl

/-- clear: of a variable's cells from a place on. -/
theorem o_clear (ok : TabOk P tb) {e o dl dc T : Nat} {zz : Value} {cs : Array Value} {dst : Option Tmp} (hd : dst = none) (hS : Sat w0 w l) (ht : tb.u t = some (.slice e)) (hz : tb.zero e = some zz) (hz1 : zz.cells = #[zz]) (hx : ev n f x = .slice (some ⟨b, o, none⟩) dl dc)
    (hi : l[i]? = some (pt b (.cells cs T (0, 0)))) (hfit : o + dl ≤ cs.size) (h1 : zz.oneCell' = true)
    (h : ∀ w', Sat w0 w' (l.set i (pt b (.cells (splice cs o (List.replicate dl zz)) T (0, 0)))) → WL P ops Q rest n f w') :
    WL P ops Q (⟨dst, .call ⟨.builtin .clear, #[x], #[t]⟩, ty, pos, after, none⟩ :: rest) n f w := by
  subst hd
  cases dl with
  | zero =>
    have e1 : splice cs o (List.replicate 0 zz) = cs := by apply Array.ext'; simp [splice]
    have e2 : l.set i (pt b (.cells cs T (0, 0))) = l := by
      apply List.ext_getElem?; intro q
      rw [List.getElem?_set]
      by_cases hq : i = q
      · subst hq; rw [if_pos rfl, if_pos (lt_of_get hi), hi]
      · rw [if_neg hq]
    have h2 := h w (by rw [e1, e2]; exact hS)
    refine o_none (v := .tuple #[]) rfl rfl ?_ h2
    simp only [execOp, resolve, invoke, builtin, Builtin.clear_, Sem.run_bind, Sem.run_pure, Result.andThen_ok, List.map_toArray, List.map_cons, List.map_nil, List.getElem?_toArray, List.getElem?_cons_zero, hx, run_u ok ht]
  | succ k =>
    obtain ⟨w', hr, hS'⟩ := hS.store (P := P) (vs := List.replicate (k + 1) zz) hi (k := o) (by simpa using hfit) (by unfold oneCells; rw [List.all_eq_true]; intro v hv; rw [List.eq_of_mem_replicate hv]; exact h1)
    refine o_none (v := .tuple #[]) rfl rfl ?_ (h w' hS')
    have hzc : (Builtin.zeroCells #[zz] (k + 1)).toList = List.replicate (k + 1) zz := by
      unfold Builtin.zeroCells
      apply List.ext_getElem?
      intro j
      by_cases hj : j < k + 1
      · simp [hj, List.getElem?_replicate, Nat.mod_one]
      · simp [hj, List.getElem?_replicate]
    simp only [execOp, resolve, invoke, builtin, Builtin.clear_, Sem.run_bind, Sem.run_pure, Result.andThen_ok, List.map_toArray, List.map_cons, List.map_nil, List.getElem?_toArray, List.getElem?_cons_zero, hx, run_u ok ht, run_zero ok hz, hz1, hzc, hr]

/-! ### Ranging over a map that is nil -/
theorem o_rangeN (ok : TabOk P tb) {kt et : TypeId} (hS : Sat w0 w l) (ht : tb.u t = some (.map kt et)) (hx : ev n f x = .map none)
    (h : ∀ r w', Sat w0 w' (pt r (.mapIter none 0 #[] 0) :: l) → WL P ops Q rest n (upd f d (.pointer (some ⟨r, 0, none⟩))) w') : WL P ops Q (⟨some d, .range t x, ty, pos, after, none⟩ :: rest) n f w := by
  refine o_run rfl rfl ?_ (h w.heap.size _ (hS.new _))
  simp only [execOp, hx, Instr.range, Sem.run_bind, run_u ok ht, Result.andThen_ok, Sem.run_pure, newObj, Sem.run]
  rfl
theorem o_nextN (hS : Sat w0 w l) (hx : ev n f x = .pointer (some ⟨r, 0, none⟩)) (hi : l[i]? = some (pt r (.mapIter none 0 #[] 0)))
    (h : WL P ops Q rest n (upd f d (.tuple #[.bool false])) w) : WL P ops Q (⟨some d, .next x false, ty, pos, after, none⟩ :: rest) n f w := by
  have hb := hS.block hi
  have hg : (getObj r).run P w = .ok (.mapIter none 0 #[] 0) w := by simp [getObj, Sem.run, hb]
  refine o_run rfl rfl ?_ h
  simp only [execOp, hx, Instr.next, Sem.run_bind, hg, Result.andThen_ok, Sem.run_pure]

/-! ### An entry is deleted while the map is ranged over -/
theorem list_eraseIdx_filter {α : Type} (p : α → Bool) : ∀ (l : List α) (j : Nat) (x : α), l[j]? = some x → p x = false → (l.eraseIdx j).filter p = l.filter p
  | [], j, x, h, _ => by simp at h
  | a :: l, 0, x, h, hp => by simp at h; subst h; simp [hp]
  | a :: l, j + 1, x, h, hp => by
    simp only [List.getElem?_cons_succ] at h
    simp only [List.eraseIdx_cons_succ, List.filter_cons]
    rw [list_eraseIdx_filter p l j x h hp]

theorem iter_erase {α : Type} [DecidableEq α] {enc : α → Value} {kvs left : List (α × Value)} {es : Array MapEntry} {clock : Nat} {seen : Array Nat} {q : α} {v : Value} (hinj : ∀ a b, enc a = enc b → a = b) (hI : IterOk enc es clock seen kvs left (some (q, v))) (hq : ∀ p ∈ left, p.1 ≠ q) {j : Nat} (hj : kvs.findIdx? (fun p => decide (p.1 = q)) = some j) :
    IterOk enc (es.eraseIdxIfInBounds j) clock seen (mdel kvs q) left none := by
  have hlen : es.size = kvs.length := by have := congrArg List.length hI.ok.kv; simpa using this
  have hjl : j < kvs.length := by rw [List.findIdx?_eq_some_iff_getElem] at hj; exact hj.1
  have hes : (es.eraseIdxIfInBounds j).toList = es.toList.eraseIdx j := by
    unfold Array.eraseIdxIfInBounds
    rw [dif_pos (by omega)]
    simp
  refine ⟨mapOk_erase hI.ok hj, ?_, fun p hp => ?_, fun p hp => by cases hp⟩
  · obtain ⟨e, he, hs, hk, _⟩ := hI.cur _ rfl
    have hej : es.toList[j]? = some es[j] := by simp [show j < es.size by omega]
    have hkv := congrArg (fun l => l[j]?) hI.ok.kv
    simp [show j < es.size by omega, hjl] at hkv
    have hkq : kvs[j].1 = q := by rw [List.findIdx?_eq_some_iff_getElem] at hj; obtain ⟨_, h, _⟩ := hj; simpa using h
    have hborn : es[j].born = e.born := by
      obtain ⟨k, hk2, rfl⟩ := List.getElem_of_mem he
      have hkl : k < es.size := by simpa using hk2
      have hkv2 := congrArg (fun l => l[k]?) hI.ok.kv
      simp [hkl, show k < kvs.length by omega] at hkv2
      have : kvs[k].1 = q := by
        apply hinj; rw [← hkv2.1]; simpa using hk
      have hkk : (kvs.map (·.1))[k]'(by simp; omega) = (kvs.map (·.1))[j]'(by simpa using hjl) := by simp [this, hkq]
      have := (List.getElem_inj hI.ok.keys).1 hkk
      subst this; simp
    have hmem : seen.contains es[j].born = true := by
      rw [hborn]
      have : e.born ∈ seen := by
        have := Array.back?_eq_some_iff.1 hs
        obtain ⟨s', rfl⟩ := this
        simp
      simpa using this
    have hl : (leftOf (es.eraseIdxIfInBounds j) seen).toList = (leftOf es seen).toList := by
      unfold leftOf
      simp only [Array.toList_filter, hes]
      exact list_eraseIdx_filter _ _ _ _ hej (by simp [hmem]; simpa using hmem)
    rw [hl]; exact hI.lef
  · unfold mdel
    rw [List.mem_filter]
    exact ⟨hI.sub p hp, by simpa using hq p hp⟩

theorem o_deleteI {α : Type} [DecidableEq α] (ok : TabOk P tb) {kt et : TypeId} {kd : TypeDesc} {enc : α → Value} (ko : KeyOk kd enc) (hinj : ∀ a b, enc a = enc b → a = b) {kvs left : List (α × Value)} {q : α} {v : Value} {dst : Option Tmp} {ats : TypeId} (hd : dst = none) (hS : Sat w0 w l) (ht : tb.u t = some (.map kt et)) (hk : tb.u kt = some kd)
    (hx : ev n f x = .map (some b)) (hy : ev n f y = enc q) (hi : l[i]? = some (iterA enc r b kvs left (some (q, v)))) (hq : ∀ p ∈ left, p.1 ≠ q)
    (h : ∀ w', Sat w0 w' (l.set i (iterA enc r b (mdel kvs q) left none)) → WL P ops Q rest n f w') : WL P ops Q (⟨dst, .call ⟨.builtin .delete, #[x, y], #[t, ats]⟩, ty, pos, after, none⟩ :: rest) n f w := by
  subst hd
  obtain ⟨own, H, es, clock, seen, hI, hb, hr, hne⟩ := grp_at hS.2 hi
  obtain ⟨ob, hb⟩ := cutHp_some hb
  obtain ⟨orr, hr⟩ := cutHp_some hr
  have hb : w.heap[b]? = some (.map es clock) := hb
  have hex : ∃ j, kvs.findIdx? (fun p => decide (p.1 = q)) = some j := by
    obtain ⟨e, he, _, hke, _⟩ := hI.cur _ rfl
    have : (e.key, e.val) ∈ kvs.map fun p => (enc p.1, p.2) := by rw [← hI.ok.kv]; exact List.mem_map.2 ⟨e, he, rfl⟩
    obtain ⟨p, hp, hpe⟩ := List.mem_map.1 this
    have hpk : p.1 = q := hinj _ _ (by rw [Prod.mk.injEq] at hpe; rw [hpe.1]; exact hke)
    cases hf : kvs.findIdx? (fun p => decide (p.1 = q)) with
    | some j => exact ⟨j, rfl⟩
    | none => rw [List.findIdx?_eq_none_iff] at hf; exact absurd hpk (by simpa using hf p hp)
  obtain ⟨j, hidx⟩ := hex
  have hjl : j < kvs.length := by rw [List.findIdx?_eq_some_iff_getElem] at hidx; exact hidx.1
  have hI' := iter_erase hinj hI hq hidx
  have hS' : Sat w0 (Go.ChangeMaps.setBlock w b (.map (es.eraseIdxIfInBounds j) clock)) (l.set i (iterA enc r b (mdel kvs q) left none)) := by
    refine ⟨⟨hS.1.os, hS.1.tape, hS.1.output, by have := hS.1.size; simpa [Go.ChangeMaps.setBlock] using this⟩, ?_⟩
    rw [hpOf_setBlock w b _ _ hb]
    refine ⟨own, fun j' B hj => ?_⟩
    rw [List.getElem?_set] at hj
    by_cases e2 : i = j'
    · subst e2
      simp only [if_true, lt_of_get hi] at hj
      cases hj
      refine ⟨_, clock, seen, hI', ?_, ?_, hne⟩
      · unfold cutHp updHp; rw [if_pos ob, if_pos rfl]
      · unfold cutHp updHp; rw [if_pos orr, if_neg hne]; exact hr
    · rw [if_neg e2] at hj
      have : cutHp own j' (updHp (hpOf w) b (.map (es.eraseIdxIfInBounds j) clock)) = cutHp own j' (hpOf w) := by
        funext q; unfold cutHp updHp
        by_cases h4 : own q = j'
        · rw [if_pos h4, if_pos h4, if_neg]; intro h2; subst h2; exact e2 (ob.symm.trans h4)
        · rw [if_neg h4, if_neg h4]
      rw [this]; exact H j' B hj
  refine o_none (v := .tuple #[]) rfl rfl ?_ (h _ hS')
  have hf := run_findKey ok ko hk hI.ok q w
  rw [hidx] at hf
  have hgo : (getObj b).run P w = .ok (.map es clock) w := by simp [getObj, Sem.run, hb]
  simp only [execOp, resolve, invoke, builtin, Builtin.delete_, Sem.run_bind, Sem.run_pure, Result.andThen_ok, List.map_toArray, List.map_cons, List.map_nil, List.getElem?_toArray, List.getElem?_cons_zero, List.getElem?_cons_succ, hx, hy, run_u ok ht, hgo, ko.check P kt _ q w (ok.u _ _ hk), hf, Option.bind_some, List.getElem?_eq_getElem hjl, Option.map_some, run_setObj hb]
end
end Go.SL
end

section
/- The table of the seat's types, for the evaluator; it is what the loaded program says. Written by a program of this claim's (gentab.py). -/
namespace Go.Proofs.YtllomopjoomdiaaGreat
open Go.SL
def tbU : List (Nat × TypeDesc) := [
  (2, .int .i64),
  (3, .int .i64),
  (4, .bool),
  (5, .int .u8),
  (6, .int .u8),
  (7, .struct #[{ name := "x", type := 2, offset := 0, embedded := false, tag := "", pkgPath := "runtime", byteOffset := 0 }, { name := "y", type := 3, offset := 1, embedded := false, tag := "", pkgPath := "runtime", byteOffset := 8 }, { name := "signed", type := 4, offset := 2, embedded := false, tag := "", pkgPath := "runtime", byteOffset := 16 }, { name := "code", type := 6, offset := 3, embedded := false, tag := "", pkgPath := "runtime", byteOffset := 17 }]),
  (8, .struct #[{ name := "x", type := 2, offset := 0, embedded := false, tag := "", pkgPath := "runtime", byteOffset := 0 }, { name := "y", type := 3, offset := 1, embedded := false, tag := "", pkgPath := "runtime", byteOffset := 8 }, { name := "signed", type := 4, offset := 2, embedded := false, tag := "", pkgPath := "runtime", byteOffset := 16 }, { name := "code", type := 6, offset := 3, embedded := false, tag := "", pkgPath := "runtime", byteOffset := 17 }]),
  (9, .string),
  (10, .string),
  (11, .string),
  (12, .int .u64),
  (13, .struct #[{ name := "msg", type := 9, offset := 0, embedded := false, tag := "", pkgPath := "runtime", byteOffset := 0 }, { name := "addr", type := 12, offset := 1, embedded := false, tag := "", pkgPath := "runtime", byteOffset := 16 }]),
  (14, .struct #[{ name := "msg", type := 9, offset := 0, embedded := false, tag := "", pkgPath := "runtime", byteOffset := 0 }, { name := "addr", type := 12, offset := 1, embedded := false, tag := "", pkgPath := "runtime", byteOffset := 16 }]),
  (15, .pointer 256),
  (16, .pointer 259),
  (17, .pointer 267),
  (18, .struct #[{ name := "typ", type := 17, offset := 0, embedded := false, tag := "", pkgPath := "internal/runtime/maps", byteOffset := 0 }]),
  (19, .struct #[{ name := "typ", type := 17, offset := 0, embedded := false, tag := "", pkgPath := "internal/runtime/maps", byteOffset := 0 }]),
  (21, .int .i32),
  (22, .struct #[{ name := "Blocks", type := 3, offset := 0, embedded := false, tag := "", pkgPath := "", byteOffset := 0 }, { name := "Log", type := 3, offset := 1, embedded := false, tag := "", pkgPath := "", byteOffset := 8 }, { name := "Inodes", type := 3, offset := 2, embedded := false, tag := "", pkgPath := "", byteOffset := 16 }]),
  (23, .struct #[{ name := "Blocks", type := 3, offset := 0, embedded := false, tag := "", pkgPath := "", byteOffset := 0 }, { name := "Log", type := 3, offset := 1, embedded := false, tag := "", pkgPath := "", byteOffset := 8 }, { name := "Inodes", type := 3, offset := 2, embedded := false, tag := "", pkgPath := "", byteOffset := 16 }]),
  (24, .slice 42),
  (25, .slice 3),
  (26, .pointer 58),
  (27, .int .i64),
  (30, .pointer 94),
  (33, .pointer 37),
  (34, .slice 46),
  (35, .slice 65),
  (36, .struct #[{ name := "states", type := 34, offset := 0, embedded := false, tag := "", pkgPath := "undercroft/undercroftlaw28", byteOffset := 0 }, { name := "want", type := 34, offset := 1, embedded := false, tag := "", pkgPath := "undercroft/undercroftlaw28", byteOffset := 24 }, { name := "results", type := 35, offset := 2, embedded := false, tag := "", pkgPath := "undercroft/undercroftlaw28", byteOffset := 48 }, { name := "meant", type := 35, offset := 3, embedded := false, tag := "", pkgPath := "undercroft/undercroftlaw28", byteOffset := 72 }]),
  (37, .struct #[{ name := "states", type := 34, offset := 0, embedded := false, tag := "", pkgPath := "undercroft/undercroftlaw28", byteOffset := 0 }, { name := "want", type := 34, offset := 1, embedded := false, tag := "", pkgPath := "undercroft/undercroftlaw28", byteOffset := 24 }, { name := "results", type := 35, offset := 2, embedded := false, tag := "", pkgPath := "undercroft/undercroftlaw28", byteOffset := 48 }, { name := "meant", type := 35, offset := 3, embedded := false, tag := "", pkgPath := "undercroft/undercroftlaw28", byteOffset := 72 }]),
  (39, .int .u8),
  (40, .slice 5),
  (41, .struct #[{ name := "Kind", type := 39, offset := 0, embedded := false, tag := "", pkgPath := "", byteOffset := 0 }, { name := "Path", type := 9, offset := 1, embedded := false, tag := "", pkgPath := "", byteOffset := 8 }, { name := "Other", type := 9, offset := 2, embedded := false, tag := "", pkgPath := "", byteOffset := 24 }, { name := "Desc", type := 3, offset := 3, embedded := false, tag := "", pkgPath := "", byteOffset := 40 }, { name := "Size", type := 3, offset := 4, embedded := false, tag := "", pkgPath := "", byteOffset := 48 }, { name := "Flags", type := 3, offset := 5, embedded := false, tag := "", pkgPath := "", byteOffset := 56 }, { name := "Bytes", type := 40, offset := 6, embedded := false, tag := "", pkgPath := "", byteOffset := 64 }]),
  (42, .struct #[{ name := "Kind", type := 39, offset := 0, embedded := false, tag := "", pkgPath := "", byteOffset := 0 }, { name := "Path", type := 9, offset := 1, embedded := false, tag := "", pkgPath := "", byteOffset := 8 }, { name := "Other", type := 9, offset := 2, embedded := false, tag := "", pkgPath := "", byteOffset := 24 }, { name := "Desc", type := 3, offset := 3, embedded := false, tag := "", pkgPath := "", byteOffset := 40 }, { name := "Size", type := 3, offset := 4, embedded := false, tag := "", pkgPath := "", byteOffset := 48 }, { name := "Flags", type := 3, offset := 5, embedded := false, tag := "", pkgPath := "", byteOffset := 56 }, { name := "Bytes", type := 40, offset := 6, embedded := false, tag := "", pkgPath := "", byteOffset := 64 }]),
  (44, .slice 77),
  (45, .struct #[{ name := "Items", type := 44, offset := 0, embedded := false, tag := "", pkgPath := "", byteOffset := 0 }, { name := "Free", type := 3, offset := 1, embedded := false, tag := "", pkgPath := "", byteOffset := 24 }, { name := "Spare", type := 3, offset := 2, embedded := false, tag := "", pkgPath := "", byteOffset := 32 }]),
  (46, .struct #[{ name := "Items", type := 44, offset := 0, embedded := false, tag := "", pkgPath := "", byteOffset := 0 }, { name := "Free", type := 3, offset := 1, embedded := false, tag := "", pkgPath := "", byteOffset := 24 }, { name := "Spare", type := 3, offset := 2, embedded := false, tag := "", pkgPath := "", byteOffset := 32 }]),
  (52, .struct #[{ name := "Geometry", type := 23, offset := 0, embedded := false, tag := "", pkgPath := "", byteOffset := 0 }, { name := "LogAt", type := 3, offset := 3, embedded := false, tag := "", pkgPath := "", byteOffset := 24 }, { name := "NodeAt", type := 3, offset := 4, embedded := false, tag := "", pkgPath := "", byteOffset := 32 }, { name := "NodeBlocks", type := 3, offset := 5, embedded := false, tag := "", pkgPath := "", byteOffset := 40 }, { name := "BitsAt", type := 3, offset := 6, embedded := false, tag := "", pkgPath := "", byteOffset := 48 }, { name := "BitsBlocks", type := 3, offset := 7, embedded := false, tag := "", pkgPath := "", byteOffset := 56 }, { name := "DataAt", type := 3, offset := 8, embedded := false, tag := "", pkgPath := "", byteOffset := 64 }]),
  (53, .struct #[{ name := "Geometry", type := 23, offset := 0, embedded := false, tag := "", pkgPath := "", byteOffset := 0 }, { name := "LogAt", type := 3, offset := 3, embedded := false, tag := "", pkgPath := "", byteOffset := 24 }, { name := "NodeAt", type := 3, offset := 4, embedded := false, tag := "", pkgPath := "", byteOffset := 32 }, { name := "NodeBlocks", type := 3, offset := 5, embedded := false, tag := "", pkgPath := "", byteOffset := 40 }, { name := "BitsAt", type := 3, offset := 6, embedded := false, tag := "", pkgPath := "", byteOffset := 48 }, { name := "BitsBlocks", type := 3, offset := 7, embedded := false, tag := "", pkgPath := "", byteOffset := 56 }, { name := "DataAt", type := 3, offset := 8, embedded := false, tag := "", pkgPath := "", byteOffset := 64 }]),
  (54, .map 3 87),
  (55, .pointer 125),
  (56, .array 16 55),
  (57, .struct #[{ name := "where", type := 53, offset := 0, embedded := false, tag := "", pkgPath := "undercroft/model", byteOffset := 0 }, { name := "items", type := 54, offset := 9, embedded := false, tag := "", pkgPath := "undercroft/model", byteOffset := 72 }, { name := "descs", type := 56, offset := 10, embedded := false, tag := "", pkgPath := "undercroft/model", byteOffset := 80 }, { name := "told", type := 34, offset := 26, embedded := false, tag := "", pkgPath := "undercroft/model", byteOffset := 208 }]),
  (58, .struct #[{ name := "where", type := 53, offset := 0, embedded := false, tag := "", pkgPath := "undercroft/model", byteOffset := 0 }, { name := "items", type := 54, offset := 9, embedded := false, tag := "", pkgPath := "undercroft/model", byteOffset := 72 }, { name := "descs", type := 56, offset := 10, embedded := false, tag := "", pkgPath := "undercroft/model", byteOffset := 80 }, { name := "told", type := 34, offset := 26, embedded := false, tag := "", pkgPath := "undercroft/model", byteOffset := 208 }]),
  (59, .int .u16),
  (60, .int .u16),
  (61, .struct #[{ name := "Inum", type := 3, offset := 0, embedded := false, tag := "", pkgPath := "", byteOffset := 0 }, { name := "Kind", type := 60, offset := 1, embedded := false, tag := "", pkgPath := "", byteOffset := 8 }, { name := "Links", type := 3, offset := 2, embedded := false, tag := "", pkgPath := "", byteOffset := 16 }, { name := "Size", type := 3, offset := 3, embedded := false, tag := "", pkgPath := "", byteOffset := 24 }, { name := "Blocks", type := 3, offset := 4, embedded := false, tag := "", pkgPath := "", byteOffset := 32 }]),
  (62, .struct #[{ name := "Inum", type := 3, offset := 0, embedded := false, tag := "", pkgPath := "", byteOffset := 0 }, { name := "Kind", type := 60, offset := 1, embedded := false, tag := "", pkgPath := "", byteOffset := 8 }, { name := "Links", type := 3, offset := 2, embedded := false, tag := "", pkgPath := "", byteOffset := 16 }, { name := "Size", type := 3, offset := 3, embedded := false, tag := "", pkgPath := "", byteOffset := 24 }, { name := "Blocks", type := 3, offset := 4, embedded := false, tag := "", pkgPath := "", byteOffset := 32 }]),
  (63, .slice 142),
  (64, .struct #[{ name := "Err", type := 27, offset := 0, embedded := false, tag := "", pkgPath := "", byteOffset := 0 }, { name := "Value", type := 3, offset := 1, embedded := false, tag := "", pkgPath := "", byteOffset := 8 }, { name := "Bytes", type := 40, offset := 2, embedded := false, tag := "", pkgPath := "", byteOffset := 16 }, { name := "Stat", type := 62, offset := 3, embedded := false, tag := "", pkgPath := "", byteOffset := 40 }, { name := "Entries", type := 63, offset := 8, embedded := false, tag := "", pkgPath := "", byteOffset := 80 }]),
  (65, .struct #[{ name := "Err", type := 27, offset := 0, embedded := false, tag := "", pkgPath := "", byteOffset := 0 }, { name := "Value", type := 3, offset := 1, embedded := false, tag := "", pkgPath := "", byteOffset := 8 }, { name := "Bytes", type := 40, offset := 2, embedded := false, tag := "", pkgPath := "", byteOffset := 16 }, { name := "Stat", type := 62, offset := 3, embedded := false, tag := "", pkgPath := "", byteOffset := 40 }, { name := "Entries", type := 63, offset := 8, embedded := false, tag := "", pkgPath := "", byteOffset := 80 }]),
  (75, .slice 139),
  (76, .struct #[{ name := "Inum", type := 3, offset := 0, embedded := false, tag := "", pkgPath := "", byteOffset := 0 }, { name := "Kind", type := 60, offset := 1, embedded := false, tag := "", pkgPath := "", byteOffset := 8 }, { name := "Links", type := 3, offset := 2, embedded := false, tag := "", pkgPath := "", byteOffset := 16 }, { name := "Size", type := 3, offset := 3, embedded := false, tag := "", pkgPath := "", byteOffset := 24 }, { name := "Blocks", type := 3, offset := 4, embedded := false, tag := "", pkgPath := "", byteOffset := 32 }, { name := "Data", type := 75, offset := 5, embedded := false, tag := "", pkgPath := "", byteOffset := 40 }, { name := "Slots", type := 63, offset := 6, embedded := false, tag := "", pkgPath := "", byteOffset := 64 }]),
  (77, .struct #[{ name := "Inum", type := 3, offset := 0, embedded := false, tag := "", pkgPath := "", byteOffset := 0 }, { name := "Kind", type := 60, offset := 1, embedded := false, tag := "", pkgPath := "", byteOffset := 8 }, { name := "Links", type := 3, offset := 2, embedded := false, tag := "", pkgPath := "", byteOffset := 16 }, { name := "Size", type := 3, offset := 3, embedded := false, tag := "", pkgPath := "", byteOffset := 24 }, { name := "Blocks", type := 3, offset := 4, embedded := false, tag := "", pkgPath := "", byteOffset := 32 }, { name := "Data", type := 75, offset := 5, embedded := false, tag := "", pkgPath := "", byteOffset := 40 }, { name := "Slots", type := 63, offset := 6, embedded := false, tag := "", pkgPath := "", byteOffset := 64 }]),
  (87, .pointer 135),
  (90, .struct #[{ name := "Inum", type := 3, offset := 0, embedded := false, tag := "", pkgPath := "", byteOffset := 0 }, { name := "Place", type := 3, offset := 1, embedded := false, tag := "", pkgPath := "", byteOffset := 8 }, { name := "Flags", type := 3, offset := 2, embedded := false, tag := "", pkgPath := "", byteOffset := 16 }]),
  (91, .struct #[{ name := "Inum", type := 3, offset := 0, embedded := false, tag := "", pkgPath := "", byteOffset := 0 }, { name := "Place", type := 3, offset := 1, embedded := false, tag := "", pkgPath := "", byteOffset := 8 }, { name := "Flags", type := 3, offset := 2, embedded := false, tag := "", pkgPath := "", byteOffset := 16 }]),
  (92, .array 16 91),
  (93, .struct #[{ name := "G", type := 23, offset := 0, embedded := false, tag := "", pkgPath := "", byteOffset := 0 }, { name := "S", type := 46, offset := 3, embedded := false, tag := "", pkgPath := "", byteOffset := 24 }, { name := "Fds", type := 92, offset := 6, embedded := false, tag := "", pkgPath := "", byteOffset := 64 }, { name := "Told", type := 34, offset := 54, embedded := false, tag := "", pkgPath := "", byteOffset := 448 }]),
  (94, .struct #[{ name := "G", type := 23, offset := 0, embedded := false, tag := "", pkgPath := "", byteOffset := 0 }, { name := "S", type := 46, offset := 3, embedded := false, tag := "", pkgPath := "", byteOffset := 24 }, { name := "Fds", type := 92, offset := 6, embedded := false, tag := "", pkgPath := "", byteOffset := 64 }, { name := "Told", type := 34, offset := 54, embedded := false, tag := "", pkgPath := "", byteOffset := 448 }]),
  (102, .slice 75),
  (103, .slice 63),
  (104, .slice 40),
  (124, .struct #[{ name := "inum", type := 3, offset := 0, embedded := false, tag := "", pkgPath := "undercroft/model", byteOffset := 0 }, { name := "place", type := 3, offset := 1, embedded := false, tag := "", pkgPath := "undercroft/model", byteOffset := 8 }, { name := "flags", type := 3, offset := 2, embedded := false, tag := "", pkgPath := "undercroft/model", byteOffset := 16 }]),
  (125, .struct #[{ name := "inum", type := 3, offset := 0, embedded := false, tag := "", pkgPath := "undercroft/model", byteOffset := 0 }, { name := "place", type := 3, offset := 1, embedded := false, tag := "", pkgPath := "undercroft/model", byteOffset := 8 }, { name := "flags", type := 3, offset := 2, embedded := false, tag := "", pkgPath := "undercroft/model", byteOffset := 16 }]),
  (133, .map 3 137),
  (134, .struct #[{ name := "kind", type := 60, offset := 0, embedded := false, tag := "", pkgPath := "undercroft/model", byteOffset := 0 }, { name := "links", type := 3, offset := 1, embedded := false, tag := "", pkgPath := "undercroft/model", byteOffset := 8 }, { name := "size", type := 3, offset := 2, embedded := false, tag := "", pkgPath := "undercroft/model", byteOffset := 16 }, { name := "data", type := 133, offset := 3, embedded := false, tag := "", pkgPath := "undercroft/model", byteOffset := 24 }, { name := "slots", type := 63, offset := 4, embedded := false, tag := "", pkgPath := "undercroft/model", byteOffset := 32 }]),
  (135, .struct #[{ name := "kind", type := 60, offset := 0, embedded := false, tag := "", pkgPath := "undercroft/model", byteOffset := 0 }, { name := "links", type := 3, offset := 1, embedded := false, tag := "", pkgPath := "undercroft/model", byteOffset := 8 }, { name := "size", type := 3, offset := 2, embedded := false, tag := "", pkgPath := "undercroft/model", byteOffset := 16 }, { name := "data", type := 133, offset := 3, embedded := false, tag := "", pkgPath := "undercroft/model", byteOffset := 24 }, { name := "slots", type := 63, offset := 4, embedded := false, tag := "", pkgPath := "undercroft/model", byteOffset := 32 }]),
  (136, .array 1024 5),
  (137, .array 1024 5),
  (138, .struct #[{ name := "Index", type := 3, offset := 0, embedded := false, tag := "", pkgPath := "", byteOffset := 0 }, { name := "Data", type := 137, offset := 1, embedded := false, tag := "", pkgPath := "", byteOffset := 8 }]),
  (139, .struct #[{ name := "Index", type := 3, offset := 0, embedded := false, tag := "", pkgPath := "", byteOffset := 0 }, { name := "Data", type := 137, offset := 1, embedded := false, tag := "", pkgPath := "", byteOffset := 8 }]),
  (141, .struct #[{ name := "Inum", type := 59, offset := 0, embedded := false, tag := "", pkgPath := "", byteOffset := 0 }, { name := "Name", type := 9, offset := 1, embedded := false, tag := "", pkgPath := "", byteOffset := 8 }]),
  (142, .struct #[{ name := "Inum", type := 59, offset := 0, embedded := false, tag := "", pkgPath := "", byteOffset := 0 }, { name := "Name", type := 9, offset := 1, embedded := false, tag := "", pkgPath := "", byteOffset := 8 }]),
  (152, .int .u64),
  (153, .struct #[{ name := "typ_", type := 17, offset := 0, embedded := false, tag := "", pkgPath := "internal/reflectlite", byteOffset := 0 }, { name := "ptr", type := 151, offset := 1, embedded := false, tag := "", pkgPath := "internal/reflectlite", byteOffset := 8 }, { name := "flag", type := 152, offset := 2, embedded := true, tag := "", pkgPath := "internal/reflectlite", byteOffset := 16 }]),
  (154, .struct #[{ name := "typ_", type := 17, offset := 0, embedded := false, tag := "", pkgPath := "internal/reflectlite", byteOffset := 0 }, { name := "ptr", type := 151, offset := 1, embedded := false, tag := "", pkgPath := "internal/reflectlite", byteOffset := 8 }, { name := "flag", type := 152, offset := 2, embedded := true, tag := "", pkgPath := "internal/reflectlite", byteOffset := 16 }]),
  (159, .int .u64),
  (161, .struct #[{ name := "Less", type := 101, offset := 0, embedded := false, tag := "", pkgPath := "", byteOffset := 0 }, { name := "Swap", type := 156, offset := 1, embedded := false, tag := "", pkgPath := "", byteOffset := 8 }]),
  (162, .struct #[{ name := "Less", type := 101, offset := 0, embedded := false, tag := "", pkgPath := "", byteOffset := 0 }, { name := "Swap", type := 156, offset := 1, embedded := false, tag := "", pkgPath := "", byteOffset := 8 }]),
  (163, .slice 44),
  (166, .slice 9),
  (175, .slice 178),
  (177, .struct #[{ name := "At", type := 3, offset := 0, embedded := false, tag := "", pkgPath := "", byteOffset := 0 }, { name := "Len", type := 3, offset := 1, embedded := false, tag := "", pkgPath := "", byteOffset := 8 }]),
  (178, .struct #[{ name := "At", type := 3, offset := 0, embedded := false, tag := "", pkgPath := "", byteOffset := 0 }, { name := "Len", type := 3, offset := 1, embedded := false, tag := "", pkgPath := "", byteOffset := 8 }]),
  (184, .map 3 77),
  (195, .map 3 200),
  (196, .int .u8),
  (197, .struct #[{ name := "Depth", type := 196, offset := 0, embedded := false, tag := "", pkgPath := "", byteOffset := 0 }, { name := "First", type := 3, offset := 1, embedded := false, tag := "", pkgPath := "", byteOffset := 8 }, { name := "Second", type := 3, offset := 2, embedded := false, tag := "", pkgPath := "", byteOffset := 16 }]),
  (198, .struct #[{ name := "Depth", type := 196, offset := 0, embedded := false, tag := "", pkgPath := "", byteOffset := 0 }, { name := "First", type := 3, offset := 1, embedded := false, tag := "", pkgPath := "", byteOffset := 8 }, { name := "Second", type := 3, offset := 2, embedded := false, tag := "", pkgPath := "", byteOffset := 16 }]),
  (200, .struct #[]),
  (203, .struct #[{ name := "Type", type := 17, offset := 0, embedded := true, tag := "", pkgPath := "", byteOffset := 0 }]),
  (204, .struct #[{ name := "Type", type := 17, offset := 0, embedded := true, tag := "", pkgPath := "", byteOffset := 0 }]),
  (205, .pointer 269),
  (207, .int .u32),
  (209, .int .u64),
  (211, .int .i64),
  (222, .map 9 3),
  (224, .map 3 3),
  (235, .pointer 77),
  (243, .int .u64),
  (247, .pointer 3),
  (252, .pointer 243),
  (255, .struct #[{ name := "_interface", type := 17, offset := 0, embedded := false, tag := "", pkgPath := "runtime", byteOffset := 0 }, { name := "concrete", type := 17, offset := 1, embedded := false, tag := "", pkgPath := "runtime", byteOffset := 8 }, { name := "asserted", type := 17, offset := 2, embedded := false, tag := "", pkgPath := "runtime", byteOffset := 16 }, { name := "missingMethod", type := 9, offset := 3, embedded := false, tag := "", pkgPath := "runtime", byteOffset := 24 }]),
  (256, .struct #[{ name := "_interface", type := 17, offset := 0, embedded := false, tag := "", pkgPath := "runtime", byteOffset := 0 }, { name := "concrete", type := 17, offset := 1, embedded := false, tag := "", pkgPath := "runtime", byteOffset := 8 }, { name := "asserted", type := 17, offset := 2, embedded := false, tag := "", pkgPath := "runtime", byteOffset := 16 }, { name := "missingMethod", type := 9, offset := 3, embedded := false, tag := "", pkgPath := "runtime", byteOffset := 24 }]),
  (257, .array 0 16),
  (258, .struct #[{ name := "_", type := 257, offset := 0, embedded := false, tag := "", pkgPath := "runtime", byteOffset := 0 }]),
  (259, .struct #[{ name := "_", type := 257, offset := 0, embedded := false, tag := "", pkgPath := "runtime", byteOffset := 0 }]),
  (260, .int .u8),
  (261, .int .u8),
  (263, .pointer 5),
  (264, .int .i32),
  (265, .int .i32),
  (266, .struct #[{ name := "Size_", type := 12, offset := 0, embedded := false, tag := "", pkgPath := "", byteOffset := 0 }, { name := "PtrBytes", type := 12, offset := 1, embedded := false, tag := "", pkgPath := "", byteOffset := 8 }, { name := "Hash", type := 207, offset := 2, embedded := false, tag := "", pkgPath := "", byteOffset := 16 }, { name := "TFlag", type := 260, offset := 3, embedded := false, tag := "", pkgPath := "", byteOffset := 20 }, { name := "Align_", type := 5, offset := 4, embedded := false, tag := "", pkgPath := "", byteOffset := 21 }, { name := "FieldAlign_", type := 5, offset := 5, embedded := false, tag := "", pkgPath := "", byteOffset := 22 }, { name := "Kind_", type := 261, offset := 6, embedded := false, tag := "", pkgPath := "", byteOffset := 23 }, { name := "Equal", type := 262, offset := 7, embedded := false, tag := "", pkgPath := "", byteOffset := 24 }, { name := "GCData", type := 263, offset := 8, embedded := false, tag := "", pkgPath := "", byteOffset := 32 }, { name := "Str", type := 264, offset := 9, embedded := false, tag := "", pkgPath := "", byteOffset := 40 }, { name := "PtrToThis", type := 265, offset := 10, embedded := false, tag := "", pkgPath := "", byteOffset := 44 }]),
  (267, .struct #[{ name := "Size_", type := 12, offset := 0, embedded := false, tag := "", pkgPath := "", byteOffset := 0 }, { name := "PtrBytes", type := 12, offset := 1, embedded := false, tag := "", pkgPath := "", byteOffset := 8 }, { name := "Hash", type := 207, offset := 2, embedded := false, tag := "", pkgPath := "", byteOffset := 16 }, { name := "TFlag", type := 260, offset := 3, embedded := false, tag := "", pkgPath := "", byteOffset := 20 }, { name := "Align_", type := 5, offset := 4, embedded := false, tag := "", pkgPath := "", byteOffset := 21 }, { name := "FieldAlign_", type := 5, offset := 5, embedded := false, tag := "", pkgPath := "", byteOffset := 22 }, { name := "Kind_", type := 261, offset := 6, embedded := false, tag := "", pkgPath := "", byteOffset := 23 }, { name := "Equal", type := 262, offset := 7, embedded := false, tag := "", pkgPath := "", byteOffset := 24 }, { name := "GCData", type := 263, offset := 8, embedded := false, tag := "", pkgPath := "", byteOffset := 32 }, { name := "Str", type := 264, offset := 9, embedded := false, tag := "", pkgPath := "", byteOffset := 40 }, { name := "PtrToThis", type := 265, offset := 10, embedded := false, tag := "", pkgPath := "", byteOffset := 44 }]),
  (268, .struct #[{ name := "Method", type := 9, offset := 0, embedded := false, tag := "", pkgPath := "", byteOffset := 0 }, { name := "Kind", type := 261, offset := 1, embedded := false, tag := "", pkgPath := "", byteOffset := 16 }]),
  (269, .struct #[{ name := "Method", type := 9, offset := 0, embedded := false, tag := "", pkgPath := "", byteOffset := 0 }, { name := "Kind", type := 261, offset := 1, embedded := false, tag := "", pkgPath := "", byteOffset := 16 }])]
def tbS : List (Nat × Nat) := [(2, 1), (3, 1), (4, 1), (5, 1), (6, 1), (7, 4), (8, 4), (9, 1), (10, 1), (11, 1), (12, 1), (13, 2), (14, 2), (15, 1), (16, 1), (17, 1), (18, 1), (19, 1), (21, 1), (22, 3), (23, 3), (24, 1), (25, 1), (26, 1), (27, 1), (30, 1), (33, 1), (34, 1), (35, 1), (36, 4), (37, 4), (39, 1), (40, 1), (41, 7), (42, 7), (44, 1), (45, 3), (46, 3), (52, 9), (53, 9), (54, 1), (55, 1), (56, 16), (57, 27), (58, 27), (59, 1), (60, 1), (61, 5), (62, 5), (63, 1), (64, 9), (65, 9), (75, 1), (76, 7), (77, 7), (87, 1), (90, 3), (91, 3), (92, 48), (93, 55), (94, 55), (102, 1), (103, 1), (104, 1), (124, 3), (125, 3), (133, 1), (134, 5), (135, 5), (136, 1024), (137, 1024), (138, 1025), (139, 1025), (141, 2), (142, 2), (152, 1), (153, 3), (154, 3), (159, 1), (161, 2), (162, 2), (163, 1), (166, 1), (175, 1), (177, 2), (178, 2), (184, 1), (195, 1), (196, 1), (197, 3), (198, 3), (200, 0), (203, 1), (204, 1), (205, 1), (207, 1), (209, 1), (211, 1), (222, 1), (224, 1), (235, 1), (243, 1), (247, 1), (252, 1), (255, 4), (256, 4), (257, 0), (258, 0), (259, 0), (260, 1), (261, 1), (263, 1), (264, 1), (265, 1), (266, 11), (267, 11), (268, 2), (269, 2)]
def tbB : List (Nat × Nat) := [(2, 8), (3, 8), (4, 1), (5, 1), (6, 1), (7, 24), (8, 24), (9, 16), (10, 16), (11, 16), (12, 8), (13, 24), (14, 24), (15, 8), (16, 8), (17, 8), (18, 8), (19, 8), (21, 4), (22, 24), (23, 24), (24, 24), (25, 24), (26, 8), (27, 8), (30, 8), (33, 8), (34, 24), (35, 24), (36, 96), (37, 96), (39, 1), (40, 24), (41, 88), (42, 88), (44, 24), (45, 40), (46, 40), (52, 72), (53, 72), (54, 8), (55, 8), (56, 128), (57, 232), (58, 232), (59, 2), (60, 2), (61, 40), (62, 40), (63, 24), (64, 104), (65, 104), (75, 24), (76, 88), (77, 88), (87, 8), (90, 24), (91, 24), (92, 384), (93, 472), (94, 472), (102, 24), (103, 24), (104, 24), (124, 24), (125, 24), (133, 8), (134, 56), (135, 56), (136, 1024), (137, 1024), (138, 1032), (139, 1032), (141, 24), (142, 24), (152, 8), (153, 24), (154, 24), (159, 8), (161, 16), (162, 16), (163, 24), (166, 24), (175, 24), (177, 16), (178, 16), (184, 8), (195, 8), (196, 1), (197, 24), (198, 24), (200, 0), (203, 8), (204, 8), (205, 8), (207, 4), (209, 8), (211, 8), (222, 8), (224, 8), (235, 8), (243, 8), (247, 8), (252, 8), (255, 40), (256, 40), (257, 0), (258, 0), (259, 0), (260, 1), (261, 1), (263, 8), (264, 4), (265, 4), (266, 48), (267, 48), (268, 24), (269, 24)]
def tbZ : List (Nat × Value) := [
  (2, .int .i64 0),
  (3, .int .i64 0),
  (4, .bool false),
  (5, .int .u8 0),
  (6, .int .u8 0),
  (7, .agg (#[.int .i64 0, .int .i64 0, .bool false, .int .u8 0])),
  (8, .agg (#[.int .i64 0, .int .i64 0, .bool false, .int .u8 0])),
  (9, .string ⟨#[]⟩),
  (10, .string ⟨#[]⟩),
  (11, .string ⟨#[]⟩),
  (12, .int .u64 0),
  (13, .agg (#[.string ⟨#[]⟩, .int .u64 0])),
  (14, .agg (#[.string ⟨#[]⟩, .int .u64 0])),
  (15, .pointer none),
  (16, .pointer none),
  (17, .pointer none),
  (18, .agg (#[.pointer none])),
  (19, .agg (#[.pointer none])),
  (21, .int .i32 0),
  (22, .agg (#[.int .i64 0, .int .i64 0, .int .i64 0])),
  (23, .agg (#[.int .i64 0, .int .i64 0, .int .i64 0])),
  (24, .slice none 0 0),
  (25, .slice none 0 0),
  (26, .pointer none),
  (27, .int .i64 0),
  (30, .pointer none),
  (33, .pointer none),
  (34, .slice none 0 0),
  (35, .slice none 0 0),
  (36, .agg (#[.slice none 0 0, .slice none 0 0, .slice none 0 0, .slice none 0 0])),
  (37, .agg (#[.slice none 0 0, .slice none 0 0, .slice none 0 0, .slice none 0 0])),
  (39, .int .u8 0),
  (40, .slice none 0 0),
  (41, .agg (#[.int .u8 0, .string ⟨#[]⟩, .string ⟨#[]⟩, .int .i64 0, .int .i64 0, .int .i64 0, .slice none 0 0])),
  (42, .agg (#[.int .u8 0, .string ⟨#[]⟩, .string ⟨#[]⟩, .int .i64 0, .int .i64 0, .int .i64 0, .slice none 0 0])),
  (44, .slice none 0 0),
  (45, .agg (#[.slice none 0 0, .int .i64 0, .int .i64 0])),
  (46, .agg (#[.slice none 0 0, .int .i64 0, .int .i64 0])),
  (52, .agg (#[.int .i64 0, .int .i64 0, .int .i64 0, .int .i64 0, .int .i64 0, .int .i64 0, .int .i64 0, .int .i64 0, .int .i64 0])),
  (53, .agg (#[.int .i64 0, .int .i64 0, .int .i64 0, .int .i64 0, .int .i64 0, .int .i64 0, .int .i64 0, .int .i64 0, .int .i64 0])),
  (54, .map none),
  (55, .pointer none),
  (56, .agg (#[.pointer none, .pointer none, .pointer none, .pointer none, .pointer none, .pointer none, .pointer none, .pointer none, .pointer none, .pointer none, .pointer none, .pointer none, .pointer none, .pointer none, .pointer none, .pointer none])),
  (57, .agg (#[.int .i64 0, .int .i64 0, .int .i64 0, .int .i64 0, .int .i64 0, .int .i64 0, .int .i64 0, .int .i64 0, .int .i64 0, .map none, .pointer none, .pointer none, .pointer none, .pointer none, .pointer none, .pointer none, .pointer none, .pointer none, .pointer none, .pointer none, .pointer none, .pointer none, .pointer none, .pointer none, .pointer none, .pointer none, .slice none 0 0])),
  (58, .agg (#[.int .i64 0, .int .i64 0, .int .i64 0, .int .i64 0, .int .i64 0, .int .i64 0, .int .i64 0, .int .i64 0, .int .i64 0, .map none, .pointer none, .pointer none, .pointer none, .pointer none, .pointer none, .pointer none, .pointer none, .pointer none, .pointer none, .pointer none, .pointer none, .pointer none, .pointer none, .pointer none, .pointer none, .pointer none, .slice none 0 0])),
  (59, .int .u16 0),
  (60, .int .u16 0),
  (61, .agg (#[.int .i64 0, .int .u16 0, .int .i64 0, .int .i64 0, .int .i64 0])),
  (62, .agg (#[.int .i64 0, .int .u16 0, .int .i64 0, .int .i64 0, .int .i64 0])),
  (63, .slice none 0 0),
  (64, .agg (#[.int .i64 0, .int .i64 0, .slice none 0 0, .int .i64 0, .int .u16 0, .int .i64 0, .int .i64 0, .int .i64 0, .slice none 0 0])),
  (65, .agg (#[.int .i64 0, .int .i64 0, .slice none 0 0, .int .i64 0, .int .u16 0, .int .i64 0, .int .i64 0, .int .i64 0, .slice none 0 0])),
  (75, .slice none 0 0),
  (76, .agg (#[.int .i64 0, .int .u16 0, .int .i64 0, .int .i64 0, .int .i64 0, .slice none 0 0, .slice none 0 0])),
  (77, .agg (#[.int .i64 0, .int .u16 0, .int .i64 0, .int .i64 0, .int .i64 0, .slice none 0 0, .slice none 0 0])),
  (87, .pointer none),
  (90, .agg (#[.int .i64 0, .int .i64 0, .int .i64 0])),
  (91, .agg (#[.int .i64 0, .int .i64 0, .int .i64 0])),
  (92, .agg (#[.int .i64 0, .int .i64 0, .int .i64 0, .int .i64 0, .int .i64 0, .int .i64 0, .int .i64 0, .int .i64 0, .int .i64 0, .int .i64 0, .int .i64 0, .int .i64 0, .int .i64 0, .int .i64 0, .int .i64 0, .int .i64 0, .int .i64 0, .int .i64 0, .int .i64 0, .int .i64 0, .int .i64 0, .int .i64 0, .int .i64 0, .int .i64 0, .int .i64 0, .int .i64 0, .int .i64 0, .int .i64 0, .int .i64 0, .int .i64 0, .int .i64 0, .int .i64 0, .int .i64 0, .int .i64 0, .int .i64 0, .int .i64 0, .int .i64 0, .int .i64 0, .int .i64 0, .int .i64 0, .int .i64 0, .int .i64 0, .int .i64 0, .int .i64 0, .int .i64 0, .int .i64 0, .int .i64 0, .int .i64 0])),
  (93, .agg (#[.int .i64 0, .int .i64 0, .int .i64 0, .slice none 0 0, .int .i64 0, .int .i64 0, .int .i64 0, .int .i64 0, .int .i64 0, .int .i64 0, .int .i64 0, .int .i64 0, .int .i64 0, .int .i64 0, .int .i64 0, .int .i64 0, .int .i64 0, .int .i64 0, .int .i64 0, .int .i64 0, .int .i64 0, .int .i64 0, .int .i64 0, .int .i64 0, .int .i64 0, .int .i64 0, .int .i64 0, .int .i64 0, .int .i64 0, .int .i64 0, .int .i64 0, .int .i64 0, .int .i64 0, .int .i64 0, .int .i64 0, .int .i64 0, .int .i64 0, .int .i64 0, .int .i64 0, .int .i64 0, .int .i64 0, .int .i64 0, .int .i64 0, .int .i64 0, .int .i64 0, .int .i64 0, .int .i64 0, .int .i64 0, .int .i64 0, .int .i64 0, .int .i64 0, .int .i64 0, .int .i64 0, .int .i64 0, .slice none 0 0])),
  (94, .agg (#[.int .i64 0, .int .i64 0, .int .i64 0, .slice none 0 0, .int .i64 0, .int .i64 0, .int .i64 0, .int .i64 0, .int .i64 0, .int .i64 0, .int .i64 0, .int .i64 0, .int .i64 0, .int .i64 0, .int .i64 0, .int .i64 0, .int .i64 0, .int .i64 0, .int .i64 0, .int .i64 0, .int .i64 0, .int .i64 0, .int .i64 0, .int .i64 0, .int .i64 0, .int .i64 0, .int .i64 0, .int .i64 0, .int .i64 0, .int .i64 0, .int .i64 0, .int .i64 0, .int .i64 0, .int .i64 0, .int .i64 0, .int .i64 0, .int .i64 0, .int .i64 0, .int .i64 0, .int .i64 0, .int .i64 0, .int .i64 0, .int .i64 0, .int .i64 0, .int .i64 0, .int .i64 0, .int .i64 0, .int .i64 0, .int .i64 0, .int .i64 0, .int .i64 0, .int .i64 0, .int .i64 0, .int .i64 0, .slice none 0 0])),
  (102, .slice none 0 0),
  (103, .slice none 0 0),
  (104, .slice none 0 0),
  (124, .agg (#[.int .i64 0, .int .i64 0, .int .i64 0])),
  (125, .agg (#[.int .i64 0, .int .i64 0, .int .i64 0])),
  (133, .map none),
  (134, .agg (#[.int .u16 0, .int .i64 0, .int .i64 0, .map none, .slice none 0 0])),
  (135, .agg (#[.int .u16 0, .int .i64 0, .int .i64 0, .map none, .slice none 0 0])),
  (136, .agg ((List.replicate 1024 (Value.int .u8 0)).toArray)),
  (137, .agg ((List.replicate 1024 (Value.int .u8 0)).toArray)),
  (138, .agg (([Value.int .i64 0] ++ List.replicate 1024 (Value.int .u8 0)).toArray)),
  (139, .agg (([Value.int .i64 0] ++ List.replicate 1024 (Value.int .u8 0)).toArray)),
  (141, .agg (#[.int .u16 0, .string ⟨#[]⟩])),
  (142, .agg (#[.int .u16 0, .string ⟨#[]⟩])),
  (152, .int .u64 0),
  (153, .agg (#[.pointer none, .pointer none, .int .u64 0])),
  (154, .agg (#[.pointer none, .pointer none, .int .u64 0])),
  (159, .int .u64 0),
  (161, .agg (#[.nilFunc, .nilFunc])),
  (162, .agg (#[.nilFunc, .nilFunc])),
  (163, .slice none 0 0),
  (166, .slice none 0 0),
  (175, .slice none 0 0),
  (177, .agg (#[.int .i64 0, .int .i64 0])),
  (178, .agg (#[.int .i64 0, .int .i64 0])),
  (184, .map none),
  (195, .map none),
  (196, .int .u8 0),
  (197, .agg (#[.int .u8 0, .int .i64 0, .int .i64 0])),
  (198, .agg (#[.int .u8 0, .int .i64 0, .int .i64 0])),
  (200, .agg (#[])),
  (203, .agg (#[.pointer none])),
  (204, .agg (#[.pointer none])),
  (205, .pointer none),
  (207, .int .u32 0),
  (209, .int .u64 0),
  (211, .int .i64 0),
  (222, .map none),
  (224, .map none),
  (235, .pointer none),
  (243, .int .u64 0),
  (247, .pointer none),
  (252, .pointer none),
  (255, .agg (#[.pointer none, .pointer none, .pointer none, .string ⟨#[]⟩])),
  (256, .agg (#[.pointer none, .pointer none, .pointer none, .string ⟨#[]⟩])),
  (257, .agg (#[])),
  (258, .agg (#[])),
  (259, .agg (#[])),
  (260, .int .u8 0),
  (261, .int .u8 0),
  (263, .pointer none),
  (264, .int .i32 0),
  (265, .int .i32 0),
  (266, .agg (#[.int .u64 0, .int .u64 0, .int .u32 0, .int .u8 0, .int .u8 0, .int .u8 0, .int .u8 0, .nilFunc, .pointer none, .int .i32 0, .int .i32 0])),
  (267, .agg (#[.int .u64 0, .int .u64 0, .int .u32 0, .int .u8 0, .int .u8 0, .int .u8 0, .int .u8 0, .nilFunc, .pointer none, .int .i32 0, .int .i32 0])),
  (268, .agg (#[.string ⟨#[]⟩, .int .u8 0])),
  (269, .agg (#[.string ⟨#[]⟩, .int .u8 0]))]
def tbF : List (Nat × Unit) := [(3, ()), (4, ()), (5, ()), (6, ()), (7, ()), (8, ()), (9, ()), (10, ()), (11, ()), (12, ()), (13, ()), (14, ()), (15, ()), (16, ()), (17, ()), (18, ()), (19, ()), (20, ()), (21, ()), (22, ()), (23, ()), (24, ()), (25, ()), (26, ()), (27, ()), (28, ()), (29, ()), (30, ()), (31, ()), (32, ()), (33, ()), (34, ()), (35, ()), (36, ()), (37, ()), (38, ()), (39, ()), (40, ()), (41, ()), (42, ()), (43, ()), (44, ()), (46, ()), (47, ()), (48, ()), (49, ()), (50, ()), (51, ()), (52, ()), (53, ()), (54, ()), (55, ()), (56, ()), (57, ()), (58, ()), (59, ()), (60, ()), (61, ()), (62, ()), (63, ()), (64, ()), (65, ()), (66, ()), (67, ()), (68, ()), (69, ()), (70, ()), (71, ()), (72, ()), (73, ()), (74, ()), (75, ()), (76, ()), (77, ()), (78, ()), (79, ()), (80, ()), (81, ()), (82, ()), (83, ()), (84, ()), (85, ()), (86, ()), (92, ()), (93, ()), (94, ()), (95, ()), (96, ()), (97, ()), (98, ()), (99, ()), (100, ()), (101, ()), (102, ()), (103, ()), (104, ()), (105, ()), (106, ()), (107, ()), (108, ()), (109, ()), (110, ()), (111, ()), (112, ()), (113, ()), (114, ()), (115, ()), (116, ()), (117, ()), (118, ()), (119, ()), (120, ()), (121, ()), (122, ()), (123, ()), (124, ()), (125, ()), (126, ()), (127, ()), (128, ()), (129, ()), (130, ()), (131, ()), (132, ()), (133, ()), (134, ()), (135, ()), (136, ()), (137, ()), (157, ()), (158, ()), (159, ()), (160, ()), (161, ()), (162, ()), (163, ()), (164, ()), (165, ()), (166, ()), (167, ()), (168, ()), (169, ()), (170, ()), (171, ()), (172, ()), (173, ()), (174, ()), (175, ()), (176, ()), (177, ()), (178, ()), (179, ()), (180, ()), (181, ()), (182, ()), (183, ()), (184, ()), (185, ()), (186, ()), (187, ()), (188, ()), (189, ()), (190, ()), (191, ()), (192, ()), (193, ()), (194, ()), (195, ()), (196, ()), (197, ()), (203, ()), (204, ()), (205, ()), (206, ()), (207, ()), (208, ()), (209, ()), (210, ()), (211, ()), (212, ()), (45, ())]
def tb : Tab := { u := lookT tbU, sz := lookT tbS, zero := lookT tbZ, bytes := lookT tbB, fn := fun k => (lookT tbF k).isSome }
theorem tb_u2 : Tryz.prog.underlying 2 = some (.int .i64) := by kernel_rfl
theorem tb_u3 : Tryz.prog.underlying 3 = some (.int .i64) := by kernel_rfl
theorem tb_u4 : Tryz.prog.underlying 4 = some (.bool) := by kernel_rfl
theorem tb_u5 : Tryz.prog.underlying 5 = some (.int .u8) := by kernel_rfl
theorem tb_u6 : Tryz.prog.underlying 6 = some (.int .u8) := by kernel_rfl
theorem tb_u7 : Tryz.prog.underlying 7 = some (.struct #[{ name := "x", type := 2, offset := 0, embedded := false, tag := "", pkgPath := "runtime", byteOffset := 0 }, { name := "y", type := 3, offset := 1, embedded := false, tag := "", pkgPath := "runtime", byteOffset := 8 }, { name := "signed", type := 4, offset := 2, embedded := false, tag := "", pkgPath := "runtime", byteOffset := 16 }, { name := "code", type := 6, offset := 3, embedded := false, tag := "", pkgPath := "runtime", byteOffset := 17 }]) := by kernel_rfl
theorem tb_u8 : Tryz.prog.underlying 8 = some (.struct #[{ name := "x", type := 2, offset := 0, embedded := false, tag := "", pkgPath := "runtime", byteOffset := 0 }, { name := "y", type := 3, offset := 1, embedded := false, tag := "", pkgPath := "runtime", byteOffset := 8 }, { name := "signed", type := 4, offset := 2, embedded := false, tag := "", pkgPath := "runtime", byteOffset := 16 }, { name := "code", type := 6, offset := 3, embedded := false, tag := "", pkgPath := "runtime", byteOffset := 17 }]) := by kernel_rfl
theorem tb_u9 : Tryz.prog.underlying 9 = some (.string) := by kernel_rfl
theorem tb_u10 : Tryz.prog.underlying 10 = some (.string) := by kernel_rfl
theorem tb_u11 : Tryz.prog.underlying 11 = some (.string) := by kernel_rfl
theorem tb_u12 : Tryz.prog.underlying 12 = some (.int .u64) := by kernel_rfl
theorem tb_u13 : Tryz.prog.underlying 13 = some (.struct #[{ name := "msg", type := 9, offset := 0, embedded := false, tag := "", pkgPath := "runtime", byteOffset := 0 }, { name := "addr", type := 12, offset := 1, embedded := false, tag := "", pkgPath := "runtime", byteOffset := 16 }]) := by kernel_rfl
theorem tb_u14 : Tryz.prog.underlying 14 = some (.struct #[{ name := "msg", type := 9, offset := 0, embedded := false, tag := "", pkgPath := "runtime", byteOffset := 0 }, { name := "addr", type := 12, offset := 1, embedded := false, tag := "", pkgPath := "runtime", byteOffset := 16 }]) := by kernel_rfl
theorem tb_u15 : Tryz.prog.underlying 15 = some (.pointer 256) := by kernel_rfl
theorem tb_u16 : Tryz.prog.underlying 16 = some (.pointer 259) := by kernel_rfl
theorem tb_u17 : Tryz.prog.underlying 17 = some (.pointer 267) := by kernel_rfl
theorem tb_u18 : Tryz.prog.underlying 18 = some (.struct #[{ name := "typ", type := 17, offset := 0, embedded := false, tag := "", pkgPath := "internal/runtime/maps", byteOffset := 0 }]) := by kernel_rfl
theorem tb_u19 : Tryz.prog.underlying 19 = some (.struct #[{ name := "typ", type := 17, offset := 0, embedded := false, tag := "", pkgPath := "internal/runtime/maps", byteOffset := 0 }]) := by kernel_rfl
theorem tb_u21 : Tryz.prog.underlying 21 = some (.int .i32) := by kernel_rfl
theorem tb_u22 : Tryz.prog.underlying 22 = some (.struct #[{ name := "Blocks", type := 3, offset := 0, embedded := false, tag := "", pkgPath := "", byteOffset := 0 }, { name := "Log", type := 3, offset := 1, embedded := false, tag := "", pkgPath := "", byteOffset := 8 }, { name := "Inodes", type := 3, offset := 2, embedded := false, tag := "", pkgPath := "", byteOffset := 16 }]) := by kernel_rfl
theorem tb_u23 : Tryz.prog.underlying 23 = some (.struct #[{ name := "Blocks", type := 3, offset := 0, embedded := false, tag := "", pkgPath := "", byteOffset := 0 }, { name := "Log", type := 3, offset := 1, embedded := false, tag := "", pkgPath := "", byteOffset := 8 }, { name := "Inodes", type := 3, offset := 2, embedded := false, tag := "", pkgPath := "", byteOffset := 16 }]) := by kernel_rfl
theorem tb_u24 : Tryz.prog.underlying 24 = some (.slice 42) := by kernel_rfl
theorem tb_u25 : Tryz.prog.underlying 25 = some (.slice 3) := by kernel_rfl
theorem tb_u26 : Tryz.prog.underlying 26 = some (.pointer 58) := by kernel_rfl
theorem tb_u27 : Tryz.prog.underlying 27 = some (.int .i64) := by kernel_rfl
theorem tb_u30 : Tryz.prog.underlying 30 = some (.pointer 94) := by kernel_rfl
theorem tb_u33 : Tryz.prog.underlying 33 = some (.pointer 37) := by kernel_rfl
theorem tb_u34 : Tryz.prog.underlying 34 = some (.slice 46) := by kernel_rfl
theorem tb_u35 : Tryz.prog.underlying 35 = some (.slice 65) := by kernel_rfl
theorem tb_u36 : Tryz.prog.underlying 36 = some (.struct #[{ name := "states", type := 34, offset := 0, embedded := false, tag := "", pkgPath := "undercroft/undercroftlaw28", byteOffset := 0 }, { name := "want", type := 34, offset := 1, embedded := false, tag := "", pkgPath := "undercroft/undercroftlaw28", byteOffset := 24 }, { name := "results", type := 35, offset := 2, embedded := false, tag := "", pkgPath := "undercroft/undercroftlaw28", byteOffset := 48 }, { name := "meant", type := 35, offset := 3, embedded := false, tag := "", pkgPath := "undercroft/undercroftlaw28", byteOffset := 72 }]) := by kernel_rfl
theorem tb_u37 : Tryz.prog.underlying 37 = some (.struct #[{ name := "states", type := 34, offset := 0, embedded := false, tag := "", pkgPath := "undercroft/undercroftlaw28", byteOffset := 0 }, { name := "want", type := 34, offset := 1, embedded := false, tag := "", pkgPath := "undercroft/undercroftlaw28", byteOffset := 24 }, { name := "results", type := 35, offset := 2, embedded := false, tag := "", pkgPath := "undercroft/undercroftlaw28", byteOffset := 48 }, { name := "meant", type := 35, offset := 3, embedded := false, tag := "", pkgPath := "undercroft/undercroftlaw28", byteOffset := 72 }]) := by kernel_rfl
theorem tb_u39 : Tryz.prog.underlying 39 = some (.int .u8) := by kernel_rfl
theorem tb_u40 : Tryz.prog.underlying 40 = some (.slice 5) := by kernel_rfl
theorem tb_u41 : Tryz.prog.underlying 41 = some (.struct #[{ name := "Kind", type := 39, offset := 0, embedded := false, tag := "", pkgPath := "", byteOffset := 0 }, { name := "Path", type := 9, offset := 1, embedded := false, tag := "", pkgPath := "", byteOffset := 8 }, { name := "Other", type := 9, offset := 2, embedded := false, tag := "", pkgPath := "", byteOffset := 24 }, { name := "Desc", type := 3, offset := 3, embedded := false, tag := "", pkgPath := "", byteOffset := 40 }, { name := "Size", type := 3, offset := 4, embedded := false, tag := "", pkgPath := "", byteOffset := 48 }, { name := "Flags", type := 3, offset := 5, embedded := false, tag := "", pkgPath := "", byteOffset := 56 }, { name := "Bytes", type := 40, offset := 6, embedded := false, tag := "", pkgPath := "", byteOffset := 64 }]) := by kernel_rfl
theorem tb_u42 : Tryz.prog.underlying 42 = some (.struct #[{ name := "Kind", type := 39, offset := 0, embedded := false, tag := "", pkgPath := "", byteOffset := 0 }, { name := "Path", type := 9, offset := 1, embedded := false, tag := "", pkgPath := "", byteOffset := 8 }, { name := "Other", type := 9, offset := 2, embedded := false, tag := "", pkgPath := "", byteOffset := 24 }, { name := "Desc", type := 3, offset := 3, embedded := false, tag := "", pkgPath := "", byteOffset := 40 }, { name := "Size", type := 3, offset := 4, embedded := false, tag := "", pkgPath := "", byteOffset := 48 }, { name := "Flags", type := 3, offset := 5, embedded := false, tag := "", pkgPath := "", byteOffset := 56 }, { name := "Bytes", type := 40, offset := 6, embedded := false, tag := "", pkgPath := "", byteOffset := 64 }]) := by kernel_rfl
theorem tb_u44 : Tryz.prog.underlying 44 = some (.slice 77) := by kernel_rfl
theorem tb_u45 : Tryz.prog.underlying 45 = some (.struct #[{ name := "Items", type := 44, offset := 0, embedded := false, tag := "", pkgPath := "", byteOffset := 0 }, { name := "Free", type := 3, offset := 1, embedded := false, tag := "", pkgPath := "", byteOffset := 24 }, { name := "Spare", type := 3, offset := 2, embedded := false, tag := "", pkgPath := "", byteOffset := 32 }]) := by kernel_rfl
theorem tb_u46 : Tryz.prog.underlying 46 = some (.struct #[{ name := "Items", type := 44, offset := 0, embedded := false, tag := "", pkgPath := "", byteOffset := 0 }, { name := "Free", type := 3, offset := 1, embedded := false, tag := "", pkgPath := "", byteOffset := 24 }, { name := "Spare", type := 3, offset := 2, embedded := false, tag := "", pkgPath := "", byteOffset := 32 }]) := by kernel_rfl
theorem tb_u52 : Tryz.prog.underlying 52 = some (.struct #[{ name := "Geometry", type := 23, offset := 0, embedded := false, tag := "", pkgPath := "", byteOffset := 0 }, { name := "LogAt", type := 3, offset := 3, embedded := false, tag := "", pkgPath := "", byteOffset := 24 }, { name := "NodeAt", type := 3, offset := 4, embedded := false, tag := "", pkgPath := "", byteOffset := 32 }, { name := "NodeBlocks", type := 3, offset := 5, embedded := false, tag := "", pkgPath := "", byteOffset := 40 }, { name := "BitsAt", type := 3, offset := 6, embedded := false, tag := "", pkgPath := "", byteOffset := 48 }, { name := "BitsBlocks", type := 3, offset := 7, embedded := false, tag := "", pkgPath := "", byteOffset := 56 }, { name := "DataAt", type := 3, offset := 8, embedded := false, tag := "", pkgPath := "", byteOffset := 64 }]) := by kernel_rfl
theorem tb_u53 : Tryz.prog.underlying 53 = some (.struct #[{ name := "Geometry", type := 23, offset := 0, embedded := false, tag := "", pkgPath := "", byteOffset := 0 }, { name := "LogAt", type := 3, offset := 3, embedded := false, tag := "", pkgPath := "", byteOffset := 24 }, { name := "NodeAt", type := 3, offset := 4, embedded := false, tag := "", pkgPath := "", byteOffset := 32 }, { name := "NodeBlocks", type := 3, offset := 5, embedded := false, tag := "", pkgPath := "", byteOffset := 40 }, { name := "BitsAt", type := 3, offset := 6, embedded := false, tag := "", pkgPath := "", byteOffset := 48 }, { name := "BitsBlocks", type := 3, offset := 7, embedded := false, tag := "", pkgPath := "", byteOffset := 56 }, { name := "DataAt", type := 3, offset := 8, embedded := false, tag := "", pkgPath := "", byteOffset := 64 }]) := by kernel_rfl
theorem tb_u54 : Tryz.prog.underlying 54 = some (.map 3 87) := by kernel_rfl
theorem tb_u55 : Tryz.prog.underlying 55 = some (.pointer 125) := by kernel_rfl
theorem tb_u56 : Tryz.prog.underlying 56 = some (.array 16 55) := by kernel_rfl
theorem tb_u57 : Tryz.prog.underlying 57 = some (.struct #[{ name := "where", type := 53, offset := 0, embedded := false, tag := "", pkgPath := "undercroft/model", byteOffset := 0 }, { name := "items", type := 54, offset := 9, embedded := false, tag := "", pkgPath := "undercroft/model", byteOffset := 72 }, { name := "descs", type := 56, offset := 10, embedded := false, tag := "", pkgPath := "undercroft/model", byteOffset := 80 }, { name := "told", type := 34, offset := 26, embedded := false, tag := "", pkgPath := "undercroft/model", byteOffset := 208 }]) := by kernel_rfl
theorem tb_u58 : Tryz.prog.underlying 58 = some (.struct #[{ name := "where", type := 53, offset := 0, embedded := false, tag := "", pkgPath := "undercroft/model", byteOffset := 0 }, { name := "items", type := 54, offset := 9, embedded := false, tag := "", pkgPath := "undercroft/model", byteOffset := 72 }, { name := "descs", type := 56, offset := 10, embedded := false, tag := "", pkgPath := "undercroft/model", byteOffset := 80 }, { name := "told", type := 34, offset := 26, embedded := false, tag := "", pkgPath := "undercroft/model", byteOffset := 208 }]) := by kernel_rfl
theorem tb_u59 : Tryz.prog.underlying 59 = some (.int .u16) := by kernel_rfl
theorem tb_u60 : Tryz.prog.underlying 60 = some (.int .u16) := by kernel_rfl
theorem tb_u61 : Tryz.prog.underlying 61 = some (.struct #[{ name := "Inum", type := 3, offset := 0, embedded := false, tag := "", pkgPath := "", byteOffset := 0 }, { name := "Kind", type := 60, offset := 1, embedded := false, tag := "", pkgPath := "", byteOffset := 8 }, { name := "Links", type := 3, offset := 2, embedded := false, tag := "", pkgPath := "", byteOffset := 16 }, { name := "Size", type := 3, offset := 3, embedded := false, tag := "", pkgPath := "", byteOffset := 24 }, { name := "Blocks", type := 3, offset := 4, embedded := false, tag := "", pkgPath := "", byteOffset := 32 }]) := by kernel_rfl
theorem tb_u62 : Tryz.prog.underlying 62 = some (.struct #[{ name := "Inum", type := 3, offset := 0, embedded := false, tag := "", pkgPath := "", byteOffset := 0 }, { name := "Kind", type := 60, offset := 1, embedded := false, tag := "", pkgPath := "", byteOffset := 8 }, { name := "Links", type := 3, offset := 2, embedded := false, tag := "", pkgPath := "", byteOffset := 16 }, { name := "Size", type := 3, offset := 3, embedded := false, tag := "", pkgPath := "", byteOffset := 24 }, { name := "Blocks", type := 3, offset := 4, embedded := false, tag := "", pkgPath := "", byteOffset := 32 }]) := by kernel_rfl
theorem tb_u63 : Tryz.prog.underlying 63 = some (.slice 142) := by kernel_rfl
theorem tb_u64 : Tryz.prog.underlying 64 = some (.struct #[{ name := "Err", type := 27, offset := 0, embedded := false, tag := "", pkgPath := "", byteOffset := 0 }, { name := "Value", type := 3, offset := 1, embedded := false, tag := "", pkgPath := "", byteOffset := 8 }, { name := "Bytes", type := 40, offset := 2, embedded := false, tag := "", pkgPath := "", byteOffset := 16 }, { name := "Stat", type := 62, offset := 3, embedded := false, tag := "", pkgPath := "", byteOffset := 40 }, { name := "Entries", type := 63, offset := 8, embedded := false, tag := "", pkgPath := "", byteOffset := 80 }]) := by kernel_rfl
theorem tb_u65 : Tryz.prog.underlying 65 = some (.struct #[{ name := "Err", type := 27, offset := 0, embedded := false, tag := "", pkgPath := "", byteOffset := 0 }, { name := "Value", type := 3, offset := 1, embedded := false, tag := "", pkgPath := "", byteOffset := 8 }, { name := "Bytes", type := 40, offset := 2, embedded := false, tag := "", pkgPath := "", byteOffset := 16 }, { name := "Stat", type := 62, offset := 3, embedded := false, tag := "", pkgPath := "", byteOffset := 40 }, { name := "Entries", type := 63, offset := 8, embedded := false, tag := "", pkgPath := "", byteOffset := 80 }]) := by kernel_rfl
theorem tb_u75 : Tryz.prog.underlying 75 = some (.slice 139) := by kernel_rfl
theorem tb_u76 : Tryz.prog.underlying 76 = some (.struct #[{ name := "Inum", type := 3, offset := 0, embedded := false, tag := "", pkgPath := "", byteOffset := 0 }, { name := "Kind", type := 60, offset := 1, embedded := false, tag := "", pkgPath := "", byteOffset := 8 }, { name := "Links", type := 3, offset := 2, embedded := false, tag := "", pkgPath := "", byteOffset := 16 }, { name := "Size", type := 3, offset := 3, embedded := false, tag := "", pkgPath := "", byteOffset := 24 }, { name := "Blocks", type := 3, offset := 4, embedded := false, tag := "", pkgPath := "", byteOffset := 32 }, { name := "Data", type := 75, offset := 5, embedded := false, tag := "", pkgPath := "", byteOffset := 40 }, { name := "Slots", type := 63, offset := 6, embedded := false, tag := "", pkgPath := "", byteOffset := 64 }]) := by kernel_rfl
theorem tb_u77 : Tryz.prog.underlying 77 = some (.struct #[{ name := "Inum", type := 3, offset := 0, embedded := false, tag := "", pkgPath := "", byteOffset := 0 }, { name := "Kind", type := 60, offset := 1, embedded := false, tag := "", pkgPath := "", byteOffset := 8 }, { name := "Links", type := 3, offset := 2, embedded := false, tag := "", pkgPath := "", byteOffset := 16 }, { name := "Size", type := 3, offset := 3, embedded := false, tag := "", pkgPath := "", byteOffset := 24 }, { name := "Blocks", type := 3, offset := 4, embedded := false, tag := "", pkgPath := "", byteOffset := 32 }, { name := "Data", type := 75, offset := 5, embedded := false, tag := "", pkgPath := "", byteOffset := 40 }, { name := "Slots", type := 63, offset := 6, embedded := false, tag := "", pkgPath := "", byteOffset := 64 }]) := by kernel_rfl
theorem tb_u87 : Tryz.prog.underlying 87 = some (.pointer 135) := by kernel_rfl
theorem tb_u90 : Tryz.prog.underlying 90 = some (.struct #[{ name := "Inum", type := 3, offset := 0, embedded := false, tag := "", pkgPath := "", byteOffset := 0 }, { name := "Place", type := 3, offset := 1, embedded := false, tag := "", pkgPath := "", byteOffset := 8 }, { name := "Flags", type := 3, offset := 2, embedded := false, tag := "", pkgPath := "", byteOffset := 16 }]) := by kernel_rfl
theorem tb_u91 : Tryz.prog.underlying 91 = some (.struct #[{ name := "Inum", type := 3, offset := 0, embedded := false, tag := "", pkgPath := "", byteOffset := 0 }, { name := "Place", type := 3, offset := 1, embedded := false, tag := "", pkgPath := "", byteOffset := 8 }, { name := "Flags", type := 3, offset := 2, embedded := false, tag := "", pkgPath := "", byteOffset := 16 }]) := by kernel_rfl
theorem tb_u92 : Tryz.prog.underlying 92 = some (.array 16 91) := by kernel_rfl
theorem tb_u93 : Tryz.prog.underlying 93 = some (.struct #[{ name := "G", type := 23, offset := 0, embedded := false, tag := "", pkgPath := "", byteOffset := 0 }, { name := "S", type := 46, offset := 3, embedded := false, tag := "", pkgPath := "", byteOffset := 24 }, { name := "Fds", type := 92, offset := 6, embedded := false, tag := "", pkgPath := "", byteOffset := 64 }, { name := "Told", type := 34, offset := 54, embedded := false, tag := "", pkgPath := "", byteOffset := 448 }]) := by kernel_rfl
theorem tb_u94 : Tryz.prog.underlying 94 = some (.struct #[{ name := "G", type := 23, offset := 0, embedded := false, tag := "", pkgPath := "", byteOffset := 0 }, { name := "S", type := 46, offset := 3, embedded := false, tag := "", pkgPath := "", byteOffset := 24 }, { name := "Fds", type := 92, offset := 6, embedded := false, tag := "", pkgPath := "", byteOffset := 64 }, { name := "Told", type := 34, offset := 54, embedded := false, tag := "", pkgPath := "", byteOffset := 448 }]) := by kernel_rfl
theorem tb_u102 : Tryz.prog.underlying 102 = some (.slice 75) := by kernel_rfl
theorem tb_u103 : Tryz.prog.underlying 103 = some (.slice 63) := by kernel_rfl
theorem tb_u104 : Tryz.prog.underlying 104 = some (.slice 40) := by kernel_rfl
theorem tb_u124 : Tryz.prog.underlying 124 = some (.struct #[{ name := "inum", type := 3, offset := 0, embedded := false, tag := "", pkgPath := "undercroft/model", byteOffset := 0 }, { name := "place", type := 3, offset := 1, embedded := false, tag := "", pkgPath := "undercroft/model", byteOffset := 8 }, { name := "flags", type := 3, offset := 2, embedded := false, tag := "", pkgPath := "undercroft/model", byteOffset := 16 }]) := by kernel_rfl
theorem tb_u125 : Tryz.prog.underlying 125 = some (.struct #[{ name := "inum", type := 3, offset := 0, embedded := false, tag := "", pkgPath := "undercroft/model", byteOffset := 0 }, { name := "place", type := 3, offset := 1, embedded := false, tag := "", pkgPath := "undercroft/model", byteOffset := 8 }, { name := "flags", type := 3, offset := 2, embedded := false, tag := "", pkgPath := "undercroft/model", byteOffset := 16 }]) := by kernel_rfl
theorem tb_u133 : Tryz.prog.underlying 133 = some (.map 3 137) := by kernel_rfl
theorem tb_u134 : Tryz.prog.underlying 134 = some (.struct #[{ name := "kind", type := 60, offset := 0, embedded := false, tag := "", pkgPath := "undercroft/model", byteOffset := 0 }, { name := "links", type := 3, offset := 1, embedded := false, tag := "", pkgPath := "undercroft/model", byteOffset := 8 }, { name := "size", type := 3, offset := 2, embedded := false, tag := "", pkgPath := "undercroft/model", byteOffset := 16 }, { name := "data", type := 133, offset := 3, embedded := false, tag := "", pkgPath := "undercroft/model", byteOffset := 24 }, { name := "slots", type := 63, offset := 4, embedded := false, tag := "", pkgPath := "undercroft/model", byteOffset := 32 }]) := by kernel_rfl
theorem tb_u135 : Tryz.prog.underlying 135 = some (.struct #[{ name := "kind", type := 60, offset := 0, embedded := false, tag := "", pkgPath := "undercroft/model", byteOffset := 0 }, { name := "links", type := 3, offset := 1, embedded := false, tag := "", pkgPath := "undercroft/model", byteOffset := 8 }, { name := "size", type := 3, offset := 2, embedded := false, tag := "", pkgPath := "undercroft/model", byteOffset := 16 }, { name := "data", type := 133, offset := 3, embedded := false, tag := "", pkgPath := "undercroft/model", byteOffset := 24 }, { name := "slots", type := 63, offset := 4, embedded := false, tag := "", pkgPath := "undercroft/model", byteOffset := 32 }]) := by kernel_rfl
theorem tb_u136 : Tryz.prog.underlying 136 = some (.array 1024 5) := by kernel_rfl
theorem tb_u137 : Tryz.prog.underlying 137 = some (.array 1024 5) := by kernel_rfl
theorem tb_u138 : Tryz.prog.underlying 138 = some (.struct #[{ name := "Index", type := 3, offset := 0, embedded := false, tag := "", pkgPath := "", byteOffset := 0 }, { name := "Data", type := 137, offset := 1, embedded := false, tag := "", pkgPath := "", byteOffset := 8 }]) := by kernel_rfl
theorem tb_u139 : Tryz.prog.underlying 139 = some (.struct #[{ name := "Index", type := 3, offset := 0, embedded := false, tag := "", pkgPath := "", byteOffset := 0 }, { name := "Data", type := 137, offset := 1, embedded := false, tag := "", pkgPath := "", byteOffset := 8 }]) := by kernel_rfl
theorem tb_u141 : Tryz.prog.underlying 141 = some (.struct #[{ name := "Inum", type := 59, offset := 0, embedded := false, tag := "", pkgPath := "", byteOffset := 0 }, { name := "Name", type := 9, offset := 1, embedded := false, tag := "", pkgPath := "", byteOffset := 8 }]) := by kernel_rfl
theorem tb_u142 : Tryz.prog.underlying 142 = some (.struct #[{ name := "Inum", type := 59, offset := 0, embedded := false, tag := "", pkgPath := "", byteOffset := 0 }, { name := "Name", type := 9, offset := 1, embedded := false, tag := "", pkgPath := "", byteOffset := 8 }]) := by kernel_rfl
theorem tb_u152 : Tryz.prog.underlying 152 = some (.int .u64) := by kernel_rfl
theorem tb_u153 : Tryz.prog.underlying 153 = some (.struct #[{ name := "typ_", type := 17, offset := 0, embedded := false, tag := "", pkgPath := "internal/reflectlite", byteOffset := 0 }, { name := "ptr", type := 151, offset := 1, embedded := false, tag := "", pkgPath := "internal/reflectlite", byteOffset := 8 }, { name := "flag", type := 152, offset := 2, embedded := true, tag := "", pkgPath := "internal/reflectlite", byteOffset := 16 }]) := by kernel_rfl
theorem tb_u154 : Tryz.prog.underlying 154 = some (.struct #[{ name := "typ_", type := 17, offset := 0, embedded := false, tag := "", pkgPath := "internal/reflectlite", byteOffset := 0 }, { name := "ptr", type := 151, offset := 1, embedded := false, tag := "", pkgPath := "internal/reflectlite", byteOffset := 8 }, { name := "flag", type := 152, offset := 2, embedded := true, tag := "", pkgPath := "internal/reflectlite", byteOffset := 16 }]) := by kernel_rfl
theorem tb_u159 : Tryz.prog.underlying 159 = some (.int .u64) := by kernel_rfl
theorem tb_u161 : Tryz.prog.underlying 161 = some (.struct #[{ name := "Less", type := 101, offset := 0, embedded := false, tag := "", pkgPath := "", byteOffset := 0 }, { name := "Swap", type := 156, offset := 1, embedded := false, tag := "", pkgPath := "", byteOffset := 8 }]) := by kernel_rfl
theorem tb_u162 : Tryz.prog.underlying 162 = some (.struct #[{ name := "Less", type := 101, offset := 0, embedded := false, tag := "", pkgPath := "", byteOffset := 0 }, { name := "Swap", type := 156, offset := 1, embedded := false, tag := "", pkgPath := "", byteOffset := 8 }]) := by kernel_rfl
theorem tb_u163 : Tryz.prog.underlying 163 = some (.slice 44) := by kernel_rfl
theorem tb_u166 : Tryz.prog.underlying 166 = some (.slice 9) := by kernel_rfl
theorem tb_u175 : Tryz.prog.underlying 175 = some (.slice 178) := by kernel_rfl
theorem tb_u177 : Tryz.prog.underlying 177 = some (.struct #[{ name := "At", type := 3, offset := 0, embedded := false, tag := "", pkgPath := "", byteOffset := 0 }, { name := "Len", type := 3, offset := 1, embedded := false, tag := "", pkgPath := "", byteOffset := 8 }]) := by kernel_rfl
theorem tb_u178 : Tryz.prog.underlying 178 = some (.struct #[{ name := "At", type := 3, offset := 0, embedded := false, tag := "", pkgPath := "", byteOffset := 0 }, { name := "Len", type := 3, offset := 1, embedded := false, tag := "", pkgPath := "", byteOffset := 8 }]) := by kernel_rfl
theorem tb_u184 : Tryz.prog.underlying 184 = some (.map 3 77) := by kernel_rfl
theorem tb_u195 : Tryz.prog.underlying 195 = some (.map 3 200) := by kernel_rfl
theorem tb_u196 : Tryz.prog.underlying 196 = some (.int .u8) := by kernel_rfl
theorem tb_u197 : Tryz.prog.underlying 197 = some (.struct #[{ name := "Depth", type := 196, offset := 0, embedded := false, tag := "", pkgPath := "", byteOffset := 0 }, { name := "First", type := 3, offset := 1, embedded := false, tag := "", pkgPath := "", byteOffset := 8 }, { name := "Second", type := 3, offset := 2, embedded := false, tag := "", pkgPath := "", byteOffset := 16 }]) := by kernel_rfl
theorem tb_u198 : Tryz.prog.underlying 198 = some (.struct #[{ name := "Depth", type := 196, offset := 0, embedded := false, tag := "", pkgPath := "", byteOffset := 0 }, { name := "First", type := 3, offset := 1, embedded := false, tag := "", pkgPath := "", byteOffset := 8 }, { name := "Second", type := 3, offset := 2, embedded := false, tag := "", pkgPath := "", byteOffset := 16 }]) := by kernel_rfl
theorem tb_u200 : Tryz.prog.underlying 200 = some (.struct #[]) := by kernel_rfl
theorem tb_u203 : Tryz.prog.underlying 203 = some (.struct #[{ name := "Type", type := 17, offset := 0, embedded := true, tag := "", pkgPath := "", byteOffset := 0 }]) := by kernel_rfl
theorem tb_u204 : Tryz.prog.underlying 204 = some (.struct #[{ name := "Type", type := 17, offset := 0, embedded := true, tag := "", pkgPath := "", byteOffset := 0 }]) := by kernel_rfl
theorem tb_u205 : Tryz.prog.underlying 205 = some (.pointer 269) := by kernel_rfl
theorem tb_u207 : Tryz.prog.underlying 207 = some (.int .u32) := by kernel_rfl
theorem tb_u209 : Tryz.prog.underlying 209 = some (.int .u64) := by kernel_rfl
theorem tb_u211 : Tryz.prog.underlying 211 = some (.int .i64) := by kernel_rfl
theorem tb_u222 : Tryz.prog.underlying 222 = some (.map 9 3) := by kernel_rfl
theorem tb_u224 : Tryz.prog.underlying 224 = some (.map 3 3) := by kernel_rfl
theorem tb_u235 : Tryz.prog.underlying 235 = some (.pointer 77) := by kernel_rfl
theorem tb_u243 : Tryz.prog.underlying 243 = some (.int .u64) := by kernel_rfl
theorem tb_u247 : Tryz.prog.underlying 247 = some (.pointer 3) := by kernel_rfl
theorem tb_u252 : Tryz.prog.underlying 252 = some (.pointer 243) := by kernel_rfl
theorem tb_u255 : Tryz.prog.underlying 255 = some (.struct #[{ name := "_interface", type := 17, offset := 0, embedded := false, tag := "", pkgPath := "runtime", byteOffset := 0 }, { name := "concrete", type := 17, offset := 1, embedded := false, tag := "", pkgPath := "runtime", byteOffset := 8 }, { name := "asserted", type := 17, offset := 2, embedded := false, tag := "", pkgPath := "runtime", byteOffset := 16 }, { name := "missingMethod", type := 9, offset := 3, embedded := false, tag := "", pkgPath := "runtime", byteOffset := 24 }]) := by kernel_rfl
theorem tb_u256 : Tryz.prog.underlying 256 = some (.struct #[{ name := "_interface", type := 17, offset := 0, embedded := false, tag := "", pkgPath := "runtime", byteOffset := 0 }, { name := "concrete", type := 17, offset := 1, embedded := false, tag := "", pkgPath := "runtime", byteOffset := 8 }, { name := "asserted", type := 17, offset := 2, embedded := false, tag := "", pkgPath := "runtime", byteOffset := 16 }, { name := "missingMethod", type := 9, offset := 3, embedded := false, tag := "", pkgPath := "runtime", byteOffset := 24 }]) := by kernel_rfl
theorem tb_u257 : Tryz.prog.underlying 257 = some (.array 0 16) := by kernel_rfl
theorem tb_u258 : Tryz.prog.underlying 258 = some (.struct #[{ name := "_", type := 257, offset := 0, embedded := false, tag := "", pkgPath := "runtime", byteOffset := 0 }]) := by kernel_rfl
theorem tb_u259 : Tryz.prog.underlying 259 = some (.struct #[{ name := "_", type := 257, offset := 0, embedded := false, tag := "", pkgPath := "runtime", byteOffset := 0 }]) := by kernel_rfl
theorem tb_u260 : Tryz.prog.underlying 260 = some (.int .u8) := by kernel_rfl
theorem tb_u261 : Tryz.prog.underlying 261 = some (.int .u8) := by kernel_rfl
theorem tb_u263 : Tryz.prog.underlying 263 = some (.pointer 5) := by kernel_rfl
theorem tb_u264 : Tryz.prog.underlying 264 = some (.int .i32) := by kernel_rfl
theorem tb_u265 : Tryz.prog.underlying 265 = some (.int .i32) := by kernel_rfl
theorem tb_u266 : Tryz.prog.underlying 266 = some (.struct #[{ name := "Size_", type := 12, offset := 0, embedded := false, tag := "", pkgPath := "", byteOffset := 0 }, { name := "PtrBytes", type := 12, offset := 1, embedded := false, tag := "", pkgPath := "", byteOffset := 8 }, { name := "Hash", type := 207, offset := 2, embedded := false, tag := "", pkgPath := "", byteOffset := 16 }, { name := "TFlag", type := 260, offset := 3, embedded := false, tag := "", pkgPath := "", byteOffset := 20 }, { name := "Align_", type := 5, offset := 4, embedded := false, tag := "", pkgPath := "", byteOffset := 21 }, { name := "FieldAlign_", type := 5, offset := 5, embedded := false, tag := "", pkgPath := "", byteOffset := 22 }, { name := "Kind_", type := 261, offset := 6, embedded := false, tag := "", pkgPath := "", byteOffset := 23 }, { name := "Equal", type := 262, offset := 7, embedded := false, tag := "", pkgPath := "", byteOffset := 24 }, { name := "GCData", type := 263, offset := 8, embedded := false, tag := "", pkgPath := "", byteOffset := 32 }, { name := "Str", type := 264, offset := 9, embedded := false, tag := "", pkgPath := "", byteOffset := 40 }, { name := "PtrToThis", type := 265, offset := 10, embedded := false, tag := "", pkgPath := "", byteOffset := 44 }]) := by kernel_rfl
theorem tb_u267 : Tryz.prog.underlying 267 = some (.struct #[{ name := "Size_", type := 12, offset := 0, embedded := false, tag := "", pkgPath := "", byteOffset := 0 }, { name := "PtrBytes", type := 12, offset := 1, embedded := false, tag := "", pkgPath := "", byteOffset := 8 }, { name := "Hash", type := 207, offset := 2, embedded := false, tag := "", pkgPath := "", byteOffset := 16 }, { name := "TFlag", type := 260, offset := 3, embedded := false, tag := "", pkgPath := "", byteOffset := 20 }, { name := "Align_", type := 5, offset := 4, embedded := false, tag := "", pkgPath := "", byteOffset := 21 }, { name := "FieldAlign_", type := 5, offset := 5, embedded := false, tag := "", pkgPath := "", byteOffset := 22 }, { name := "Kind_", type := 261, offset := 6, embedded := false, tag := "", pkgPath := "", byteOffset := 23 }, { name := "Equal", type := 262, offset := 7, embedded := false, tag := "", pkgPath := "", byteOffset := 24 }, { name := "GCData", type := 263, offset := 8, embedded := false, tag := "", pkgPath := "", byteOffset := 32 }, { name := "Str", type := 264, offset := 9, embedded := false, tag := "", pkgPath := "", byteOffset := 40 }, { name := "PtrToThis", type := 265, offset := 10, embedded := false, tag := "", pkgPath := "", byteOffset := 44 }]) := by kernel_rfl
theorem tb_u268 : Tryz.prog.underlying 268 = some (.struct #[{ name := "Method", type := 9, offset := 0, embedded := false, tag := "", pkgPath := "", byteOffset := 0 }, { name := "Kind", type := 261, offset := 1, embedded := false, tag := "", pkgPath := "", byteOffset := 16 }]) := by kernel_rfl
theorem tb_u269 : Tryz.prog.underlying 269 = some (.struct #[{ name := "Method", type := 9, offset := 0, embedded := false, tag := "", pkgPath := "", byteOffset := 0 }, { name := "Kind", type := 261, offset := 1, embedded := false, tag := "", pkgPath := "", byteOffset := 16 }]) := by kernel_rfl
theorem tb_s2 : (Tryz.prog.info? 2).map (fun i => (i.size, i.bytes)) = some (1, 8) := by kernel_rfl
theorem tb_s3 : (Tryz.prog.info? 3).map (fun i => (i.size, i.bytes)) = some (1, 8) := by kernel_rfl
theorem tb_s4 : (Tryz.prog.info? 4).map (fun i => (i.size, i.bytes)) = some (1, 1) := by kernel_rfl
theorem tb_s5 : (Tryz.prog.info? 5).map (fun i => (i.size, i.bytes)) = some (1, 1) := by kernel_rfl
theorem tb_s6 : (Tryz.prog.info? 6).map (fun i => (i.size, i.bytes)) = some (1, 1) := by kernel_rfl
theorem tb_s7 : (Tryz.prog.info? 7).map (fun i => (i.size, i.bytes)) = some (4, 24) := by kernel_rfl
theorem tb_s8 : (Tryz.prog.info? 8).map (fun i => (i.size, i.bytes)) = some (4, 24) := by kernel_rfl
theorem tb_s9 : (Tryz.prog.info? 9).map (fun i => (i.size, i.bytes)) = some (1, 16) := by kernel_rfl
theorem tb_s10 : (Tryz.prog.info? 10).map (fun i => (i.size, i.bytes)) = some (1, 16) := by kernel_rfl
theorem tb_s11 : (Tryz.prog.info? 11).map (fun i => (i.size, i.bytes)) = some (1, 16) := by kernel_rfl
theorem tb_s12 : (Tryz.prog.info? 12).map (fun i => (i.size, i.bytes)) = some (1, 8) := by kernel_rfl
theorem tb_s13 : (Tryz.prog.info? 13).map (fun i => (i.size, i.bytes)) = some (2, 24) := by kernel_rfl
theorem tb_s14 : (Tryz.prog.info? 14).map (fun i => (i.size, i.bytes)) = some (2, 24) := by kernel_rfl
theorem tb_s15 : (Tryz.prog.info? 15).map (fun i => (i.size, i.bytes)) = some (1, 8) := by kernel_rfl
theorem tb_s16 : (Tryz.prog.info? 16).map (fun i => (i.size, i.bytes)) = some (1, 8) := by kernel_rfl
theorem tb_s17 : (Tryz.prog.info? 17).map (fun i => (i.size, i.bytes)) = some (1, 8) := by kernel_rfl
theorem tb_s18 : (Tryz.prog.info? 18).map (fun i => (i.size, i.bytes)) = some (1, 8) := by kernel_rfl
theorem tb_s19 : (Tryz.prog.info? 19).map (fun i => (i.size, i.bytes)) = some (1, 8) := by kernel_rfl
theorem tb_s21 : (Tryz.prog.info? 21).map (fun i => (i.size, i.bytes)) = some (1, 4) := by kernel_rfl
theorem tb_s22 : (Tryz.prog.info? 22).map (fun i => (i.size, i.bytes)) = some (3, 24) := by kernel_rfl
theorem tb_s23 : (Tryz.prog.info? 23).map (fun i => (i.size, i.bytes)) = some (3, 24) := by kernel_rfl
theorem tb_s24 : (Tryz.prog.info? 24).map (fun i => (i.size, i.bytes)) = some (1, 24) := by kernel_rfl
theorem tb_s25 : (Tryz.prog.info? 25).map (fun i => (i.size, i.bytes)) = some (1, 24) := by kernel_rfl
theorem tb_s26 : (Tryz.prog.info? 26).map (fun i => (i.size, i.bytes)) = some (1, 8) := by kernel_rfl
theorem tb_s27 : (Tryz.prog.info? 27).map (fun i => (i.size, i.bytes)) = some (1, 8) := by kernel_rfl
theorem tb_s30 : (Tryz.prog.info? 30).map (fun i => (i.size, i.bytes)) = some (1, 8) := by kernel_rfl
theorem tb_s33 : (Tryz.prog.info? 33).map (fun i => (i.size, i.bytes)) = some (1, 8) := by kernel_rfl
theorem tb_s34 : (Tryz.prog.info? 34).map (fun i => (i.size, i.bytes)) = some (1, 24) := by kernel_rfl
theorem tb_s35 : (Tryz.prog.info? 35).map (fun i => (i.size, i.bytes)) = some (1, 24) := by kernel_rfl
theorem tb_s36 : (Tryz.prog.info? 36).map (fun i => (i.size, i.bytes)) = some (4, 96) := by kernel_rfl
theorem tb_s37 : (Tryz.prog.info? 37).map (fun i => (i.size, i.bytes)) = some (4, 96) := by kernel_rfl
theorem tb_s39 : (Tryz.prog.info? 39).map (fun i => (i.size, i.bytes)) = some (1, 1) := by kernel_rfl
theorem tb_s40 : (Tryz.prog.info? 40).map (fun i => (i.size, i.bytes)) = some (1, 24) := by kernel_rfl
theorem tb_s41 : (Tryz.prog.info? 41).map (fun i => (i.size, i.bytes)) = some (7, 88) := by kernel_rfl
theorem tb_s42 : (Tryz.prog.info? 42).map (fun i => (i.size, i.bytes)) = some (7, 88) := by kernel_rfl
theorem tb_s44 : (Tryz.prog.info? 44).map (fun i => (i.size, i.bytes)) = some (1, 24) := by kernel_rfl
theorem tb_s45 : (Tryz.prog.info? 45).map (fun i => (i.size, i.bytes)) = some (3, 40) := by kernel_rfl
theorem tb_s46 : (Tryz.prog.info? 46).map (fun i => (i.size, i.bytes)) = some (3, 40) := by kernel_rfl
theorem tb_s52 : (Tryz.prog.info? 52).map (fun i => (i.size, i.bytes)) = some (9, 72) := by kernel_rfl
theorem tb_s53 : (Tryz.prog.info? 53).map (fun i => (i.size, i.bytes)) = some (9, 72) := by kernel_rfl
theorem tb_s54 : (Tryz.prog.info? 54).map (fun i => (i.size, i.bytes)) = some (1, 8) := by kernel_rfl
theorem tb_s55 : (Tryz.prog.info? 55).map (fun i => (i.size, i.bytes)) = some (1, 8) := by kernel_rfl
theorem tb_s56 : (Tryz.prog.info? 56).map (fun i => (i.size, i.bytes)) = some (16, 128) := by kernel_rfl
theorem tb_s57 : (Tryz.prog.info? 57).map (fun i => (i.size, i.bytes)) = some (27, 232) := by kernel_rfl
theorem tb_s58 : (Tryz.prog.info? 58).map (fun i => (i.size, i.bytes)) = some (27, 232) := by kernel_rfl
theorem tb_s59 : (Tryz.prog.info? 59).map (fun i => (i.size, i.bytes)) = some (1, 2) := by kernel_rfl
theorem tb_s60 : (Tryz.prog.info? 60).map (fun i => (i.size, i.bytes)) = some (1, 2) := by kernel_rfl
theorem tb_s61 : (Tryz.prog.info? 61).map (fun i => (i.size, i.bytes)) = some (5, 40) := by kernel_rfl
theorem tb_s62 : (Tryz.prog.info? 62).map (fun i => (i.size, i.bytes)) = some (5, 40) := by kernel_rfl
theorem tb_s63 : (Tryz.prog.info? 63).map (fun i => (i.size, i.bytes)) = some (1, 24) := by kernel_rfl
theorem tb_s64 : (Tryz.prog.info? 64).map (fun i => (i.size, i.bytes)) = some (9, 104) := by kernel_rfl
theorem tb_s65 : (Tryz.prog.info? 65).map (fun i => (i.size, i.bytes)) = some (9, 104) := by kernel_rfl
theorem tb_s75 : (Tryz.prog.info? 75).map (fun i => (i.size, i.bytes)) = some (1, 24) := by kernel_rfl
theorem tb_s76 : (Tryz.prog.info? 76).map (fun i => (i.size, i.bytes)) = some (7, 88) := by kernel_rfl
theorem tb_s77 : (Tryz.prog.info? 77).map (fun i => (i.size, i.bytes)) = some (7, 88) := by kernel_rfl
theorem tb_s87 : (Tryz.prog.info? 87).map (fun i => (i.size, i.bytes)) = some (1, 8) := by kernel_rfl
theorem tb_s90 : (Tryz.prog.info? 90).map (fun i => (i.size, i.bytes)) = some (3, 24) := by kernel_rfl
theorem tb_s91 : (Tryz.prog.info? 91).map (fun i => (i.size, i.bytes)) = some (3, 24) := by kernel_rfl
theorem tb_s92 : (Tryz.prog.info? 92).map (fun i => (i.size, i.bytes)) = some (48, 384) := by kernel_rfl
theorem tb_s93 : (Tryz.prog.info? 93).map (fun i => (i.size, i.bytes)) = some (55, 472) := by kernel_rfl
theorem tb_s94 : (Tryz.prog.info? 94).map (fun i => (i.size, i.bytes)) = some (55, 472) := by kernel_rfl
theorem tb_s102 : (Tryz.prog.info? 102).map (fun i => (i.size, i.bytes)) = some (1, 24) := by kernel_rfl
theorem tb_s103 : (Tryz.prog.info? 103).map (fun i => (i.size, i.bytes)) = some (1, 24) := by kernel_rfl
theorem tb_s104 : (Tryz.prog.info? 104).map (fun i => (i.size, i.bytes)) = some (1, 24) := by kernel_rfl
theorem tb_s124 : (Tryz.prog.info? 124).map (fun i => (i.size, i.bytes)) = some (3, 24) := by kernel_rfl
theorem tb_s125 : (Tryz.prog.info? 125).map (fun i => (i.size, i.bytes)) = some (3, 24) := by kernel_rfl
theorem tb_s133 : (Tryz.prog.info? 133).map (fun i => (i.size, i.bytes)) = some (1, 8) := by kernel_rfl
theorem tb_s134 : (Tryz.prog.info? 134).map (fun i => (i.size, i.bytes)) = some (5, 56) := by kernel_rfl
theorem tb_s135 : (Tryz.prog.info? 135).map (fun i => (i.size, i.bytes)) = some (5, 56) := by kernel_rfl
theorem tb_s136 : (Tryz.prog.info? 136).map (fun i => (i.size, i.bytes)) = some (1024, 1024) := by kernel_rfl
theorem tb_s137 : (Tryz.prog.info? 137).map (fun i => (i.size, i.bytes)) = some (1024, 1024) := by kernel_rfl
theorem tb_s138 : (Tryz.prog.info? 138).map (fun i => (i.size, i.bytes)) = some (1025, 1032) := by kernel_rfl
theorem tb_s139 : (Tryz.prog.info? 139).map (fun i => (i.size, i.bytes)) = some (1025, 1032) := by kernel_rfl
theorem tb_s141 : (Tryz.prog.info? 141).map (fun i => (i.size, i.bytes)) = some (2, 24) := by kernel_rfl
theorem tb_s142 : (Tryz.prog.info? 142).map (fun i => (i.size, i.bytes)) = some (2, 24) := by kernel_rfl
theorem tb_s152 : (Tryz.prog.info? 152).map (fun i => (i.size, i.bytes)) = some (1, 8) := by kernel_rfl
theorem tb_s153 : (Tryz.prog.info? 153).map (fun i => (i.size, i.bytes)) = some (3, 24) := by kernel_rfl
theorem tb_s154 : (Tryz.prog.info? 154).map (fun i => (i.size, i.bytes)) = some (3, 24) := by kernel_rfl
theorem tb_s159 : (Tryz.prog.info? 159).map (fun i => (i.size, i.bytes)) = some (1, 8) := by kernel_rfl
theorem tb_s161 : (Tryz.prog.info? 161).map (fun i => (i.size, i.bytes)) = some (2, 16) := by kernel_rfl
theorem tb_s162 : (Tryz.prog.info? 162).map (fun i => (i.size, i.bytes)) = some (2, 16) := by kernel_rfl
theorem tb_s163 : (Tryz.prog.info? 163).map (fun i => (i.size, i.bytes)) = some (1, 24) := by kernel_rfl
theorem tb_s166 : (Tryz.prog.info? 166).map (fun i => (i.size, i.bytes)) = some (1, 24) := by kernel_rfl
theorem tb_s175 : (Tryz.prog.info? 175).map (fun i => (i.size, i.bytes)) = some (1, 24) := by kernel_rfl
theorem tb_s177 : (Tryz.prog.info? 177).map (fun i => (i.size, i.bytes)) = some (2, 16) := by kernel_rfl
theorem tb_s178 : (Tryz.prog.info? 178).map (fun i => (i.size, i.bytes)) = some (2, 16) := by kernel_rfl
theorem tb_s184 : (Tryz.prog.info? 184).map (fun i => (i.size, i.bytes)) = some (1, 8) := by kernel_rfl
theorem tb_s195 : (Tryz.prog.info? 195).map (fun i => (i.size, i.bytes)) = some (1, 8) := by kernel_rfl
theorem tb_s196 : (Tryz.prog.info? 196).map (fun i => (i.size, i.bytes)) = some (1, 1) := by kernel_rfl
theorem tb_s197 : (Tryz.prog.info? 197).map (fun i => (i.size, i.bytes)) = some (3, 24) := by kernel_rfl
theorem tb_s198 : (Tryz.prog.info? 198).map (fun i => (i.size, i.bytes)) = some (3, 24) := by kernel_rfl
theorem tb_s200 : (Tryz.prog.info? 200).map (fun i => (i.size, i.bytes)) = some (0, 0) := by kernel_rfl
theorem tb_s203 : (Tryz.prog.info? 203).map (fun i => (i.size, i.bytes)) = some (1, 8) := by kernel_rfl
theorem tb_s204 : (Tryz.prog.info? 204).map (fun i => (i.size, i.bytes)) = some (1, 8) := by kernel_rfl
theorem tb_s205 : (Tryz.prog.info? 205).map (fun i => (i.size, i.bytes)) = some (1, 8) := by kernel_rfl
theorem tb_s207 : (Tryz.prog.info? 207).map (fun i => (i.size, i.bytes)) = some (1, 4) := by kernel_rfl
theorem tb_s209 : (Tryz.prog.info? 209).map (fun i => (i.size, i.bytes)) = some (1, 8) := by kernel_rfl
theorem tb_s211 : (Tryz.prog.info? 211).map (fun i => (i.size, i.bytes)) = some (1, 8) := by kernel_rfl
theorem tb_s222 : (Tryz.prog.info? 222).map (fun i => (i.size, i.bytes)) = some (1, 8) := by kernel_rfl
theorem tb_s224 : (Tryz.prog.info? 224).map (fun i => (i.size, i.bytes)) = some (1, 8) := by kernel_rfl
theorem tb_s235 : (Tryz.prog.info? 235).map (fun i => (i.size, i.bytes)) = some (1, 8) := by kernel_rfl
theorem tb_s243 : (Tryz.prog.info? 243).map (fun i => (i.size, i.bytes)) = some (1, 8) := by kernel_rfl
theorem tb_s247 : (Tryz.prog.info? 247).map (fun i => (i.size, i.bytes)) = some (1, 8) := by kernel_rfl
theorem tb_s252 : (Tryz.prog.info? 252).map (fun i => (i.size, i.bytes)) = some (1, 8) := by kernel_rfl
theorem tb_s255 : (Tryz.prog.info? 255).map (fun i => (i.size, i.bytes)) = some (4, 40) := by kernel_rfl
theorem tb_s256 : (Tryz.prog.info? 256).map (fun i => (i.size, i.bytes)) = some (4, 40) := by kernel_rfl
theorem tb_s257 : (Tryz.prog.info? 257).map (fun i => (i.size, i.bytes)) = some (0, 0) := by kernel_rfl
theorem tb_s258 : (Tryz.prog.info? 258).map (fun i => (i.size, i.bytes)) = some (0, 0) := by kernel_rfl
theorem tb_s259 : (Tryz.prog.info? 259).map (fun i => (i.size, i.bytes)) = some (0, 0) := by kernel_rfl
theorem tb_s260 : (Tryz.prog.info? 260).map (fun i => (i.size, i.bytes)) = some (1, 1) := by kernel_rfl
theorem tb_s261 : (Tryz.prog.info? 261).map (fun i => (i.size, i.bytes)) = some (1, 1) := by kernel_rfl
theorem tb_s263 : (Tryz.prog.info? 263).map (fun i => (i.size, i.bytes)) = some (1, 8) := by kernel_rfl
theorem tb_s264 : (Tryz.prog.info? 264).map (fun i => (i.size, i.bytes)) = some (1, 4) := by kernel_rfl
theorem tb_s265 : (Tryz.prog.info? 265).map (fun i => (i.size, i.bytes)) = some (1, 4) := by kernel_rfl
theorem tb_s266 : (Tryz.prog.info? 266).map (fun i => (i.size, i.bytes)) = some (11, 48) := by kernel_rfl
theorem tb_s267 : (Tryz.prog.info? 267).map (fun i => (i.size, i.bytes)) = some (11, 48) := by kernel_rfl
theorem tb_s268 : (Tryz.prog.info? 268).map (fun i => (i.size, i.bytes)) = some (2, 24) := by kernel_rfl
theorem tb_s269 : (Tryz.prog.info? 269).map (fun i => (i.size, i.bytes)) = some (2, 24) := by kernel_rfl
theorem tb_z2 : (Tryz.prog.info? 2).map (·.zero) = some (some (.int .i64 0)) := by kernel_rfl
theorem tb_z3 : (Tryz.prog.info? 3).map (·.zero) = some (some (.int .i64 0)) := by kernel_rfl
theorem tb_z4 : (Tryz.prog.info? 4).map (·.zero) = some (some (.bool false)) := by kernel_rfl
theorem tb_z5 : (Tryz.prog.info? 5).map (·.zero) = some (some (.int .u8 0)) := by kernel_rfl
theorem tb_z6 : (Tryz.prog.info? 6).map (·.zero) = some (some (.int .u8 0)) := by kernel_rfl
theorem tb_z7 : (Tryz.prog.info? 7).map (·.zero) = some (some (.agg (#[.int .i64 0, .int .i64 0, .bool false, .int .u8 0]))) := by kernel_rfl
theorem tb_z8 : (Tryz.prog.info? 8).map (·.zero) = some (some (.agg (#[.int .i64 0, .int .i64 0, .bool false, .int .u8 0]))) := by kernel_rfl
theorem tb_z9 : (Tryz.prog.info? 9).map (·.zero) = some (some (.string ⟨#[]⟩)) := by kernel_rfl
theorem tb_z10 : (Tryz.prog.info? 10).map (·.zero) = some (some (.string ⟨#[]⟩)) := by kernel_rfl
theorem tb_z11 : (Tryz.prog.info? 11).map (·.zero) = some (some (.string ⟨#[]⟩)) := by kernel_rfl
theorem tb_z12 : (Tryz.prog.info? 12).map (·.zero) = some (some (.int .u64 0)) := by kernel_rfl
theorem tb_z13 : (Tryz.prog.info? 13).map (·.zero) = some (some (.agg (#[.string ⟨#[]⟩, .int .u64 0]))) := by kernel_rfl
theorem tb_z14 : (Tryz.prog.info? 14).map (·.zero) = some (some (.agg (#[.string ⟨#[]⟩, .int .u64 0]))) := by kernel_rfl
theorem tb_z15 : (Tryz.prog.info? 15).map (·.zero) = some (some (.pointer none)) := by kernel_rfl
theorem tb_z16 : (Tryz.prog.info? 16).map (·.zero) = some (some (.pointer none)) := by kernel_rfl
theorem tb_z17 : (Tryz.prog.info? 17).map (·.zero) = some (some (.pointer none)) := by kernel_rfl
theorem tb_z18 : (Tryz.prog.info? 18).map (·.zero) = some (some (.agg (#[.pointer none]))) := by kernel_rfl
theorem tb_z19 : (Tryz.prog.info? 19).map (·.zero) = some (some (.agg (#[.pointer none]))) := by kernel_rfl
theorem tb_z21 : (Tryz.prog.info? 21).map (·.zero) = some (some (.int .i32 0)) := by kernel_rfl
theorem tb_z22 : (Tryz.prog.info? 22).map (·.zero) = some (some (.agg (#[.int .i64 0, .int .i64 0, .int .i64 0]))) := by kernel_rfl
theorem tb_z23 : (Tryz.prog.info? 23).map (·.zero) = some (some (.agg (#[.int .i64 0, .int .i64 0, .int .i64 0]))) := by kernel_rfl
theorem tb_z24 : (Tryz.prog.info? 24).map (·.zero) = some (some (.slice none 0 0)) := by kernel_rfl
theorem tb_z25 : (Tryz.prog.info? 25).map (·.zero) = some (some (.slice none 0 0)) := by kernel_rfl
theorem tb_z26 : (Tryz.prog.info? 26).map (·.zero) = some (some (.pointer none)) := by kernel_rfl
theorem tb_z27 : (Tryz.prog.info? 27).map (·.zero) = some (some (.int .i64 0)) := by kernel_rfl
theorem tb_z30 : (Tryz.prog.info? 30).map (·.zero) = some (some (.pointer none)) := by kernel_rfl
theorem tb_z33 : (Tryz.prog.info? 33).map (·.zero) = some (some (.pointer none)) := by kernel_rfl
theorem tb_z34 : (Tryz.prog.info? 34).map (·.zero) = some (some (.slice none 0 0)) := by kernel_rfl
theorem tb_z35 : (Tryz.prog.info? 35).map (·.zero) = some (some (.slice none 0 0)) := by kernel_rfl
theorem tb_z36 : (Tryz.prog.info? 36).map (·.zero) = some (some (.agg (#[.slice none 0 0, .slice none 0 0, .slice none 0 0, .slice none 0 0]))) := by kernel_rfl
theorem tb_z37 : (Tryz.prog.info? 37).map (·.zero) = some (some (.agg (#[.slice none 0 0, .slice none 0 0, .slice none 0 0, .slice none 0 0]))) := by kernel_rfl
theorem tb_z39 : (Tryz.prog.info? 39).map (·.zero) = some (some (.int .u8 0)) := by kernel_rfl
theorem tb_z40 : (Tryz.prog.info? 40).map (·.zero) = some (some (.slice none 0 0)) := by kernel_rfl
theorem tb_z41 : (Tryz.prog.info? 41).map (·.zero) = some (some (.agg (#[.int .u8 0, .string ⟨#[]⟩, .string ⟨#[]⟩, .int .i64 0, .int .i64 0, .int .i64 0, .slice none 0 0]))) := by kernel_rfl
theorem tb_z42 : (Tryz.prog.info? 42).map (·.zero) = some (some (.agg (#[.int .u8 0, .string ⟨#[]⟩, .string ⟨#[]⟩, .int .i64 0, .int .i64 0, .int .i64 0, .slice none 0 0]))) := by kernel_rfl
theorem tb_z44 : (Tryz.prog.info? 44).map (·.zero) = some (some (.slice none 0 0)) := by kernel_rfl
theorem tb_z45 : (Tryz.prog.info? 45).map (·.zero) = some (some (.agg (#[.slice none 0 0, .int .i64 0, .int .i64 0]))) := by kernel_rfl
theorem tb_z46 : (Tryz.prog.info? 46).map (·.zero) = some (some (.agg (#[.slice none 0 0, .int .i64 0, .int .i64 0]))) := by kernel_rfl
theorem tb_z52 : (Tryz.prog.info? 52).map (·.zero) = some (some (.agg (#[.int .i64 0, .int .i64 0, .int .i64 0, .int .i64 0, .int .i64 0, .int .i64 0, .int .i64 0, .int .i64 0, .int .i64 0]))) := by kernel_rfl
theorem tb_z53 : (Tryz.prog.info? 53).map (·.zero) = some (some (.agg (#[.int .i64 0, .int .i64 0, .int .i64 0, .int .i64 0, .int .i64 0, .int .i64 0, .int .i64 0, .int .i64 0, .int .i64 0]))) := by kernel_rfl
theorem tb_z54 : (Tryz.prog.info? 54).map (·.zero) = some (some (.map none)) := by kernel_rfl
theorem tb_z55 : (Tryz.prog.info? 55).map (·.zero) = some (some (.pointer none)) := by kernel_rfl
theorem tb_z56 : (Tryz.prog.info? 56).map (·.zero) = some (some (.agg (#[.pointer none, .pointer none, .pointer none, .pointer none, .pointer none, .pointer none, .pointer none, .pointer none, .pointer none, .pointer none, .pointer none, .pointer none, .pointer none, .pointer none, .pointer none, .pointer none]))) := by kernel_rfl
theorem tb_z57 : (Tryz.prog.info? 57).map (·.zero) = some (some (.agg (#[.int .i64 0, .int .i64 0, .int .i64 0, .int .i64 0, .int .i64 0, .int .i64 0, .int .i64 0, .int .i64 0, .int .i64 0, .map none, .pointer none, .pointer none, .pointer none, .pointer none, .pointer none, .pointer none, .pointer none, .pointer none, .pointer none, .pointer none, .pointer none, .pointer none, .pointer none, .pointer none, .pointer none, .pointer none, .slice none 0 0]))) := by kernel_rfl
theorem tb_z58 : (Tryz.prog.info? 58).map (·.zero) = some (some (.agg (#[.int .i64 0, .int .i64 0, .int .i64 0, .int .i64 0, .int .i64 0, .int .i64 0, .int .i64 0, .int .i64 0, .int .i64 0, .map none, .pointer none, .pointer none, .pointer none, .pointer none, .pointer none, .pointer none, .pointer none, .pointer none, .pointer none, .pointer none, .pointer none, .pointer none, .pointer none, .pointer none, .pointer none, .pointer none, .slice none 0 0]))) := by kernel_rfl
theorem tb_z59 : (Tryz.prog.info? 59).map (·.zero) = some (some (.int .u16 0)) := by kernel_rfl
theorem tb_z60 : (Tryz.prog.info? 60).map (·.zero) = some (some (.int .u16 0)) := by kernel_rfl
theorem tb_z61 : (Tryz.prog.info? 61).map (·.zero) = some (some (.agg (#[.int .i64 0, .int .u16 0, .int .i64 0, .int .i64 0, .int .i64 0]))) := by kernel_rfl
theorem tb_z62 : (Tryz.prog.info? 62).map (·.zero) = some (some (.agg (#[.int .i64 0, .int .u16 0, .int .i64 0, .int .i64 0, .int .i64 0]))) := by kernel_rfl
theorem tb_z63 : (Tryz.prog.info? 63).map (·.zero) = some (some (.slice none 0 0)) := by kernel_rfl
theorem tb_z64 : (Tryz.prog.info? 64).map (·.zero) = some (some (.agg (#[.int .i64 0, .int .i64 0, .slice none 0 0, .int .i64 0, .int .u16 0, .int .i64 0, .int .i64 0, .int .i64 0, .slice none 0 0]))) := by kernel_rfl
theorem tb_z65 : (Tryz.prog.info? 65).map (·.zero) = some (some (.agg (#[.int .i64 0, .int .i64 0, .slice none 0 0, .int .i64 0, .int .u16 0, .int .i64 0, .int .i64 0, .int .i64 0, .slice none 0 0]))) := by kernel_rfl
theorem tb_z75 : (Tryz.prog.info? 75).map (·.zero) = some (some (.slice none 0 0)) := by kernel_rfl
theorem tb_z76 : (Tryz.prog.info? 76).map (·.zero) = some (some (.agg (#[.int .i64 0, .int .u16 0, .int .i64 0, .int .i64 0, .int .i64 0, .slice none 0 0, .slice none 0 0]))) := by kernel_rfl
theorem tb_z77 : (Tryz.prog.info? 77).map (·.zero) = some (some (.agg (#[.int .i64 0, .int .u16 0, .int .i64 0, .int .i64 0, .int .i64 0, .slice none 0 0, .slice none 0 0]))) := by kernel_rfl
theorem tb_z87 : (Tryz.prog.info? 87).map (·.zero) = some (some (.pointer none)) := by kernel_rfl
theorem tb_z90 : (Tryz.prog.info? 90).map (·.zero) = some (some (.agg (#[.int .i64 0, .int .i64 0, .int .i64 0]))) := by kernel_rfl
theorem tb_z91 : (Tryz.prog.info? 91).map (·.zero) = some (some (.agg (#[.int .i64 0, .int .i64 0, .int .i64 0]))) := by kernel_rfl
theorem tb_z92 : (Tryz.prog.info? 92).map (·.zero) = some (some (.agg (#[.int .i64 0, .int .i64 0, .int .i64 0, .int .i64 0, .int .i64 0, .int .i64 0, .int .i64 0, .int .i64 0, .int .i64 0, .int .i64 0, .int .i64 0, .int .i64 0, .int .i64 0, .int .i64 0, .int .i64 0, .int .i64 0, .int .i64 0, .int .i64 0, .int .i64 0, .int .i64 0, .int .i64 0, .int .i64 0, .int .i64 0, .int .i64 0, .int .i64 0, .int .i64 0, .int .i64 0, .int .i64 0, .int .i64 0, .int .i64 0, .int .i64 0, .int .i64 0, .int .i64 0, .int .i64 0, .int .i64 0, .int .i64 0, .int .i64 0, .int .i64 0, .int .i64 0, .int .i64 0, .int .i64 0, .int .i64 0, .int .i64 0, .int .i64 0, .int .i64 0, .int .i64 0, .int .i64 0, .int .i64 0]))) := by kernel_rfl
theorem tb_z93 : (Tryz.prog.info? 93).map (·.zero) = some (some (.agg (#[.int .i64 0, .int .i64 0, .int .i64 0, .slice none 0 0, .int .i64 0, .int .i64 0, .int .i64 0, .int .i64 0, .int .i64 0, .int .i64 0, .int .i64 0, .int .i64 0, .int .i64 0, .int .i64 0, .int .i64 0, .int .i64 0, .int .i64 0, .int .i64 0, .int .i64 0, .int .i64 0, .int .i64 0, .int .i64 0, .int .i64 0, .int .i64 0, .int .i64 0, .int .i64 0, .int .i64 0, .int .i64 0, .int .i64 0, .int .i64 0, .int .i64 0, .int .i64 0, .int .i64 0, .int .i64 0, .int .i64 0, .int .i64 0, .int .i64 0, .int .i64 0, .int .i64 0, .int .i64 0, .int .i64 0, .int .i64 0, .int .i64 0, .int .i64 0, .int .i64 0, .int .i64 0, .int .i64 0, .int .i64 0, .int .i64 0, .int .i64 0, .int .i64 0, .int .i64 0, .int .i64 0, .int .i64 0, .slice none 0 0]))) := by kernel_rfl
theorem tb_z94 : (Tryz.prog.info? 94).map (·.zero) = some (some (.agg (#[.int .i64 0, .int .i64 0, .int .i64 0, .slice none 0 0, .int .i64 0, .int .i64 0, .int .i64 0, .int .i64 0, .int .i64 0, .int .i64 0, .int .i64 0, .int .i64 0, .int .i64 0, .int .i64 0, .int .i64 0, .int .i64 0, .int .i64 0, .int .i64 0, .int .i64 0, .int .i64 0, .int .i64 0, .int .i64 0, .int .i64 0, .int .i64 0, .int .i64 0, .int .i64 0, .int .i64 0, .int .i64 0, .int .i64 0, .int .i64 0, .int .i64 0, .int .i64 0, .int .i64 0, .int .i64 0, .int .i64 0, .int .i64 0, .int .i64 0, .int .i64 0, .int .i64 0, .int .i64 0, .int .i64 0, .int .i64 0, .int .i64 0, .int .i64 0, .int .i64 0, .int .i64 0, .int .i64 0, .int .i64 0, .int .i64 0, .int .i64 0, .int .i64 0, .int .i64 0, .int .i64 0, .int .i64 0, .slice none 0 0]))) := by kernel_rfl
theorem tb_z102 : (Tryz.prog.info? 102).map (·.zero) = some (some (.slice none 0 0)) := by kernel_rfl
theorem tb_z103 : (Tryz.prog.info? 103).map (·.zero) = some (some (.slice none 0 0)) := by kernel_rfl
theorem tb_z104 : (Tryz.prog.info? 104).map (·.zero) = some (some (.slice none 0 0)) := by kernel_rfl
theorem tb_z124 : (Tryz.prog.info? 124).map (·.zero) = some (some (.agg (#[.int .i64 0, .int .i64 0, .int .i64 0]))) := by kernel_rfl
theorem tb_z125 : (Tryz.prog.info? 125).map (·.zero) = some (some (.agg (#[.int .i64 0, .int .i64 0, .int .i64 0]))) := by kernel_rfl
theorem tb_z133 : (Tryz.prog.info? 133).map (·.zero) = some (some (.map none)) := by kernel_rfl
theorem tb_z134 : (Tryz.prog.info? 134).map (·.zero) = some (some (.agg (#[.int .u16 0, .int .i64 0, .int .i64 0, .map none, .slice none 0 0]))) := by kernel_rfl
theorem tb_z135 : (Tryz.prog.info? 135).map (·.zero) = some (some (.agg (#[.int .u16 0, .int .i64 0, .int .i64 0, .map none, .slice none 0 0]))) := by kernel_rfl
theorem tb_z136 : (Tryz.prog.info? 136).map (·.zero) = some (some (.agg ((List.replicate 1024 (Value.int .u8 0)).toArray))) := by kernel_rfl
theorem tb_z137 : (Tryz.prog.info? 137).map (·.zero) = some (some (.agg ((List.replicate 1024 (Value.int .u8 0)).toArray))) := by kernel_rfl
theorem tb_z138 : (Tryz.prog.info? 138).map (·.zero) = some (some (.agg (([Value.int .i64 0] ++ List.replicate 1024 (Value.int .u8 0)).toArray))) := by kernel_rfl
theorem tb_z139 : (Tryz.prog.info? 139).map (·.zero) = some (some (.agg (([Value.int .i64 0] ++ List.replicate 1024 (Value.int .u8 0)).toArray))) := by kernel_rfl
theorem tb_z141 : (Tryz.prog.info? 141).map (·.zero) = some (some (.agg (#[.int .u16 0, .string ⟨#[]⟩]))) := by kernel_rfl
theorem tb_z142 : (Tryz.prog.info? 142).map (·.zero) = some (some (.agg (#[.int .u16 0, .string ⟨#[]⟩]))) := by kernel_rfl
theorem tb_z152 : (Tryz.prog.info? 152).map (·.zero) = some (some (.int .u64 0)) := by kernel_rfl
theorem tb_z153 : (Tryz.prog.info? 153).map (·.zero) = some (some (.agg (#[.pointer none, .pointer none, .int .u64 0]))) := by kernel_rfl
theorem tb_z154 : (Tryz.prog.info? 154).map (·.zero) = some (some (.agg (#[.pointer none, .pointer none, .int .u64 0]))) := by kernel_rfl
theorem tb_z159 : (Tryz.prog.info? 159).map (·.zero) = some (some (.int .u64 0)) := by kernel_rfl
theorem tb_z161 : (Tryz.prog.info? 161).map (·.zero) = some (some (.agg (#[.nilFunc, .nilFunc]))) := by kernel_rfl
theorem tb_z162 : (Tryz.prog.info? 162).map (·.zero) = some (some (.agg (#[.nilFunc, .nilFunc]))) := by kernel_rfl
theorem tb_z163 : (Tryz.prog.info? 163).map (·.zero) = some (some (.slice none 0 0)) := by kernel_rfl
theorem tb_z166 : (Tryz.prog.info? 166).map (·.zero) = some (some (.slice none 0 0)) := by kernel_rfl
theorem tb_z175 : (Tryz.prog.info? 175).map (·.zero) = some (some (.slice none 0 0)) := by kernel_rfl
theorem tb_z177 : (Tryz.prog.info? 177).map (·.zero) = some (some (.agg (#[.int .i64 0, .int .i64 0]))) := by kernel_rfl
theorem tb_z178 : (Tryz.prog.info? 178).map (·.zero) = some (some (.agg (#[.int .i64 0, .int .i64 0]))) := by kernel_rfl
theorem tb_z184 : (Tryz.prog.info? 184).map (·.zero) = some (some (.map none)) := by kernel_rfl
theorem tb_z195 : (Tryz.prog.info? 195).map (·.zero) = some (some (.map none)) := by kernel_rfl
theorem tb_z196 : (Tryz.prog.info? 196).map (·.zero) = some (some (.int .u8 0)) := by kernel_rfl
theorem tb_z197 : (Tryz.prog.info? 197).map (·.zero) = some (some (.agg (#[.int .u8 0, .int .i64 0, .int .i64 0]))) := by kernel_rfl
theorem tb_z198 : (Tryz.prog.info? 198).map (·.zero) = some (some (.agg (#[.int .u8 0, .int .i64 0, .int .i64 0]))) := by kernel_rfl
theorem tb_z200 : (Tryz.prog.info? 200).map (·.zero) = some (some (.agg (#[]))) := by kernel_rfl
theorem tb_z203 : (Tryz.prog.info? 203).map (·.zero) = some (some (.agg (#[.pointer none]))) := by kernel_rfl
theorem tb_z204 : (Tryz.prog.info? 204).map (·.zero) = some (some (.agg (#[.pointer none]))) := by kernel_rfl
theorem tb_z205 : (Tryz.prog.info? 205).map (·.zero) = some (some (.pointer none)) := by kernel_rfl
theorem tb_z207 : (Tryz.prog.info? 207).map (·.zero) = some (some (.int .u32 0)) := by kernel_rfl
theorem tb_z209 : (Tryz.prog.info? 209).map (·.zero) = some (some (.int .u64 0)) := by kernel_rfl
theorem tb_z211 : (Tryz.prog.info? 211).map (·.zero) = some (some (.int .i64 0)) := by kernel_rfl
theorem tb_z222 : (Tryz.prog.info? 222).map (·.zero) = some (some (.map none)) := by kernel_rfl
theorem tb_z224 : (Tryz.prog.info? 224).map (·.zero) = some (some (.map none)) := by kernel_rfl
theorem tb_z235 : (Tryz.prog.info? 235).map (·.zero) = some (some (.pointer none)) := by kernel_rfl
theorem tb_z243 : (Tryz.prog.info? 243).map (·.zero) = some (some (.int .u64 0)) := by kernel_rfl
theorem tb_z247 : (Tryz.prog.info? 247).map (·.zero) = some (some (.pointer none)) := by kernel_rfl
theorem tb_z252 : (Tryz.prog.info? 252).map (·.zero) = some (some (.pointer none)) := by kernel_rfl
theorem tb_z255 : (Tryz.prog.info? 255).map (·.zero) = some (some (.agg (#[.pointer none, .pointer none, .pointer none, .string ⟨#[]⟩]))) := by kernel_rfl
theorem tb_z256 : (Tryz.prog.info? 256).map (·.zero) = some (some (.agg (#[.pointer none, .pointer none, .pointer none, .string ⟨#[]⟩]))) := by kernel_rfl
theorem tb_z257 : (Tryz.prog.info? 257).map (·.zero) = some (some (.agg (#[]))) := by kernel_rfl
theorem tb_z258 : (Tryz.prog.info? 258).map (·.zero) = some (some (.agg (#[]))) := by kernel_rfl
theorem tb_z259 : (Tryz.prog.info? 259).map (·.zero) = some (some (.agg (#[]))) := by kernel_rfl
theorem tb_z260 : (Tryz.prog.info? 260).map (·.zero) = some (some (.int .u8 0)) := by kernel_rfl
theorem tb_z261 : (Tryz.prog.info? 261).map (·.zero) = some (some (.int .u8 0)) := by kernel_rfl
theorem tb_z263 : (Tryz.prog.info? 263).map (·.zero) = some (some (.pointer none)) := by kernel_rfl
theorem tb_z264 : (Tryz.prog.info? 264).map (·.zero) = some (some (.int .i32 0)) := by kernel_rfl
theorem tb_z265 : (Tryz.prog.info? 265).map (·.zero) = some (some (.int .i32 0)) := by kernel_rfl
theorem tb_z266 : (Tryz.prog.info? 266).map (·.zero) = some (some (.agg (#[.int .u64 0, .int .u64 0, .int .u32 0, .int .u8 0, .int .u8 0, .int .u8 0, .int .u8 0, .nilFunc, .pointer none, .int .i32 0, .int .i32 0]))) := by kernel_rfl
theorem tb_z267 : (Tryz.prog.info? 267).map (·.zero) = some (some (.agg (#[.int .u64 0, .int .u64 0, .int .u32 0, .int .u8 0, .int .u8 0, .int .u8 0, .int .u8 0, .nilFunc, .pointer none, .int .i32 0, .int .i32 0]))) := by kernel_rfl
theorem tb_z268 : (Tryz.prog.info? 268).map (·.zero) = some (some (.agg (#[.string ⟨#[]⟩, .int .u8 0]))) := by kernel_rfl
theorem tb_z269 : (Tryz.prog.info? 269).map (·.zero) = some (some (.agg (#[.string ⟨#[]⟩, .int .u8 0]))) := by kernel_rfl
theorem tb_f3 : Callable Tryz.prog 3 := ⟨_, Tryz.func3, by kernel_rfl, by kernel_rfl⟩
theorem tb_f4 : Callable Tryz.prog 4 := ⟨_, Tryz.func4, by kernel_rfl, by kernel_rfl⟩
theorem tb_f5 : Callable Tryz.prog 5 := ⟨_, Tryz.func5, by kernel_rfl, by kernel_rfl⟩
theorem tb_f6 : Callable Tryz.prog 6 := ⟨_, Tryz.func6, by kernel_rfl, by kernel_rfl⟩
theorem tb_f7 : Callable Tryz.prog 7 := ⟨_, Tryz.func7, by kernel_rfl, by kernel_rfl⟩
theorem tb_f8 : Callable Tryz.prog 8 := ⟨_, Tryz.func8, by kernel_rfl, by kernel_rfl⟩
theorem tb_f9 : Callable Tryz.prog 9 := ⟨_, Tryz.func9, by kernel_rfl, by kernel_rfl⟩
theorem tb_f10 : Callable Tryz.prog 10 := ⟨_, Tryz.func10, by kernel_rfl, by kernel_rfl⟩
theorem tb_f11 : Callable Tryz.prog 11 := ⟨_, Tryz.func11, by kernel_rfl, by kernel_rfl⟩
theorem tb_f12 : Callable Tryz.prog 12 := ⟨_, Tryz.func12, by kernel_rfl, by kernel_rfl⟩
theorem tb_f13 : Callable Tryz.prog 13 := ⟨_, Tryz.func13, by kernel_rfl, by kernel_rfl⟩
theorem tb_f14 : Callable Tryz.prog 14 := ⟨_, Tryz.func14, by kernel_rfl, by kernel_rfl⟩
theorem tb_f15 : Callable Tryz.prog 15 := ⟨_, Tryz.func15, by kernel_rfl, by kernel_rfl⟩
theorem tb_f16 : Callable Tryz.prog 16 := ⟨_, Tryz.func16, by kernel_rfl, by kernel_rfl⟩
theorem tb_f17 : Callable Tryz.prog 17 := ⟨_, Tryz.func17, by kernel_rfl, by kernel_rfl⟩
theorem tb_f18 : Callable Tryz.prog 18 := ⟨_, Tryz.func18, by kernel_rfl, by kernel_rfl⟩
theorem tb_f19 : Callable Tryz.prog 19 := ⟨_, Tryz.func19, by kernel_rfl, by kernel_rfl⟩
theorem tb_f20 : Callable Tryz.prog 20 := ⟨_, Tryz.func20, by kernel_rfl, by kernel_rfl⟩
theorem tb_f21 : Callable Tryz.prog 21 := ⟨_, Tryz.func21, by kernel_rfl, by kernel_rfl⟩
theorem tb_f22 : Callable Tryz.prog 22 := ⟨_, Tryz.func22, by kernel_rfl, by kernel_rfl⟩
theorem tb_f23 : Callable Tryz.prog 23 := ⟨_, Tryz.func23, by kernel_rfl, by kernel_rfl⟩
theorem tb_f24 : Callable Tryz.prog 24 := ⟨_, Tryz.func24, by kernel_rfl, by kernel_rfl⟩
theorem tb_f25 : Callable Tryz.prog 25 := ⟨_, Tryz.func25, by kernel_rfl, by kernel_rfl⟩
theorem tb_f26 : Callable Tryz.prog 26 := ⟨_, Tryz.func26, by kernel_rfl, by kernel_rfl⟩
theorem tb_f27 : Callable Tryz.prog 27 := ⟨_, Tryz.func27, by kernel_rfl, by kernel_rfl⟩
theorem tb_f28 : Callable Tryz.prog 28 := ⟨_, Tryz.func28, by kernel_rfl, by kernel_rfl⟩
theorem tb_f29 : Callable Tryz.prog 29 := ⟨_, Tryz.func29, by kernel_rfl, by kernel_rfl⟩
theorem tb_f30 : Callable Tryz.prog 30 := ⟨_, Tryz.func30, by kernel_rfl, by kernel_rfl⟩
theorem tb_f31 : Callable Tryz.prog 31 := ⟨_, Tryz.func31, by kernel_rfl, by kernel_rfl⟩
theorem tb_f32 : Callable Tryz.prog 32 := ⟨_, Tryz.func32, by kernel_rfl, by kernel_rfl⟩
theorem tb_f33 : Callable Tryz.prog 33 := ⟨_, Tryz.func33, by kernel_rfl, by kernel_rfl⟩
theorem tb_f34 : Callable Tryz.prog 34 := ⟨_, Tryz.func34, by kernel_rfl, by kernel_rfl⟩
theorem tb_f35 : Callable Tryz.prog 35 := ⟨_, Tryz.func35, by kernel_rfl, by kernel_rfl⟩
theorem tb_f36 : Callable Tryz.prog 36 := ⟨_, Tryz.func36, by kernel_rfl, by kernel_rfl⟩
theorem tb_f37 : Callable Tryz.prog 37 := ⟨_, Tryz.func37, by kernel_rfl, by kernel_rfl⟩
theorem tb_f38 : Callable Tryz.prog 38 := ⟨_, Tryz.func38, by kernel_rfl, by kernel_rfl⟩
theorem tb_f39 : Callable Tryz.prog 39 := ⟨_, Tryz.func39, by kernel_rfl, by kernel_rfl⟩
theorem tb_f40 : Callable Tryz.prog 40 := ⟨_, Tryz.func40, by kernel_rfl, by kernel_rfl⟩
theorem tb_f41 : Callable Tryz.prog 41 := ⟨_, Tryz.func41, by kernel_rfl, by kernel_rfl⟩
theorem tb_f42 : Callable Tryz.prog 42 := ⟨_, Tryz.func42, by kernel_rfl, by kernel_rfl⟩
theorem tb_f43 : Callable Tryz.prog 43 := ⟨_, Tryz.func43, by kernel_rfl, by kernel_rfl⟩
theorem tb_f44 : Callable Tryz.prog 44 := ⟨_, Tryz.func44, by kernel_rfl, by kernel_rfl⟩
theorem tb_f46 : Callable Tryz.prog 46 := ⟨_, Tryz.func46, by kernel_rfl, by kernel_rfl⟩
theorem tb_f47 : Callable Tryz.prog 47 := ⟨_, Tryz.func47, by kernel_rfl, by kernel_rfl⟩
theorem tb_f48 : Callable Tryz.prog 48 := ⟨_, Tryz.func48, by kernel_rfl, by kernel_rfl⟩
theorem tb_f49 : Callable Tryz.prog 49 := ⟨_, Tryz.func49, by kernel_rfl, by kernel_rfl⟩
theorem tb_f50 : Callable Tryz.prog 50 := ⟨_, Tryz.func50, by kernel_rfl, by kernel_rfl⟩
theorem tb_f51 : Callable Tryz.prog 51 := ⟨_, Tryz.func51, by kernel_rfl, by kernel_rfl⟩
theorem tb_f52 : Callable Tryz.prog 52 := ⟨_, Tryz.func52, by kernel_rfl, by kernel_rfl⟩
theorem tb_f53 : Callable Tryz.prog 53 := ⟨_, Tryz.func53, by kernel_rfl, by kernel_rfl⟩
theorem tb_f54 : Callable Tryz.prog 54 := ⟨_, Tryz.func54, by kernel_rfl, by kernel_rfl⟩
theorem tb_f55 : Callable Tryz.prog 55 := ⟨_, Tryz.func55, by kernel_rfl, by kernel_rfl⟩
theorem tb_f56 : Callable Tryz.prog 56 := ⟨_, Tryz.func56, by kernel_rfl, by kernel_rfl⟩
theorem tb_f57 : Callable Tryz.prog 57 := ⟨_, Tryz.func57, by kernel_rfl, by kernel_rfl⟩
theorem tb_f58 : Callable Tryz.prog 58 := ⟨_, Tryz.func58, by kernel_rfl, by kernel_rfl⟩
theorem tb_f59 : Callable Tryz.prog 59 := ⟨_, Tryz.func59, by kernel_rfl, by kernel_rfl⟩
theorem tb_f60 : Callable Tryz.prog 60 := ⟨_, Tryz.func60, by kernel_rfl, by kernel_rfl⟩
theorem tb_f61 : Callable Tryz.prog 61 := ⟨_, Tryz.func61, by kernel_rfl, by kernel_rfl⟩
theorem tb_f62 : Callable Tryz.prog 62 := ⟨_, Tryz.func62, by kernel_rfl, by kernel_rfl⟩
theorem tb_f63 : Callable Tryz.prog 63 := ⟨_, Tryz.func63, by kernel_rfl, by kernel_rfl⟩
theorem tb_f64 : Callable Tryz.prog 64 := ⟨_, Tryz.func64, by kernel_rfl, by kernel_rfl⟩
theorem tb_f65 : Callable Tryz.prog 65 := ⟨_, Tryz.func65, by kernel_rfl, by kernel_rfl⟩
theorem tb_f66 : Callable Tryz.prog 66 := ⟨_, Tryz.func66, by kernel_rfl, by kernel_rfl⟩
theorem tb_f67 : Callable Tryz.prog 67 := ⟨_, Tryz.func67, by kernel_rfl, by kernel_rfl⟩
theorem tb_f68 : Callable Tryz.prog 68 := ⟨_, Tryz.func68, by kernel_rfl, by kernel_rfl⟩
theorem tb_f69 : Callable Tryz.prog 69 := ⟨_, Tryz.func69, by kernel_rfl, by kernel_rfl⟩
theorem tb_f70 : Callable Tryz.prog 70 := ⟨_, Tryz.func70, by kernel_rfl, by kernel_rfl⟩
theorem tb_f71 : Callable Tryz.prog 71 := ⟨_, Tryz.func71, by kernel_rfl, by kernel_rfl⟩
theorem tb_f72 : Callable Tryz.prog 72 := ⟨_, Tryz.func72, by kernel_rfl, by kernel_rfl⟩
theorem tb_f73 : Callable Tryz.prog 73 := ⟨_, Tryz.func73, by kernel_rfl, by kernel_rfl⟩
theorem tb_f74 : Callable Tryz.prog 74 := ⟨_, Tryz.func74, by kernel_rfl, by kernel_rfl⟩
theorem tb_f75 : Callable Tryz.prog 75 := ⟨_, Tryz.func75, by kernel_rfl, by kernel_rfl⟩
theorem tb_f76 : Callable Tryz.prog 76 := ⟨_, Tryz.func76, by kernel_rfl, by kernel_rfl⟩
theorem tb_f77 : Callable Tryz.prog 77 := ⟨_, Tryz.func77, by kernel_rfl, by kernel_rfl⟩
theorem tb_f78 : Callable Tryz.prog 78 := ⟨_, Tryz.func78, by kernel_rfl, by kernel_rfl⟩
theorem tb_f79 : Callable Tryz.prog 79 := ⟨_, Tryz.func79, by kernel_rfl, by kernel_rfl⟩
theorem tb_f80 : Callable Tryz.prog 80 := ⟨_, Tryz.func80, by kernel_rfl, by kernel_rfl⟩
theorem tb_f81 : Callable Tryz.prog 81 := ⟨_, Tryz.func81, by kernel_rfl, by kernel_rfl⟩
theorem tb_f82 : Callable Tryz.prog 82 := ⟨_, Tryz.func82, by kernel_rfl, by kernel_rfl⟩
theorem tb_f83 : Callable Tryz.prog 83 := ⟨_, Tryz.func83, by kernel_rfl, by kernel_rfl⟩
theorem tb_f84 : Callable Tryz.prog 84 := ⟨_, Tryz.func84, by kernel_rfl, by kernel_rfl⟩
theorem tb_f85 : Callable Tryz.prog 85 := ⟨_, Tryz.func85, by kernel_rfl, by kernel_rfl⟩
theorem tb_f86 : Callable Tryz.prog 86 := ⟨_, Tryz.func86, by kernel_rfl, by kernel_rfl⟩
theorem tb_f92 : Callable Tryz.prog 92 := ⟨_, Tryz.func92, by kernel_rfl, by kernel_rfl⟩
theorem tb_f93 : Callable Tryz.prog 93 := ⟨_, Tryz.func93, by kernel_rfl, by kernel_rfl⟩
theorem tb_f94 : Callable Tryz.prog 94 := ⟨_, Tryz.func94, by kernel_rfl, by kernel_rfl⟩
theorem tb_f95 : Callable Tryz.prog 95 := ⟨_, Tryz.func95, by kernel_rfl, by kernel_rfl⟩
theorem tb_f96 : Callable Tryz.prog 96 := ⟨_, Tryz.func96, by kernel_rfl, by kernel_rfl⟩
theorem tb_f97 : Callable Tryz.prog 97 := ⟨_, Tryz.func97, by kernel_rfl, by kernel_rfl⟩
theorem tb_f98 : Callable Tryz.prog 98 := ⟨_, Tryz.func98, by kernel_rfl, by kernel_rfl⟩
theorem tb_f99 : Callable Tryz.prog 99 := ⟨_, Tryz.func99, by kernel_rfl, by kernel_rfl⟩
theorem tb_f100 : Callable Tryz.prog 100 := ⟨_, Tryz.func100, by kernel_rfl, by kernel_rfl⟩
theorem tb_f101 : Callable Tryz.prog 101 := ⟨_, Tryz.func101, by kernel_rfl, by kernel_rfl⟩
theorem tb_f102 : Callable Tryz.prog 102 := ⟨_, Tryz.func102, by kernel_rfl, by kernel_rfl⟩
theorem tb_f103 : Callable Tryz.prog 103 := ⟨_, Tryz.func103, by kernel_rfl, by kernel_rfl⟩
theorem tb_f104 : Callable Tryz.prog 104 := ⟨_, Tryz.func104, by kernel_rfl, by kernel_rfl⟩
theorem tb_f105 : Callable Tryz.prog 105 := ⟨_, Tryz.func105, by kernel_rfl, by kernel_rfl⟩
theorem tb_f106 : Callable Tryz.prog 106 := ⟨_, Tryz.func106, by kernel_rfl, by kernel_rfl⟩
theorem tb_f107 : Callable Tryz.prog 107 := ⟨_, Tryz.func107, by kernel_rfl, by kernel_rfl⟩
theorem tb_f108 : Callable Tryz.prog 108 := ⟨_, Tryz.func108, by kernel_rfl, by kernel_rfl⟩
theorem tb_f109 : Callable Tryz.prog 109 := ⟨_, Tryz.func109, by kernel_rfl, by kernel_rfl⟩
theorem tb_f110 : Callable Tryz.prog 110 := ⟨_, Tryz.func110, by kernel_rfl, by kernel_rfl⟩
theorem tb_f111 : Callable Tryz.prog 111 := ⟨_, Tryz.func111, by kernel_rfl, by kernel_rfl⟩
theorem tb_f112 : Callable Tryz.prog 112 := ⟨_, Tryz.func112, by kernel_rfl, by kernel_rfl⟩
theorem tb_f113 : Callable Tryz.prog 113 := ⟨_, Tryz.func113, by kernel_rfl, by kernel_rfl⟩
theorem tb_f114 : Callable Tryz.prog 114 := ⟨_, Tryz.func114, by kernel_rfl, by kernel_rfl⟩
theorem tb_f115 : Callable Tryz.prog 115 := ⟨_, Tryz.func115, by kernel_rfl, by kernel_rfl⟩
theorem tb_f116 : Callable Tryz.prog 116 := ⟨_, Tryz.func116, by kernel_rfl, by kernel_rfl⟩
theorem tb_f117 : Callable Tryz.prog 117 := ⟨_, Tryz.func117, by kernel_rfl, by kernel_rfl⟩
theorem tb_f118 : Callable Tryz.prog 118 := ⟨_, Tryz.func118, by kernel_rfl, by kernel_rfl⟩
theorem tb_f119 : Callable Tryz.prog 119 := ⟨_, Tryz.func119, by kernel_rfl, by kernel_rfl⟩
theorem tb_f120 : Callable Tryz.prog 120 := ⟨_, Tryz.func120, by kernel_rfl, by kernel_rfl⟩
theorem tb_f121 : Callable Tryz.prog 121 := ⟨_, Tryz.func121, by kernel_rfl, by kernel_rfl⟩
theorem tb_f122 : Callable Tryz.prog 122 := ⟨_, Tryz.func122, by kernel_rfl, by kernel_rfl⟩
theorem tb_f123 : Callable Tryz.prog 123 := ⟨_, Tryz.func123, by kernel_rfl, by kernel_rfl⟩
theorem tb_f124 : Callable Tryz.prog 124 := ⟨_, Tryz.func124, by kernel_rfl, by kernel_rfl⟩
theorem tb_f125 : Callable Tryz.prog 125 := ⟨_, Tryz.func125, by kernel_rfl, by kernel_rfl⟩
theorem tb_f126 : Callable Tryz.prog 126 := ⟨_, Tryz.func126, by kernel_rfl, by kernel_rfl⟩
theorem tb_f127 : Callable Tryz.prog 127 := ⟨_, Tryz.func127, by kernel_rfl, by kernel_rfl⟩
theorem tb_f128 : Callable Tryz.prog 128 := ⟨_, Tryz.func128, by kernel_rfl, by kernel_rfl⟩
theorem tb_f129 : Callable Tryz.prog 129 := ⟨_, Tryz.func129, by kernel_rfl, by kernel_rfl⟩
theorem tb_f130 : Callable Tryz.prog 130 := ⟨_, Tryz.func130, by kernel_rfl, by kernel_rfl⟩
theorem tb_f131 : Callable Tryz.prog 131 := ⟨_, Tryz.func131, by kernel_rfl, by kernel_rfl⟩
theorem tb_f132 : Callable Tryz.prog 132 := ⟨_, Tryz.func132, by kernel_rfl, by kernel_rfl⟩
theorem tb_f133 : Callable Tryz.prog 133 := ⟨_, Tryz.func133, by kernel_rfl, by kernel_rfl⟩
theorem tb_f134 : Callable Tryz.prog 134 := ⟨_, Tryz.func134, by kernel_rfl, by kernel_rfl⟩
theorem tb_f135 : Callable Tryz.prog 135 := ⟨_, Tryz.func135, by kernel_rfl, by kernel_rfl⟩
theorem tb_f136 : Callable Tryz.prog 136 := ⟨_, Tryz.func136, by kernel_rfl, by kernel_rfl⟩
theorem tb_f137 : Callable Tryz.prog 137 := ⟨_, Tryz.func137, by kernel_rfl, by kernel_rfl⟩
theorem tb_f157 : Callable Tryz.prog 157 := ⟨_, Tryz.func157, by kernel_rfl, by kernel_rfl⟩
theorem tb_f158 : Callable Tryz.prog 158 := ⟨_, Tryz.func158, by kernel_rfl, by kernel_rfl⟩
theorem tb_f159 : Callable Tryz.prog 159 := ⟨_, Tryz.func159, by kernel_rfl, by kernel_rfl⟩
theorem tb_f160 : Callable Tryz.prog 160 := ⟨_, Tryz.func160, by kernel_rfl, by kernel_rfl⟩
theorem tb_f161 : Callable Tryz.prog 161 := ⟨_, Tryz.func161, by kernel_rfl, by kernel_rfl⟩
theorem tb_f162 : Callable Tryz.prog 162 := ⟨_, Tryz.func162, by kernel_rfl, by kernel_rfl⟩
theorem tb_f163 : Callable Tryz.prog 163 := ⟨_, Tryz.func163, by kernel_rfl, by kernel_rfl⟩
theorem tb_f164 : Callable Tryz.prog 164 := ⟨_, Tryz.func164, by kernel_rfl, by kernel_rfl⟩
theorem tb_f165 : Callable Tryz.prog 165 := ⟨_, Tryz.func165, by kernel_rfl, by kernel_rfl⟩
theorem tb_f166 : Callable Tryz.prog 166 := ⟨_, Tryz.func166, by kernel_rfl, by kernel_rfl⟩
theorem tb_f167 : Callable Tryz.prog 167 := ⟨_, Tryz.func167, by kernel_rfl, by kernel_rfl⟩
theorem tb_f168 : Callable Tryz.prog 168 := ⟨_, Tryz.func168, by kernel_rfl, by kernel_rfl⟩
theorem tb_f169 : Callable Tryz.prog 169 := ⟨_, Tryz.func169, by kernel_rfl, by kernel_rfl⟩
theorem tb_f170 : Callable Tryz.prog 170 := ⟨_, Tryz.func170, by kernel_rfl, by kernel_rfl⟩
theorem tb_f171 : Callable Tryz.prog 171 := ⟨_, Tryz.func171, by kernel_rfl, by kernel_rfl⟩
theorem tb_f172 : Callable Tryz.prog 172 := ⟨_, Tryz.func172, by kernel_rfl, by kernel_rfl⟩
theorem tb_f173 : Callable Tryz.prog 173 := ⟨_, Tryz.func173, by kernel_rfl, by kernel_rfl⟩
theorem tb_f174 : Callable Tryz.prog 174 := ⟨_, Tryz.func174, by kernel_rfl, by kernel_rfl⟩
theorem tb_f175 : Callable Tryz.prog 175 := ⟨_, Tryz.func175, by kernel_rfl, by kernel_rfl⟩
theorem tb_f176 : Callable Tryz.prog 176 := ⟨_, Tryz.func176, by kernel_rfl, by kernel_rfl⟩
theorem tb_f177 : Callable Tryz.prog 177 := ⟨_, Tryz.func177, by kernel_rfl, by kernel_rfl⟩
theorem tb_f178 : Callable Tryz.prog 178 := ⟨_, Tryz.func178, by kernel_rfl, by kernel_rfl⟩
theorem tb_f179 : Callable Tryz.prog 179 := ⟨_, Tryz.func179, by kernel_rfl, by kernel_rfl⟩
theorem tb_f180 : Callable Tryz.prog 180 := ⟨_, Tryz.func180, by kernel_rfl, by kernel_rfl⟩
theorem tb_f181 : Callable Tryz.prog 181 := ⟨_, Tryz.func181, by kernel_rfl, by kernel_rfl⟩
theorem tb_f182 : Callable Tryz.prog 182 := ⟨_, Tryz.func182, by kernel_rfl, by kernel_rfl⟩
theorem tb_f183 : Callable Tryz.prog 183 := ⟨_, Tryz.func183, by kernel_rfl, by kernel_rfl⟩
theorem tb_f184 : Callable Tryz.prog 184 := ⟨_, Tryz.func184, by kernel_rfl, by kernel_rfl⟩
theorem tb_f185 : Callable Tryz.prog 185 := ⟨_, Tryz.func185, by kernel_rfl, by kernel_rfl⟩
theorem tb_f186 : Callable Tryz.prog 186 := ⟨_, Tryz.func186, by kernel_rfl, by kernel_rfl⟩
theorem tb_f187 : Callable Tryz.prog 187 := ⟨_, Tryz.func187, by kernel_rfl, by kernel_rfl⟩
theorem tb_f188 : Callable Tryz.prog 188 := ⟨_, Tryz.func188, by kernel_rfl, by kernel_rfl⟩
theorem tb_f189 : Callable Tryz.prog 189 := ⟨_, Tryz.func189, by kernel_rfl, by kernel_rfl⟩
theorem tb_f190 : Callable Tryz.prog 190 := ⟨_, Tryz.func190, by kernel_rfl, by kernel_rfl⟩
theorem tb_f191 : Callable Tryz.prog 191 := ⟨_, Tryz.func191, by kernel_rfl, by kernel_rfl⟩
theorem tb_f192 : Callable Tryz.prog 192 := ⟨_, Tryz.func192, by kernel_rfl, by kernel_rfl⟩
theorem tb_f193 : Callable Tryz.prog 193 := ⟨_, Tryz.func193, by kernel_rfl, by kernel_rfl⟩
theorem tb_f194 : Callable Tryz.prog 194 := ⟨_, Tryz.func194, by kernel_rfl, by kernel_rfl⟩
theorem tb_f195 : Callable Tryz.prog 195 := ⟨_, Tryz.func195, by kernel_rfl, by kernel_rfl⟩
theorem tb_f196 : Callable Tryz.prog 196 := ⟨_, Tryz.func196, by kernel_rfl, by kernel_rfl⟩
theorem tb_f197 : Callable Tryz.prog 197 := ⟨_, Tryz.func197, by kernel_rfl, by kernel_rfl⟩
theorem tb_f203 : Callable Tryz.prog 203 := ⟨_, Tryz.func203, by kernel_rfl, by kernel_rfl⟩
theorem tb_f204 : Callable Tryz.prog 204 := ⟨_, Tryz.func204, by kernel_rfl, by kernel_rfl⟩
theorem tb_f205 : Callable Tryz.prog 205 := ⟨_, Tryz.func205, by kernel_rfl, by kernel_rfl⟩
theorem tb_f206 : Callable Tryz.prog 206 := ⟨_, Tryz.func206, by kernel_rfl, by kernel_rfl⟩
theorem tb_f207 : Callable Tryz.prog 207 := ⟨_, Tryz.func207, by kernel_rfl, by kernel_rfl⟩
theorem tb_f208 : Callable Tryz.prog 208 := ⟨_, Tryz.func208, by kernel_rfl, by kernel_rfl⟩
theorem tb_f209 : Callable Tryz.prog 209 := ⟨_, Tryz.func209, by kernel_rfl, by kernel_rfl⟩
theorem tb_f210 : Callable Tryz.prog 210 := ⟨_, Tryz.func210, by kernel_rfl, by kernel_rfl⟩
theorem tb_f211 : Callable Tryz.prog 211 := ⟨_, Tryz.func211, by kernel_rfl, by kernel_rfl⟩
theorem tb_f212 : Callable Tryz.prog 212 := ⟨_, Tryz.func212, by kernel_rfl, by kernel_rfl⟩
theorem tb_f45 : Callable Tryz.prog 45 := ⟨_, Tryz.func45, by kernel_rfl, by kernel_rfl⟩
set_option maxRecDepth 20000 in
theorem tbU_ok : ∀ p ∈ tbU, Tryz.prog.underlying p.1 = some p.2 := by
  simp only [tbU, List.forall_mem_cons]
  exact ⟨tb_u2, tb_u3, tb_u4, tb_u5, tb_u6, tb_u7, tb_u8, tb_u9, tb_u10, tb_u11, tb_u12, tb_u13, tb_u14, tb_u15, tb_u16, tb_u17, tb_u18, tb_u19, tb_u21, tb_u22, tb_u23, tb_u24, tb_u25, tb_u26, tb_u27, tb_u30, tb_u33, tb_u34, tb_u35, tb_u36, tb_u37, tb_u39, tb_u40, tb_u41, tb_u42, tb_u44, tb_u45, tb_u46, tb_u52, tb_u53, tb_u54, tb_u55, tb_u56, tb_u57, tb_u58, tb_u59, tb_u60, tb_u61, tb_u62, tb_u63, tb_u64, tb_u65, tb_u75, tb_u76, tb_u77, tb_u87, tb_u90, tb_u91, tb_u92, tb_u93, tb_u94, tb_u102, tb_u103, tb_u104, tb_u124, tb_u125, tb_u133, tb_u134, tb_u135, tb_u136, tb_u137, tb_u138, tb_u139, tb_u141, tb_u142, tb_u152, tb_u153, tb_u154, tb_u159, tb_u161, tb_u162, tb_u163, tb_u166, tb_u175, tb_u177, tb_u178, tb_u184, tb_u195, tb_u196, tb_u197, tb_u198, tb_u200, tb_u203, tb_u204, tb_u205, tb_u207, tb_u209, tb_u211, tb_u222, tb_u224, tb_u235, tb_u243, tb_u247, tb_u252, tb_u255, tb_u256, tb_u257, tb_u258, tb_u259, tb_u260, tb_u261, tb_u263, tb_u264, tb_u265, tb_u266, tb_u267, tb_u268, tb_u269, fun _ h => by cases h⟩
set_option maxRecDepth 20000 in
theorem tbS_ok : ∀ p ∈ tbS, (Tryz.prog.info? p.1).map (·.size) = some p.2 := by
  simp only [tbS, List.forall_mem_cons]
  exact ⟨sz_of tb_s2, sz_of tb_s3, sz_of tb_s4, sz_of tb_s5, sz_of tb_s6, sz_of tb_s7, sz_of tb_s8, sz_of tb_s9, sz_of tb_s10, sz_of tb_s11, sz_of tb_s12, sz_of tb_s13, sz_of tb_s14, sz_of tb_s15, sz_of tb_s16, sz_of tb_s17, sz_of tb_s18, sz_of tb_s19, sz_of tb_s21, sz_of tb_s22, sz_of tb_s23, sz_of tb_s24, sz_of tb_s25, sz_of tb_s26, sz_of tb_s27, sz_of tb_s30, sz_of tb_s33, sz_of tb_s34, sz_of tb_s35, sz_of tb_s36, sz_of tb_s37, sz_of tb_s39, sz_of tb_s40, sz_of tb_s41, sz_of tb_s42, sz_of tb_s44, sz_of tb_s45, sz_of tb_s46, sz_of tb_s52, sz_of tb_s53, sz_of tb_s54, sz_of tb_s55, sz_of tb_s56, sz_of tb_s57, sz_of tb_s58, sz_of tb_s59, sz_of tb_s60, sz_of tb_s61, sz_of tb_s62, sz_of tb_s63, sz_of tb_s64, sz_of tb_s65, sz_of tb_s75, sz_of tb_s76, sz_of tb_s77, sz_of tb_s87, sz_of tb_s90, sz_of tb_s91, sz_of tb_s92, sz_of tb_s93, sz_of tb_s94, sz_of tb_s102, sz_of tb_s103, sz_of tb_s104, sz_of tb_s124, sz_of tb_s125, sz_of tb_s133, sz_of tb_s134, sz_of tb_s135, sz_of tb_s136, sz_of tb_s137, sz_of tb_s138, sz_of tb_s139, sz_of tb_s141, sz_of tb_s142, sz_of tb_s152, sz_of tb_s153, sz_of tb_s154, sz_of tb_s159, sz_of tb_s161, sz_of tb_s162, sz_of tb_s163, sz_of tb_s166, sz_of tb_s175, sz_of tb_s177, sz_of tb_s178, sz_of tb_s184, sz_of tb_s195, sz_of tb_s196, sz_of tb_s197, sz_of tb_s198, sz_of tb_s200, sz_of tb_s203, sz_of tb_s204, sz_of tb_s205, sz_of tb_s207, sz_of tb_s209, sz_of tb_s211, sz_of tb_s222, sz_of tb_s224, sz_of tb_s235, sz_of tb_s243, sz_of tb_s247, sz_of tb_s252, sz_of tb_s255, sz_of tb_s256, sz_of tb_s257, sz_of tb_s258, sz_of tb_s259, sz_of tb_s260, sz_of tb_s261, sz_of tb_s263, sz_of tb_s264, sz_of tb_s265, sz_of tb_s266, sz_of tb_s267, sz_of tb_s268, sz_of tb_s269, fun _ h => by cases h⟩
set_option maxRecDepth 20000 in
theorem tbB_ok : ∀ p ∈ tbB, (Tryz.prog.info? p.1).map (·.bytes) = some p.2 := by
  simp only [tbB, List.forall_mem_cons]
  exact ⟨by_of tb_s2, by_of tb_s3, by_of tb_s4, by_of tb_s5, by_of tb_s6, by_of tb_s7, by_of tb_s8, by_of tb_s9, by_of tb_s10, by_of tb_s11, by_of tb_s12, by_of tb_s13, by_of tb_s14, by_of tb_s15, by_of tb_s16, by_of tb_s17, by_of tb_s18, by_of tb_s19, by_of tb_s21, by_of tb_s22, by_of tb_s23, by_of tb_s24, by_of tb_s25, by_of tb_s26, by_of tb_s27, by_of tb_s30, by_of tb_s33, by_of tb_s34, by_of tb_s35, by_of tb_s36, by_of tb_s37, by_of tb_s39, by_of tb_s40, by_of tb_s41, by_of tb_s42, by_of tb_s44, by_of tb_s45, by_of tb_s46, by_of tb_s52, by_of tb_s53, by_of tb_s54, by_of tb_s55, by_of tb_s56, by_of tb_s57, by_of tb_s58, by_of tb_s59, by_of tb_s60, by_of tb_s61, by_of tb_s62, by_of tb_s63, by_of tb_s64, by_of tb_s65, by_of tb_s75, by_of tb_s76, by_of tb_s77, by_of tb_s87, by_of tb_s90, by_of tb_s91, by_of tb_s92, by_of tb_s93, by_of tb_s94, by_of tb_s102, by_of tb_s103, by_of tb_s104, by_of tb_s124, by_of tb_s125, by_of tb_s133, by_of tb_s134, by_of tb_s135, by_of tb_s136, by_of tb_s137, by_of tb_s138, by_of tb_s139, by_of tb_s141, by_of tb_s142, by_of tb_s152, by_of tb_s153, by_of tb_s154, by_of tb_s159, by_of tb_s161, by_of tb_s162, by_of tb_s163, by_of tb_s166, by_of tb_s175, by_of tb_s177, by_of tb_s178, by_of tb_s184, by_of tb_s195, by_of tb_s196, by_of tb_s197, by_of tb_s198, by_of tb_s200, by_of tb_s203, by_of tb_s204, by_of tb_s205, by_of tb_s207, by_of tb_s209, by_of tb_s211, by_of tb_s222, by_of tb_s224, by_of tb_s235, by_of tb_s243, by_of tb_s247, by_of tb_s252, by_of tb_s255, by_of tb_s256, by_of tb_s257, by_of tb_s258, by_of tb_s259, by_of tb_s260, by_of tb_s261, by_of tb_s263, by_of tb_s264, by_of tb_s265, by_of tb_s266, by_of tb_s267, by_of tb_s268, by_of tb_s269, fun _ h => by cases h⟩
set_option maxRecDepth 20000 in
theorem tbZ_ok : ∀ p ∈ tbZ, (Tryz.prog.info? p.1).map (·.zero) = some (some p.2) := by
  simp only [tbZ, List.forall_mem_cons]
  exact ⟨tb_z2, tb_z3, tb_z4, tb_z5, tb_z6, tb_z7, tb_z8, tb_z9, tb_z10, tb_z11, tb_z12, tb_z13, tb_z14, tb_z15, tb_z16, tb_z17, tb_z18, tb_z19, tb_z21, tb_z22, tb_z23, tb_z24, tb_z25, tb_z26, tb_z27, tb_z30, tb_z33, tb_z34, tb_z35, tb_z36, tb_z37, tb_z39, tb_z40, tb_z41, tb_z42, tb_z44, tb_z45, tb_z46, tb_z52, tb_z53, tb_z54, tb_z55, tb_z56, tb_z57, tb_z58, tb_z59, tb_z60, tb_z61, tb_z62, tb_z63, tb_z64, tb_z65, tb_z75, tb_z76, tb_z77, tb_z87, tb_z90, tb_z91, tb_z92, tb_z93, tb_z94, tb_z102, tb_z103, tb_z104, tb_z124, tb_z125, tb_z133, tb_z134, tb_z135, tb_z136, tb_z137, tb_z138, tb_z139, tb_z141, tb_z142, tb_z152, tb_z153, tb_z154, tb_z159, tb_z161, tb_z162, tb_z163, tb_z166, tb_z175, tb_z177, tb_z178, tb_z184, tb_z195, tb_z196, tb_z197, tb_z198, tb_z200, tb_z203, tb_z204, tb_z205, tb_z207, tb_z209, tb_z211, tb_z222, tb_z224, tb_z235, tb_z243, tb_z247, tb_z252, tb_z255, tb_z256, tb_z257, tb_z258, tb_z259, tb_z260, tb_z261, tb_z263, tb_z264, tb_z265, tb_z266, tb_z267, tb_z268, tb_z269, fun _ h => by cases h⟩
set_option maxRecDepth 20000 in
theorem tbF_ok : ∀ p ∈ tbF, Callable Tryz.prog p.1 := by
  simp only [tbF, List.forall_mem_cons]
  exact ⟨tb_f3, tb_f4, tb_f5, tb_f6, tb_f7, tb_f8, tb_f9, tb_f10, tb_f11, tb_f12, tb_f13, tb_f14, tb_f15, tb_f16, tb_f17, tb_f18, tb_f19, tb_f20, tb_f21, tb_f22, tb_f23, tb_f24, tb_f25, tb_f26, tb_f27, tb_f28, tb_f29, tb_f30, tb_f31, tb_f32, tb_f33, tb_f34, tb_f35, tb_f36, tb_f37, tb_f38, tb_f39, tb_f40, tb_f41, tb_f42, tb_f43, tb_f44, tb_f46, tb_f47, tb_f48, tb_f49, tb_f50, tb_f51, tb_f52, tb_f53, tb_f54, tb_f55, tb_f56, tb_f57, tb_f58, tb_f59, tb_f60, tb_f61, tb_f62, tb_f63, tb_f64, tb_f65, tb_f66, tb_f67, tb_f68, tb_f69, tb_f70, tb_f71, tb_f72, tb_f73, tb_f74, tb_f75, tb_f76, tb_f77, tb_f78, tb_f79, tb_f80, tb_f81, tb_f82, tb_f83, tb_f84, tb_f85, tb_f86, tb_f92, tb_f93, tb_f94, tb_f95, tb_f96, tb_f97, tb_f98, tb_f99, tb_f100, tb_f101, tb_f102, tb_f103, tb_f104, tb_f105, tb_f106, tb_f107, tb_f108, tb_f109, tb_f110, tb_f111, tb_f112, tb_f113, tb_f114, tb_f115, tb_f116, tb_f117, tb_f118, tb_f119, tb_f120, tb_f121, tb_f122, tb_f123, tb_f124, tb_f125, tb_f126, tb_f127, tb_f128, tb_f129, tb_f130, tb_f131, tb_f132, tb_f133, tb_f134, tb_f135, tb_f136, tb_f137, tb_f157, tb_f158, tb_f159, tb_f160, tb_f161, tb_f162, tb_f163, tb_f164, tb_f165, tb_f166, tb_f167, tb_f168, tb_f169, tb_f170, tb_f171, tb_f172, tb_f173, tb_f174, tb_f175, tb_f176, tb_f177, tb_f178, tb_f179, tb_f180, tb_f181, tb_f182, tb_f183, tb_f184, tb_f185, tb_f186, tb_f187, tb_f188, tb_f189, tb_f190, tb_f191, tb_f192, tb_f193, tb_f194, tb_f195, tb_f196, tb_f197, tb_f203, tb_f204, tb_f205, tb_f206, tb_f207, tb_f208, tb_f209, tb_f210, tb_f211, tb_f212, tb_f45, fun _ h => by cases h⟩
set_option maxRecDepth 20000 in
theorem ok : TabOk Tryz.prog tb := ⟨fun t d h => tbU_ok _ (lookT_mem h), fun t n h => tbS_ok _ (lookT_mem h), fun t z h => tbZ_ok _ (lookT_mem h), fun t n h => tbB_ok _ (lookT_mem h), fun F h => by
    cases hl : lookT tbF F with
    | none => simp [tb, hl] at h
    | some x => exact tbF_ok _ (lookT_mem hl)⟩
theorem mixed : Tryz.prog.follows .mixedOrders = true := by kernel_rfl
end Go.Proofs.YtllomopjoomdiaaGreat
end

section
/- The model's memory: what a Model, an item, a State are in memory. -/
namespace Go.Proofs.YtllomopjoomdiaaGreat
open Go.SL

structure It where
  kind : Int
  links : Int
  size : Int
  data : List (Int × List Int)
  slots : List (Int × ByteArray)
structure Dsc where
  inum : Int
  place : Int
  flags : Int
structure ItS where
  inum : Int
  kind : Int
  links : Int
  size : Int
  blocks : Int
  data : List (Int × List Int)
  slots : List (Int × ByteArray)
structure St where
  items : List ItS
  free : Int
  spare : Int
structure Lay where
  blocks : Int
  log : Int
  inodes : Int
  logAt : Int
  nodeAt : Int
  nodeBlocks : Int
  bitsAt : Int
  bitsBlocks : Int
  dataAt : Int
structure Mod where
  lay : Lay
  items : List (Int × Nat × It)
  d : Nat → Option (Nat × Dsc)
  told : List St

abbrev vi (x : Int) : Value := .int .i64 x
abbrev ptr (b : Nat) : Value := .pointer (some ⟨b, 0, none⟩)
def blkV (b : List Int) : Value := .agg (b.map fun x => Value.int .u8 x).toArray
def entC (e : Int × ByteArray) : List Value := [.int .u16 e.1, .string e.2]
def slotsC (s : List (Int × ByteArray)) : List Value := s.flatMap entC
def heldC (d : List (Int × List Int)) : List Value := d.flatMap fun p => vi p.1 :: p.2.map fun x => Value.int .u8 x
def dataKV (d : List (Int × List Int)) : List (Int × Value) := d.map fun p => (p.1, blkV p.2)

def dataA (k : Int) (dm : Value) (d : List (Int × List Int)) : Asn := fun h => (k = 2 ∧ dm = .map none ∧ d = []) ∨ ∃ b, dm = .map (some b) ∧ mapA encI b (dataKV d) h
def slotsA (sv : Value) (s : List (Int × ByteArray)) : Asn := rowA 142 2 sv s.length (slotsC s)
def itemC (t : It) (dm sv : Value) : Array Value := #[.int .u16 t.kind, vi t.links, vi t.size, dm, sv]
def itemP (p : Nat) (t : It) (dm sv : Value) : Asn := grp [pt p (.cells (itemC t dm sv) 135), dataA t.kind dm t.data, slotsA sv t.slots]
def itemA (p : Nat) (t : It) : Asn := fun h => ∃ dm sv, grp [pt p (.cells (itemC t dm sv) 135), dataA t.kind dm t.data, slotsA sv t.slots] h

def descV (o : Option (Nat × Dsc)) : Value := match o with
  | none => .pointer none
  | some (p, _) => ptr p
def descA (o : Option (Nat × Dsc)) : Asn := match o with
  | none => emp
  | some (p, d) => pt p (.cells #[vi d.inum, vi d.place, vi d.flags] 125)

def itsC (x : ItS) (dv sv : Value) : List Value := [vi x.inum, .int .u16 x.kind, vi x.links, vi x.size, vi x.blocks, dv, sv]
def itsA (x : ItS × Value × Value) : Asn := grp [rowA 139 1025 x.2.1 x.1.data.length (heldC x.1.data), slotsA x.2.2 x.1.slots]
def itemsRow (v : Value) (q : List (ItS × Value × Value)) : Asn := rowA 77 7 v q.length (q.flatMap fun x => itsC x.1 x.2.1 x.2.2)
def stA (v : Value) (s : St) : Asn := fun h => ∃ q : List (ItS × Value × Value), q.map (·.1) = s.items ∧ grp [itemsRow v q, grp (q.map itsA)] h
def stC (x : St × Value) : List Value := [x.2, vi x.1.free, vi x.1.spare]
def toldA (v : Value) (l : List St) : Asn := fun h => ∃ q : List (St × Value), q.map (·.1) = l ∧ grp [rowA 46 3 v q.length (q.flatMap stC), grp (q.map fun x => stA x.2 x.1)] h

def layC (y : Lay) : List Value := [vi y.blocks, vi y.log, vi y.inodes, vi y.logAt, vi y.nodeAt, vi y.nodeBlocks, vi y.bitsAt, vi y.bitsBlocks, vi y.dataAt]
def modC (y : Lay) (ib : Nat) (d : Nat → Option (Nat × Dsc)) (tv : Value) : Array Value :=
  #[vi y.blocks, vi y.log, vi y.inodes, vi y.logAt, vi y.nodeAt, vi y.nodeBlocks, vi y.bitsAt, vi y.bitsBlocks, vi y.dataAt, .map (some ib),
    descV (d 0), descV (d 1), descV (d 2), descV (d 3), descV (d 4), descV (d 5), descV (d 6), descV (d 7), descV (d 8), descV (d 9), descV (d 10), descV (d 11), descV (d 12), descV (d 13), descV (d 14), descV (d 15), tv]
def itemsKV (l : List (Int × Nat × It)) : List (Int × Value) := l.map fun x => (x.1, ptr x.2.1)
def itA (x : Int × Nat × It) : Asn := itemA x.2.1 x.2.2
def itemsA (l : List (Int × Nat × It)) : Asn := grp (l.map itA)
def descsA (d : Nat → Option (Nat × Dsc)) : Asn := grp ((List.range 16).map fun i => descA (d i))
/-- The parts of a Model. -/
def modL (p : Nat) (m : Mod) (ib : Nat) (tv : Value) : List Asn := [pt p (.cells (modC m.lay ib m.d tv) 58), mapA encI ib (itemsKV m.items), itemsA m.items, descsA m.d, toldA tv m.told]
def modP (p : Nat) (m : Mod) (ib : Nat) (tv : Value) : Asn := grp (modL p m ib tv)
def modA (p : Nat) (m : Mod) : Asn := fun h => ∃ ib tv, grp (modL p m ib tv) h

section
variable {w0 w : World} {G : List Asn} {p : Nat} {m : Mod}
theorem Sat.modOpen (h : Sat w0 w (modA p m :: G)) : ∃ ib tv, Sat w0 w (pt p (.cells (modC m.lay ib m.d tv) 58) :: mapA encI ib (itemsKV m.items) :: itemsA m.items :: descsA m.d :: toldA tv m.told :: G) := by
  obtain ⟨ib, h⟩ := Sat.exH (F := fun ib g => ∃ tv, grp (modL p m ib tv) g) h
  obtain ⟨tv, h⟩ := Sat.exH (F := fun tv g => grp (modL p m ib tv) g) h
  exact ⟨ib, tv, h.openH (modL p m ib tv) fun _ hg => hg⟩
theorem Sat.modClose {ib : Nat} {tv : Value} (h : Sat w0 w (pt p (.cells (modC m.lay ib m.d tv) 58) :: mapA encI ib (itemsKV m.items) :: itemsA m.items :: descsA m.d :: toldA tv m.told :: G)) : Sat w0 w (modA p m :: G) :=
  Sat.closeH (modL p m ib tv) h fun _ hg => ⟨ib, tv, hg⟩
theorem Sat.itemOpen {b : Nat} {t : It} (h : Sat w0 w (itemA b t :: G)) : ∃ dm sv, Sat w0 w (pt b (.cells (itemC t dm sv) 135) :: dataA t.kind dm t.data :: slotsA sv t.slots :: G) := by
  obtain ⟨dm, h⟩ := Sat.exH (F := fun dm g => ∃ sv, grp [pt b (.cells (itemC t dm sv) 135), dataA t.kind dm t.data, slotsA sv t.slots] g) h
  obtain ⟨sv, h⟩ := Sat.exH (F := fun sv g => grp [pt b (.cells (itemC t dm sv) 135), dataA t.kind dm t.data, slotsA sv t.slots] g) h
  exact ⟨dm, sv, h.openH [_, _, _] fun _ hg => hg⟩
theorem Sat.itemClose {b : Nat} {t : It} {dm sv : Value} (h : Sat w0 w (pt b (.cells (itemC t dm sv) 135) :: dataA t.kind dm t.data :: slotsA sv t.slots :: G)) : Sat w0 w (itemA b t :: G) :=
  Sat.closeH [_, _, _] h fun _ hg => ⟨dm, sv, hg⟩
end

theorem Sat.itemClose1 {w0 w : World} {G : List Asn} {A : Asn} {b : Nat} {t : It} {dm sv : Value} (h : Sat w0 w (A :: pt b (.cells (itemC t dm sv) 135) :: dataA t.kind dm t.data :: slotsA sv t.slots :: G)) : Sat w0 w (A :: itemA b t :: G) :=
  Sat.closeAt [A] [_, _, _] h fun _ hg => ⟨dm, sv, hg⟩
theorem Sat.modOpenP {w0 w : World} {G : List Asn} {p : Nat} {m : Mod} {ib : Nat} {tv : Value} (h : Sat w0 w (modP p m ib tv :: G)) : Sat w0 w (pt p (.cells (modC m.lay ib m.d tv) 58) :: mapA encI ib (itemsKV m.items) :: itemsA m.items :: descsA m.d :: toldA tv m.told :: G) := h.openH (modL p m ib tv) fun _ hg => hg
theorem Sat.modCloseP {w0 w : World} {G : List Asn} {p : Nat} {m : Mod} {ib : Nat} {tv : Value} (h : Sat w0 w (pt p (.cells (modC m.lay ib m.d tv) 58) :: mapA encI ib (itemsKV m.items) :: itemsA m.items :: descsA m.d :: toldA tv m.told :: G)) : Sat w0 w (modP p m ib tv :: G) := Sat.closeH (modL p m ib tv) h fun _ hg => hg
theorem Sat.modToP {w0 w : World} {G : List Asn} {p : Nat} {m : Mod} (h : Sat w0 w (modA p m :: G)) : ∃ ib tv, Sat w0 w (modP p m ib tv :: G) := by
  obtain ⟨ib, tv, h⟩ := Sat.modOpen h
  exact ⟨ib, tv, Sat.modCloseP h⟩
theorem Sat.modOfP {w0 w : World} {l : List Asn} {i p : Nat} {m : Mod} {ib : Nat} {tv : Value} (h : Sat w0 w l) (hi : l[i]? = some (modP p m ib tv)) : Sat w0 w (l.set i (modA p m)) := h.conseq hi fun _ hg => ⟨ib, tv, hg⟩
/-- A field of a model that is closed. -/
theorem rd_loadM {P : Program} {w0 : World} {L : List Asn} {n : Nat} {f : Nat → Value} {v : Value} {i p q : Nat} {ty : TypeId} {x : Operand} {tb : Tab} (ok : TabOk P tb) {m : Mod} {ib : Nat} {tv : Value} {dsc : TypeDesc} (ht : tb.u ty = some dsc) (hna : aggT dsc = false) (hx : ev n f x = .pointer (some ⟨p, q, none⟩))
    (hi : L[i]? = some (modP p m ib tv)) (hk : (modC m.lay ib m.d tv)[q]? = some v) : Rd P w0 L n f (.load ty x) v :=
  Rd.inside (modL p m ib tv) i hi (fun _ hg => hg) (rd_load ok (i := 0) ht hna hx rfl hk)
theorem Sat.itemOpenP {w0 w : World} {G : List Asn} {b : Nat} {t : It} {dm sv : Value} (h : Sat w0 w (itemP b t dm sv :: G)) : Sat w0 w (pt b (.cells (itemC t dm sv) 135) :: dataA t.kind dm t.data :: slotsA sv t.slots :: G) := h.openH [_, _, _] fun _ hg => hg
theorem Sat.itemCloseP {w0 w : World} {G : List Asn} {b : Nat} {t : It} {dm sv : Value} (h : Sat w0 w (pt b (.cells (itemC t dm sv) 135) :: dataA t.kind dm t.data :: slotsA sv t.slots :: G)) : Sat w0 w (itemP b t dm sv :: G) := Sat.closeH [_, _, _] h fun _ hg => hg
theorem Sat.itemToP {w0 w : World} {G : List Asn} {b : Nat} {t : It} (h : Sat w0 w (itemA b t :: G)) : ∃ dm sv, Sat w0 w (itemP b t dm sv :: G) := by
  obtain ⟨dm, sv, h⟩ := Sat.itemOpen h
  exact ⟨dm, sv, Sat.itemCloseP h⟩
theorem Sat.itemOfP {w0 w : World} {l : List Asn} {i b : Nat} {t : It} {dm sv : Value} (h : Sat w0 w l) (hi : l[i]? = some (itemP b t dm sv)) : Sat w0 w (l.set i (itemA b t)) := h.conseq hi fun _ hg => ⟨dm, sv, hg⟩
theorem Sat.itemCloseP1 {w0 w : World} {G : List Asn} {A : Asn} {b : Nat} {t : It} {dm sv : Value} (h : Sat w0 w (A :: pt b (.cells (itemC t dm sv) 135) :: dataA t.kind dm t.data :: slotsA sv t.slots :: G)) : Sat w0 w (A :: itemP b t dm sv :: G) :=
  Sat.closeAt [A] [_, _, _] h fun _ hg => hg
/-- A field of an item that is closed. -/
theorem rd_loadP {P : Program} {w0 : World} {L : List Asn} {n : Nat} {f : Nat → Value} {v : Value} {i b q : Nat} {ty : TypeId} {x : Operand} {tb : Tab} (ok : TabOk P tb) {t : It} {dm sv : Value} {dsc : TypeDesc} (ht : tb.u ty = some dsc) (hna : aggT dsc = false) (hx : ev n f x = .pointer (some ⟨b, q, none⟩))
    (hi : L[i]? = some (itemP b t dm sv)) (hk : (itemC t dm sv)[q]? = some v) : Rd P w0 L n f (.load ty x) v :=
  Rd.inside [_, _, _] i hi (fun _ hg => hg) (rd_load ok (i := 0) ht hna hx rfl hk)
theorem Sat.dataFile {w0 w : World} {l : List Asn} (hS : Sat w0 w l) {i : Nat} {k : Int} {dm : Value} {d : List (Int × List Int)} (hi : l[i]? = some (dataA k dm d)) (hk : ¬k = 2) : ∃ mb, dm = .map (some mb) ∧ Sat w0 w (l.set i (mapA encI mb (dataKV d))) := by
  have h1 : ∃ mb, dm = .map (some mb) := hS.pure hi (by
    rintro g (⟨h, _⟩ | ⟨b, h, _⟩)
    · exact absurd h hk
    · exact ⟨b, h⟩)
  obtain ⟨mb, rfl⟩ := h1
  refine ⟨mb, rfl, hS.conseq hi ?_⟩
  rintro g (⟨h, _⟩ | ⟨b, h, hm⟩)
  · exact absurd h hk
  · cases h; exact hm
theorem Sat.dataBack {w0 w : World} {l : List Asn} (hS : Sat w0 w l) {i mb : Nat} {k : Int} {d : List (Int × List Int)} (hi : l[i]? = some (mapA encI mb (dataKV d))) : Sat w0 w (l.set i (dataA k (.map (some mb)) d)) :=
  hS.conseq hi fun _ hg => .inr ⟨mb, rfl, hg⟩
theorem modC_desc {y : Lay} {ib : Nat} {d : Nat → Option (Nat × Dsc)} {tv : Value} : ∀ {j : Nat}, j < 16 → (modC y ib d tv)[10 + j]? = some (descV (d j))
  | 0, _ => rfl | 1, _ => rfl | 2, _ => rfl | 3, _ => rfl | 4, _ => rfl | 5, _ => rfl | 6, _ => rfl | 7, _ => rfl
  | 8, _ => rfl | 9, _ => rfl | 10, _ => rfl | 11, _ => rfl | 12, _ => rfl | 13, _ => rfl | 14, _ => rfl | 15, _ => rfl
  | n + 16, h => absurd h (by omega)
def setD (d : Nat → Option (Nat × Dsc)) (j : Nat) (o : Option (Nat × Dsc)) : Nat → Option (Nat × Dsc) := fun i => if i = j then o else d i
theorem modC_set {y : Lay} {ib : Nat} {d : Nat → Option (Nat × Dsc)} {tv : Value} {o : Option (Nat × Dsc)} : ∀ {j : Nat}, j < 16 → (modC y ib d tv).setIfInBounds (10 + j) (descV o) = modC y ib (setD d j o) tv
  | 0, _ => rfl | 1, _ => rfl | 2, _ => rfl | 3, _ => rfl | 4, _ => rfl | 5, _ => rfl | 6, _ => rfl | 7, _ => rfl
  | 8, _ => rfl | 9, _ => rfl | 10, _ => rfl | 11, _ => rfl | 12, _ => rfl | 13, _ => rfl | 14, _ => rfl | 15, _ => rfl
  | n + 16, h => absurd h (by omega)
/-- The descriptors by value. -/
def descsC (d : Nat → Option (Nat × Dsc)) : Array Value := #[descV (d 0), descV (d 1), descV (d 2), descV (d 3), descV (d 4), descV (d 5), descV (d 6), descV (d 7), descV (d 8), descV (d 9), descV (d 10), descV (d 11), descV (d 12), descV (d 13), descV (d 14), descV (d 15)]
theorem descsC_get {d : Nat → Option (Nat × Dsc)} : ∀ {j : Nat}, j < 16 → (descsC d)[j]? = some (descV (d j))
  | 0, _ => rfl | 1, _ => rfl | 2, _ => rfl | 3, _ => rfl | 4, _ => rfl | 5, _ => rfl | 6, _ => rfl | 7, _ => rfl
  | 8, _ => rfl | 9, _ => rfl | 10, _ => rfl | 11, _ => rfl | 12, _ => rfl | 13, _ => rfl | 14, _ => rfl | 15, _ => rfl
  | n + 16, h => absurd h (by omega)
theorem modC_descs {y : Lay} {ib : Nat} {d : Nat → Option (Nat × Dsc)} {tv : Value} : (modC y ib d tv).extract 10 (10 + 16) = descsC d := rfl
/-- The descriptors but one. -/
def restD (d : Nat → Option (Nat × Dsc)) (j : Nat) : Asn := grp (((List.range 16).eraseIdx j).map fun i => descA (d i))
theorem range_erase {n j i : Nat} (h : i ∈ (List.range n).eraseIdx j) : i ≠ j := by
  intro e
  subst e
  rw [List.mem_eraseIdx_iff_getElem?] at h
  obtain ⟨q, hq, hg⟩ := h
  have hl : q < n := by simpa using lt_of_get hg
  simp [hl] at hg
  exact hq hg
theorem restD_set (d : Nat → Option (Nat × Dsc)) (j : Nat) (o : Option (Nat × Dsc)) : restD (setD d j o) j = restD d j := by
  unfold restD
  congr 1
  apply List.map_congr_left
  intro i hi
  have := range_erase hi
  simp [setD, this]
theorem Sat.descOpen {w0 w : World} {G : List Asn} {d : Nat → Option (Nat × Dsc)} (h : Sat w0 w (descsA d :: G)) {j : Nat} (hj : j < 16) : Sat w0 w (descA (d j) :: restD d j :: G) :=
  h.focus (F := fun i => descA (d i)) j (x := j) (by simp [hj])
theorem Sat.descClose {w0 w : World} {G : List Asn} {d : Nat → Option (Nat × Dsc)} {j : Nat} (hj : j < 16) (o : Option (Nat × Dsc)) (h : Sat w0 w (descA o :: restD d j :: G)) : Sat w0 w (descsA (setD d j o) :: G) := by
  rw [← restD_set d j o] at h
  have e : descA o = descA (setD d j o j) := by simp [setD]
  rw [e] at h
  exact Sat.refocus (F := fun i => descA (setD d j o i)) (x := j) h (by simp [hj])
theorem setD_self (d : Nat → Option (Nat × Dsc)) (j : Nat) : setD d j (d j) = d := by
  funext i; unfold setD; by_cases h : i = j <;> simp [h]
theorem Sat.descSame {w0 w : World} {G : List Asn} {d : Nat → Option (Nat × Dsc)} {j : Nat} (hj : j < 16) (h : Sat w0 w (descA (d j) :: restD d j :: G)) : Sat w0 w (descsA d :: G) := by
  have := Sat.descClose hj (d j) h
  rwa [setD_self] at this
theorem Sat.descSome {w0 w : World} {G : List Asn} {d : Nat → Option (Nat × Dsc)} {j : Nat} {o : Option (Nat × Dsc)} (hj : j < 16) (hd : d j = o) (h : Sat w0 w (descA o :: restD d j :: G)) : Sat w0 w (descsA d :: G) :=
  Sat.descSame hj (by rw [hd]; exact h)
end Go.Proofs.YtllomopjoomdiaaGreat
end

section
namespace Go.Proofs.YtllomopjoomdiaaGreat
open Go.SL
theorem isP_spec {w0 w : World} {G : List Asn} {p : Nat} {m : Mod} {ib : Nat} {tv : Value} (hS : Sat w0 w (modP p m ib tv :: G)) : CR Tryz.prog 42 [ptr p] w fun v w' => v = .bool true ∧ Sat w0 w' (modP p m ib tv :: G) := by
  refine calls_enter Tryz.func42 rfl rfl rfl ?_
  have hS := Sat.modOpenP hS
  (repeat (first | (apply o_ptr ok; rfl; · conv => { lhs; whnf }) | (apply o_pure ok; · conv => { lhs; whnf; arg 1; whnf }) | refine c_seq ?_ | refine c_region ?_ | refine c_ret ?_ | refine o_nil ?_ | refine q_then ?_ | refine o_want rfl rfl rfl ?_ | (apply o_rd hS; apply rd_load ok (i := 0); rfl; rfl; rfl; rfl; · conv => { lhs; whnf; arg 1; whnf })))
  exact out1 rfl ⟨rfl, Sat.modCloseP hS⟩

theorem is_spec {w0 w : World} {G : List Asn} {p : Nat} {m : Mod} (hS : Sat w0 w (modA p m :: G)) : CR Tryz.prog 42 [ptr p] w fun v w' => v = .bool true ∧ Sat w0 w' (modA p m :: G) := by
  obtain ⟨ib, tv, hS⟩ := Sat.modToP hS
  refine (isP_spec hS).mono ?_
  rintro v w' ⟨rfl, hS⟩
  exact ⟨rfl, Sat.modOfP hS (i := 0) rfl⟩

/-- The least descriptor that is free. -/
def descFrom (d : Nat → Option (Nat × Dsc)) : Nat → Nat → Int
  | 0, _ => -1
  | k + 1, i => if (d i).isNone then i else descFrom d k (i + 1)
def descOf (m : Mod) : Int := descFrom m.d 16 0
theorem desc_spec {w0 w : World} {G : List Asn} {p : Nat} {m : Mod} (hS : Sat w0 w (modA p m :: G)) : CR Tryz.prog 95 [ptr p] w fun v w' => v = vi (descOf m) ∧ Sat w0 w' (modA p m :: G) := by
  refine calls_enter Tryz.func95 rfl rfl rfl ?_
  obtain ⟨ib, tv, hS⟩ := Sat.modOpen hS
  (repeat (first | (apply o_ptr ok; rfl; · conv => { lhs; whnf }) | (apply o_pure ok; · conv => { lhs; whnf; arg 1; whnf }) | refine c_seq ?_ | refine c_region ?_ | refine o_nil ?_ | refine q_then ?_))
  apply o_rd hS (rd_loadA (m := 16) ok rfl rfl rfl rfl (i := 0) rfl (Nat.le_of_ble_eq_true rfl))
  rw [modC_descs]
  (repeat (first | (apply o_pure ok; · conv => { lhs; whnf; arg 1; whnf }) | refine c_block ?_ | refine o_nil ?_ | refine q_then ?_))
  refine c_loop (fun k g w => ∃ (j : Nat) (jk : Nat → Value), j + k = 16 ∧ descOf m = descFrom m.d k j ∧
    g = updL [(8, .agg (descsC m.d)), (9, vi j)] jk ∧
    Sat w0 w (pt p (.cells (modC m.lay ib m.d tv) 58) :: mapA encI ib (itemsKV m.items) :: itemsA m.items :: descsA m.d :: toldA tv m.told :: G)) 16
    ⟨0, _, by omega, rfl, updL_self _ _ ⟨rfl, rfl, trivial⟩, hS⟩ ?_
  rintro k g w ⟨j, jk, hjk, hd, rfl, hS⟩
  (repeat (first | (apply o_pure ok; · conv => { lhs; whnf; arg 1; whnf }) | refine c_seq ?_ | refine c_region ?_ | refine o_nil ?_ | refine q_then ?_))
  refine c_cond_d rfl (fun h1 => ?_) (fun h1 => ?_)
  · have hj : j < 16 := by omega
    obtain ⟨k, rfl⟩ : ∃ k', k = k' + 1 := ⟨k - 1, by omega⟩
    unfold descFrom at hd
    cases hdj : m.d j with
    | none =>
      rw [hdj] at hd
      (repeat (first | (apply o_pure ok; · conv => { lhs; whnf; arg 1; whnf }) | refine c_seq ?_ | refine c_region ?_ | refine c_block ?_ | refine c_skip ?_ | refine q_then ?_))
      refine o_indexA ok rfl rfl rfl rfl rfl rfl (by omega) (v := .pointer none) (by have := descsC_get (d := m.d) hj; rw [hdj] at this; exact this) ?_
      (repeat (first | (apply o_pure ok; · conv => { lhs; whnf; arg 1; whnf }) | refine c_seq ?_ | refine c_region ?_ | refine c_ret ?_ | refine o_nil ?_ | refine q_then ?_ | refine q_then_r ?_ | refine q_blk_r ?_ | (apply c_cond_t; rfl)))
      exact out1 rfl ⟨by rw [hd]; rfl, Sat.modClose hS⟩
    | some x =>
      rw [hdj] at hd
      (repeat (first | (apply o_pure ok; · conv => { lhs; whnf; arg 1; whnf }) | refine c_seq ?_ | refine c_region ?_ | refine c_block ?_ | refine c_skip ?_ | refine q_then ?_))
      refine o_indexA ok rfl rfl rfl rfl rfl rfl (by omega) (v := ptr x.1) (by have := descsC_get (d := m.d) hj; rw [hdj] at this; exact this) ?_
      (repeat (first | (apply o_add; rfl; rfl; omega) | (apply o_ptr ok; rfl; · conv => { lhs; whnf }) | (apply o_pure ok; · conv => { lhs; whnf; arg 1; whnf }) | refine c_seq ?_ | refine c_region ?_ | refine c_skip ?_ | refine o_nil ?_ | refine q_then ?_ | refine q_blk_n ?_ | (apply c_cond_f; rfl)))
      exact ⟨k, by omega, j + 1, _, by omega, hd, updL_self _ _ ⟨rfl, rfl, trivial⟩, hS⟩
  · obtain rfl : k = 0 := by omega
    (repeat (first | (apply o_pure ok; · conv => { lhs; whnf; arg 1; whnf }) | refine c_seq ?_ | refine c_region ?_ | refine c_ret ?_ | refine c_exit ?_ | refine o_nil ?_ | refine q_then ?_ | refine q_then_e ?_ | refine q_blk_e ?_))
    exact out1 rfl ⟨by rw [hd]; rfl, Sat.modClose hS⟩

/-- A descriptor that is open, with a flag. -/
def getOk (m : Mod) (fd flag : Int) : Option (Nat × Dsc) := if fd < 0 then none else if 16 ≤ fd then none else match m.d fd.toNat with
  | none => none
  | some x => if IntKind.i64.wrap ((BitVec.ofInt 64 x.2.flags &&& BitVec.ofInt 64 flag).toNat : Int) = flag then some x else none
def getR (o : Option (Nat × Dsc)) : Value := match o with
  | none => .tuple #[.pointer none, vi 13]
  | some x => .tuple #[ptr x.1, vi 0]
theorem get_spec {w0 w : World} {G : List Asn} {p : Nat} {m : Mod} (fd flag : Int) (hS : Sat w0 w (modA p m :: G)) : CR Tryz.prog 62 [ptr p, vi fd, vi flag] w fun v w' => v = getR (getOk m fd flag) ∧ Sat w0 w' (modA p m :: G) := by
  refine calls_enter Tryz.func62 rfl rfl rfl ?_
  obtain ⟨ib, tv, hS⟩ := Sat.modOpen hS
  (repeat (first | (apply o_pure ok; · conv => { lhs; whnf; arg 1; whnf }) | refine c_seq ?_ | refine c_region ?_ | refine o_nil ?_ | refine q_then ?_))
  refine o_guard_d rfl rfl rfl (fun h1 => ?_) (fun h1 => ?_)
  · (repeat (first | (apply o_pure ok; · conv => { lhs; whnf; arg 1; whnf }) | refine c_seq ?_ | refine c_region ?_ | refine c_ret ?_ | refine o_nil ?_ | refine q_then ?_ | refine q_then_r ?_ | (apply c_cond_t; rfl) | refine o_pass rfl rfl rfl rfl ?_))
    exact out2 rfl ⟨by unfold getOk; rw [if_pos h1]; rfl, Sat.modClose hS⟩
  · (repeat (first | (apply o_pure ok; · conv => { lhs; whnf; arg 1; whnf }) | refine o_want rfl rfl rfl ?_))
    refine o_guard_d rfl rfl rfl (fun h2 => ?_) (fun h2 => ?_)
    · (repeat (first | (apply o_pure ok; · conv => { lhs; whnf; arg 1; whnf }) | refine c_seq ?_ | refine c_region ?_ | refine c_ret ?_ | refine o_nil ?_ | refine q_then ?_ | refine q_then_r ?_ | (apply c_cond_t; rfl) | refine o_pass rfl rfl rfl rfl ?_))
      exact out2 rfl ⟨by unfold getOk; rw [if_neg h1, if_pos h2]; rfl, Sat.modClose hS⟩
    · have hj : fd.toNat < 16 := by omega
      have hc := modC_desc (y := m.lay) (ib := ib) (d := m.d) (tv := tv) hj
      (repeat (first | (apply o_ptr ok; rfl; · conv => { lhs; whnf }) | (apply o_pure ok; · conv => { lhs; whnf; arg 1; whnf }) | refine o_want rfl rfl rfl ?_))
      apply o_rd hS (rd_indexAddrA ok rfl rfl rfl rfl (by omega))
      cases hdj : m.d fd.toNat with
      | none =>
        rw [hdj] at hc
        (repeat (first | refine o_want rfl rfl rfl ?_ | (apply o_rd hS; apply rd_load ok (i := 0); rfl; rfl; rfl; rfl; · conv => { lhs; whnf; arg 1; whnf })))
        apply o_rd hS (rd_load (v := .pointer none) ok rfl rfl rfl (i := 0) rfl (by rw [Nat.mul_one]; exact hc))
        (repeat (first | (apply o_pure ok; · conv => { lhs; whnf; arg 1; whnf }) | refine c_seq ?_ | refine c_region ?_ | refine c_ret ?_ | refine o_nil ?_ | refine q_then ?_ | refine q_then_r ?_ | (apply c_cond_t; rfl) | refine o_want rfl rfl rfl ?_ | refine o_pass rfl rfl rfl rfl ?_))
        exact out2 rfl ⟨by unfold getOk; rw [if_neg h1, if_neg h2, hdj]; rfl, Sat.modClose hS⟩
      | some x =>
        rw [hdj] at hc
        (repeat (first | refine o_want rfl rfl rfl ?_ | (apply o_rd hS; apply rd_load ok (i := 0); rfl; rfl; rfl; rfl; · conv => { lhs; whnf; arg 1; whnf })))
        apply o_rd hS (rd_load (v := ptr x.1) ok rfl rfl rfl (i := 0) rfl (by rw [Nat.mul_one]; exact hc))
        (repeat (first | (apply o_ptr ok; rfl; · conv => { lhs; whnf }) | (apply o_pure ok; · conv => { lhs; whnf; arg 1; whnf }) | refine o_want rfl rfl rfl ?_))
        apply o_rd hS (rd_indexAddrA ok rfl rfl rfl rfl (by omega))
        (repeat (first | refine o_want rfl rfl rfl ?_ | (apply o_rd hS; apply rd_load ok (i := 0); rfl; rfl; rfl; rfl; · conv => { lhs; whnf; arg 1; whnf })))
        apply o_rd hS (rd_load (v := ptr x.1) ok rfl rfl rfl (i := 0) rfl (by rw [Nat.mul_one]; exact hc))
        (repeat (first | (apply o_ptr ok; rfl; · conv => { lhs; whnf }) | refine o_want rfl rfl rfl ?_))
        have hS := Sat.descOpen (hS.bring 3 rfl) hj
        rw [hdj] at hS
        (repeat (first | (apply o_pure ok; · conv => { lhs; whnf; arg 1; whnf }) | refine o_nil ?_ | refine q_then ?_ | refine o_want rfl rfl rfl ?_ | (apply o_rd hS; apply rd_load ok (i := 0); rfl; rfl; rfl; rfl; · conv => { lhs; whnf; arg 1; whnf })))
        have back : Sat w0 w (modA p m :: G) := by
          rw [← hdj] at hS
          exact Sat.modClose ((Sat.descSame hj hS).back 3 rfl)
        by_cases h3 : IntKind.i64.wrap ((BitVec.ofInt 64 x.2.flags &&& BitVec.ofInt 64 flag).toNat : Int) = flag
        · refine c_cond_n rfl (fun h => h h3) ?_
          (repeat (first | (apply o_ptr ok; rfl; · conv => { lhs; whnf }) | (apply o_pure ok; · conv => { lhs; whnf; arg 1; whnf }) | refine c_seq ?_ | refine c_region ?_ | refine c_skip ?_ | refine q_then ?_))
          apply o_rd hS (rd_indexAddrA ok rfl rfl rfl rfl (by omega))
          apply o_rd hS (rd_load (v := ptr x.1) ok rfl rfl rfl (i := 2) rfl (by rw [Nat.mul_one]; exact hc))
          (repeat (first | (apply o_ptr ok; rfl; · conv => { lhs; whnf }) | (apply o_pure ok; · conv => { lhs; whnf; arg 1; whnf }) | refine c_ret ?_ | refine o_nil ?_ | refine q_then ?_))
          exact out2 rfl ⟨by unfold getOk; rw [if_neg h1, if_neg h2, hdj]; simp only [if_pos h3]; rfl, back⟩
        · refine c_cond_p rfl h3 ?_
          (repeat (first | (apply o_pure ok; · conv => { lhs; whnf; arg 1; whnf }) | refine c_seq ?_ | refine c_region ?_ | refine c_ret ?_ | refine o_nil ?_ | refine q_then ?_ | refine q_then_r ?_))
          exact out2 rfl ⟨by unfold getOk; rw [if_neg h1, if_neg h2, hdj]; simp only [if_neg h3]; rfl, back⟩
end Go.Proofs.YtllomopjoomdiaaGreat
end

section
/- Package plan: what its functions compute. -/
namespace Go.Proofs.YtllomopjoomdiaaGreat
open Go.SL
def blocksOf (x : Int) : Int := if x < 1 then 0 else (x - 1) / 1024 + 1
theorem blocks_spec (x : Int) (w : World) (h : x ≤ 9223372036854775807) : CR Tryz.prog 137 [vi x] w fun v w' => v = vi (blocksOf x) ∧ w' = w := by
  refine calls_enter Tryz.func137 rfl rfl rfl ?_
  by_cases h1 : x < 1
  · (repeat (first | (apply o_pure ok; · conv => { lhs; whnf; arg 1; whnf }) | refine c_seq ?_ | refine c_region ?_ | refine o_nil ?_ | refine q_then ?_))
    refine c_cond_p rfl h1 ?_
    (repeat (first | (apply o_pure ok; · conv => { lhs; whnf; arg 1; whnf }) | refine c_seq ?_ | refine c_region ?_ | refine c_ret ?_ | refine o_nil ?_ | refine q_then ?_ | refine q_then_r ?_))
    exact out1 rfl ⟨by unfold blocksOf; rw [if_pos h1]; rfl, rfl⟩
  · (repeat (first | (apply o_pure ok; · conv => { lhs; whnf; arg 1; whnf }) | refine c_seq ?_ | refine c_region ?_ | refine o_nil ?_ | refine q_then ?_))
    refine c_cond_n rfl h1 ?_
    (repeat (first | (apply o_add; rfl; rfl; omega) | (apply o_sub; rfl; rfl; omega) | (apply o_quo; rfl; rfl; omega) | (apply o_pure ok; · conv => { lhs; whnf; arg 1; whnf }) | refine c_seq ?_ | refine c_region ?_ | refine c_skip ?_ | refine c_ret ?_ | refine o_nil ?_ | refine q_then ?_))
    exact out1 rfl ⟨by unfold blocksOf; rw [if_neg h1]; rfl, rfl⟩

/-- Depth, first, second. -/
def wayOf (i : Int) : Int × Int × Int :=
  if i < 0 then (0, 0, 0) else if 65802 ≤ i then (0, 0, 0) else if i < 10 then (1, i, 0) else if i < 266 then (2, i - 10, 0) else (3, (i - 10 - 256) / 256, (i - 10 - 256) % 256)
def wayC (p : Int × Int × Int) : Array Value := #[.int .u8 p.1, vi p.2.1, vi p.2.2]
theorem way_spec (i : Int) {w0 w : World} {G : List Asn} (hS : Sat w0 w G) : CR Tryz.prog 136 [vi i] w fun v w' => v = .agg (wayC (wayOf i)) ∧ Sat w0 w' G := by
  refine calls_enter Tryz.func136 rfl rfl rfl ?_
  (repeat (first | refine c_seq ?_ | refine c_region ?_))
  refine o_alloc ok hS rfl (fun b w hS => ?_)
  (repeat (first | (apply o_pure ok; · conv => { lhs; whnf; arg 1; whnf }) | refine c_seq ?_ | refine c_region ?_ | refine c_block ?_ | refine o_nil ?_ | refine q_then ?_))
  refine o_guard_d rfl rfl rfl (fun h1 => ?_) (fun h1 => ?_)
  · (repeat (first | (apply o_pure ok; · conv => { lhs; whnf; arg 1; whnf }) | refine c_seq ?_ | refine c_region ?_ | refine o_nil ?_ | refine q_then ?_ | (apply c_cond_t; rfl) | refine o_pass rfl rfl rfl rfl ?_ | (apply o_rd hS; apply rd_build1 ok; rfl; rfl; rfl; rfl)))
    refine o_storeW ok hS rfl rfl rfl (i := 0) rfl rfl rfl rfl (fun w hS => ?_)
    (repeat (first | refine c_ret ?_ | refine o_nil ?_ | refine q_then ?_ | refine q_then_r ?_ | refine q_blk_r ?_))
    refine outCA ok rfl hS rfl rfl rfl rfl (i := 0) rfl rfl ⟨?_, hS.tail⟩
    unfold wayOf; rw [if_pos h1]; rfl
  · (repeat (first | (apply o_pure ok; · conv => { lhs; whnf; arg 1; whnf }) | refine o_nil ?_ | refine q_then ?_ | refine o_want rfl rfl rfl ?_))
    refine c_cond_d rfl (fun h2 => ?_) (fun h2 => ?_)
    · (repeat (first | refine c_seq ?_ | refine c_region ?_ | (apply o_rd hS; apply rd_build1 ok; rfl; rfl; rfl; rfl)))
      refine o_storeW ok hS rfl rfl rfl (i := 0) rfl rfl rfl rfl (fun w hS => ?_)
      (repeat (first | refine c_ret ?_ | refine o_nil ?_ | refine q_then ?_ | refine q_then_r ?_ | refine q_blk_r ?_))
      refine outCA ok rfl hS rfl rfl rfl rfl (i := 0) rfl rfl ⟨?_, hS.tail⟩
      unfold wayOf; rw [if_neg h1, if_pos (by omega)]; rfl
    · (repeat (first | (apply o_pure ok; · conv => { lhs; whnf; arg 1; whnf }) | refine c_seq ?_ | refine c_region ?_ | refine o_nil ?_ | refine q_then ?_))
      refine c_cond_d rfl (fun h3 => ?_) (fun h3 => ?_)
      · (repeat (first | (apply o_pure ok; · conv => { lhs; whnf; arg 1; whnf }) | refine c_seq ?_ | refine c_region ?_ | (apply o_rd hS; apply rd_build1 ok; rfl; rfl; rfl; rfl)))
        refine o_storeW ok hS rfl rfl rfl (i := 0) rfl rfl rfl rfl (fun w hS => ?_)
        (repeat (first | refine c_ret ?_ | refine o_nil ?_ | refine q_then ?_ | refine q_then_r ?_ | refine q_blk_r ?_))
        refine outCA ok rfl hS rfl rfl rfl rfl (i := 0) rfl rfl ⟨?_, hS.tail⟩
        unfold wayOf; rw [if_neg h1, if_neg (by omega), if_pos h3]; rfl
      · (repeat (first | (apply o_pure ok; · conv => { lhs; whnf; arg 1; whnf }) | refine c_seq ?_ | refine c_region ?_ | refine o_nil ?_ | refine q_then ?_))
        refine c_cond_d rfl (fun h4 => ?_) (fun h4 => ?_)
        · (repeat (first | (apply o_sub; rfl; rfl; omega) | (apply o_pure ok; · conv => { lhs; whnf; arg 1; whnf }) | refine c_seq ?_ | refine c_region ?_ | (apply o_rd hS; apply rd_build1 ok; rfl; rfl; rfl; rfl)))
          refine o_storeW ok hS rfl rfl rfl (i := 0) rfl rfl rfl rfl (fun w hS => ?_)
          (repeat (first | refine c_ret ?_ | refine o_nil ?_ | refine q_then ?_ | refine q_then_r ?_ | refine q_blk_r ?_))
          refine outCA ok rfl hS rfl rfl rfl rfl (i := 0) rfl rfl ⟨?_, hS.tail⟩
          unfold wayOf; rw [if_neg h1, if_neg (by omega), if_neg h3, if_pos h4]; rfl
        · (repeat (first | (apply o_sub; rfl; rfl; omega) | (apply o_quo; rfl; rfl; omega) | (apply o_rem; rfl; rfl; omega) | (apply o_pure ok; · conv => { lhs; whnf; arg 1; whnf }) | refine c_seq ?_ | refine c_region ?_ | refine c_skip ?_ | refine o_nil ?_ | refine q_then ?_ | refine q_blk_n ?_ | (apply o_rd hS; apply rd_build1 ok; rfl; rfl; rfl; rfl)))
          refine o_storeW ok hS rfl rfl rfl (i := 0) rfl rfl rfl rfl (fun w hS => ?_)
          (repeat (first | refine c_ret ?_ | refine o_nil ?_ | refine q_then ?_))
          refine outCA ok rfl hS rfl rfl rfl rfl (i := 0) rfl rfl ⟨?_, hS.tail⟩
          unfold wayOf; rw [if_neg h1, if_neg (by omega), if_neg h3, if_neg h4]; rfl

structure TS where
  seen : List Int
  below : List Int
  n : Int
  single : Bool
  double : Bool
def totStep (s : TS) (i : Int) : TS :=
  if (wayOf i).1 = 0 then s else if i ∈ s.seen then s else
  { seen := s.seen ++ [i], n := s.n + 1, single := if (wayOf i).1 = 2 then true else s.single, double := if (wayOf i).1 = 2 then s.double else if (wayOf i).1 = 3 then true else s.double,
    below := if (wayOf i).1 = 2 then s.below else if (wayOf i).1 = 3 then (if (wayOf i).2.1 ∈ s.below then s.below else s.below ++ [(wayOf i).2.1]) else s.below }
def totEnd (s : TS) : Int := s.n + (if s.single then 1 else 0) + (if s.double then 1 + s.below.length else 0)
def totS (l : List Int) : TS := l.foldl totStep ⟨[], [], 0, false, false⟩
def totalOf (l : List Int) : Int := totEnd (totS l)
theorem totStep_le (s : TS) (i : Int) : (s.n ≤ (totStep s i).n ∧ (totStep s i).n ≤ s.n + 1) ∧ (s.below.length ≤ (totStep s i).below.length ∧ (totStep s i).below.length ≤ s.below.length + 1) := by
  unfold totStep
  split
  · omega
  · split
    · omega
    · refine ⟨⟨by simp; omega, by simp⟩, ?_⟩
      dsimp only
      split
      · omega
      · split
        · split <;> simp
        · omega
theorem totS_snoc (l : List Int) (i : Int) : totS (l ++ [i]) = totStep (totS l) i := by simp [totS]
theorem totF_le : ∀ (l : List Int) (s : TS), s.n ≤ (l.foldl totStep s).n ∧ (l.foldl totStep s).n ≤ s.n + l.length ∧ (l.foldl totStep s).below.length ≤ s.below.length + l.length
  | [], s => by simp
  | i :: l, s => by
    have h1 := totF_le l (totStep s i)
    have h2 := totStep_le s i
    simp only [List.foldl_cons, List.length_cons]
    omega
theorem totS_le (l : List Int) : 0 ≤ (totS l).n ∧ (totS l).n ≤ l.length ∧ (totS l).below.length ≤ l.length := by
  have := totF_le l ⟨[], [], 0, false, false⟩
  simpa [totS] using this

theorem step2 {s : TS} {i : Int} (h2 : ¬(wayOf i).1 = 0) (h3 : ¬i ∈ s.seen) (h4 : (wayOf i).1 = 2) : totStep s i = ⟨s.seen ++ [i], s.below, s.n + 1, true, s.double⟩ := by
  unfold totStep; rw [if_neg h2, if_neg h3]; simp [h4]
theorem step3 {s : TS} {i : Int} (h2 : ¬(wayOf i).1 = 0) (h3 : ¬i ∈ s.seen) (h4 : ¬(wayOf i).1 = 2) (h5 : (wayOf i).1 = 3) : totStep s i = ⟨s.seen ++ [i], if (wayOf i).2.1 ∈ s.below then s.below else s.below ++ [(wayOf i).2.1], s.n + 1, s.single, true⟩ := by
  unfold totStep; rw [if_neg h2, if_neg h3]; simp [h5]
theorem step1 {s : TS} {i : Int} (h2 : ¬(wayOf i).1 = 0) (h3 : ¬i ∈ s.seen) (h4 : ¬(wayOf i).1 = 2) (h5 : ¬(wayOf i).1 = 3) : totStep s i = ⟨s.seen ++ [i], s.below, s.n + 1, s.single, s.double⟩ := by
  unfold totStep; rw [if_neg h2, if_neg h3]; simp [h4, h5]

theorem total_spec (l : List Int) (hl : l.length ≤ 1099511627776) {w0 w : World} {G : List Asn} {v : Value} {q : Nat} (hS : Sat w0 w (rowA 3 1 v q (l.map vi) :: G)) : CR Tryz.prog 84 [v] w fun r w' => r = vi (totalOf l) ∧ Sat w0 w' (rowA 3 1 v q (l.map vi) :: G) := by
  obtain ⟨hlen, a, cap, rfl, _, ha⟩ := Sat.rowForm hS (i := 0) rfl
  have hq : l.length = q := by simpa using hlen
  subst hq
  refine calls_enter Tryz.func84 rfl rfl rfl ?_
  (repeat (first | (apply o_pure ok; · conv => { lhs; whnf; arg 1; whnf }) | refine c_seq ?_ | refine c_region ?_ | refine o_nil ?_ | refine q_then ?_))
  refine o_makeMap hS (fun b1 w hS => ?_)
  (repeat (first | (apply o_pure ok; · conv => { lhs; whnf; arg 1; whnf }) | refine c_seq ?_ | refine c_region ?_ | refine o_nil ?_ | refine q_then ?_))
  refine o_makeMap hS (fun b2 w hS => ?_)
  (repeat (first | (apply o_pure ok; · conv => { lhs; whnf; arg 1; whnf }) | refine c_seq ?_ | refine c_region ?_ | refine c_block ?_ | refine o_nil ?_ | refine q_then ?_))
  have hS := hS.weakH (D := mapA encI b2 []) (fun _ h => ⟨#[], 0, mapOk_new encI, h⟩)
  have hS := (hS.bring 1 rfl).weakH (D := mapA encI b1 []) (fun _ h => ⟨#[], 0, mapOk_new encI, h⟩)
  refine c_loop (fun k g w => ∃ (j : Nat) (s : TS) (jk : Nat → Value), j + k = l.length ∧ s = totS (l.take j) ∧
    g = updL [(15, .slice a l.length cap), (16, vi l.length), (17, vi j), (3, .map (some b1)), (4, .map (some b2)), (5, vi s.n), (6, .bool s.single), (7, .bool s.double)] jk ∧
    Sat w0 w (mapA encI b1 (setKV s.seen (.agg #[])) :: mapA encI b2 (setKV s.below (.agg #[])) :: rowA 3 1 (.slice a l.length cap) l.length (l.map vi) :: G)) l.length
    ⟨0, _, _, by omega, rfl, updL_self _ _ ⟨rfl, rfl, rfl, rfl, rfl, rfl, rfl, rfl, trivial⟩, hS⟩ ?_
  rintro k g w ⟨j, s, jk, hjk, hs, rfl, hS⟩
  have hbnd := totS_le (l.take j)
  rw [← hs] at hbnd
  have hjl : (l.take j).length ≤ l.length := by simp; omega
  (repeat (first | (apply o_pure ok; · conv => { lhs; whnf; arg 1; whnf }) | refine c_seq ?_ | refine c_region ?_ | refine o_nil ?_ | refine q_then ?_))
  refine c_cond_d rfl (fun h1 => ?_) (fun h1 => ?_)
  · have hj : j < l.length := by omega
    obtain ⟨b, rfl⟩ := ha (by omega)
    have hge : l[j]? = some l[j] := List.getElem?_eq_getElem hj
    have htk : l.take (j + 1) = l.take j ++ [l[j]] := by rw [List.take_add_one, hge]; rfl
    have hst : totStep s l[j] = totS (l.take (j + 1)) := by rw [htk, totS_snoc, hs]
    (repeat (first | refine c_seq ?_ | refine c_region ?_ | refine c_block ?_ | refine c_skip ?_ | refine q_then ?_))
    refine o_rd hS (rd_indexAddr ok rfl rfl rfl rfl (by omega)) ?_
    refine o_rd hS (rd_loadR ok (v := vi l[j]) rfl rfl rfl (i := 2) rfl rfl (by simp [hge])) ?_
    (repeat (first | (apply o_pure ok; · conv => { lhs; whnf; arg 1; whnf }) | refine c_seq ?_ | refine c_region ?_ | refine o_nil ?_ | refine q_then ?_))
    refine o_call ok rfl rfl (way_spec l[j] hS) (fun v w h => ?_)
    obtain ⟨rfl, hS⟩ := h
    refine o_alloc ok hS rfl (fun b w hS => ?_)
    refine o_storeW ok hS rfl rfl rfl (i := 0) rfl rfl rfl rfl (fun w hS => ?_)
    (repeat (first | (apply o_ptr ok; rfl; · conv => { lhs; whnf }) | (apply o_pure ok; · conv => { lhs; whnf; arg 1; whnf }) | refine c_seq ?_ | refine c_region ?_ | refine o_nil ?_ | refine q_then ?_ | (apply o_rd hS; apply rd_load ok (i := 0); rfl; rfl; rfl; rfl; · conv => { lhs; whnf; arg 1; whnf })))
    refine c_cond_d rfl (fun h2 => ?_) (fun h2 => ?_)
    · (repeat (first | (apply o_add; rfl; rfl; omega) | (apply o_pure ok; · conv => { lhs; whnf; arg 1; whnf }) | refine c_region ?_ | refine c_exit ?_ | refine o_nil ?_ | refine q_then ?_ | refine q_then_e ?_ | refine q_blk_e ?_))
      exact ⟨k - 1, by omega, j + 1, s, _, by omega, by rw [← hst]; unfold totStep; rw [if_pos h2], updL_self _ _ ⟨rfl, rfl, rfl, rfl, rfl, rfl, rfl, rfl, trivial⟩, hS.tail⟩
    · (repeat (first | (apply o_pure ok; · conv => { lhs; whnf; arg 1; whnf }) | refine c_seq ?_ | refine c_region ?_ | refine c_skip ?_ | refine q_then ?_))
      refine o_rd hS (rd_set ok keyOk_int rfl rfl rfl rfl rfl (i := 1) rfl) ?_
      (repeat (first | (apply o_pure ok; · conv => { lhs; whnf; arg 1; whnf })))
      refine o_alloc ok hS rfl (fun b3 w hS => ?_)
      refine o_storeW ok hS rfl rfl rfl (i := 0) rfl rfl rfl rfl (fun w hS => ?_)
      have hS := hS.tail
      (repeat (first | (apply o_pure ok; · conv => { lhs; whnf; arg 1; whnf }) | refine c_seq ?_ | refine c_region ?_ | refine o_nil ?_ | refine q_then ?_))
      refine c_cond_d rfl (fun h3 => ?_) (fun h3 => ?_)
      · (repeat (first | (apply o_add; rfl; rfl; omega) | (apply o_pure ok; · conv => { lhs; whnf; arg 1; whnf }) | refine c_region ?_ | refine c_exit ?_ | refine o_nil ?_ | refine q_then ?_ | refine q_then_e ?_ | refine q_blk_e ?_))
        exact ⟨k - 1, by omega, j + 1, s, _, by omega, by rw [← hst]; unfold totStep; rw [if_neg h2, if_pos h3], updL_self _ _ ⟨rfl, rfl, rfl, rfl, rfl, rfl, rfl, rfl, trivial⟩, hS.tail⟩
      · (repeat (first | (apply o_pure ok; · conv => { lhs; whnf; arg 1; whnf }) | refine c_seq ?_ | refine c_region ?_ | refine c_skip ?_ | refine q_then ?_ | (apply o_rd hS; apply rd_build1 ok; rfl; rfl; rfl; rfl)))
        refine o_setAdd ok keyOk_int (u := .agg #[]) hS rfl rfl rfl rfl rfl (i := 1) rfl (fun w hS => ?_)
        rw [if_neg h3] at hS
        (repeat (first | (apply o_add; rfl; rfl; omega) | (apply o_ptr ok; rfl; · conv => { lhs; whnf }) | (apply o_pure ok; · conv => { lhs; whnf; arg 1; whnf }) | refine c_seq ?_ | refine c_region ?_ | refine c_block ?_ | refine o_nil ?_ | refine q_then ?_ | (apply o_rd hS; apply rd_load ok (i := 0); rfl; rfl; rfl; rfl; · conv => { lhs; whnf; arg 1; whnf })))
        refine c_cond_d rfl (fun h4 => ?_) (fun h4 => ?_)
        · (repeat (first | (apply o_add; rfl; rfl; omega) | (apply o_pure ok; · conv => { lhs; whnf; arg 1; whnf }) | refine c_region ?_ | refine o_nil ?_ | refine q_then ?_ | refine q_blk_n ?_))
          exact ⟨k - 1, by omega, j + 1, _, _, by omega, hst, updL_self _ _ ⟨rfl, rfl, rfl, rfl, rfl, by rw [step2 h2 h3 h4]; rfl, by rw [step2 h2 h3 h4]; rfl, by rw [step2 h2 h3 h4]; rfl, trivial⟩, by rw [step2 h2 h3 h4]; exact hS.tail⟩
        · (repeat (first | (apply o_pure ok; · conv => { lhs; whnf; arg 1; whnf }) | refine c_seq ?_ | refine c_region ?_ | refine o_nil ?_ | refine q_then ?_))
          refine c_cond_d rfl (fun h5 => ?_) (fun h5 => ?_)
          · (repeat (first | (apply o_ptr ok; rfl; · conv => { lhs; whnf }) | (apply o_pure ok; · conv => { lhs; whnf; arg 1; whnf }) | refine c_seq ?_ | refine c_region ?_ | refine o_nil ?_ | refine q_then ?_ | (apply o_rd hS; apply rd_build1 ok; rfl; rfl; rfl; rfl) | (apply o_rd hS; apply rd_load ok (i := 0); rfl; rfl; rfl; rfl; · conv => { lhs; whnf; arg 1; whnf })))
            refine o_setAdd ok keyOk_int (u := .agg #[]) hS rfl rfl rfl rfl rfl (i := 2) rfl (fun w hS => ?_)
            (repeat (first | (apply o_add; rfl; rfl; omega) | (apply o_pure ok; · conv => { lhs; whnf; arg 1; whnf }) | refine c_region ?_ | refine o_nil ?_ | refine q_then ?_ | refine q_blk_n ?_))
            exact ⟨k - 1, by omega, j + 1, _, _, by omega, hst, updL_self _ _ ⟨rfl, rfl, rfl, rfl, rfl, by rw [step3 h2 h3 h4 h5]; rfl, by rw [step3 h2 h3 h4 h5]; rfl, by rw [step3 h2 h3 h4 h5]; rfl, trivial⟩, by rw [step3 h2 h3 h4 h5]; exact hS.tail⟩
          · (repeat (first | (apply o_add; rfl; rfl; omega) | (apply o_pure ok; · conv => { lhs; whnf; arg 1; whnf }) | refine c_region ?_ | refine c_skip ?_ | refine o_nil ?_ | refine q_then ?_ | refine q_blk_n ?_))
            exact ⟨k - 1, by omega, j + 1, _, _, by omega, hst, updL_self _ _ ⟨rfl, rfl, rfl, rfl, rfl, by rw [step1 h2 h3 h4 h5]; rfl, by rw [step1 h2 h3 h4 h5]; rfl, by rw [step1 h2 h3 h4 h5]; rfl, trivial⟩, by rw [step1 h2 h3 h4 h5]; exact hS.tail⟩
  · have hjl : j = l.length := by omega
    rw [hjl, List.take_length] at hs
    (repeat (first | (apply o_pure ok; · conv => { lhs; whnf; arg 1; whnf }) | refine c_seq ?_ | refine c_region ?_ | refine c_exit ?_ | refine o_nil ?_ | refine q_then ?_ | refine q_then_e ?_ | refine q_blk_e ?_))
    have fin : ∀ r : Int, r = totEnd s → vi r = vi (totalOf l) := fun r hr => by rw [hr, hs]; rfl
    have hbl : (setKV s.below (Value.agg #[])).length = s.below.length := by simp [setKV]
    refine c_cond_b rfl (fun h2 => ?_) (fun h2 => ?_)
    · (repeat (first | (apply o_add; rfl; rfl; omega) | (apply o_pure ok; · conv => { lhs; whnf; arg 1; whnf }) | refine c_seq ?_ | refine c_region ?_ | refine o_nil ?_ | refine q_then ?_))
      refine c_cond_b rfl (fun h3 => ?_) (fun h3 => ?_)
      · (repeat (first | (apply o_pure ok; · conv => { lhs; whnf; arg 1; whnf }) | refine c_region ?_))
        apply o_rd hS (rd_mlen ok rfl rfl (i := 1) rfl)
        (repeat (first | (apply o_add; rfl; rfl; omega) | (apply o_pure ok; · conv => { lhs; whnf; arg 1; whnf }) | refine c_seq ?_ | refine c_region ?_ | refine c_ret ?_ | refine o_nil ?_ | refine q_then ?_))
        exact out1 rfl ⟨fin _ (by simp [totEnd, h2, h3, hbl]), hS.tail.tail⟩
      · (repeat (first | (apply o_pure ok; · conv => { lhs; whnf; arg 1; whnf }) | refine c_seq ?_ | refine c_region ?_ | refine c_skip ?_ | refine c_ret ?_ | refine o_nil ?_ | refine q_then ?_))
        exact out1 rfl ⟨fin _ (by simp [totEnd, h2, h3]), hS.tail.tail⟩
    · (repeat (first | (apply o_pure ok; · conv => { lhs; whnf; arg 1; whnf }) | refine c_seq ?_ | refine c_region ?_ | refine c_skip ?_ | refine o_nil ?_ | refine q_then ?_))
      refine c_cond_b rfl (fun h3 => ?_) (fun h3 => ?_)
      · (repeat (first | (apply o_pure ok; · conv => { lhs; whnf; arg 1; whnf }) | refine c_region ?_))
        apply o_rd hS (rd_mlen ok rfl rfl (i := 1) rfl)
        (repeat (first | (apply o_add; rfl; rfl; omega) | (apply o_pure ok; · conv => { lhs; whnf; arg 1; whnf }) | refine c_seq ?_ | refine c_region ?_ | refine c_ret ?_ | refine o_nil ?_ | refine q_then ?_))
        exact out1 rfl ⟨fin _ (by simp [totEnd, h2, h3, hbl]), hS.tail.tail⟩
      · (repeat (first | (apply o_pure ok; · conv => { lhs; whnf; arg 1; whnf }) | refine c_seq ?_ | refine c_region ?_ | refine c_skip ?_ | refine c_ret ?_ | refine o_nil ?_ | refine q_then ?_))
        exact out1 rfl ⟨fin _ (by simp [totEnd, h2, h3]), hS.tail.tail⟩
end Go.Proofs.YtllomopjoomdiaaGreat
end

section
namespace Go.Proofs.YtllomopjoomdiaaGreat
open Go.SL
/-- How many of the first j descriptors stand for an inode. -/
def holdsN (d : Nat → Option (Nat × Dsc)) (inum : Int) : Nat → Int
  | 0 => 0
  | j + 1 => holdsN d inum j + match d j with
    | some x => if x.2.inum = inum then 1 else 0
    | none => 0
def holdsOf (m : Mod) (inum : Int) : Int := holdsN m.d inum 16
theorem holdsN_le (d : Nat → Option (Nat × Dsc)) (inum : Int) : ∀ j, 0 ≤ holdsN d inum j ∧ holdsN d inum j ≤ j
  | 0 => by simp [holdsN]
  | j + 1 => by
    have := holdsN_le d inum j
    unfold holdsN
    split
    · split <;> omega
    · omega
theorem holds_spec {w0 w : World} {G : List Asn} {p : Nat} {m : Mod} (inum : Int) (hS : Sat w0 w (modA p m :: G)) : CR Tryz.prog 158 [ptr p, vi inum] w fun v w' => v = vi (holdsOf m inum) ∧ Sat w0 w' (modA p m :: G) := by
  refine calls_enter Tryz.func158 rfl rfl rfl ?_
  obtain ⟨ib, tv, hS⟩ := Sat.modOpen hS
  (repeat (first | (apply o_ptr ok; rfl; · conv => { lhs; whnf }) | (apply o_pure ok; · conv => { lhs; whnf; arg 1; whnf }) | refine c_seq ?_ | refine c_region ?_ | refine o_nil ?_ | refine q_then ?_))
  apply o_rd hS (rd_loadA (m := 16) ok rfl rfl rfl rfl (i := 0) rfl (Nat.le_of_ble_eq_true rfl))
  rw [modC_descs]
  (repeat (first | (apply o_pure ok; · conv => { lhs; whnf; arg 1; whnf }) | refine c_block ?_ | refine o_nil ?_ | refine q_then ?_))
  refine c_loop (fun k g w => ∃ (j : Nat) (jk : Nat → Value), j + k = 16 ∧
    g = updL [(11, .agg (descsC m.d)), (12, vi j), (5, vi (holdsN m.d inum j)), (1, vi inum)] jk ∧
    Sat w0 w (pt p (.cells (modC m.lay ib m.d tv) 58) :: mapA encI ib (itemsKV m.items) :: itemsA m.items :: descsA m.d :: toldA tv m.told :: G)) 16
    ⟨0, _, by omega, updL_self _ _ ⟨rfl, rfl, rfl, rfl, trivial⟩, hS⟩ ?_
  rintro k g w ⟨j, jk, hjk, rfl, hS⟩
  have hb := holdsN_le m.d inum j
  (repeat (first | (apply o_pure ok; · conv => { lhs; whnf; arg 1; whnf }) | refine c_seq ?_ | refine c_region ?_ | refine o_nil ?_ | refine q_then ?_))
  refine c_cond_d rfl (fun h1 => ?_) (fun h1 => ?_)
  · have hj : j < 16 := by omega
    cases hdj : m.d j with
    | none =>
      have hn : holdsN m.d inum (j + 1) = holdsN m.d inum j := by simp [holdsN, hdj]
      (repeat (first | refine c_seq ?_ | refine c_region ?_ | refine c_block ?_ | refine c_skip ?_ | refine q_then ?_))
      refine o_indexA ok rfl rfl rfl rfl rfl rfl (by omega) (v := .pointer none) (by have := descsC_get (d := m.d) hj; rw [hdj] at this; exact this) ?_
      (repeat (first | (apply o_add; rfl; rfl; omega) | (apply o_pure ok; · conv => { lhs; whnf; arg 1; whnf }) | refine c_seq ?_ | refine c_region ?_ | refine c_skip ?_ | refine o_nil ?_ | refine q_then ?_ | refine q_blk_n ?_ | (apply c_cond_f; rfl) | refine o_pass rfl rfl rfl rfl ?_))
      exact ⟨k - 1, by omega, j + 1, _, by omega, updL_self _ _ ⟨rfl, rfl, by rw [hn]; rfl, rfl, trivial⟩, hS⟩
    | some x =>
      have hn : holdsN m.d inum (j + 1) = holdsN m.d inum j + if x.2.inum = inum then 1 else 0 := by simp [holdsN, hdj]
      (repeat (first | refine c_seq ?_ | refine c_region ?_ | refine c_block ?_ | refine c_skip ?_ | refine q_then ?_))
      refine o_indexA ok rfl rfl rfl rfl rfl rfl (by omega) (v := ptr x.1) (by have := descsC_get (d := m.d) hj; rw [hdj] at this; exact this) ?_
      have hS := Sat.descOpen (hS.bring 3 rfl) hj
      rw [hdj] at hS
      (repeat (first | (apply o_ptr ok; rfl; · conv => { lhs; whnf }) | (apply o_pure ok; · conv => { lhs; whnf; arg 1; whnf }) | refine c_seq ?_ | refine c_region ?_ | refine o_nil ?_ | refine q_then ?_ | refine o_want rfl rfl rfl ?_ | (apply o_rd hS; apply rd_load ok (i := 0); rfl; rfl; rfl; rfl; · conv => { lhs; whnf; arg 1; whnf })))
      refine c_cond_d rfl (fun h2 => ?_) (fun h2 => ?_)
      · (repeat (first | (apply o_add; rfl; rfl; omega) | (apply o_pure ok; · conv => { lhs; whnf; arg 1; whnf }) | refine c_region ?_ | refine o_nil ?_ | refine q_then ?_ | refine q_blk_n ?_))
        have hS := (Sat.descSome hj hdj hS).back 3 rfl
        exact ⟨k - 1, by omega, j + 1, _, by omega, updL_self _ _ ⟨rfl, rfl, by rw [hn, if_pos h2]; rfl, rfl, trivial⟩, hS⟩
      · (repeat (first | (apply o_add; rfl; rfl; omega) | (apply o_pure ok; · conv => { lhs; whnf; arg 1; whnf }) | refine c_region ?_ | refine c_skip ?_ | refine o_nil ?_ | refine q_then ?_ | refine q_blk_n ?_))
        have hS := (Sat.descSome hj hdj hS).back 3 rfl
        exact ⟨k - 1, by omega, j + 1, _, by omega, updL_self _ _ ⟨rfl, rfl, by rw [hn, if_neg h2, Int.add_zero]; rfl, rfl, trivial⟩, hS⟩
  · obtain rfl : j = 16 := by omega
    (repeat (first | (apply o_pure ok; · conv => { lhs; whnf; arg 1; whnf }) | refine c_seq ?_ | refine c_region ?_ | refine c_ret ?_ | refine c_exit ?_ | refine o_nil ?_ | refine q_then ?_ | refine q_then_e ?_ | refine q_blk_e ?_))
    exact out1 rfl ⟨rfl, Sat.modClose hS⟩

/-- The inodes that the first j descriptors stand for. -/
def seenN (d : Nat → Option (Nat × Dsc)) : Nat → List Int
  | 0 => []
  | j + 1 => match d j with
    | some x => if x.2.inum ∈ seenN d j then seenN d j else seenN d j ++ [x.2.inum]
    | none => seenN d j
def crowdedOf (m : Mod) (inum : Int) : Bool := if 0 < holdsOf m inum then false else decide (8 ≤ ((seenN m.d 16).length : Int))
theorem crowded_spec {w0 w : World} {G : List Asn} {p : Nat} {m : Mod} (inum : Int) (hS : Sat w0 w (modA p m :: G)) : CR Tryz.prog 101 [ptr p, vi inum] w fun v w' => v = .bool (crowdedOf m inum) ∧ Sat w0 w' (modA p m :: G) := by
  refine calls_enter Tryz.func101 rfl rfl rfl ?_
  (repeat (first | (apply o_ptr ok; rfl; · conv => { lhs; whnf }) | (apply o_pure ok; · conv => { lhs; whnf; arg 1; whnf }) | refine c_seq ?_ | refine c_region ?_ | refine o_nil ?_ | refine q_then ?_))
  refine o_call ok rfl rfl (holds_spec inum hS) (fun v w h => ?_)
  obtain ⟨rfl, hS⟩ := h
  (repeat (first | (apply o_pure ok; · conv => { lhs; whnf; arg 1; whnf }) | refine o_nil ?_ | refine q_then ?_))
  refine c_cond_d rfl (fun h0 => ?_) (fun h0 => ?_)
  · (repeat (first | (apply o_pure ok; · conv => { lhs; whnf; arg 1; whnf }) | refine c_seq ?_ | refine c_region ?_ | refine c_ret ?_ | refine o_nil ?_ | refine q_then ?_ | refine q_then_r ?_))
    exact out1 rfl ⟨by unfold crowdedOf; rw [if_pos h0]; rfl, hS⟩
  obtain ⟨ib, tv, hS⟩ := Sat.modOpen hS
  (repeat (first | refine c_seq ?_ | refine c_region ?_ | refine c_skip ?_ | refine q_then ?_))
  refine o_makeMap hS (fun b1 w hS => ?_)
  have hS := hS.weakH (D := mapA encI b1 (setKV [] (.agg #[]))) (fun _ h => ⟨#[], 0, mapOk_new encI, h⟩)
  (repeat (first | (apply o_ptr ok; rfl; · conv => { lhs; whnf }) | (apply o_pure ok; · conv => { lhs; whnf; arg 1; whnf }) | refine c_seq ?_ | refine c_region ?_ | refine o_nil ?_ | refine q_then ?_))
  apply o_rd hS (rd_loadA (m := 16) ok rfl rfl rfl rfl (i := 1) rfl (Nat.le_of_ble_eq_true rfl))
  rw [modC_descs]
  (repeat (first | (apply o_pure ok; · conv => { lhs; whnf; arg 1; whnf }) | refine c_block ?_ | refine o_nil ?_ | refine q_then ?_))
  refine c_loop (fun k g w => ∃ (j : Nat) (jk : Nat → Value), j + k = 16 ∧
    g = updL [(16, .agg (descsC m.d)), (17, vi j), (5, .map (some b1))] jk ∧
    Sat w0 w (mapA encI b1 (setKV (seenN m.d j) (.agg #[])) :: pt p (.cells (modC m.lay ib m.d tv) 58) :: mapA encI ib (itemsKV m.items) :: itemsA m.items :: descsA m.d :: toldA tv m.told :: G)) 16
    ⟨0, _, by omega, updL_self _ _ ⟨rfl, rfl, rfl, trivial⟩, hS⟩ ?_
  rintro k g w ⟨j, jk, hjk, rfl, hS⟩
  (repeat (first | (apply o_pure ok; · conv => { lhs; whnf; arg 1; whnf }) | refine c_seq ?_ | refine c_region ?_ | refine o_nil ?_ | refine q_then ?_))
  refine c_cond_d rfl (fun h1 => ?_) (fun h1 => ?_)
  · have hj : j < 16 := by omega
    cases hdj : m.d j with
    | none =>
      have hn : seenN m.d (j + 1) = seenN m.d j := by simp [seenN, hdj]
      (repeat (first | refine c_seq ?_ | refine c_region ?_ | refine c_block ?_ | refine c_skip ?_ | refine q_then ?_))
      refine o_indexA ok rfl rfl rfl rfl rfl rfl (by omega) (v := .pointer none) (by have := descsC_get (d := m.d) hj; rw [hdj] at this; exact this) ?_
      (repeat (first | (apply o_add; rfl; rfl; omega) | (apply o_pure ok; · conv => { lhs; whnf; arg 1; whnf }) | refine c_seq ?_ | refine c_region ?_ | refine c_skip ?_ | refine o_nil ?_ | refine q_then ?_ | refine q_blk_n ?_ | (apply c_cond_f; rfl)))
      exact ⟨k - 1, by omega, j + 1, _, by omega, updL_self _ _ ⟨rfl, rfl, rfl, trivial⟩, by rw [hn]; exact hS⟩
    | some x =>
      have hn : seenN m.d (j + 1) = if x.2.inum ∈ seenN m.d j then seenN m.d j else seenN m.d j ++ [x.2.inum] := by simp [seenN, hdj]
      (repeat (first | refine c_seq ?_ | refine c_region ?_ | refine c_block ?_ | refine c_skip ?_ | refine q_then ?_))
      refine o_indexA ok rfl rfl rfl rfl rfl rfl (by omega) (v := ptr x.1) (by have := descsC_get (d := m.d) hj; rw [hdj] at this; exact this) ?_
      have hS := Sat.descOpen (hS.bring 4 rfl) hj
      rw [hdj] at hS
      (repeat (first | (apply o_ptr ok; rfl; · conv => { lhs; whnf }) | (apply o_pure ok; · conv => { lhs; whnf; arg 1; whnf }) | refine c_seq ?_ | refine c_region ?_ | refine o_nil ?_ | refine q_then ?_ | (apply c_cond_t; rfl) | (apply o_rd hS; apply rd_build1 ok; rfl; rfl; rfl; rfl) | (apply o_rd hS; apply rd_load ok (i := 0); rfl; rfl; rfl; rfl; · conv => { lhs; whnf; arg 1; whnf })))
      refine o_setAdd ok keyOk_int (u := .agg #[]) hS rfl rfl rfl rfl rfl (i := 2) rfl (fun w hS => ?_)
      have hS := (Sat.descSome hj hdj hS).back 4 rfl
      (repeat (first | (apply o_add; rfl; rfl; omega) | (apply o_pure ok; · conv => { lhs; whnf; arg 1; whnf }) | refine c_region ?_ | refine o_nil ?_ | refine q_then ?_ | refine q_blk_n ?_))
      exact ⟨k - 1, by omega, j + 1, _, by omega, updL_self _ _ ⟨rfl, rfl, rfl, trivial⟩, by rw [hn]; exact hS⟩
  · obtain rfl : j = 16 := by omega
    have hl : (setKV (seenN m.d 16) (Value.agg #[])).length = (seenN m.d 16).length := by simp [setKV]
    (repeat (first | (apply o_pure ok; · conv => { lhs; whnf; arg 1; whnf }) | refine c_seq ?_ | refine c_region ?_ | refine c_exit ?_ | refine q_then ?_ | refine q_then_e ?_ | refine q_blk_e ?_))
    apply o_rd hS (rd_mlen ok rfl rfl (i := 0) rfl)
    (repeat (first | (apply o_pure ok; · conv => { lhs; whnf; arg 1; whnf }) | refine c_ret ?_ | refine o_nil ?_ | refine q_then ?_))
    exact out1 rfl ⟨by unfold crowdedOf; rw [if_neg h0, ← hl]; rfl, Sat.modClose hS.tail⟩
end Go.Proofs.YtllomopjoomdiaaGreat
end

section
namespace Go.Proofs.YtllomopjoomdiaaGreat
open Go.SL
/-- The indices of an item that are mapped. -/
def rangeI (n : Int) : List Int := (List.range n.toNat).map fun (i : Nat) => (i : Int)
def idxOf (t : It) : List Int := if t.kind = 2 then rangeI (blocksOf t.size) else t.data.map (·.1)
/-- What 'indices' may answer: a file's in whatever order. -/
def IdxOk (t : It) (l : List Int) : Prop := if t.kind = 2 then l = rangeI (blocksOf t.size) else l.Perm (t.data.map (·.1))
def SmallIt (t : It) : Prop := t.size ≤ 1099511627776 ∧ t.data.length ≤ 1048576
theorem IdxOk.len {t : It} {l : List Int} (hs : SmallIt t) (h : IdxOk t l) : l.length ≤ 1099511627776 := by
  unfold IdxOk at h
  split at h
  · subst h; simp [rangeI, blocksOf]; have := hs.1; split <;> omega
  · rw [h.length_eq]; simp; exact Nat.le_trans hs.2 (by decide)

theorem indicesP_spec {w0 w : World} {G : List Asn} {b : Nat} {t : It} {dm sv : Value} (hs : SmallIt t) (hS : Sat w0 w (itemP b t dm sv :: G)) : CR Tryz.prog 85 [ptr b] w fun v w' => ∃ l, IdxOk t l ∧ Sat w0 w' (rowA 3 1 v l.length (l.map vi) :: itemP b t dm sv :: G) := by
  refine calls_enter Tryz.func85 rfl rfl rfl ?_
  have hS := Sat.itemOpenP hS
  (repeat (first | (apply o_ptr ok; rfl; · conv => { lhs; whnf }) | (apply o_pure ok; · conv => { lhs; whnf; arg 1; whnf }) | refine c_seq ?_ | refine c_region ?_ | refine o_nil ?_ | refine q_then ?_ | (apply o_rd hS; apply rd_load ok (i := 0); rfl; rfl; rfl; rfl; · conv => { lhs; whnf; arg 1; whnf })))
  have hrow : Sat w0 w (rowA 3 1 (.slice none 0 0) 0 ([] : List Value) :: pt b (.cells (itemC t dm sv) 135) :: dataA t.kind dm t.data :: slotsA sv t.slots :: G) :=
    Sat.closeH [] hS fun g _ => rowA_nil 3 1 g
  refine c_cond_d rfl (fun h1 => ?_) (fun h1 => ?_)
  · (repeat (first | (apply o_ptr ok; rfl; · conv => { lhs; whnf }) | refine c_seq ?_ | refine c_region ?_ | (apply o_rd hS; apply rd_load ok (i := 0); rfl; rfl; rfl; rfl; · conv => { lhs; whnf; arg 1; whnf })))
    refine o_call ok rfl rfl (blocks_spec t.size _ (by have := hs.1; omega)) (fun v w' h => ?_)
    obtain ⟨rfl, rfl⟩ := h
    (repeat (first | (apply o_pure ok; · conv => { lhs; whnf; arg 1; whnf }) | refine c_block ?_ | refine o_nil ?_ | refine q_then ?_))
    refine c_loop (fun k g w => ∃ (j : Nat) (v : Value) (jk : Nat → Value), j + k = (blocksOf t.size).toNat ∧
      g = updL [(15, vi (blocksOf t.size)), (16, vi j), (3, v)] jk ∧
      Sat w0 w (rowA 3 1 v j ((List.range j).map fun (i : Nat) => vi i) :: pt b (.cells (itemC t dm sv) 135) :: dataA t.kind dm t.data :: slotsA sv t.slots :: G)) (blocksOf t.size).toNat
      ⟨0, _, _, by omega, updL_self _ _ ⟨rfl, rfl, rfl, trivial⟩, hrow⟩ ?_
    rintro k g w ⟨j, v, jk, hjk, rfl, hS⟩
    have hb : (blocksOf t.size).toNat ≤ 1099511627776 := by have := hs.1; unfold blocksOf; split <;> omega
    (repeat (first | (apply o_pure ok; · conv => { lhs; whnf; arg 1; whnf }) | refine c_seq ?_ | refine c_region ?_ | refine o_nil ?_ | refine q_then ?_))
    refine c_cond_d rfl (fun h2 => ?_) (fun h2 => ?_)
    · (repeat (first | (apply o_pure ok; · conv => { lhs; whnf; arg 1; whnf }) | refine c_seq ?_ | refine c_region ?_ | refine c_block ?_ | refine c_skip ?_ | refine o_nil ?_ | refine q_then ?_))
      refine o_buildS ok (vs := [vi j]) hS rfl rfl rfl rfl rfl rfl rfl rfl rfl (fun b2 w hS => ?_)
      have hS := hS.bring 1 rfl
      refine o_append ok hS rfl rfl rfl rfl rfl rfl rfl (i := 0) rfl (hS.ptSrc0 (i := 1) rfl) rfl rfl (by omega) (by omega) (fun v' w hS => ?_)
      (repeat (first | (apply o_add; rfl; rfl; omega) | (apply o_pure ok; · conv => { lhs; whnf; arg 1; whnf }) | refine c_region ?_ | refine o_nil ?_ | refine q_then ?_ | refine q_blk_n ?_))
      refine ⟨k - 1, by omega, j + 1, v', _, by omega, updL_self _ _ ⟨rfl, rfl, rfl, trivial⟩, ?_⟩
      have hS := ((hS.bring 1 rfl).tail)
      rw [List.range_succ, List.map_append]
      exact hS
    · have hj : j = (blocksOf t.size).toNat := by omega
      (repeat (first | (apply o_pure ok; · conv => { lhs; whnf; arg 1; whnf }) | refine c_seq ?_ | refine c_region ?_ | refine c_ret ?_ | refine c_exit ?_ | refine o_nil ?_ | refine q_then ?_ | refine q_then_r ?_ | refine q_then_e ?_ | refine q_blk_e ?_))
      refine out1 rfl ⟨rangeI (blocksOf t.size), by unfold IdxOk; rw [if_pos h1], ?_⟩
      have e1 : (rangeI (blocksOf t.size)).length = j := by simp [rangeI, hj]
      have e2 : (rangeI (blocksOf t.size)).map vi = (List.range j).map fun (i : Nat) => vi i := by simp [rangeI, hj, Function.comp_def]
      rw [e1, e2]
      exact Sat.itemCloseP1 hS
  · obtain ⟨mb, rfl, hS⟩ := Sat.dataFile hS (i := 1) rfl h1
    (repeat (first | (apply o_ptr ok; rfl; · conv => { lhs; whnf }) | refine c_seq ?_ | refine c_region ?_ | refine c_skip ?_ | refine q_then ?_ | (apply o_rd hS; apply rd_load ok (i := 0); rfl; rfl; rfl; rfl; · conv => { lhs; whnf; arg 1; whnf })))
    refine o_range ok hS rfl rfl (i := 1) rfl (fun r w hS => ?_)
    have hrow : Sat w0 w (rowA 3 1 (.slice none 0 0) 0 ([] : List Value) :: _) := Sat.closeH [] hS fun g _ => rowA_nil 3 1 g
    (repeat (first | refine c_block ?_ | refine o_nil ?_ | refine q_then ?_))
    refine c_loop (fun k g w => ∃ (l : List Int) (left : List (Int × Value)) (cur : Option (Int × Value)) (v : Value) (jk : Nat → Value), left.length = k ∧ (l ++ left.map (·.1)).Perm (t.data.map (·.1)) ∧
      g = updL [(29, .pointer (some ⟨r, 0, none⟩)), (3, v)] jk ∧
      Sat w0 w (rowA 3 1 v l.length (l.map vi) :: pt b (.cells (itemC t (.map (some mb)) sv) 135) :: iterA encI r mb (dataKV t.data) left cur :: slotsA sv t.slots :: G)) t.data.length
      ⟨[], dataKV t.data, none, _, _, by simp [dataKV], by simp [dataKV, Function.comp_def], updL_self _ _ ⟨rfl, rfl, trivial⟩, hrow⟩ ?_
    rintro k g w ⟨l, left, cur, v, jk, hk, hp, rfl, hS⟩
    have hlen : l.length + left.length = t.data.length := by have := hp.length_eq; simpa using this
    have hd := hs.2
    (repeat (first | refine c_seq ?_ | refine c_region ?_))
    refine o_next encI_inj hS rfl (i := 2) rfl (fun h => ?_) (fun q w' hq hS' => ?_)
    · subst h
      (repeat (first | (apply o_pure ok; · conv => { lhs; whnf; arg 1; whnf }) | refine c_seq ?_ | refine c_region ?_ | refine c_ret ?_ | refine c_exit ?_ | refine o_nil ?_ | refine q_then ?_ | refine q_then_e ?_ | refine q_blk_e ?_ | (apply c_cond_f; rfl)))
      refine out1 rfl ⟨l, by unfold IdxOk; rw [if_neg h1]; simpa using hp, ?_⟩
      exact Sat.itemCloseP1 (Sat.dataBack (Sat.iterDone hS (i := 2) rfl) (i := 2) rfl)
    · have hpm := Sat.iterPerm encI_inj hS (i := 2) rfl hq
      have hS := hS'
      have hml : left.length = (mdel left q.1).length + 1 := by have := hpm.length_eq; simpa using this
      (repeat (first | (apply o_pure ok; · conv => { lhs; whnf; arg 1; whnf }) | refine c_seq ?_ | refine c_region ?_ | refine c_block ?_ | refine c_skip ?_ | refine o_nil ?_ | refine q_then ?_ | (apply c_cond_t; rfl)))
      refine o_entry hS rfl (i := 2) rfl ?_
      (repeat (first | (apply o_pure ok; · conv => { lhs; whnf; arg 1; whnf }) | refine c_region ?_ | refine o_nil ?_ | refine q_then ?_))
      refine o_buildS ok (vs := [vi q.1]) hS rfl rfl rfl rfl rfl rfl rfl rfl rfl (fun b2 w hS => ?_)
      have hS := hS.bring 1 rfl
      refine o_append ok hS rfl rfl rfl rfl rfl rfl rfl (i := 0) rfl (hS.ptSrc0 (i := 1) rfl) rfl rfl (by omega) (by omega) (fun v' w hS => ?_)
      (repeat (first | (apply o_pure ok; · conv => { lhs; whnf; arg 1; whnf }) | refine o_nil ?_ | refine q_then ?_ | refine q_blk_n ?_))
      refine ⟨(mdel left q.1).length, by omega, l ++ [q.1], mdel left q.1, some q, v', _, rfl, ?_, updL_self _ _ ⟨rfl, rfl, trivial⟩, ?_⟩
      · rw [List.append_assoc]
        exact ((hpm.map (·.1)).append_left l).symm.trans hp
      · have hS := ((hS.bring 1 rfl).tail)
        rw [List.length_append, List.map_append]
        exact hS
theorem indices_spec {w0 w : World} {G : List Asn} {b : Nat} {t : It} (hs : SmallIt t) (hS : Sat w0 w (itemA b t :: G)) : CR Tryz.prog 85 [ptr b] w fun v w' => ∃ l, IdxOk t l ∧ Sat w0 w' (rowA 3 1 v l.length (l.map vi) :: itemA b t :: G) := by
  obtain ⟨dm, sv, hS⟩ := Sat.itemToP hS
  refine (indicesP_spec hs hS).mono ?_
  rintro v w' ⟨l, hl, hS⟩
  exact ⟨l, hl, Sat.itemOfP hS (i := 1) rfl⟩
end Go.Proofs.YtllomopjoomdiaaGreat
end
