/- ModelNone holds: a model that is nil, or that nobody made, answers every call with ErrNil and nothing else, for every list of calls; without conditions. -/
import Derived.Test.YtllomopjoomdiaaGreatNoneD
import Derived.Laws.StructEq
import Derived.Test.YtllomopjoomdiaaGreatRows
import Derived.WalkKit
import Derived.ProofKit
import Derived.OpenShut
import Derived.Deep.Slices
import Derived.Carry
import Derived.SizedLaws
section
namespace Go.Proofs.YtllomopjoomdiaaGreat
open Go.SL
/-- Descriptors stand for items that there are, at places that may be. -/
def DOk (m : Mod) : Prop := ∀ i x, i < 16 → m.d i = some x → (0 ≤ x.2.place ∧ x.2.place ≤ 67381248) ∧ ∃ y, getX m.items x.2.inum = some y ∧ (¬band x.2.flags 2 = 0 → ¬y.2.2.kind = 2)
theorem getOk_flag {m : Mod} {fd flag : Int} {x : Nat × Dsc} (h : getOk m fd flag = some x) : band x.2.flags flag = flag := by
  unfold getOk at h
  split at h
  · cases h
  · split at h
    · cases h
    · split at h
      · cases h
      · split at h
        · rename_i hf; cases h; exact hf
        · cases h
theorem DOk.get {m : Mod} (h : DOk m) {fd flag : Int} {x : Nat × Dsc} (hg : getOk m fd flag = some x) : (0 ≤ x.2.place ∧ x.2.place ≤ 67381248) ∧ ∃ y, getX m.items x.2.inum = some y ∧ (¬band x.2.flags 2 = 0 → ¬y.2.2.kind = 2) := by
  obtain ⟨h1, h2, h3⟩ := getOk_some hg
  exact h _ _ (by omega) h3
theorem DOk.write {m : Mod} (h : DOk m) {fd : Int} : ∀ x, getOk m fd 2 = some x → (0 ≤ x.2.place ∧ x.2.place ≤ 67381248) ∧ ∃ y, getX m.items x.2.inum = some y ∧ ¬y.2.2.kind = 2 := fun x hg => by
  obtain ⟨h1, y, h2, h3⟩ := h.get hg
  have := getOk_flag hg
  exact ⟨h1, y, h2, h3 (by rw [this]; decide)⟩
/-- The base that a seek goes from. -/
def baseOf (m : Mod) (x : Dsc) (flags : Int) : Option Int := if flags = 0 then some 0 else if flags = 1 then some x.place else if flags = 2 then (getX m.items x.inum).map (·.2.2.size) else none
def seekM (m : Mod) (fd size flags : Int) : Mod × Int × Int := match getOk m fd 0 with
  | none => (m, 0, 13)
  | some x => match baseOf m x.2 flags with
    | none => (m, 0, 4)
    | some b => if size < -b then (m, 0, 4) else if 67381248 - b < size then (m, 0, 4) else (putD m fd (some (x.1, ⟨x.2.inum, b + size, x.2.flags⟩)), b + size, 0)
theorem modC_place {y : Lay} {ib : Nat} {d : Nat → Option (Nat × Dsc)} {tv : Value} {j : Nat} {x : Nat × Dsc} (hj : j < 16) (hd : d j = some x) (z : Dsc) : modC y ib (setD d j (some (x.1, z))) tv = modC y ib d tv := by
  rw [← modC_set (o := some (x.1, z)) hj]
  have := modC_desc (y := y) (ib := ib) (d := d) (tv := tv) hj
  rw [hd] at this
  exact set_same this
theorem seek_spec {w0 w : World} {G : List Asn} {p : Nat} {m : Mod} {fd size flags : Int} (hf : Fine m) (hd : DOk m) (hS : Sat w0 w (modA p m :: G)) :
    CR Tryz.prog 58 [ptr p, vi fd, vi size, vi flags] w fun v w' => v = .tuple #[vi (seekM m fd size flags).2.1, vi (seekM m fd size flags).2.2] ∧ Sat w0 w' (modA p (seekM m fd size flags).1 :: G) := by
  refine calls_enter Tryz.func58 rfl rfl rfl ?_
  unfold seekM
  (repeat (first | (apply o_ptr ok; rfl; · conv => { lhs; whnf }) | (apply o_pure ok; · conv => { lhs; whnf; arg 1; whnf }) | refine c_seq ?_ | refine c_region ?_ | refine o_nil ?_ | refine q_then ?_))
  refine o_call ok rfl rfl (get_spec fd 0 hS) (fun v w h => ?_)
  obtain ⟨rfl, hS⟩ := h
  cases hg : getOk m fd 0 with
  | none =>
    unfold getR
    (repeat (first | (apply o_pure ok; · conv => { lhs; whnf; arg 1; whnf }) | refine c_seq ?_ | refine c_region ?_ | refine c_ret ?_ | refine o_nil ?_ | refine q_then ?_ | refine q_then_r ?_ | (apply c_cond_t; rfl)))
    exact out2 rfl ⟨rfl, hS⟩
  | some x =>
    obtain ⟨hp, y, hy, _⟩ := hd.get hg
    obtain ⟨hf0, hf16, hdx⟩ := getOk_some hg
    have hity := hf.it y (getX_some hy).1
    have hs0 := hity.size0
    have hs1 := hity.size1
    have hj : fd.toNat < 16 := by omega
    unfold getR
    simp only
    have hkeys := Sat.keysM hS
    obtain ⟨ib, tv, hS⟩ := Sat.modOpen hS
    have hS := Sat.itOpen hkeys hy (hS.bring 2 rfl)
    obtain ⟨dm, sv, hS⟩ := Sat.itemOpen hS
    have hS := Sat.descOpen (hS.bring 6 rfl) hj
    rw [hdx] at hS
    have hS : Sat w0 w (descA (some x) :: restD m.d fd.toNat :: pt y.2.1 (.cells (itemC y.2.2 dm sv) 135) :: dataA y.2.2.kind dm y.2.2.data :: slotsA sv y.2.2.slots :: itemsA (without m.items x.2.inum) :: pt p (.cells (modC m.lay ib m.d tv) 58) :: mapA encI ib (itemsKV m.items) :: toldA tv m.told :: G) := hS
    have close : ∀ {w : World} {o : Option (Nat × Dsc)} {d : Nat → Option (Nat × Dsc)}, setD m.d fd.toNat o = d → Sat w0 w (descA o :: restD m.d fd.toNat :: pt y.2.1 (.cells (itemC y.2.2 dm sv) 135) :: dataA y.2.2.kind dm y.2.2.data :: slotsA sv y.2.2.slots :: itemsA (without m.items x.2.inum) :: pt p (.cells (modC m.lay ib d tv) 58) :: mapA encI ib (itemsKV m.items) :: toldA tv m.told :: G) → Sat w0 w (modA p { m with d := d } :: G) := fun {w o d} hdd hS => by
      subst hdd
      have hS := Sat.descClose hj o hS
      have hS := hS.back 6 rfl
      have hS := Sat.itSame hkeys hy (Sat.itemClose hS)
      exact Sat.modClose (m := { m with d := setD m.d fd.toNat o }) (hS.back 2 rfl)
    have same : ∀ {w : World}, Sat w0 w (descA (some x) :: restD m.d fd.toNat :: pt y.2.1 (.cells (itemC y.2.2 dm sv) 135) :: dataA y.2.2.kind dm y.2.2.data :: slotsA sv y.2.2.slots :: itemsA (without m.items x.2.inum) :: pt p (.cells (modC m.lay ib m.d tv) 58) :: mapA encI ib (itemsKV m.items) :: toldA tv m.told :: G) → Sat w0 w (modA p m :: G) := fun hS => close (d := m.d) (by rw [← hdx]; exact setD_self _ _) hS
    have hS : Sat w0 w (pt x.1 (.cells #[vi x.2.inum, vi x.2.place, vi x.2.flags] 125) :: restD m.d fd.toNat :: pt y.2.1 (.cells (itemC y.2.2 dm sv) 135) :: dataA y.2.2.kind dm y.2.2.data :: slotsA sv y.2.2.slots :: itemsA (without m.items x.2.inum) :: pt p (.cells (modC m.lay ib m.d tv) 58) :: mapA encI ib (itemsKV m.items) :: toldA tv m.told :: G) := hS
    have hneg : ∀ b : Int, 0 ≤ b ∧ b ≤ 67381248 → IntKind.i64.wrap (0 - b) = -b := fun b h => by rw [w_i64 (by omega)]; omega
    (repeat (first | (apply o_ptr ok; rfl; · conv => { lhs; whnf }) | (apply o_pure ok; · conv => { lhs; whnf; arg 1; whnf }) | refine c_seq ?_ | refine c_region ?_ | refine c_block ?_ | refine c_skip ?_ | refine o_nil ?_ | refine q_then ?_ | (apply c_cond_f; rfl)))
    refine c_cond_d rfl (fun h1 => ?_) (fun h1 => ?_)
    have hb : baseOf m x.2 flags = some 0 := by unfold baseOf; rw [if_pos h1]
    have hbb : (0 : Int) ≤ 0 ∧ (0 : Int) ≤ 67381248 := by decide
    (repeat (first | (apply o_pure ok; · conv => { lhs; whnf; arg 1; whnf }) | refine c_seq ?_ | refine c_region ?_ | refine c_skip ?_ | refine q_then ?_ | refine q_blk_n ?_))
    rotate_left
    (repeat (first | (apply o_pure ok; · conv => { lhs; whnf; arg 1; whnf }) | refine c_seq ?_ | refine c_region ?_ | refine o_nil ?_ | refine q_then ?_))
    refine c_cond_d rfl (fun h2 => ?_) (fun h2 => ?_)
    have hb : baseOf m x.2 flags = some x.2.place := by unfold baseOf; rw [if_neg h1, if_pos h2]
    have hbb := hp
    (repeat (first | (apply o_ptr ok; rfl; · conv => { lhs; whnf }) | (apply o_pure ok; · conv => { lhs; whnf; arg 1; whnf }) | refine c_seq ?_ | refine c_region ?_ | refine o_nil ?_ | refine q_then ?_ | refine q_blk_n ?_ | (apply o_rd hS; apply rd_load ok (i := 0); rfl; rfl; rfl; rfl; · conv => { lhs; whnf; arg 1; whnf })))
    rotate_left
    (repeat (first | (apply o_pure ok; · conv => { lhs; whnf; arg 1; whnf }) | refine c_seq ?_ | refine c_region ?_ | refine o_nil ?_ | refine q_then ?_))
    refine c_cond_d rfl (fun h3 => ?_) (fun h3 => ?_)
    have hb : baseOf m x.2 flags = some y.2.2.size := by unfold baseOf; rw [if_neg h1, if_neg h2, if_pos h3, hy]; rfl
    have hbb : 0 ≤ y.2.2.size ∧ y.2.2.size ≤ 67381248 := ⟨hs0, hs1⟩
    skip
    refine region_q 12 mixed (by kernel_rfl) hS ?_
    (repeat (first | (apply r_ptr ok rfl; rfl; · conv => { lhs; whnf }) | (apply r_rd rfl; apply rd_load ok (i := 0); rfl; rfl; rfl; rfl; · conv => { lhs; whnf; arg 1; whnf }) | (apply r_rd rfl; apply rd_load ok (i := 6); rfl; rfl; rfl; rfl; · conv => { lhs; whnf; arg 1; whnf })))
    refine r_rd (v := ptr y.2.1) rfl (rd_item ok hy rfl rfl rfl rfl rfl (i := 7) rfl) ?_
    (repeat (first | (apply r_ptr ok rfl; rfl; · conv => { lhs; whnf }) | (apply r_rd rfl; apply rd_load ok (i := 2); rfl; rfl; rfl; rfl; · conv => { lhs; whnf; arg 1; whnf }) | refine r_nil ?_))
    intro w hS
    (repeat (first | (apply o_pure ok; · conv => { lhs; whnf; arg 1; whnf }) | refine c_seq ?_ | refine c_region ?_ | refine o_nil ?_ | refine q_then ?_ | refine q_blk_n ?_))
    rotate_left
    have hb : baseOf m x.2 flags = none := by unfold baseOf; rw [if_neg h1, if_neg h2, if_neg h3]
    · rw [hb]
      simp only
      (repeat (first | (apply o_pure ok; · conv => { lhs; whnf; arg 1; whnf }) | refine c_seq ?_ | refine c_region ?_ | refine c_ret ?_ | refine o_nil ?_ | refine q_then ?_ | refine q_then_r ?_ | refine q_blk_r ?_))
      exact out2 rfl ⟨rfl, same hS⟩
    all_goals (
      rw [hb]
      simp only
      refine o_guard_d rfl rfl rfl (fun h4 => ?_) (fun h4 => ?_)
      · rw [hneg _ hbb] at h4
        rw [if_pos h4]
        (repeat (first | (apply o_pure ok; · conv => { lhs; whnf; arg 1; whnf }) | refine c_seq ?_ | refine c_region ?_ | refine c_ret ?_ | refine o_nil ?_ | refine q_then ?_ | refine q_then_r ?_ | (apply c_cond_t; rfl) | refine o_pass rfl rfl rfl rfl ?_))
        exact out2 rfl ⟨rfl, same hS⟩
      rw [hneg _ hbb] at h4
      rw [if_neg h4]
      (repeat (first | (apply o_sub; rfl; rfl; omega) | (apply o_pure ok; · conv => { lhs; whnf; arg 1; whnf }) | refine o_nil ?_ | refine q_then ?_ | refine o_want rfl rfl rfl ?_))
      refine c_cond_d rfl (fun h5 => ?_) (fun h5 => ?_)
      · rw [if_pos h5]
        (repeat (first | (apply o_pure ok; · conv => { lhs; whnf; arg 1; whnf }) | refine c_seq ?_ | refine c_region ?_ | refine c_ret ?_ | refine o_nil ?_ | refine q_then ?_ | refine q_then_r ?_))
        exact out2 rfl ⟨rfl, same hS⟩
      rw [if_neg h5]
      (repeat (first | (apply o_add; rfl; rfl; omega) | (apply o_ptr ok; rfl; · conv => { lhs; whnf }) | (apply o_pure ok; · conv => { lhs; whnf; arg 1; whnf }) | refine c_seq ?_ | refine c_region ?_ | refine c_skip ?_ | refine q_then ?_))
      (apply o_store ok hS (i := 0); rfl; (conv => { lhs; whnf }); rfl; rfl; rfl; rfl; intro w hS)
      (repeat (first | (apply o_ptr ok; rfl; · conv => { lhs; whnf }) | (apply o_pure ok; · conv => { lhs; whnf; arg 1; whnf }) | refine c_seq ?_ | refine c_region ?_ | refine c_ret ?_ | refine o_nil ?_ | refine q_then ?_ | (apply o_rd hS; apply rd_load ok (i := 0); rfl; rfl; rfl; rfl; · conv => { lhs; whnf; arg 1; whnf })))
      exact out2 rfl ⟨rfl, close rfl (o := some (x.1, ⟨x.2.inum, _, x.2.flags⟩)) (by rw [modC_place hj hdx]; exact hS)⟩)
end Go.Proofs.YtllomopjoomdiaaGreat
end

section
namespace Go.Proofs.YtllomopjoomdiaaGreat
open Go.SL
theorem cut_trimmed {m : Mod} {k s : Int} {x : Itm} (hf : Fine m) (hx : getX m.items k = some x) (hk : ¬x.2.2.kind = 2) (hs : 0 ≤ s ∧ s ≤ 67381248) : ∃ n y, n ≤ 65804 ∧ Trimmed m (cutM m k s) k x.2.1 x.2.2.kind n y := by
  have hlm := lastOf_max (hf.it x (getX_some hx).1) (blocksOf s)
  have h0 : Trimmed m m k x.2.1 x.2.2.kind 0 x := ⟨hf, hx, rfl, rfl, by omega⟩
  unfold cutM
  rw [hx]
  simp only
  split
  · exact ⟨0, x, by omega, h0⟩
  · obtain ⟨y, hy⟩ := trimAll_ok (s := s) (by omega) (fuelOf x.2.2 s) m 0 x h0
    have e : trimsM m k s = trimAll (fuelOf x.2.2 s) m k s := by unfold trimsM; rw [hx]
    have hfu : fuelOf x.2.2 s ≤ 65803 := by unfold fuelOf; omega
    rw [e, hy.at_]
    simp only
    split
    · refine ⟨0 + fuelOf x.2.2 s + 1, (y.1, y.2.1, resizeOf y.2.2 s), by omega, (hy.fine.upd (resize_ok (hy.fine.it y (getX_some hy.at_).1) (by rw [hy.kind]; exact hk) hs)).step, getX_upd hy.at_ _, hy.ptr, hy.kind, ?_⟩
      have := hy.told
      show ((trimAll _ m k s).told ++ [_]).length ≤ _
      rw [List.length_append]; simp; omega
    · exact ⟨_, y, by omega, hy⟩
def truncM (m : Mod) (fd size : Int) : Mod × Int := match getOk m fd 2 with
  | none => (m, 13)
  | some x => if size < 0 then (m, 4) else if 67381248 < size then (m, 17) else match getX (cutM m x.2.inum size).items x.2.inum with
    | none => (cutM m x.2.inum size, 0)
    | some y => if y.2.2.size < size then (stepM (updM (cutM m x.2.inum size) x.2.inum (resizeOf y.2.2 size)), 0) else (cutM m x.2.inum size, 0)
theorem trunc_spec {w0 w : World} {G : List Asn} {p : Nat} {m : Mod} {fd size : Int} (hf : Fine m) (hT : m.told.length ≤ 800000000) (hd : DOk m) (hS : Sat w0 w (modA p m :: G)) :
    CR Tryz.prog 59 [ptr p, vi fd, vi size] w fun v w' => v = vi (truncM m fd size).2 ∧ Sat w0 w' (modA p (truncM m fd size).1 :: G) := by
  refine calls_enter Tryz.func59 rfl rfl rfl ?_
  unfold truncM
  (repeat (first | (apply o_ptr ok; rfl; · conv => { lhs; whnf }) | (apply o_pure ok; · conv => { lhs; whnf; arg 1; whnf }) | refine c_seq ?_ | refine c_region ?_ | refine o_nil ?_ | refine q_then ?_))
  refine o_call ok rfl rfl (get_spec fd 2 hS) (fun v w h => ?_)
  obtain ⟨rfl, hS⟩ := h
  cases hg : getOk m fd 2 with
  | none =>
    unfold getR
    (repeat (first | (apply o_pure ok; · conv => { lhs; whnf; arg 1; whnf }) | refine c_seq ?_ | refine c_region ?_ | refine c_block ?_ | refine c_ret ?_ | refine o_nil ?_ | refine q_then ?_ | refine q_then_r ?_ | refine q_blk_r ?_ | (apply c_cond_t; rfl)))
    exact out1 rfl ⟨rfl, hS⟩
  | some x =>
    obtain ⟨hp, y, hy, hyk⟩ := hd.write x hg
    obtain ⟨hf0, hf16, hdx⟩ := getOk_some hg
    have hj : fd.toNat < 16 := by omega
    unfold getR
    simp only
    (repeat (first | (apply o_ptr ok; rfl; · conv => { lhs; whnf }) | (apply o_pure ok; · conv => { lhs; whnf; arg 1; whnf }) | refine c_seq ?_ | refine c_region ?_ | refine c_block ?_ | refine o_nil ?_ | refine q_then ?_ | (apply c_cond_f; rfl)))
    refine c_cond_d rfl (fun h1 => ?_) (fun h1 => ?_)
    · rw [if_pos h1]
      (repeat (first | (apply o_pure ok; · conv => { lhs; whnf; arg 1; whnf }) | refine c_seq ?_ | refine c_region ?_ | refine c_ret ?_ | refine o_nil ?_ | refine q_then ?_ | refine q_then_r ?_ | refine q_blk_r ?_))
      exact out1 rfl ⟨rfl, hS⟩
    rw [if_neg h1]
    (repeat (first | (apply o_pure ok; · conv => { lhs; whnf; arg 1; whnf }) | refine c_seq ?_ | refine c_region ?_ | refine o_nil ?_ | refine q_then ?_))
    refine c_cond_d rfl (fun h2 => ?_) (fun h2 => ?_)
    · rw [if_pos h2]
      (repeat (first | (apply o_pure ok; · conv => { lhs; whnf; arg 1; whnf }) | refine c_seq ?_ | refine c_region ?_ | refine c_ret ?_ | refine o_nil ?_ | refine q_then ?_ | refine q_then_r ?_ | refine q_blk_r ?_))
      exact out1 rfl ⟨rfl, hS⟩
    rw [if_neg h2]
    obtain ⟨ib, tv, hS⟩ := Sat.modOpen hS
    have hS := Sat.descOpen (hS.bring 3 rfl) hj
    rw [hdx] at hS
    (repeat (first | refine c_seq ?_ | refine c_skip ?_ | refine q_then ?_ | refine q_blk_n ?_))
    refine region_q 9 mixed (by kernel_rfl) hS ?_
    (repeat (first | (apply r_ptr ok rfl; rfl; · conv => { lhs; whnf }) | (apply r_rd rfl; apply rd_load ok (i := 0); rfl; rfl; rfl; rfl; · conv => { lhs; whnf; arg 1; whnf }) | (apply r_rd rfl; apply rd_load ok (i := 2); rfl; rfl; rfl; rfl; · conv => { lhs; whnf; arg 1; whnf })))
    refine r_rd (v := ptr y.2.1) rfl (rd_item ok hy rfl rfl rfl rfl rfl (i := 3) rfl) ?_
    (repeat (first | refine r_nil ?_))
    intro w hS
    have hS := Sat.modClose ((Sat.descSome hj hdx hS).back 3 rfl)
    (repeat (first | (apply o_ptr ok; rfl; · conv => { lhs; whnf }) | (apply o_pure ok; · conv => { lhs; whnf; arg 1; whnf }) | refine c_seq ?_ | refine c_region ?_ | refine o_nil ?_ | refine q_then ?_))
    obtain ⟨n, z, hn, hz⟩ := cut_trimmed hf hy hyk (s := size) (by omega)
    refine o_call ok rfl rfl (cut_spec hf (by omega) hy hyk (by omega) hS) (fun v w h => ?_)
    obtain ⟨rfl, hS⟩ := h
    rw [hz.at_]
    simp only
    have hkeys := Sat.keysM hS
    have hS := Sat.itTake hz.at_ hS
    obtain ⟨dm, sv, hS⟩ := Sat.itemOpen hS
    rw [hz.ptr] at hS
    (repeat (first | (apply o_ptr ok; rfl; · conv => { lhs; whnf }) | (apply o_pure ok; · conv => { lhs; whnf; arg 1; whnf }) | refine c_seq ?_ | refine c_region ?_ | refine o_nil ?_ | refine q_then ?_ | (apply o_rd hS; apply rd_load ok (i := 0); rfl; rfl; rfl; rfl; · conv => { lhs; whnf; arg 1; whnf })))
    have hS := Sat.itBack hkeys hz.at_ (by rw [hz.ptr]; exact Sat.itemClose hS)
    have ht := hz.told
    refine c_cond_d rfl (fun h3 => ?_) (fun h3 => ?_)
    · rw [if_pos h3]
      (repeat (first | (apply o_ptr ok; rfl; · conv => { lhs; whnf }) | (apply o_pure ok; · conv => { lhs; whnf; arg 1; whnf }) | refine c_region ?_))
      refine o_call ok rfl rfl (by rw [← hz.ptr]; exact resize_spec hz.fine (by omega) hz.at_ (by rw [hz.kind]; exact hyk) (by omega) hS) (fun v w h => ?_)
      obtain ⟨rfl, hS⟩ := h
      (repeat (first | (apply o_pure ok; · conv => { lhs; whnf; arg 1; whnf }) | refine c_seq ?_ | refine c_region ?_ | refine c_ret ?_ | refine o_nil ?_ | refine q_then ?_))
      exact out1 rfl ⟨rfl, hS⟩
    · rw [if_neg h3]
      (repeat (first | (apply o_pure ok; · conv => { lhs; whnf; arg 1; whnf }) | refine c_seq ?_ | refine c_region ?_ | refine c_skip ?_ | refine c_ret ?_ | refine o_nil ?_ | refine q_then ?_))
      exact out1 rfl ⟨rfl, hS⟩
end Go.Proofs.YtllomopjoomdiaaGreat
end

section
namespace Go.Proofs.YtllomopjoomdiaaGreat
open Go.SL
def chunkN (t : It) (size : Int) (out : List Int) (pl : Int) : Int := min (min (size - out.length) (t.size - pl)) (1024 - pl % 1024)
/-- Bytes are read from a place on. -/
def readGo (t : It) (size : Int) : Nat → List Int → Int → List Int × Int
  | 0, out, pl => (out, pl)
  | k + 1, out, pl => if (out.length : Int) < size then (if pl < t.size then
      readGo t size k (out ++ (((getB t.data (pl / 1024)).getD zeroB).drop (pl % 1024).toNat).take (chunkN t size out pl).toNat) (pl + chunkN t size out pl) else (out, pl)) else (out, pl)
def readM (m : Mod) (fd size : Int) : Mod × List Int × Int := match getOk m fd 1 with
  | none => (m, [], 13)
  | some x => if size < 0 then (m, [], 4) else if 65536 < size then (m, [], 4) else match getX m.items x.2.inum with
    | none => (m, [], 0)
    | some y => if y.2.2.kind = 2 then (m, [], 8) else
      (putD m fd (some (x.1, ⟨x.2.inum, (readGo y.2.2 size size.toNat [] x.2.place).2, x.2.flags⟩)), (readGo y.2.2 size size.toNat [] x.2.place).1, 0)
theorem readGo_stop {t : It} {size : Int} {out : List Int} {pl : Int} (h : ¬((out.length : Int) < size ∧ pl < t.size)) : ∀ k, readGo t size k out pl = (out, pl)
  | 0 => rfl
  | k + 1 => by
    unfold readGo
    split
    · split
      · exact absurd ⟨by assumption, by assumption⟩ h
      · rfl
    · rfl
theorem read_spec {w0 w : World} {G : List Asn} {p : Nat} {m : Mod} {fd size : Int} (hf : Fine m) (hd : DOk m) (hS : Sat w0 w (modA p m :: G)) :
    CR Tryz.prog 56 [ptr p, vi fd, vi size] w fun v w' => ∃ ov, v = .tuple #[ov, vi (readM m fd size).2.2] ∧ Sat w0 w' (rowA 5 1 ov (readM m fd size).2.1.length (blkC (readM m fd size).2.1) :: modA p (readM m fd size).1 :: G) := by
  refine calls_enter Tryz.func56 rfl rfl rfl ?_
  have nil0 : ∀ {w : World} {G : List Asn}, Sat w0 w G → Sat w0 w (rowA 5 1 (.slice none 0 0) 0 ([] : List Value) :: G) := fun hS => Sat.closeH [] hS (fun g _ => rowA_nil _ _ g)
  (repeat (first | (apply o_ptr ok; rfl; · conv => { lhs; whnf }) | (apply o_pure ok; · conv => { lhs; whnf; arg 1; whnf }) | refine c_seq ?_ | refine c_region ?_ | refine o_nil ?_ | refine q_then ?_))
  refine o_call ok rfl rfl (get_spec fd 1 hS) (fun v w h => ?_)
  obtain ⟨rfl, hS⟩ := h
  cases hg : getOk m fd 1 with
  | none =>
    have e : readM m fd size = (m, [], 13) := by unfold readM; rw [hg]
    unfold getR
    (repeat (first | (apply o_pure ok; · conv => { lhs; whnf; arg 1; whnf }) | refine c_seq ?_ | refine c_region ?_ | refine c_block ?_ | refine c_ret ?_ | refine o_nil ?_ | refine q_then ?_ | refine q_then_r ?_ | refine q_blk_r ?_ | (apply c_cond_t; rfl)))
    exact out2 rfl ⟨_, by rw [e]; rfl, by rw [e]; exact nil0 hS⟩
  | some x =>
    obtain ⟨hp, y, hy, _⟩ := hd.get hg
    obtain ⟨hf0, hf16, hdx⟩ := getOk_some hg
    have hj : fd.toNat < 16 := by omega
    have hit := hf.it y (getX_some hy).1
    unfold getR
    (repeat (first | (apply o_ptr ok; rfl; · conv => { lhs; whnf }) | (apply o_pure ok; · conv => { lhs; whnf; arg 1; whnf }) | refine c_seq ?_ | refine c_region ?_ | refine c_block ?_ | refine o_nil ?_ | refine q_then ?_ | (apply c_cond_f; rfl)))
    refine o_guard_d rfl rfl rfl (fun h1 => ?_) (fun h1 => ?_)
    · have e : readM m fd size = (m, [], 4) := by unfold readM; rw [hg]; simp only; rw [if_pos h1]
      (repeat (first | (apply o_pure ok; · conv => { lhs; whnf; arg 1; whnf }) | refine c_seq ?_ | refine c_region ?_ | refine c_ret ?_ | refine o_nil ?_ | refine q_then ?_ | refine q_then_r ?_ | refine q_blk_r ?_ | (apply c_cond_t; rfl) | refine o_pass rfl rfl rfl rfl ?_))
      exact out2 rfl ⟨_, by rw [e]; rfl, by rw [e]; exact nil0 hS⟩
    (repeat (first | (apply o_pure ok; · conv => { lhs; whnf; arg 1; whnf }) | refine o_nil ?_ | refine q_then ?_ | refine o_want rfl rfl rfl ?_))
    refine c_cond_d rfl (fun h2 => ?_) (fun h2 => ?_)
    · have e : readM m fd size = (m, [], 4) := by unfold readM; rw [hg]; simp only; rw [if_neg h1, if_pos h2]
      (repeat (first | (apply o_pure ok; · conv => { lhs; whnf; arg 1; whnf }) | refine c_seq ?_ | refine c_region ?_ | refine c_ret ?_ | refine o_nil ?_ | refine q_then ?_ | refine q_then_r ?_ | refine q_blk_r ?_))
      exact out2 rfl ⟨_, by rw [e]; rfl, by rw [e]; exact nil0 hS⟩
    have hkeys := Sat.keysM hS
    obtain ⟨ib, tv, hS⟩ := Sat.modOpen hS
    have hS := Sat.itOpen hkeys hy (hS.bring 2 rfl)
    obtain ⟨dm, sv, hS⟩ := Sat.itemOpen hS
    have hS := Sat.descOpen (hS.bring 6 rfl) hj
    rw [hdx] at hS
    have close : ∀ {w : World} {G : List Asn} {o : Option (Nat × Dsc)} {d : Nat → Option (Nat × Dsc)} {dm sv : Value}, setD m.d fd.toNat o = d → Sat w0 w (descA o :: restD m.d fd.toNat :: pt y.2.1 (.cells (itemC y.2.2 dm sv) 135) :: dataA y.2.2.kind dm y.2.2.data :: slotsA sv y.2.2.slots :: itemsA (without m.items x.2.inum) :: pt p (.cells (modC m.lay ib d tv) 58) :: mapA encI ib (itemsKV m.items) :: toldA tv m.told :: G) → Sat w0 w (modA p { m with d := d } :: G) := fun {w G o d dm sv} hdd hS => by
      subst hdd
      have hS := Sat.descClose hj o hS
      have hS := hS.back 6 rfl
      have hS := Sat.itSame hkeys hy (Sat.itemClose hS)
      exact Sat.modClose (m := { m with d := setD m.d fd.toNat o }) (hS.back 2 rfl)
    have hS : Sat w0 w (pt x.1 (.cells #[vi x.2.inum, vi x.2.place, vi x.2.flags] 125) :: restD m.d fd.toNat :: pt y.2.1 (.cells (itemC y.2.2 dm sv) 135) :: dataA y.2.2.kind dm y.2.2.data :: slotsA sv y.2.2.slots :: itemsA (without m.items x.2.inum) :: pt p (.cells (modC m.lay ib m.d tv) 58) :: mapA encI ib (itemsKV m.items) :: toldA tv m.told :: G) := hS
    (repeat (first | refine c_seq ?_))
    refine region_q 13 mixed (by kernel_rfl) hS ?_
    (repeat (first | (apply r_ptr ok rfl; rfl; · conv => { lhs; whnf }) | (apply r_rd rfl; apply rd_load ok (i := 0); rfl; rfl; rfl; rfl; · conv => { lhs; whnf; arg 1; whnf }) | (apply r_rd rfl; apply rd_load ok (i := 6); rfl; rfl; rfl; rfl; · conv => { lhs; whnf; arg 1; whnf })))
    refine r_rd (v := ptr y.2.1) rfl (rd_item ok hy rfl rfl rfl rfl rfl (i := 7) rfl) ?_
    (repeat (first | (apply r_ptr ok rfl; rfl; · conv => { lhs; whnf }) | (apply r_pure ok rfl; · conv => { lhs; whnf; arg 1; whnf }) | (apply r_rd rfl; apply rd_load ok (i := 2); rfl; rfl; rfl; rfl; · conv => { lhs; whnf; arg 1; whnf }) | refine r_nil ?_))
    intro w hS
    (repeat (first | (apply o_pure ok; · conv => { lhs; whnf; arg 1; whnf }) | refine o_nil ?_ | refine q_then ?_))
    refine c_cond_d rfl (fun h3 => ?_) (fun h3 => ?_)
    · have e : readM m fd size = (m, [], 8) := by unfold readM; rw [hg]; simp only; rw [if_neg h1, if_neg h2, hy]; simp only; rw [if_pos h3]
      (repeat (first | (apply o_pure ok; · conv => { lhs; whnf; arg 1; whnf }) | refine c_seq ?_ | refine c_region ?_ | refine c_ret ?_ | refine o_nil ?_ | refine q_then ?_ | refine q_then_r ?_ | refine q_blk_r ?_))
      exact out2 rfl ⟨_, by rw [e]; rfl, by rw [e]; exact nil0 (close (d := m.d) (o := some x) (by rw [← hdx]; exact setD_self _ _) hS)⟩
    have e : readM m fd size = (putD m fd (some (x.1, ⟨x.2.inum, (readGo y.2.2 size size.toNat [] x.2.place).2, x.2.flags⟩)), (readGo y.2.2 size size.toNat [] x.2.place).1, 0) := by
      unfold readM; rw [hg]; simp only; rw [if_neg h1, if_neg h2, hy]; simp only; rw [if_neg h3]
    obtain ⟨mb, rfl, hS⟩ := Sat.dataFile hS (i := 3) rfl h3
    (repeat (first | refine c_seq ?_ | refine c_skip ?_ | refine q_then ?_ | refine q_blk_n ?_))
    refine region_q 9 mixed (by kernel_rfl) hS ?_
    (repeat (first | (apply r_ptr ok rfl; rfl; · conv => { lhs; whnf }) | (apply r_rd rfl; apply rd_load ok (i := 0); rfl; rfl; rfl; rfl; · conv => { lhs; whnf; arg 1; whnf }) | (apply r_rd rfl; apply rd_load ok (i := 6); rfl; rfl; rfl; rfl; · conv => { lhs; whnf; arg 1; whnf })))
    refine r_rd (v := ptr y.2.1) rfl (rd_item ok hy rfl rfl rfl rfl rfl (i := 7) rfl) ?_
    (repeat (first | refine r_nil ?_))
    intro w hS
    have hS := nil0 hS
    (repeat (first | (apply o_ptr ok; rfl; · conv => { lhs; whnf }) | (apply o_pure ok; · conv => { lhs; whnf; arg 1; whnf }) | refine c_seq ?_ | refine c_region ?_ | refine c_block ?_ | refine o_nil ?_ | refine q_then ?_))
    refine c_cutB (K := fun g w => ∃ (out : List Int) (pl : Int) (ov : Value) (jk : Nat → Value), readGo y.2.2 size size.toNat [] x.2.place = (out, pl) ∧
      g = updL [(11, ov)] jk ∧ Sat w0 w (rowA 5 1 ov out.length (blkC out) :: pt x.1 (.cells #[vi x.2.inum, vi pl, vi x.2.flags] 125) :: restD m.d fd.toNat :: pt y.2.1 (.cells (itemC y.2.2 (.map (some mb)) sv) 135) :: mapA encI mb (dataKV y.2.2.data) :: slotsA sv y.2.2.slots :: itemsA (without m.items x.2.inum) :: pt p (.cells (modC m.lay ib m.d tv) 58) :: mapA encI ib (itemsKV m.items) :: toldA tv m.told :: G)) ?_ ?_
    · refine c_loop (fun k g w => ∃ (out : List Int) (pl : Int) (ov : Value) (jk : Nat → Value), size - out.length ≤ k ∧ (out.length : Int) ≤ size ∧ 0 ≤ pl ∧ pl ≤ 134762496 ∧ readGo y.2.2 size size.toNat [] x.2.place = readGo y.2.2 size k out pl ∧
        g = updL [(0, ptr p), (2, vi size), (8, ptr x.1), (10, ptr y.2.1), (11, ov)] jk ∧ Sat w0 w (rowA 5 1 ov out.length (blkC out) :: pt x.1 (.cells #[vi x.2.inum, vi pl, vi x.2.flags] 125) :: restD m.d fd.toNat :: pt y.2.1 (.cells (itemC y.2.2 (.map (some mb)) sv) 135) :: mapA encI mb (dataKV y.2.2.data) :: slotsA sv y.2.2.slots :: itemsA (without m.items x.2.inum) :: pt p (.cells (modC m.lay ib m.d tv) 58) :: mapA encI ib (itemsKV m.items) :: toldA tv m.told :: G)) size.toNat
        ⟨[], x.2.place, _, _, by simp; omega, by simp; omega, hp.1, by omega, rfl, updL_self _ _ ⟨rfl, rfl, rfl, rfl, rfl, trivial⟩, hS⟩ ?_
      rintro k g w ⟨out, pl, ov, jk, hok, hos, hpl0, hpl1, hr, rfl, hS⟩
      obtain ⟨hlen, a, cap, rfl, hcap, ha⟩ := Sat.rowForm hS (i := 0) rfl
      (repeat (first | refine c_seq ?_))
      refine region_q 14 mixed (by kernel_rfl) hS ?_
      (repeat (first | (apply r_pure ok rfl; · conv => { lhs; whnf; arg 1; whnf })))
      refine r_guard_d rfl rfl rfl (fun h4 => ?_) (fun h4 => ?_)
      · (repeat (first | (apply r_ptr ok rfl; rfl; · conv => { lhs; whnf }) | (apply r_pure ok rfl; · conv => { lhs; whnf; arg 1; whnf }) | refine r_want rfl rfl rfl ?_ | (apply r_rd rfl; apply rd_load ok (i := 1); rfl; rfl; rfl; rfl; · conv => { lhs; whnf; arg 1; whnf }) | (apply r_rd rfl; apply rd_load ok (i := 3); rfl; rfl; rfl; rfl; · conv => { lhs; whnf; arg 1; whnf }) | refine r_nil ?_))
        intro w hS
        (repeat (first | (apply o_pure ok; · conv => { lhs; whnf; arg 1; whnf }) | refine o_nil ?_ | refine q_then ?_))
        refine c_cond_d rfl (fun h5 => ?_) (fun h5 => ?_)
        · obtain ⟨k, rfl⟩ : ∃ k', k = k' + 1 := ⟨k - 1, by omega⟩
          have hr2 : readGo y.2.2 size (k + 1) out pl = readGo y.2.2 size k (out ++ (((getB y.2.2.data (pl / 1024)).getD zeroB).drop (pl % 1024).toNat).take (chunkN y.2.2 size out pl).toNat) (pl + chunkN y.2.2 size out pl) := by
            conv => { lhs; unfold readGo }
            rw [if_pos h4, if_pos h5]
          rw [hr2] at hr
          have hs1 := hit.size1
          have hch : 1 ≤ chunkN y.2.2 size out pl ∧ chunkN y.2.2 size out pl ≤ size - out.length ∧ pl + chunkN y.2.2 size out pl ≤ y.2.2.size ∧ chunkN y.2.2 size out pl ≤ 1024 - pl % 1024 := by unfold chunkN; omega
          have hcN : min (min (size - (out.length : Int)) (y.2.2.size - pl)) (1024 - pl % 1024) = chunkN y.2.2 size out pl := rfl
          have hbl := getB_len' hit.blk (pl / 1024)
          (repeat (first | refine c_seq ?_ | refine c_block ?_ | refine c_skip ?_ | refine q_then ?_))
          refine region_n ok 11 10 mixed (by kernel_rfl) rfl rfl rfl rfl rfl rfl hS ?_
          (repeat (first | (apply r_quo rfl; rfl; rfl; omega) | (apply r_ptr ok rfl; rfl; · conv => { lhs; whnf }) | (apply r_rd rfl; apply rd_load ok (i := 1); rfl; rfl; rfl; rfl; · conv => { lhs; whnf; arg 1; whnf }) | (apply r_rd rfl; apply rd_load ok (i := 3); rfl; rfl; rfl; rfl; · conv => { lhs; whnf; arg 1; whnf })))
          apply r_rd rfl (rd_lookup ok keyOk_int rfl rfl rfl rfl rfl (i := 4) rfl)
          rw [show (Value.agg (List.replicate 1024 (Value.int IntKind.u8 0)).toArray) = .agg zB.toArray from rfl, mget_dataD]
          generalize (getB y.2.2.data (pl / 1024)).getD zeroB = bV at hbl hr ⊢
          have hblC : (blkC bV).toArray.size = 1024 := by rw [List.size_toArray, blkC_len]; exact hbl
          refine r_new rfl ?_
          (repeat (first | refine r_nil ?_))
          intro b12 w hS
          refine o_storeW (m := 1024) (vs := (blkC bV).toArray) ok hS rfl rfl rfl (i := 0) rfl (oneCells_blk _) hblC zb_size (fun w hS => ?_)
          have hS : Sat w0 w (pt b12 (.cells (blkC bV).toArray 137) :: rowA 5 1 (.slice a out.length cap) out.length (blkC out) :: pt x.1 (.cells #[vi x.2.inum, vi pl, vi x.2.flags] 125) :: restD m.d fd.toNat :: pt y.2.1 (.cells (itemC y.2.2 (.map (some mb)) sv) 135) :: mapA encI mb (dataKV y.2.2.data) :: slotsA sv y.2.2.slots :: itemsA (without m.items x.2.inum) :: pt p (.cells (modC m.lay ib m.d tv) 58) :: mapA encI ib (itemsKV m.items) :: toldA tv m.told :: G) := hS
          (repeat (first | (apply o_rem; rfl; rfl; omega) | (apply o_ptr ok; rfl; · conv => { lhs; whnf }) | (apply o_pure ok; · conv => { lhs; whnf; arg 1; whnf }) | refine c_seq ?_ | refine c_region ?_ | refine o_nil ?_ | refine q_then ?_ | (apply o_rd hS; apply rd_load ok (i := 2); rfl; rfl; rfl; rfl; · conv => { lhs; whnf; arg 1; whnf })))
          refine region_q 16 mixed (by kernel_rfl) hS ?_
          (repeat (first | (apply r_sub rfl; rfl; rfl; omega) | (apply r_ptr ok rfl; rfl; · conv => { lhs; whnf }) | (apply r_pure ok rfl; · conv => { lhs; whnf; arg 1; whnf }) | (apply r_rd rfl; apply rd_load ok (i := 2); rfl; rfl; rfl; rfl; · conv => { lhs; whnf; arg 1; whnf }) | (apply r_rd rfl; apply rd_load ok (i := 4); rfl; rfl; rfl; rfl; · conv => { lhs; whnf; arg 1; whnf }) | refine r_nil ?_))
          intro w hS
          rw [hcN]
          obtain ⟨nn, hnn⟩ : ∃ nn : Nat, chunkN y.2.2 size out pl = nn := ⟨(chunkN y.2.2 size out pl).toNat, by omega⟩
          rw [hnn, Int.toNat_natCast] at hr
          rw [hnn] at hch ⊢
          have hol : pl % 1024 + nn ≤ 1024 ∧ 0 ≤ pl % 1024 := by omega
          (repeat (first | (apply o_add; rfl; rfl; omega) | (apply o_pure ok; · conv => { lhs; whnf; arg 1; whnf }) | refine c_seq ?_ | refine c_region ?_ | refine o_nil ?_ | refine q_then ?_))
          apply o_rd hS (rd_sliceA (l := (pl % 1024).toNat) (h := (pl % 1024).toNat + nn) ok rfl rfl rfl (by exact ⟨.i64, by show vi _ = vi _; congr 1; omega⟩) (by exact ⟨.i64, by show vi _ = vi _; congr 1; omega⟩) (by omega) (by omega))
          rw [if_neg (show ¬(1024 = (pl % 1024).toNat) by omega)]
          refine o_append (m := (pl % 1024).toNat + nn - (pl % 1024).toNat) (news := blkC ((bV.drop (pl % 1024).toNat).take nn)) ok hS rfl rfl rfl rfl rfl rfl rfl (i := 1) rfl (by
            rw [addr_add, Nat.zero_add, Nat.mul_one]
            refine hS.ptSrc (i := 0) rfl fun j u hu => ?_
            rw [← hu]
            show (blkC bV).toArray[_ + j]? = _
            unfold blkC at hu ⊢
            rw [List.map_take, List.map_drop, List.getElem?_take_of_lt, List.getElem?_drop, List.getElem?_toArray]
            rw [List.map_take, List.map_drop] at hu
            have := lt_of_get hu
            rw [List.length_take] at this; omega) (by rw [blkC_len, List.length_take, List.length_drop, hbl]; omega) (oneCells_blk _) (by omega) (by omega) (fun v' w hS => ?_)
          have hS : Sat w0 w (pt b12 (.cells (blkC bV).toArray 137) :: rowA 5 1 v' (out.length + ((pl % 1024).toNat + nn - (pl % 1024).toNat)) (blkC out ++ blkC ((bV.drop (pl % 1024).toNat).take nn)) :: pt x.1 (.cells #[vi x.2.inum, vi pl, vi x.2.flags] 125) :: restD m.d fd.toNat :: pt y.2.1 (.cells (itemC y.2.2 (.map (some mb)) sv) 135) :: mapA encI mb (dataKV y.2.2.data) :: slotsA sv y.2.2.slots :: itemsA (without m.items x.2.inum) :: pt p (.cells (modC m.lay ib m.d tv) 58) :: mapA encI ib (itemsKV m.items) :: toldA tv m.told :: G) := hS
          have hcl : ((bV.drop (pl % 1024).toNat).take nn).length = nn := by rw [List.length_take, List.length_drop, hbl]; omega
          have e8 : blkC out ++ blkC ((bV.drop (pl % 1024).toNat).take nn) = blkC (out ++ (bV.drop (pl % 1024).toNat).take nn) := by unfold blkC; rw [List.map_append]
          have e9 : out.length + ((pl % 1024).toNat + nn - (pl % 1024).toNat) = (out ++ (bV.drop (pl % 1024).toNat).take nn).length := by rw [List.length_append, hcl]; omega
          rw [e8, e9] at hS
          generalize hout : out ++ (bV.drop (pl % 1024).toNat).take nn = out2 at hS hr e9
          have hol2 : out2.length = out.length + nn := by rw [← hout, List.length_append, hcl]
          have hS := hS.tail.bring 1 rfl
          (repeat (first | (apply o_add; rfl; rfl; omega) | (apply o_ptr ok; rfl; · conv => { lhs; whnf }) | (apply o_pure ok; · conv => { lhs; whnf; arg 1; whnf }) | refine c_region ?_ | refine o_nil ?_ | refine q_then ?_ | (apply o_rd hS; apply rd_load ok (i := 0); rfl; rfl; rfl; rfl; · conv => { lhs; whnf; arg 1; whnf })))
          (apply o_store ok hS (i := 0); rfl; (conv => { lhs; whnf }); rfl; rfl; rfl; rfl; intro w hS)
          have hS : Sat w0 w (pt x.1 (.cells #[vi x.2.inum, vi (pl + nn), vi x.2.flags] 125) :: rowA 5 1 v' out2.length (blkC out2) :: restD m.d fd.toNat :: pt y.2.1 (.cells (itemC y.2.2 (.map (some mb)) sv) 135) :: mapA encI mb (dataKV y.2.2.data) :: slotsA sv y.2.2.slots :: itemsA (without m.items x.2.inum) :: pt p (.cells (modC m.lay ib m.d tv) 58) :: mapA encI ib (itemsKV m.items) :: toldA tv m.told :: G) := hS
          (repeat (first | refine o_nil ?_ | refine q_then ?_ | refine q_blk_n ?_))
          exact ⟨k, by omega, out2, pl + nn, v', _, by omega, by omega, by omega, by omega, hr, updL_self _ _ ⟨rfl, rfl, rfl, rfl, rfl, trivial⟩, hS.bring 1 rfl⟩
        · have hst := readGo_stop (t := y.2.2) (size := size) (out := out) (pl := pl) (fun h => h5 h.2) k
          (repeat (first | refine c_exit ?_ | refine q_then ?_ | refine q_then_e ?_ | refine q_blk_e ?_))
          exact ⟨out, pl, _, _, by rw [hr, hst], updL_self _ _ ⟨rfl, trivial⟩, hS⟩
      · have hst := readGo_stop (t := y.2.2) (size := size) (out := out) (pl := pl) (fun h => h4 h.1) k
        (repeat (first | refine r_pass rfl rfl rfl rfl rfl ?_ | refine r_nil ?_))
        intro w hS
        (repeat (first | (apply o_pure ok; · conv => { lhs; whnf; arg 1; whnf }) | refine c_exit ?_ | refine o_nil ?_ | refine q_then ?_ | refine q_then_e ?_ | refine q_blk_e ?_ | (apply c_cond_f; rfl)))
        exact ⟨out, pl, _, _, by rw [hr, hst], updL_self _ _ ⟨rfl, trivial⟩, hS⟩
    · rintro g w ⟨out, pl, ov, jk, hr, rfl, hS⟩
      (repeat (first | (apply o_pure ok; · conv => { lhs; whnf; arg 1; whnf }) | refine c_seq ?_ | refine c_region ?_ | refine c_ret ?_ | refine o_nil ?_ | refine q_then ?_))
      refine out2 rfl ⟨_, by rw [e]; rfl, ?_⟩
      rw [e, hr]
      have hS : Sat w0 w (rowA 5 1 ov out.length (blkC out) :: pt x.1 (.cells #[vi x.2.inum, vi pl, vi x.2.flags] 125) :: restD m.d fd.toNat :: pt y.2.1 (.cells (itemC y.2.2 (.map (some mb)) sv) 135) :: dataA y.2.2.kind (.map (some mb)) y.2.2.data :: slotsA sv y.2.2.slots :: itemsA (without m.items x.2.inum) :: pt p (.cells (modC m.lay ib m.d tv) 58) :: mapA encI ib (itemsKV m.items) :: toldA tv m.told :: G) := Sat.dataBack hS (i := 4) (k := y.2.2.kind) rfl
      rw [← modC_place hj hdx ⟨x.2.inum, pl, x.2.flags⟩] at hS
      have hS := hS.back 9 rfl
      exact Sat.bring (close (o := some (x.1, ⟨x.2.inum, pl, x.2.flags⟩)) rfl hS) 1 rfl
end Go.Proofs.YtllomopjoomdiaaGreat
end

section
namespace Go.Proofs.YtllomopjoomdiaaGreat
open Go.SL
def usedSlots (s : List (Int × ByteArray)) : List (Int × ByteArray) := s.filter fun e => decide (e.1 ≠ 0)
def readDirS (m : Mod) (path : ByteArray) : Option (List (Int × ByteArray) × Int) :=
  if ¬(parseOf path).2 = 0 then some ([], (parseOf path).2) else match findS m (parseOf path).1 1 with
  | none => none
  | some r => if ¬r.2 = 0 then some ([], r.2) else match getX m.items r.1 with
    | none => none
    | some x => if ¬x.2.2.kind = 2 then some ([], 7) else some (usedSlots x.2.2.slots, 0)
theorem slotsC_snoc (s : List (Int × ByteArray)) (e : Int × ByteArray) : slotsC (s ++ [e]) = slotsC s ++ entC e := by unfold slotsC; rw [List.flatMap_append, List.flatMap_cons, List.flatMap_nil, List.append_nil]
theorem readDir_spec {w0 w : World} {G : List Asn} {p : Nat} {m : Mod} {path : ByteArray} {r : List (Int × ByteArray) × Int} (hf : Fine m) (hp : path.size ≤ 4611686018427387904) (hr : readDirS m path = some r) (hS : Sat w0 w (modA p m :: G)) :
    CR Tryz.prog 64 [ptr p, .string path] w fun v w' => ∃ ov, v = .tuple #[ov, vi r.2] ∧ Sat w0 w' (slotsA ov r.1 :: modA p m :: G) := by
  refine calls_enter Tryz.func64 rfl rfl rfl ?_
  have nil0 : ∀ {w : World} {G : List Asn}, Sat w0 w G → Sat w0 w (slotsA (.slice none 0 0) [] :: G) := fun hS => Sat.closeH [] hS (fun g _ => rowA_nil _ _ g)
  (repeat (first | (apply o_pure ok; · conv => { lhs; whnf; arg 1; whnf }) | refine c_seq ?_ | refine c_region ?_ | refine o_nil ?_ | refine q_then ?_))
  refine o_call ok rfl rfl (parse_spec path hp hS) (fun v w h => ?_)
  obtain ⟨nv, rfl, hS⟩ := h
  have hl := parse_len path
  unfold readDirS at hr
  generalize parseOf path = ps at hr hS hl ⊢
  (repeat (first | (apply o_pure ok; · conv => { lhs; whnf; arg 1; whnf }) | refine c_seq ?_ | refine c_region ?_ | refine o_nil ?_ | refine q_then ?_))
  refine c_cond_d rfl (fun h1 => ?_) (fun h1 => ?_)
  · rw [if_pos (show ¬ps.2 = 0 from h1)] at hr
    cases hr
    (repeat (first | (apply o_pure ok; · conv => { lhs; whnf; arg 1; whnf }) | refine c_seq ?_ | refine c_region ?_ | refine c_ret ?_ | refine o_nil ?_ | refine q_then ?_ | refine q_then_r ?_))
    exact out2 rfl ⟨_, rfl, nil0 hS.tail⟩
  rw [if_neg (show ¬¬ps.2 = 0 from h1)] at hr
  cases hfs : findS m ps.1 1 with
  | none => rw [hfs] at hr; cases hr
  | some q =>
    rw [hfs] at hr
    simp only at hr
    obtain ⟨hlen, a, cap, rfl, hcap, ha⟩ := Sat.rowForm hS (i := 0) rfl
    have hS := (hS.bring 1 rfl)
    (repeat (first | (apply o_ptr ok; rfl; · conv => { lhs; whnf }) | (apply o_pure ok; · conv => { lhs; whnf; arg 1; whnf }) | refine c_seq ?_ | refine c_region ?_ | refine c_skip ?_ | refine q_then ?_))
    refine o_call ok rfl rfl (find_spec (n := ps.1.length) hf (Nat.le_refl _) (by omega) (by rw [List.take_length]; exact hfs) hS) (fun v w h => ?_)
    obtain ⟨rfl, hS⟩ := h
    have hS : Sat w0 w (modA p m :: _ :: G) := hS
    have hS := (hS.bring 1 rfl).tail
    (repeat (first | (apply o_pure ok; · conv => { lhs; whnf; arg 1; whnf }) | refine c_seq ?_ | refine c_region ?_ | refine o_nil ?_ | refine q_then ?_))
    refine c_cond_d rfl (fun h2 => ?_) (fun h2 => ?_)
    · rw [if_pos (show ¬q.2 = 0 from h2)] at hr
      cases hr
      (repeat (first | (apply o_pure ok; · conv => { lhs; whnf; arg 1; whnf }) | refine c_seq ?_ | refine c_region ?_ | refine c_ret ?_ | refine o_nil ?_ | refine q_then ?_ | refine q_then_r ?_))
      exact out2 rfl ⟨_, rfl, nil0 hS⟩
    rw [if_neg (show ¬¬q.2 = 0 from h2)] at hr
    cases hgx : getX m.items q.1 with
    | none => rw [hgx] at hr; cases hr
    | some x =>
      rw [hgx] at hr
      simp only at hr
      have hit := hf.it x (getX_some hgx).1
      have hkeys := Sat.keysM hS
      obtain ⟨ib, tv, hS⟩ := Sat.modOpen hS
      (repeat (first | (apply o_ptr ok; rfl; · conv => { lhs; whnf }) | (apply o_pure ok; · conv => { lhs; whnf; arg 1; whnf }) | refine c_seq ?_ | refine c_region ?_ | refine c_skip ?_ | refine q_then ?_ | (apply o_rd hS; apply rd_load ok (i := 0); rfl; rfl; rfl; rfl; · conv => { lhs; whnf; arg 1; whnf })))
      refine o_rd (v := ptr x.2.1) hS (rd_item ok hgx rfl rfl rfl rfl rfl (i := 1) rfl) ?_
      have hS := Sat.itTake hgx (Sat.modClose hS)
      obtain ⟨dm, sv, hS⟩ := Sat.itemOpen hS
      obtain ⟨hlen2, a2, cap2, rfl, _, ha2⟩ := Sat.rowForm hS (i := 2) rfl
      have hlm := hit.slots.1
      have back : ∀ {w : World} {G : List Asn}, Sat w0 w (pt x.2.1 (.cells (itemC x.2.2 dm (.slice a2 x.2.2.slots.length cap2)) 135) :: dataA x.2.2.kind dm x.2.2.data :: slotsA (.slice a2 x.2.2.slots.length cap2) x.2.2.slots :: modK p m q.1 :: G) → Sat w0 w (modA p m :: G) := fun hS => Sat.itBack hkeys hgx (Sat.itemClose hS)
      (repeat (first | (apply o_ptr ok; rfl; · conv => { lhs; whnf }) | (apply o_pure ok; · conv => { lhs; whnf; arg 1; whnf }) | refine c_seq ?_ | refine c_region ?_ | refine o_nil ?_ | refine q_then ?_ | (apply o_rd hS; apply rd_load ok (i := 0); rfl; rfl; rfl; rfl; · conv => { lhs; whnf; arg 1; whnf })))
      by_cases h3 : x.2.2.kind = 2
      · rw [if_neg (fun h => h h3)] at hr
        cases hr
        refine c_cond_n rfl (fun h => h h3) ?_
        have hS := nil0 hS
        (repeat (first | (apply o_ptr ok; rfl; · conv => { lhs; whnf }) | (apply o_pure ok; · conv => { lhs; whnf; arg 1; whnf }) | refine c_seq ?_ | refine c_region ?_ | refine c_block ?_ | refine c_skip ?_ | refine o_nil ?_ | refine q_then ?_ | (apply o_rd hS; apply rd_load ok (i := 1); rfl; rfl; rfl; rfl; · conv => { lhs; whnf; arg 1; whnf })))
        refine c_loop (fun k g w => ∃ (j : Nat) (out : List (Int × ByteArray)) (ov : Value) (jk : Nat → Value), j + k = x.2.2.slots.length ∧ out.length ≤ j ∧ out = usedSlots (x.2.2.slots.take j) ∧
          g = updL [(44, .slice a2 x.2.2.slots.length cap2), (45, vi x.2.2.slots.length), (46, vi j), (10, ov)] jk ∧
          Sat w0 w (slotsA ov out :: pt x.2.1 (.cells (itemC x.2.2 dm (.slice a2 x.2.2.slots.length cap2)) 135) :: dataA x.2.2.kind dm x.2.2.data :: slotsA (.slice a2 x.2.2.slots.length cap2) x.2.2.slots :: modK p m q.1 :: G)) x.2.2.slots.length
          ⟨0, [], _, _, by omega, by simp, rfl, updL_self _ _ ⟨rfl, rfl, rfl, rfl, trivial⟩, hS⟩ ?_
        rintro k g w ⟨j, out, ov, jk, hjk, hoj, hout, rfl, hS⟩
        (repeat (first | (apply o_pure ok; · conv => { lhs; whnf; arg 1; whnf }) | refine c_seq ?_ | refine c_region ?_ | refine o_nil ?_ | refine q_then ?_))
        refine c_cond_d rfl (fun h4 => ?_) (fun h4 => ?_)
        · have hj : j < x.2.2.slots.length := by omega
          obtain ⟨b2, rfl⟩ := ha2 (by omega)
          have hge : x.2.2.slots[j]? = some x.2.2.slots[j] := List.getElem?_eq_getElem hj
          have htk : usedSlots (x.2.2.slots.take (j + 1)) = usedSlots (x.2.2.slots.take j) ++ (if x.2.2.slots[j].1 = 0 then [] else [x.2.2.slots[j]]) := by
            unfold usedSlots
            rw [List.take_add_one, hge, List.filter_append]
            congr 1
            by_cases h0 : x.2.2.slots[j].1 = 0 <;> simp [h0]
          have hck := flatMap_two entC 2 entC_len x.2.2.slots j _ hge
          have hcl := flatMap_len entC 2 entC_len x.2.2.slots
          generalize x.2.2.slots[j] = e at htk hck
          (repeat (first | refine c_seq ?_ | refine c_region ?_ | refine c_block ?_ | refine c_skip ?_ | refine q_then ?_))
          apply o_rd hS (rd_indexAddr ok rfl rfl rfl rfl (by omega))
          apply o_rd hS (rd_loadAR (vs := entC e) ok rfl rfl rfl rfl (i := 3) rfl rfl (by unfold slotsC; rw [hcl]; simp; omega) (by unfold slotsC; simpa using hck))
          (repeat (first | (apply o_ptr ok; rfl; · conv => { lhs; whnf }) | (apply o_pure ok; · conv => { lhs; whnf; arg 1; whnf }) | refine c_seq ?_ | refine c_region ?_ | refine o_nil ?_ | refine q_then ?_ | (apply o_rd hS; apply rd_load ok (i := 0); rfl; rfl; rfl; rfl; · conv => { lhs; whnf; arg 1; whnf }) | refine o_alloc ok hS rfl (fun bx w hS => ?_) | (refine o_storeW ok hS rfl rfl rfl (i := 0) rfl rfl rfl rfl (fun w hS => ?_))))
          refine c_cond_d rfl (fun h5 => ?_) (fun h5 => ?_)
          · rw [if_neg (show ¬e.1 = 0 from h5), ← hout] at htk
            have hS : Sat w0 w (pt bx (.cells (entC e).toArray 142) :: slotsA ov out :: pt x.2.1 (.cells (itemC x.2.2 dm (.slice (some ⟨b2, 0, none⟩) x.2.2.slots.length cap2)) 135) :: dataA x.2.2.kind dm x.2.2.data :: slotsA (.slice (some ⟨b2, 0, none⟩) x.2.2.slots.length cap2) x.2.2.slots :: modK p m q.1 :: G) := hS
            (repeat (first | (apply o_pure ok; · conv => { lhs; whnf; arg 1; whnf }) | refine c_region ?_ | refine o_rd hS (rd_loadW ok (i := 0) rfl rfl rfl rfl rfl rfl) ?_))
            refine o_buildS ok (vs := [.agg (entC e).toArray]) hS rfl rfl rfl rfl rfl rfl rfl rfl rfl (fun b8 w hS => ?_)
            refine o_append ok hS rfl rfl rfl rfl rfl rfl rfl (i := 2) rfl (hS.ptSrc0 (i := 0) rfl) rfl rfl (by omega) (by omega) (fun v' w hS => ?_)
            have hS : Sat w0 w (_ :: _ :: rowA 142 2 v' (out.length + 1) (slotsC out ++ entC e) :: pt x.2.1 (.cells (itemC x.2.2 dm (.slice (some ⟨b2, 0, none⟩) x.2.2.slots.length cap2)) 135) :: dataA x.2.2.kind dm x.2.2.data :: slotsA (.slice (some ⟨b2, 0, none⟩) x.2.2.slots.length cap2) x.2.2.slots :: modK p m q.1 :: G) := hS
            have hS := hS.tail.tail
            rw [← slotsC_snoc] at hS
            (repeat (first | (apply o_add; rfl; rfl; omega) | (apply o_pure ok; · conv => { lhs; whnf; arg 1; whnf }) | refine c_region ?_ | refine o_nil ?_ | refine q_then ?_ | refine q_blk_n ?_))
            exact ⟨k - 1, by omega, j + 1, out ++ [e], v', _, by omega, by simp; omega, htk.symm, updL_self _ _ ⟨rfl, rfl, rfl, rfl, trivial⟩, by unfold slotsA; rw [List.length_append]; exact hS⟩
          · rw [if_pos (show e.1 = 0 from Decidable.not_not.1 h5), List.append_nil, ← hout] at htk
            (repeat (first | (apply o_add; rfl; rfl; omega) | (apply o_pure ok; · conv => { lhs; whnf; arg 1; whnf }) | refine c_region ?_ | refine c_skip ?_ | refine o_nil ?_ | refine q_then ?_ | refine q_blk_n ?_))
            exact ⟨k - 1, by omega, j + 1, out, ov, _, by omega, by omega, htk.symm, updL_self _ _ ⟨rfl, rfl, rfl, rfl, trivial⟩, hS.tail⟩
        · have hj : j = x.2.2.slots.length := by omega
          rw [hj, List.take_length] at hout
          subst hout
          (repeat (first | (apply o_pure ok; · conv => { lhs; whnf; arg 1; whnf }) | refine c_seq ?_ | refine c_region ?_ | refine c_ret ?_ | refine c_exit ?_ | refine o_nil ?_ | refine q_then ?_ | refine q_then_e ?_ | refine q_blk_e ?_))
          refine out2 rfl ⟨_, rfl, ?_⟩
          exact Sat.bring (back ((hS.back 4 rfl))) 1 rfl
      · rw [if_pos h3] at hr
        cases hr
        refine c_cond_p rfl h3 ?_
        (repeat (first | (apply o_pure ok; · conv => { lhs; whnf; arg 1; whnf }) | refine c_seq ?_ | refine c_region ?_ | refine c_ret ?_ | refine o_nil ?_ | refine q_then ?_ | refine q_then_r ?_))
        exact out2 rfl ⟨_, rfl, nil0 (back hS)⟩
end Go.Proofs.YtllomopjoomdiaaGreat
end

section
namespace Go.Proofs.YtllomopjoomdiaaGreat
open Go.SL
/-- A call, and what it answers. -/
structure Cl where (kind : Int) (path other : ByteArray) (fd size flags : Int) (bytes : List Int)
structure Rs where (err value : Int) (bytes : List Int) (stat : Int × Int × Int × Int × Int) (ents : List (Int × ByteArray))
def rs0 (e : Int) : Rs := ⟨e, 0, [], (0, 0, 0, 0, 0), []⟩
def statI (k : Int) (t : It) : Int × Int × Int × Int × Int := (k, t.kind, t.links, t.size, usedOf t)
def statP (m : Mod) (path : ByteArray) : Option ((Int × Int × Int × Int × Int) × Int) :=
  if ¬(parseOf path).2 = 0 then some ((0, 0, 0, 0, 0), (parseOf path).2) else match findS m (parseOf path).1 1 with
  | none => none
  | some r => if ¬r.2 = 0 then some ((0, 0, 0, 0, 0), r.2) else match getX m.items r.1 with
    | none => none
    | some x => some (statI r.1 x.2.2, 0)
def statV (s : Int × Int × Int × Int × Int) : Array Value := #[vi s.1, .int .u16 s.2.1, vi s.2.2.1, vi s.2.2.2.1, vi s.2.2.2.2]
theorem statS_eq (m : Mod) (path : ByteArray) : statS m path = (statP m path).map fun r => (statV r.1, r.2) := by
  unfold statS statP
  by_cases h1 : (parseOf path).2 = 0
  · rw [if_neg (fun h => h h1), if_neg (fun h => h h1)]
    cases findS m (parseOf path).1 1 with
    | none => rfl
    | some r =>
      simp only
      by_cases h2 : r.2 = 0
      · rw [if_neg (fun h => h h2), if_neg (fun h => h h2)]
        cases getX m.items r.1 <;> rfl
      · rw [if_pos h2, if_pos h2]; rfl
  · rw [if_pos h1, if_pos h1]; rfl
def callM (m : Mod) (c : Cl) (b1 b2 : Nat) : Option (Mod × Rs) :=
  if c.kind = 1 then (openM m c.path c.flags b1 b2).map fun r => (r.1, { rs0 r.2.2 with value := r.2.1 })
  else if c.kind = 2 then some ((readM m c.fd c.size).1, { rs0 (readM m c.fd c.size).2.2 with value := (readM m c.fd c.size).2.1.length, bytes := (readM m c.fd c.size).2.1 })
  else if c.kind = 3 then some ((writeM m c.fd c.bytes).1, { rs0 (writeM m c.fd c.bytes).2.2 with value := (writeM m c.fd c.bytes).2.1 })
  else if c.kind = 4 then some ((seekM m c.fd c.size c.flags).1, { rs0 (seekM m c.fd c.size c.flags).2.2 with value := (seekM m c.fd c.size c.flags).2.1 })
  else if c.kind = 5 then some ((truncM m c.fd c.size).1, rs0 (truncM m c.fd c.size).2)
  else if c.kind = 6 then some ((closeM m c.fd).1, rs0 (closeM m c.fd).2)
  else if c.kind = 7 then (statP m c.path).map fun r => (m, { rs0 r.2 with stat := r.1 })
  else if c.kind = 8 then match getOk m c.fd 0 with
    | none => some (m, rs0 13)
    | some x => (getX m.items x.2.inum).map fun y => (m, { rs0 0 with stat := statI x.2.inum y.2.2 })
  else if c.kind = 9 then (readDirS m c.path).map fun r => (m, { rs0 r.2 with ents := r.1 })
  else if c.kind = 10 then (mkdirM m c.path b1).map fun r => (r.1, rs0 r.2)
  else if c.kind = 11 then (linkM m c.path c.other).map fun r => (r.1, rs0 r.2)
  else if c.kind = 12 then (unlinkM m c.path).map fun r => (r.1, rs0 r.2)
  else if c.kind = 13 then (renameM m c.path c.other).map fun r => (r.1, rs0 r.2)
  else if c.kind = 14 then some (m, rs0 0)
  else some (m, rs0 2)
def unsaid (m : Mod) : Mod := { m with told := [] }
def nilS : Value := .slice none 0 0
def resC (R : Rs) (ov ev : Value) : Array Value := #[vi R.err, vi R.value, ov, vi R.stat.1, .int .u16 R.stat.2.1, vi R.stat.2.2.1, vi R.stat.2.2.2.1, vi R.stat.2.2.2.2, ev]
def clC (c : Cl) (pv : Value) : Array Value := #[.int .u8 c.kind, .string c.path, .string c.other, vi c.fd, vi c.size, vi c.flags, pv]
theorem Fine.unsaid {m : Mod} (hf : Fine m) : Fine (unsaid m) := ⟨hf.blocks, hf.inodes, hf.dataAt, hf.many, hf.key, hf.it⟩
theorem Sat.toldNil {w0 w : World} {L : List Asn} (hS : Sat w0 w L) : Sat w0 w (toldA nilS [] :: L) := Sat.closeH [] hS (fun g _ => ⟨[], rfl, by
  refine ⟨fun _ => 0, fun j A hj => ?_⟩
  match j, hj with
  | 0, hj => cases hj; exact rowA_nil _ _ _
  | 1, hj => cases hj; exact grp_nil
  | j + 2, hj => simp at hj⟩)
theorem Sat.rowNil {w0 w : World} {L : List Asn} (hS : Sat w0 w L) : Sat w0 w (rowA 5 1 nilS 0 [] :: L) := Sat.closeH [] hS (fun g _ => rowA_nil _ _ g)
theorem Sat.slotsNil {w0 w : World} {L : List Asn} (hS : Sat w0 w L) : Sat w0 w (slotsA nilS [] :: L) := Sat.closeH [] hS (fun g _ => rowA_nil _ _ g)
theorem callM_1 {m : Mod} {c : Cl} {b1 b2 : Nat} (h : c.kind = 1) : callM m c b1 b2 = (openM m c.path c.flags b1 b2).map fun r => (r.1, { rs0 r.2.2 with value := r.2.1 }) := by
  unfold callM
  rw [h]
  rfl
theorem callM_2 {m : Mod} {c : Cl} {b1 b2 : Nat} (h : c.kind = 2) : callM m c b1 b2 = some ((readM m c.fd c.size).1, { rs0 (readM m c.fd c.size).2.2 with value := (readM m c.fd c.size).2.1.length, bytes := (readM m c.fd c.size).2.1 }) := by
  unfold callM
  rw [h]
  rfl
theorem callM_3 {m : Mod} {c : Cl} {b1 b2 : Nat} (h : c.kind = 3) : callM m c b1 b2 = some ((writeM m c.fd c.bytes).1, { rs0 (writeM m c.fd c.bytes).2.2 with value := (writeM m c.fd c.bytes).2.1 }) := by
  unfold callM
  rw [h]
  rfl
theorem callM_4 {m : Mod} {c : Cl} {b1 b2 : Nat} (h : c.kind = 4) : callM m c b1 b2 = some ((seekM m c.fd c.size c.flags).1, { rs0 (seekM m c.fd c.size c.flags).2.2 with value := (seekM m c.fd c.size c.flags).2.1 }) := by
  unfold callM
  rw [h]
  rfl
theorem callM_5 {m : Mod} {c : Cl} {b1 b2 : Nat} (h : c.kind = 5) : callM m c b1 b2 = some ((truncM m c.fd c.size).1, rs0 (truncM m c.fd c.size).2) := by
  unfold callM
  rw [h]
  rfl
theorem callM_6 {m : Mod} {c : Cl} {b1 b2 : Nat} (h : c.kind = 6) : callM m c b1 b2 = some ((closeM m c.fd).1, rs0 (closeM m c.fd).2) := by
  unfold callM
  rw [h]
  rfl
theorem callM_7 {m : Mod} {c : Cl} {b1 b2 : Nat} (h : c.kind = 7) : callM m c b1 b2 = (statP m c.path).map fun r => (m, { rs0 r.2 with stat := r.1 }) := by
  unfold callM
  rw [h]
  rfl
theorem callM_8 {m : Mod} {c : Cl} {b1 b2 : Nat} (h : c.kind = 8) : callM m c b1 b2 = match getOk m c.fd 0 with
  | none => some (m, rs0 13)
  | some x => (getX m.items x.2.inum).map fun y => (m, { rs0 0 with stat := statI x.2.inum y.2.2 }) := by
  unfold callM
  rw [h]
  rfl
theorem callM_9 {m : Mod} {c : Cl} {b1 b2 : Nat} (h : c.kind = 9) : callM m c b1 b2 = (readDirS m c.path).map fun r => (m, { rs0 r.2 with ents := r.1 }) := by
  unfold callM
  rw [h]
  rfl
theorem callM_10 {m : Mod} {c : Cl} {b1 b2 : Nat} (h : c.kind = 10) : callM m c b1 b2 = (mkdirM m c.path b1).map fun r => (r.1, rs0 r.2) := by
  unfold callM
  rw [h]
  rfl
theorem callM_11 {m : Mod} {c : Cl} {b1 b2 : Nat} (h : c.kind = 11) : callM m c b1 b2 = (linkM m c.path c.other).map fun r => (r.1, rs0 r.2) := by
  unfold callM
  rw [h]
  rfl
theorem callM_12 {m : Mod} {c : Cl} {b1 b2 : Nat} (h : c.kind = 12) : callM m c b1 b2 = (unlinkM m c.path).map fun r => (r.1, rs0 r.2) := by
  unfold callM
  rw [h]
  rfl
theorem callM_13 {m : Mod} {c : Cl} {b1 b2 : Nat} (h : c.kind = 13) : callM m c b1 b2 = (renameM m c.path c.other).map fun r => (r.1, rs0 r.2) := by
  unfold callM
  rw [h]
  rfl
theorem callM_14 {m : Mod} {c : Cl} {b1 b2 : Nat} (h : c.kind = 14) : callM m c b1 b2 = some (m, rs0 0) := by
  unfold callM
  rw [h]
  rfl
theorem callM_else {m : Mod} {c : Cl} {b1 b2 : Nat} (h1 : ¬c.kind = 1) (h2 : ¬c.kind = 2) (h3 : ¬c.kind = 3) (h4 : ¬c.kind = 4) (h5 : ¬c.kind = 5) (h6 : ¬c.kind = 6) (h7 : ¬c.kind = 7) (h8 : ¬c.kind = 8) (h9 : ¬c.kind = 9) (h10 : ¬c.kind = 10) (h11 : ¬c.kind = 11) (h12 : ¬c.kind = 12) (h13 : ¬c.kind = 13) (h14 : ¬c.kind = 14) : callM m c b1 b2 = some (m, rs0 2) := by
  unfold callM
  rw [if_neg h1, if_neg h2, if_neg h3, if_neg h4, if_neg h5, if_neg h6, if_neg h7, if_neg h8, if_neg h9, if_neg h10, if_neg h11, if_neg h12, if_neg h13, if_neg h14]
theorem readGo_len {t : It} {size : Int} (hs : 0 ≤ size) : ∀ (k : Nat) (out : List Int) (pl : Int), (out.length : Int) ≤ size → ((readGo t size k out pl).1.length : Int) ≤ size
  | 0, out, pl, h => h
  | k + 1, out, pl, h => by
    unfold readGo
    split
    · split
      · refine readGo_len hs k _ _ ?_
        rw [List.length_append, List.length_take]
        unfold chunkN
        omega
      · exact h
    · exact h
theorem readM_len (m : Mod) (fd size : Int) : (readM m fd size).2.1.length ≤ 65536 := by
  unfold readM
  split
  · simp
  · split
    · simp
    · split
      · simp
      · split
        · simp
        · split
          · simp
          · rename_i x _ _ _ _ y _ _
            have := readGo_len (t := y.2.2) (size := size) (by omega) size.toNat [] x.2.place (by simp; omega)
            show (readGo y.2.2 size size.toNat [] x.2.place).1.length ≤ _
            omega
theorem do_spec {w0 w : World} {G : List Asn} {A : Asn} {p : Nat} {m : Mod} {c : Cl} {pv : Value} (hf : Fine m) (hd : DOk m) (hp : c.path.size ≤ 4611686018427387904) (hp2 : c.other.size ≤ 4611686018427387904) (hq : c.bytes.length ≤ 4611686018427387904)
    (hpv : pv.oneCell' = true) (hA : ∀ h, A h → SrcH h pv c.bytes.length (blkC c.bytes)) (H : ∀ b1 b2, (callM (unsaid m) c b1 b2).isSome = true) (hS : Sat w0 w (modA p m :: A :: G)) :
    CR Tryz.prog 18 [ptr p, .agg (clC c pv)] w fun v w' => ∃ b1 b2 m' R ov ev tv, callM (unsaid m) c b1 b2 = some (m', R) ∧ v = .tuple #[.agg (resC R ov ev), tv] ∧
      Sat w0 w' (modA p (unsaid m') :: rowA 5 1 ov R.bytes.length (blkC R.bytes) :: slotsA ev R.ents :: toldA tv m'.told :: A :: G) := by
  refine calls_enter Tryz.func18 rfl rfl rfl ?_
  (repeat (first | refine c_seq ?_ | refine c_region ?_))
  refine o_box hS rfl (fun b3 w hS => ?_)
  skip
  refine o_alloc ok hS rfl (fun b4 w hS => ?_)
  (repeat (first | (apply o_ptr ok; rfl; · conv => { lhs; whnf }) | (apply o_pure ok; · conv => { lhs; whnf; arg 1; whnf }) | refine c_seq ?_ | refine c_region ?_ | refine o_nil ?_ | refine q_then ?_))
  refine o_call ok rfl rfl (is_spec (hS.bring 2 rfl)) (fun v w h => ?_)
  obtain ⟨rfl, hS⟩ := h
  (repeat (first | (apply o_ptr ok; rfl; · conv => { lhs; whnf }) | (apply o_pure ok; · conv => { lhs; whnf; arg 1; whnf }) | refine c_seq ?_ | refine c_region ?_ | refine c_skip ?_ | refine o_nil ?_ | refine q_then ?_ | (apply c_cond_f; rfl)))
  obtain ⟨ib, tv, hS⟩ := Sat.modOpen hS
  skip
  (apply o_store ok hS (i := 0); rfl; (conv => { lhs; whnf }); rfl; rfl; rfl; rfl; intro w hS)
  (repeat (first | refine c_seq ?_ | refine c_region ?_ | refine o_nil ?_ | refine q_then ?_))
  refine o_alloc ok hS rfl (fun b6 w hS => ?_)
  have hS : Sat w0 w (pt b6 (.cells (resC (rs0 0) nilS nilS) 65) :: pt p (.cells (modC m.lay ib m.d nilS) 58) :: mapA encI ib (itemsKV m.items) :: itemsA m.items :: descsA m.d :: toldA tv m.told :: pt b4 (.cells (resC (rs0 0) nilS nilS) 65) :: pt b3 (.cells (clC c pv) 42) :: A :: G) := hS
  have hS := Sat.toldNil ((hS.bring 5 rfl).tail)
  have hS := Sat.modClose (m := unsaid m) ((hS.back 5 rfl).back 5 rfl)
  have hS := (hS.bring 2 rfl).back 3 rfl
  have hS : Sat w0 w (modA p (unsaid m) :: pt b6 (.cells (resC (rs0 0) nilS nilS) 65) :: rowA 5 1 nilS 0 [] :: slotsA nilS [] :: pt b3 (.cells (clC c pv) 42) :: pt b4 (.cells (resC (rs0 0) nilS nilS) 65) :: A :: G) := ((Sat.rowNil (Sat.slotsNil hS)).bring 3 rfl).bring 3 rfl
  have hf0 := hf.unsaid
  have hd0 : DOk (unsaid m) := hd
  have hT0 : (unsaid m).told.length ≤ 0 := Nat.le_refl 0
  (repeat (first | (apply o_ptr ok; rfl; · conv => { lhs; whnf }) | (apply o_pure ok; · conv => { lhs; whnf; arg 1; whnf }) | refine c_seq ?_ | refine c_region ?_ | refine c_block ?_ | refine o_nil ?_ | refine q_then ?_ | (apply o_rd hS; apply rd_load ok (i := 4); rfl; rfl; rfl; rfl; · conv => { lhs; whnf; arg 1; whnf })))
  refine c_cutB (K := fun g w => ∃ (b1 b2 : Nat) (m' : Mod) (R : Rs) (ov ev : Value) (jk : Nat → Value), callM (unsaid m) c b1 b2 = some (m', R) ∧ ov.oneCell' = true ∧ ev.oneCell' = true ∧ g = updL [(0, ptr p), (4, ptr b4), (6, ptr b6)] jk ∧
    Sat w0 w (modA p m' :: pt b6 (.cells (resC R ov ev) 65) :: rowA 5 1 ov R.bytes.length (blkC R.bytes) :: slotsA ev R.ents :: pt b3 (.cells (clC c pv) 42) :: pt b4 (.cells (resC (rs0 0) nilS nilS) 65) :: A :: G)) ?_ ?_
  · refine c_cond_d rfl (fun h => ?_) (fun n1 => ?_)
    · have h : c.kind = 1 := h
      rw [forall_congr' fun b1 => forall_congr' fun b2 => by rw [callM_1 h]] at H
      (repeat (first | (apply o_ptr ok; rfl; · conv => { lhs; whnf }) | refine c_region ?_ | (apply o_rd hS; apply rd_load ok (i := 4); rfl; rfl; rfl; rfl; · conv => { lhs; whnf; arg 1; whnf })))
      refine o_call ok rfl rfl (open_spec hf0 (by omega) hp (fun b1 b2 => by have := H b1 b2; rwa [Option.isSome_map] at this) hS) (fun v w h9 => ?_)
      obtain ⟨b1, b2, r, hr, rfl, hS⟩ := h9
      (repeat (first | (apply o_ptr ok; rfl; · conv => { lhs; whnf }) | (apply o_pure ok; · conv => { lhs; whnf; arg 1; whnf })))
      (apply o_store ok hS (i := 1); rfl; (conv => { lhs; whnf }); rfl; rfl; rfl; rfl; intro w hS)
      (repeat (first | (apply o_ptr ok; rfl; · conv => { lhs; whnf })))
      (apply o_store ok hS (i := 1); rfl; (conv => { lhs; whnf }); rfl; rfl; rfl; rfl; intro w hS)
      (repeat (first | refine o_nil ?_ | refine q_then ?_ | refine q_blk_n ?_))
      have hS : Sat w0 w (modA p r.1 :: pt b6 (.cells (resC { rs0 r.2.2 with value := r.2.1 } nilS nilS) 65) :: rowA 5 1 nilS ({ rs0 r.2.2 with value := r.2.1 }).bytes.length (blkC ({ rs0 r.2.2 with value := r.2.1 }).bytes) :: slotsA nilS ({ rs0 r.2.2 with value := r.2.1 }).ents :: pt b3 (.cells (clC c pv) 42) :: pt b4 (.cells (resC (rs0 0) nilS nilS) 65) :: A :: G) := hS
      exact ⟨b1, b2, r.1, { rs0 r.2.2 with value := r.2.1 }, nilS, nilS, _, by rw [callM_1 h, hr]; rfl, rfl, rfl, updL_self _ _ ⟨rfl, rfl, rfl, trivial⟩, hS⟩
    (repeat (first | (apply o_pure ok; · conv => { lhs; whnf; arg 1; whnf }) | refine c_seq ?_ | refine c_region ?_ | refine o_nil ?_ | refine q_then ?_))
    refine c_cond_d rfl (fun h => ?_) (fun n2 => ?_)
    · have h : c.kind = 2 := h
      (repeat (first | (apply o_ptr ok; rfl; · conv => { lhs; whnf }) | refine c_seq ?_ | refine c_region ?_ | (apply o_rd hS; apply rd_load ok (i := 4); rfl; rfl; rfl; rfl; · conv => { lhs; whnf; arg 1; whnf })))
      refine o_call ok rfl rfl (read_spec hf0 hd0 hS) (fun v w h9 => ?_)
      obtain ⟨ov, rfl, hS⟩ := h9
      obtain ⟨hlen, a, cap, rfl, _, _⟩ := Sat.rowForm hS (i := 0) rfl
      have hS := ((hS.bring 3 rfl).tail).back 2 rfl
      have hsz := readM_len (unsaid m) c.fd c.size
      (repeat (first | (apply o_ptr ok; rfl; · conv => { lhs; whnf }) | (apply o_pure ok; · conv => { lhs; whnf; arg 1; whnf })))
      (apply o_store ok hS (i := 1); rfl; (conv => { lhs; whnf }); rfl; rfl; rfl; rfl; intro w hS)
      (repeat (first | (apply o_ptr ok; rfl; · conv => { lhs; whnf })))
      (apply o_store ok hS (i := 1); rfl; (conv => { lhs; whnf }); rfl; rfl; rfl; rfl; intro w hS)
      (repeat (first | (apply o_ptr ok; rfl; · conv => { lhs; whnf }) | (apply o_pure ok; · conv => { lhs; whnf; arg 1; whnf }) | refine c_region ?_ | refine o_nil ?_ | refine q_then ?_ | (apply o_rd hS; apply rd_load ok (i := 1); rfl; rfl; rfl; rfl; · conv => { lhs; whnf; arg 1; whnf })))
      (apply o_store ok hS (i := 1); rfl; (conv => { lhs; whnf }); rfl; rfl; rfl; rfl; intro w hS)
      (repeat (first | refine o_nil ?_ | refine q_then ?_ | refine q_blk_n ?_))
      have hS : Sat w0 w (modA p (readM (unsaid m) c.fd c.size).1 :: pt b6 (.cells (resC { rs0 (readM (unsaid m) c.fd c.size).2.2 with value := (readM (unsaid m) c.fd c.size).2.1.length, bytes := (readM (unsaid m) c.fd c.size).2.1 } (.slice a (readM (unsaid m) c.fd c.size).2.1.length cap) nilS) 65) :: rowA 5 1 (.slice a (readM (unsaid m) c.fd c.size).2.1.length cap) ({ rs0 (readM (unsaid m) c.fd c.size).2.2 with value := (readM (unsaid m) c.fd c.size).2.1.length, bytes := (readM (unsaid m) c.fd c.size).2.1 }).bytes.length (blkC ({ rs0 (readM (unsaid m) c.fd c.size).2.2 with value := (readM (unsaid m) c.fd c.size).2.1.length, bytes := (readM (unsaid m) c.fd c.size).2.1 }).bytes) :: slotsA nilS ({ rs0 (readM (unsaid m) c.fd c.size).2.2 with value := (readM (unsaid m) c.fd c.size).2.1.length, bytes := (readM (unsaid m) c.fd c.size).2.1 }).ents :: pt b3 (.cells (clC c pv) 42) :: pt b4 (.cells (resC (rs0 0) nilS nilS) 65) :: A :: G) := hS
      exact ⟨0, 0, (readM (unsaid m) c.fd c.size).1, { rs0 (readM (unsaid m) c.fd c.size).2.2 with value := (readM (unsaid m) c.fd c.size).2.1.length, bytes := (readM (unsaid m) c.fd c.size).2.1 }, (.slice a (readM (unsaid m) c.fd c.size).2.1.length cap), nilS, _, callM_2 h, rfl, rfl, updL_self _ _ ⟨rfl, rfl, rfl, trivial⟩, hS⟩
    (repeat (first | (apply o_pure ok; · conv => { lhs; whnf; arg 1; whnf }) | refine c_seq ?_ | refine c_region ?_ | refine o_nil ?_ | refine q_then ?_))
    refine c_cond_d rfl (fun h => ?_) (fun n3 => ?_)
    · have h : c.kind = 3 := h
      (repeat (first | (apply o_ptr ok; rfl; · conv => { lhs; whnf }) | refine c_region ?_ | (apply o_rd hS; apply rd_load ok (i := 4); rfl; rfl; rfl; rfl; · conv => { lhs; whnf; arg 1; whnf })))
      refine o_call ok rfl rfl (write_spec (A := A) hf0 (by omega) hq hd0.write hA ((hS.bring 6 rfl).bring 1 rfl)) (fun v w h9 => ?_)
      obtain ⟨rfl, hS⟩ := h9
      have hS := (hS.bring 1 rfl).back 6 rfl
      (repeat (first | (apply o_ptr ok; rfl; · conv => { lhs; whnf }) | (apply o_pure ok; · conv => { lhs; whnf; arg 1; whnf })))
      (apply o_store ok hS (i := 1); rfl; (conv => { lhs; whnf }); rfl; rfl; rfl; rfl; intro w hS)
      (repeat (first | (apply o_ptr ok; rfl; · conv => { lhs; whnf })))
      (apply o_store ok hS (i := 1); rfl; (conv => { lhs; whnf }); rfl; rfl; rfl; rfl; intro w hS)
      (repeat (first | refine o_nil ?_ | refine q_then ?_ | refine q_blk_n ?_))
      have hS : Sat w0 w (modA p (writeM (unsaid m) c.fd c.bytes).1 :: pt b6 (.cells (resC { rs0 (writeM (unsaid m) c.fd c.bytes).2.2 with value := (writeM (unsaid m) c.fd c.bytes).2.1 } nilS nilS) 65) :: rowA 5 1 nilS ({ rs0 (writeM (unsaid m) c.fd c.bytes).2.2 with value := (writeM (unsaid m) c.fd c.bytes).2.1 }).bytes.length (blkC ({ rs0 (writeM (unsaid m) c.fd c.bytes).2.2 with value := (writeM (unsaid m) c.fd c.bytes).2.1 }).bytes) :: slotsA nilS ({ rs0 (writeM (unsaid m) c.fd c.bytes).2.2 with value := (writeM (unsaid m) c.fd c.bytes).2.1 }).ents :: pt b3 (.cells (clC c pv) 42) :: pt b4 (.cells (resC (rs0 0) nilS nilS) 65) :: A :: G) := hS
      exact ⟨0, 0, (writeM (unsaid m) c.fd c.bytes).1, { rs0 (writeM (unsaid m) c.fd c.bytes).2.2 with value := (writeM (unsaid m) c.fd c.bytes).2.1 }, nilS, nilS, _, callM_3 h, rfl, rfl, updL_self _ _ ⟨rfl, rfl, rfl, trivial⟩, hS⟩
    (repeat (first | (apply o_pure ok; · conv => { lhs; whnf; arg 1; whnf }) | refine c_seq ?_ | refine c_region ?_ | refine o_nil ?_ | refine q_then ?_))
    refine c_cond_d rfl (fun h => ?_) (fun n4 => ?_)
    · have h : c.kind = 4 := h
      (repeat (first | (apply o_ptr ok; rfl; · conv => { lhs; whnf }) | refine c_region ?_ | (apply o_rd hS; apply rd_load ok (i := 4); rfl; rfl; rfl; rfl; · conv => { lhs; whnf; arg 1; whnf })))
      refine o_call ok rfl rfl (seek_spec hf0 hd0 hS) (fun v w h9 => ?_)
      obtain ⟨rfl, hS⟩ := h9
      (repeat (first | (apply o_ptr ok; rfl; · conv => { lhs; whnf }) | (apply o_pure ok; · conv => { lhs; whnf; arg 1; whnf })))
      (apply o_store ok hS (i := 1); rfl; (conv => { lhs; whnf }); rfl; rfl; rfl; rfl; intro w hS)
      (repeat (first | (apply o_ptr ok; rfl; · conv => { lhs; whnf })))
      (apply o_store ok hS (i := 1); rfl; (conv => { lhs; whnf }); rfl; rfl; rfl; rfl; intro w hS)
      (repeat (first | refine o_nil ?_ | refine q_then ?_ | refine q_blk_n ?_))
      have hS : Sat w0 w (modA p (seekM (unsaid m) c.fd c.size c.flags).1 :: pt b6 (.cells (resC { rs0 (seekM (unsaid m) c.fd c.size c.flags).2.2 with value := (seekM (unsaid m) c.fd c.size c.flags).2.1 } nilS nilS) 65) :: rowA 5 1 nilS ({ rs0 (seekM (unsaid m) c.fd c.size c.flags).2.2 with value := (seekM (unsaid m) c.fd c.size c.flags).2.1 }).bytes.length (blkC ({ rs0 (seekM (unsaid m) c.fd c.size c.flags).2.2 with value := (seekM (unsaid m) c.fd c.size c.flags).2.1 }).bytes) :: slotsA nilS ({ rs0 (seekM (unsaid m) c.fd c.size c.flags).2.2 with value := (seekM (unsaid m) c.fd c.size c.flags).2.1 }).ents :: pt b3 (.cells (clC c pv) 42) :: pt b4 (.cells (resC (rs0 0) nilS nilS) 65) :: A :: G) := hS
      exact ⟨0, 0, (seekM (unsaid m) c.fd c.size c.flags).1, { rs0 (seekM (unsaid m) c.fd c.size c.flags).2.2 with value := (seekM (unsaid m) c.fd c.size c.flags).2.1 }, nilS, nilS, _, callM_4 h, rfl, rfl, updL_self _ _ ⟨rfl, rfl, rfl, trivial⟩, hS⟩
    (repeat (first | (apply o_pure ok; · conv => { lhs; whnf; arg 1; whnf }) | refine c_seq ?_ | refine c_region ?_ | refine o_nil ?_ | refine q_then ?_))
    refine c_cond_d rfl (fun h => ?_) (fun n5 => ?_)
    · have h : c.kind = 5 := h
      (repeat (first | (apply o_ptr ok; rfl; · conv => { lhs; whnf }) | refine c_region ?_ | (apply o_rd hS; apply rd_load ok (i := 4); rfl; rfl; rfl; rfl; · conv => { lhs; whnf; arg 1; whnf })))
      refine o_call ok rfl rfl (trunc_spec hf0 (by omega) hd0 hS) (fun v w h9 => ?_)
      obtain ⟨rfl, hS⟩ := h9
      (repeat (first | (apply o_ptr ok; rfl; · conv => { lhs; whnf })))
      (apply o_store ok hS (i := 1); rfl; (conv => { lhs; whnf }); rfl; rfl; rfl; rfl; intro w hS)
      (repeat (first | refine o_nil ?_ | refine q_then ?_ | refine q_blk_n ?_))
      have hS : Sat w0 w (modA p (truncM (unsaid m) c.fd c.size).1 :: pt b6 (.cells (resC (rs0 (truncM (unsaid m) c.fd c.size).2) nilS nilS) 65) :: rowA 5 1 nilS ((rs0 (truncM (unsaid m) c.fd c.size).2)).bytes.length (blkC ((rs0 (truncM (unsaid m) c.fd c.size).2)).bytes) :: slotsA nilS ((rs0 (truncM (unsaid m) c.fd c.size).2)).ents :: pt b3 (.cells (clC c pv) 42) :: pt b4 (.cells (resC (rs0 0) nilS nilS) 65) :: A :: G) := hS
      exact ⟨0, 0, (truncM (unsaid m) c.fd c.size).1, (rs0 (truncM (unsaid m) c.fd c.size).2), nilS, nilS, _, callM_5 h, rfl, rfl, updL_self _ _ ⟨rfl, rfl, rfl, trivial⟩, hS⟩
    (repeat (first | (apply o_pure ok; · conv => { lhs; whnf; arg 1; whnf }) | refine c_seq ?_ | refine c_region ?_ | refine o_nil ?_ | refine q_then ?_))
    refine c_cond_d rfl (fun h => ?_) (fun n6 => ?_)
    · have h : c.kind = 6 := h
      (repeat (first | (apply o_ptr ok; rfl; · conv => { lhs; whnf }) | refine c_region ?_ | (apply o_rd hS; apply rd_load ok (i := 4); rfl; rfl; rfl; rfl; · conv => { lhs; whnf; arg 1; whnf })))
      refine o_call ok rfl rfl (close_spec hf0 (by omega) hS) (fun v w h9 => ?_)
      obtain ⟨rfl, hS⟩ := h9
      (repeat (first | (apply o_ptr ok; rfl; · conv => { lhs; whnf })))
      (apply o_store ok hS (i := 1); rfl; (conv => { lhs; whnf }); rfl; rfl; rfl; rfl; intro w hS)
      (repeat (first | refine o_nil ?_ | refine q_then ?_ | refine q_blk_n ?_))
      have hS : Sat w0 w (modA p (closeM (unsaid m) c.fd).1 :: pt b6 (.cells (resC (rs0 (closeM (unsaid m) c.fd).2) nilS nilS) 65) :: rowA 5 1 nilS ((rs0 (closeM (unsaid m) c.fd).2)).bytes.length (blkC ((rs0 (closeM (unsaid m) c.fd).2)).bytes) :: slotsA nilS ((rs0 (closeM (unsaid m) c.fd).2)).ents :: pt b3 (.cells (clC c pv) 42) :: pt b4 (.cells (resC (rs0 0) nilS nilS) 65) :: A :: G) := hS
      exact ⟨0, 0, (closeM (unsaid m) c.fd).1, (rs0 (closeM (unsaid m) c.fd).2), nilS, nilS, _, callM_6 h, rfl, rfl, updL_self _ _ ⟨rfl, rfl, rfl, trivial⟩, hS⟩
    (repeat (first | (apply o_pure ok; · conv => { lhs; whnf; arg 1; whnf }) | refine c_seq ?_ | refine c_region ?_ | refine o_nil ?_ | refine q_then ?_))
    refine c_cond_d rfl (fun h => ?_) (fun n7 => ?_)
    · have h : c.kind = 7 := h
      obtain ⟨q, hq7⟩ : ∃ q, statP (unsaid m) c.path = some q := by
        have := H 0 0
        rw [callM_7 h, Option.isSome_map] at this
        exact Option.isSome_iff_exists.1 this
      (repeat (first | (apply o_ptr ok; rfl; · conv => { lhs; whnf }) | refine c_region ?_ | (apply o_rd hS; apply rd_load ok (i := 4); rfl; rfl; rfl; rfl; · conv => { lhs; whnf; arg 1; whnf })))
      refine o_call ok rfl rfl (stat_spec (r := (statV q.1, q.2)) hf0 hp (by rw [statS_eq, hq7]; rfl) hS) (fun v w h9 => ?_)
      obtain ⟨rfl, hS⟩ := h9
      (repeat (first | (apply o_ptr ok; rfl; · conv => { lhs; whnf }) | (apply o_pure ok; · conv => { lhs; whnf; arg 1; whnf })))
      refine o_storeA ok hS rfl rfl rfl rfl (i := 1) rfl (by show (3 + 5 ≤ 9); decide) (fun w hS => ?_)
      (repeat (first | (apply o_ptr ok; rfl; · conv => { lhs; whnf })))
      (apply o_store ok hS (i := 1); rfl; (conv => { lhs; whnf }); rfl; rfl; rfl; rfl; intro w hS)
      (repeat (first | refine o_nil ?_ | refine q_then ?_ | refine q_blk_n ?_))
      have hS : Sat w0 w (modA p (unsaid m) :: pt b6 (.cells (resC { rs0 q.2 with stat := q.1 } nilS nilS) 65) :: rowA 5 1 nilS ({ rs0 q.2 with stat := q.1 }).bytes.length (blkC ({ rs0 q.2 with stat := q.1 }).bytes) :: slotsA nilS ({ rs0 q.2 with stat := q.1 }).ents :: pt b3 (.cells (clC c pv) 42) :: pt b4 (.cells (resC (rs0 0) nilS nilS) 65) :: A :: G) := hS
      exact ⟨0, 0, (unsaid m), { rs0 q.2 with stat := q.1 }, nilS, nilS, _, by rw [callM_7 h, hq7]; rfl, rfl, rfl, updL_self _ _ ⟨rfl, rfl, rfl, trivial⟩, hS⟩
    (repeat (first | (apply o_pure ok; · conv => { lhs; whnf; arg 1; whnf }) | refine c_seq ?_ | refine c_region ?_ | refine o_nil ?_ | refine q_then ?_))
    refine c_cond_d rfl (fun h => ?_) (fun n8 => ?_)
    · have h : c.kind = 8 := h
      have hO := @callM_8 (unsaid m) c 0 0 h
      (repeat (first | (apply o_ptr ok; rfl; · conv => { lhs; whnf }) | refine c_seq ?_ | refine c_region ?_ | (apply o_rd hS; apply rd_load ok (i := 4); rfl; rfl; rfl; rfl; · conv => { lhs; whnf; arg 1; whnf })))
      refine o_call ok rfl rfl (get_spec c.fd 0 hS) (fun v w h9 => ?_)
      obtain ⟨rfl, hS⟩ := h9
      cases hg : getOk (unsaid m) c.fd 0 with
      | none =>
        rw [hg] at hO
        unfold getR
        (repeat (first | (apply o_ptr ok; rfl; · conv => { lhs; whnf }) | (apply o_pure ok; · conv => { lhs; whnf; arg 1; whnf }) | refine c_seq ?_ | refine c_region ?_ | refine o_nil ?_ | refine q_then ?_))
        (apply o_store ok hS (i := 1); rfl; (conv => { lhs; whnf }); rfl; rfl; rfl; rfl; intro w hS)
        (repeat (first | (apply o_pure ok; · conv => { lhs; whnf; arg 1; whnf }) | refine c_seq ?_ | refine c_region ?_ | refine c_skip ?_ | refine o_nil ?_ | refine q_then ?_ | refine q_blk_n ?_ | (apply c_cond_f; rfl)))
        have hS : Sat w0 w (modA p (unsaid m) :: pt b6 (.cells (resC (rs0 13) nilS nilS) 65) :: rowA 5 1 nilS ((rs0 13)).bytes.length (blkC ((rs0 13)).bytes) :: slotsA nilS ((rs0 13)).ents :: pt b3 (.cells (clC c pv) 42) :: pt b4 (.cells (resC (rs0 0) nilS nilS) 65) :: A :: G) := hS
        exact ⟨0, 0, (unsaid m), rs0 13, nilS, nilS, _, hO, rfl, rfl, updL_self _ _ ⟨rfl, rfl, rfl, trivial⟩, hS⟩
      | some x =>
        rw [hg] at hO
        unfold getR
        obtain ⟨hp9, y, hy, _⟩ := hd0.get hg
        obtain ⟨hf9, hf16, hdx⟩ := getOk_some hg
        have hj : c.fd.toNat < 16 := by omega
        simp only at hO
        rw [hy] at hO
        simp only
        (repeat (first | (apply o_ptr ok; rfl; · conv => { lhs; whnf }) | (apply o_pure ok; · conv => { lhs; whnf; arg 1; whnf }) | refine c_seq ?_ | refine c_region ?_ | refine o_nil ?_ | refine q_then ?_))
        (apply o_store ok hS (i := 1); rfl; (conv => { lhs; whnf }); rfl; rfl; rfl; rfl; intro w hS)
        (repeat (first | (apply o_ptr ok; rfl; · conv => { lhs; whnf }) | (apply o_pure ok; · conv => { lhs; whnf; arg 1; whnf }) | refine c_seq ?_ | refine c_region ?_ | refine o_nil ?_ | refine q_then ?_ | (apply c_cond_t; rfl)))
        obtain ⟨ib, tv, hS⟩ := Sat.modOpen hS
        have hS := Sat.descOpen (hS.bring 3 rfl) hj
        rw [hdx] at hS
        (repeat (first | (apply o_rd hS; apply rd_load ok (i := 0); rfl; rfl; rfl; rfl; · conv => { lhs; whnf; arg 1; whnf })))
        have hS := Sat.modClose ((Sat.descSome hj hdx hS).back 3 rfl)
        refine o_call ok rfl rfl (told1_spec hf0 hy hS) (fun v w h9 => ?_)
        obtain ⟨rfl, hS⟩ := h9
        (repeat (first | (apply o_ptr ok; rfl; · conv => { lhs; whnf })))
        refine o_storeA ok hS rfl rfl rfl rfl (i := 1) rfl (by show (3 + 5 ≤ 9); decide) (fun w hS => ?_)
        (repeat (first | refine o_nil ?_ | refine q_then ?_ | refine q_blk_n ?_))
        have hS : Sat w0 w (modA p (unsaid m) :: pt b6 (.cells (resC { rs0 0 with stat := statI x.2.inum y.2.2 } nilS nilS) 65) :: rowA 5 1 nilS ({ rs0 0 with stat := statI x.2.inum y.2.2 }).bytes.length (blkC ({ rs0 0 with stat := statI x.2.inum y.2.2 }).bytes) :: slotsA nilS ({ rs0 0 with stat := statI x.2.inum y.2.2 }).ents :: pt b3 (.cells (clC c pv) 42) :: pt b4 (.cells (resC (rs0 0) nilS nilS) 65) :: A :: G) := hS
        exact ⟨0, 0, (unsaid m), { rs0 0 with stat := statI x.2.inum y.2.2 }, nilS, nilS, _, hO, rfl, rfl, updL_self _ _ ⟨rfl, rfl, rfl, trivial⟩, hS⟩
    (repeat (first | (apply o_pure ok; · conv => { lhs; whnf; arg 1; whnf }) | refine c_seq ?_ | refine c_region ?_ | refine o_nil ?_ | refine q_then ?_))
    refine c_cond_d rfl (fun h => ?_) (fun n9 => ?_)
    · have h : c.kind = 9 := h
      obtain ⟨q, hq9⟩ : ∃ q, readDirS (unsaid m) c.path = some q := by
        have := H 0 0
        rw [callM_9 h, Option.isSome_map] at this
        exact Option.isSome_iff_exists.1 this
      (repeat (first | (apply o_ptr ok; rfl; · conv => { lhs; whnf }) | refine c_region ?_ | (apply o_rd hS; apply rd_load ok (i := 4); rfl; rfl; rfl; rfl; · conv => { lhs; whnf; arg 1; whnf })))
      refine o_call ok rfl rfl (readDir_spec hf0 hp hq9 hS) (fun v w h9 => ?_)
      obtain ⟨ov, rfl, hS⟩ := h9
      obtain ⟨hlen, a, cap, rfl, _, _⟩ := Sat.rowForm hS (i := 0) rfl
      have hS := ((hS.bring 4 rfl).tail).back 3 rfl
      (repeat (first | (apply o_ptr ok; rfl; · conv => { lhs; whnf }) | (apply o_pure ok; · conv => { lhs; whnf; arg 1; whnf })))
      (apply o_store ok hS (i := 1); rfl; (conv => { lhs; whnf }); rfl; rfl; rfl; rfl; intro w hS)
      (repeat (first | (apply o_ptr ok; rfl; · conv => { lhs; whnf })))
      (apply o_store ok hS (i := 1); rfl; (conv => { lhs; whnf }); rfl; rfl; rfl; rfl; intro w hS)
      (repeat (first | refine o_nil ?_ | refine q_then ?_ | refine q_blk_n ?_))
      have hS : Sat w0 w (modA p (unsaid m) :: pt b6 (.cells (resC { rs0 q.2 with ents := q.1 } nilS (.slice a q.1.length cap)) 65) :: rowA 5 1 nilS ({ rs0 q.2 with ents := q.1 }).bytes.length (blkC ({ rs0 q.2 with ents := q.1 }).bytes) :: slotsA (.slice a q.1.length cap) ({ rs0 q.2 with ents := q.1 }).ents :: pt b3 (.cells (clC c pv) 42) :: pt b4 (.cells (resC (rs0 0) nilS nilS) 65) :: A :: G) := hS
      exact ⟨0, 0, (unsaid m), { rs0 q.2 with ents := q.1 }, nilS, (.slice a q.1.length cap), _, by rw [callM_9 h, hq9]; rfl, rfl, rfl, updL_self _ _ ⟨rfl, rfl, rfl, trivial⟩, hS⟩
    (repeat (first | (apply o_pure ok; · conv => { lhs; whnf; arg 1; whnf }) | refine c_seq ?_ | refine c_region ?_ | refine o_nil ?_ | refine q_then ?_))
    refine c_cond_d rfl (fun h => ?_) (fun n10 => ?_)
    · have h : c.kind = 10 := h
      rw [forall_congr' fun b1 => forall_congr' fun b2 => by rw [callM_10 h]] at H
      (repeat (first | (apply o_ptr ok; rfl; · conv => { lhs; whnf }) | refine c_region ?_ | (apply o_rd hS; apply rd_load ok (i := 4); rfl; rfl; rfl; rfl; · conv => { lhs; whnf; arg 1; whnf })))
      refine o_call ok rfl rfl (mkdir_spec hf0 (by omega) hp (fun b1 => by have := H b1 0; rwa [Option.isSome_map] at this) hS) (fun v w h9 => ?_)
      obtain ⟨b1, r, hr, rfl, hS⟩ := h9
      (repeat (first | (apply o_ptr ok; rfl; · conv => { lhs; whnf })))
      (apply o_store ok hS (i := 1); rfl; (conv => { lhs; whnf }); rfl; rfl; rfl; rfl; intro w hS)
      (repeat (first | refine o_nil ?_ | refine q_then ?_ | refine q_blk_n ?_))
      have hS : Sat w0 w (modA p r.1 :: pt b6 (.cells (resC (rs0 r.2) nilS nilS) 65) :: rowA 5 1 nilS ((rs0 r.2)).bytes.length (blkC ((rs0 r.2)).bytes) :: slotsA nilS ((rs0 r.2)).ents :: pt b3 (.cells (clC c pv) 42) :: pt b4 (.cells (resC (rs0 0) nilS nilS) 65) :: A :: G) := hS
      exact ⟨b1, 0, r.1, (rs0 r.2), nilS, nilS, _, by rw [callM_10 h, hr]; rfl, rfl, rfl, updL_self _ _ ⟨rfl, rfl, rfl, trivial⟩, hS⟩
    (repeat (first | (apply o_pure ok; · conv => { lhs; whnf; arg 1; whnf }) | refine c_seq ?_ | refine c_region ?_ | refine o_nil ?_ | refine q_then ?_))
    refine c_cond_d rfl (fun h => ?_) (fun n11 => ?_)
    · have h : c.kind = 11 := h
      obtain ⟨q, hq9⟩ : ∃ q, linkM (unsaid m) c.path c.other = some q := by
        have := H 0 0
        rw [callM_11 h, Option.isSome_map] at this
        exact Option.isSome_iff_exists.1 this
      (repeat (first | (apply o_ptr ok; rfl; · conv => { lhs; whnf }) | refine c_region ?_ | (apply o_rd hS; apply rd_load ok (i := 4); rfl; rfl; rfl; rfl; · conv => { lhs; whnf; arg 1; whnf })))
      refine o_call ok rfl rfl (link_spec hf0 (by omega) hp hp2 hq9 hS) (fun v w h9 => ?_)
      obtain ⟨rfl, hS⟩ := h9
      (repeat (first | (apply o_ptr ok; rfl; · conv => { lhs; whnf })))
      (apply o_store ok hS (i := 1); rfl; (conv => { lhs; whnf }); rfl; rfl; rfl; rfl; intro w hS)
      (repeat (first | refine o_nil ?_ | refine q_then ?_ | refine q_blk_n ?_))
      have hS : Sat w0 w (modA p q.1 :: pt b6 (.cells (resC (rs0 q.2) nilS nilS) 65) :: rowA 5 1 nilS ((rs0 q.2)).bytes.length (blkC ((rs0 q.2)).bytes) :: slotsA nilS ((rs0 q.2)).ents :: pt b3 (.cells (clC c pv) 42) :: pt b4 (.cells (resC (rs0 0) nilS nilS) 65) :: A :: G) := hS
      exact ⟨0, 0, q.1, (rs0 q.2), nilS, nilS, _, by rw [callM_11 h, hq9]; rfl, rfl, rfl, updL_self _ _ ⟨rfl, rfl, rfl, trivial⟩, hS⟩
    (repeat (first | (apply o_pure ok; · conv => { lhs; whnf; arg 1; whnf }) | refine c_seq ?_ | refine c_region ?_ | refine o_nil ?_ | refine q_then ?_))
    refine c_cond_d rfl (fun h => ?_) (fun n12 => ?_)
    · have h : c.kind = 12 := h
      obtain ⟨q, hq9⟩ : ∃ q, unlinkM (unsaid m) c.path = some q := by
        have := H 0 0
        rw [callM_12 h, Option.isSome_map] at this
        exact Option.isSome_iff_exists.1 this
      (repeat (first | (apply o_ptr ok; rfl; · conv => { lhs; whnf }) | refine c_region ?_ | (apply o_rd hS; apply rd_load ok (i := 4); rfl; rfl; rfl; rfl; · conv => { lhs; whnf; arg 1; whnf })))
      refine o_call ok rfl rfl (unlink_spec hf0 (by omega) hp hq9 hS) (fun v w h9 => ?_)
      obtain ⟨rfl, hS⟩ := h9
      (repeat (first | (apply o_ptr ok; rfl; · conv => { lhs; whnf })))
      (apply o_store ok hS (i := 1); rfl; (conv => { lhs; whnf }); rfl; rfl; rfl; rfl; intro w hS)
      (repeat (first | refine o_nil ?_ | refine q_then ?_ | refine q_blk_n ?_))
      have hS : Sat w0 w (modA p q.1 :: pt b6 (.cells (resC (rs0 q.2) nilS nilS) 65) :: rowA 5 1 nilS ((rs0 q.2)).bytes.length (blkC ((rs0 q.2)).bytes) :: slotsA nilS ((rs0 q.2)).ents :: pt b3 (.cells (clC c pv) 42) :: pt b4 (.cells (resC (rs0 0) nilS nilS) 65) :: A :: G) := hS
      exact ⟨0, 0, q.1, (rs0 q.2), nilS, nilS, _, by rw [callM_12 h, hq9]; rfl, rfl, rfl, updL_self _ _ ⟨rfl, rfl, rfl, trivial⟩, hS⟩
    (repeat (first | (apply o_pure ok; · conv => { lhs; whnf; arg 1; whnf }) | refine c_seq ?_ | refine c_region ?_ | refine o_nil ?_ | refine q_then ?_))
    refine c_cond_d rfl (fun h => ?_) (fun n13 => ?_)
    · have h : c.kind = 13 := h
      obtain ⟨q, hq9⟩ : ∃ q, renameM (unsaid m) c.path c.other = some q := by
        have := H 0 0
        rw [callM_13 h, Option.isSome_map] at this
        exact Option.isSome_iff_exists.1 this
      (repeat (first | (apply o_ptr ok; rfl; · conv => { lhs; whnf }) | refine c_region ?_ | (apply o_rd hS; apply rd_load ok (i := 4); rfl; rfl; rfl; rfl; · conv => { lhs; whnf; arg 1; whnf })))
      refine o_call ok rfl rfl (rename_spec hf0 (by omega) hp hp2 hq9 hS) (fun v w h9 => ?_)
      obtain ⟨rfl, hS⟩ := h9
      (repeat (first | (apply o_ptr ok; rfl; · conv => { lhs; whnf })))
      (apply o_store ok hS (i := 1); rfl; (conv => { lhs; whnf }); rfl; rfl; rfl; rfl; intro w hS)
      (repeat (first | refine o_nil ?_ | refine q_then ?_ | refine q_blk_n ?_))
      have hS : Sat w0 w (modA p q.1 :: pt b6 (.cells (resC (rs0 q.2) nilS nilS) 65) :: rowA 5 1 nilS ((rs0 q.2)).bytes.length (blkC ((rs0 q.2)).bytes) :: slotsA nilS ((rs0 q.2)).ents :: pt b3 (.cells (clC c pv) 42) :: pt b4 (.cells (resC (rs0 0) nilS nilS) 65) :: A :: G) := hS
      exact ⟨0, 0, q.1, (rs0 q.2), nilS, nilS, _, by rw [callM_13 h, hq9]; rfl, rfl, rfl, updL_self _ _ ⟨rfl, rfl, rfl, trivial⟩, hS⟩
    (repeat (first | (apply o_pure ok; · conv => { lhs; whnf; arg 1; whnf }) | refine c_seq ?_ | refine c_region ?_ | refine o_nil ?_ | refine q_then ?_))
    refine c_cond_d rfl (fun h => ?_) (fun n14 => ?_)
    · have h : c.kind = 14 := h
      (repeat (first | refine c_skip ?_ | refine q_then ?_ | refine q_blk_n ?_))
      have hS : Sat w0 w (modA p (unsaid m) :: pt b6 (.cells (resC (rs0 0) nilS nilS) 65) :: rowA 5 1 nilS ((rs0 0)).bytes.length (blkC ((rs0 0)).bytes) :: slotsA nilS ((rs0 0)).ents :: pt b3 (.cells (clC c pv) 42) :: pt b4 (.cells (resC (rs0 0) nilS nilS) 65) :: A :: G) := hS
      exact ⟨0, 0, (unsaid m), (rs0 0), nilS, nilS, _, callM_14 h, rfl, rfl, updL_self _ _ ⟨rfl, rfl, rfl, trivial⟩, hS⟩
    (repeat (first | (apply o_ptr ok; rfl; · conv => { lhs; whnf }) | refine c_region ?_))
    (apply o_store ok hS (i := 1); rfl; (conv => { lhs; whnf }); rfl; rfl; rfl; rfl; intro w hS)
    (repeat (first | refine o_nil ?_ | refine q_then ?_ | refine q_blk_n ?_))
    have hS : Sat w0 w (modA p (unsaid m) :: pt b6 (.cells (resC (rs0 2) nilS nilS) 65) :: rowA 5 1 nilS ((rs0 2)).bytes.length (blkC ((rs0 2)).bytes) :: slotsA nilS ((rs0 2)).ents :: pt b3 (.cells (clC c pv) 42) :: pt b4 (.cells (resC (rs0 0) nilS nilS) 65) :: A :: G) := hS
    exact ⟨0, 0, (unsaid m), (rs0 2), nilS, nilS, _, callM_else n1 n2 n3 n4 n5 n6 n7 n8 n9 n10 n11 n12 n13 n14, rfl, rfl, updL_self _ _ ⟨rfl, rfl, rfl, trivial⟩, hS⟩
  rintro g w ⟨b1, b2, m', R, ov, ev, jk, hO, hov, hev, rfl, hS⟩
  obtain ⟨ib, tv, hS⟩ := Sat.modOpen hS
  (repeat (first | (apply o_ptr ok; rfl; · conv => { lhs; whnf }) | (apply o_pure ok; · conv => { lhs; whnf; arg 1; whnf }) | refine c_seq ?_ | refine c_region ?_ | refine o_nil ?_ | refine q_then ?_ | (apply o_rd hS; apply rd_load ok (i := 0); rfl; rfl; rfl; rfl; · conv => { lhs; whnf; arg 1; whnf })))
  (apply o_store ok hS (i := 0); rfl; (conv => { lhs; whnf }); rfl; rfl; rfl; rfl; intro w hS)
  (repeat (first | refine c_seq ?_ | refine c_region ?_ | refine o_nil ?_ | refine q_then ?_))
  have hS : Sat w0 w (pt b6 (.cells (resC R ov ev) 65) :: pt b4 (.cells (resC (rs0 0) nilS nilS) 65) :: pt p (.cells (modC m'.lay ib m'.d nilS) 58) :: mapA encI ib (itemsKV m'.items) :: itemsA m'.items :: descsA m'.d :: toldA tv m'.told :: rowA 5 1 ov R.bytes.length (blkC R.bytes) :: slotsA ev R.ents :: pt b3 (.cells (clC c pv) 42) :: A :: G) := (hS.bring 9 rfl).bring 6 rfl
  (repeat (first | (apply o_pure ok; · conv => { lhs; whnf; arg 1; whnf }) | refine o_rd hS (rd_loadW ok (i := 0) rfl rfl rfl rfl rfl rfl) ?_))
  have hone : oneCells (resC R ov ev).toList = true := by
    unfold oneCells resC
    simp [Value.oneCell']
    exact ⟨hov, hev⟩
  refine o_storeW ok hS rfl rfl rfl (i := 1) rfl hone rfl rfl (fun w hS => ?_)
  (repeat (first | (apply o_pure ok; · conv => { lhs; whnf; arg 1; whnf }) | refine c_ret ?_ | refine o_nil ?_ | refine q_then ?_))
  have hS : Sat w0 w (pt b4 (.cells (resC R ov ev) 65) :: pt p (.cells (modC m'.lay ib m'.d nilS) 58) :: mapA encI ib (itemsKV m'.items) :: itemsA m'.items :: descsA m'.d :: toldA tv m'.told :: rowA 5 1 ov R.bytes.length (blkC R.bytes) :: slotsA ev R.ents :: pt b3 (.cells (clC c pv) 42) :: A :: G) := hS.tail
  refine outCA1 ok rfl hS rfl rfl rfl rfl (i := 0) rfl rfl ⟨b1, b2, m', R, ov, ev, tv, hO, rfl, ?_⟩
  have hS : Sat w0 w (rowA 5 1 ov R.bytes.length (blkC R.bytes) :: slotsA ev R.ents :: toldA tv m'.told :: pt p (.cells (modC m'.lay ib m'.d nilS) 58) :: mapA encI ib (itemsKV m'.items) :: itemsA m'.items :: descsA m'.d :: A :: G) := (((hS.tail.bring 7 rfl).tail.bring 4 rfl).bring 6 rfl).bring 6 rfl
  exact Sat.modClose (m := unsaid m') ((((Sat.toldNil hS).back 7 rfl).back 7 rfl |>.back 7 rfl).back 7 rfl)
end Go.Proofs.YtllomopjoomdiaaGreat
end

section
namespace Go.SL
theorem o_remZ {P : Program} {ops : Array Oper} {Q : QF} {rest : List Oper} {n : Nat} {f : Nat → Value} {w : World} {ty : TypeId} {pos : String} {after : Array Edge} {d : Nat} {t u : TypeId} {x y : Operand} {a b : Int}
    (hx : ev n f x = .int .i64 a) (hy : ev n f y = .int .i64 b) (hb : 1 ≤ b) (h : WL P ops Q rest n (upd f d (.int .i64 (a.tmod b))) w) :
    WL P ops Q (⟨some d, .binOp .rem t x y u, ty, pos, after, none⟩ :: rest) n f w := by
  refine o_run rfl rfl ?_ h
  have : b ≠ 0 := by omega
  simp [execOp, eqGuard, hx, hy, binOp, Op.intDiv, this]
end Go.SL
namespace Go.Proofs.YtllomopjoomdiaaGreat
open Go.SL
theorem geometry_spec {w0 w : World} {G : List Asn} (hS : Sat w0 w G) : CR Tryz.prog 53 [] w fun v w' => v = geoV 400 32 60 ∧ Sat w0 w' G := by
  refine calls_enter Tryz.func53 rfl rfl rfl ?_
  (repeat (first | refine c_seq ?_ | refine c_region ?_))
  refine o_alloc ok hS rfl (fun b1 w hS => ?_)
  (repeat (first | refine c_seq ?_ | refine c_region ?_ | refine c_ret ?_ | refine o_nil ?_ | refine q_then ?_ | (apply o_rd hS; apply rd_build1 ok; rfl; rfl; rfl; rfl) | (refine o_storeW ok hS rfl rfl rfl (i := 0) rfl rfl rfl rfl (fun w hS => ?_))))
  refine outCA ok rfl hS rfl rfl rfl rfl (i := 0) rfl rfl ⟨rfl, hS.tail⟩
def call0 : Cl := ⟨0, ⟨#[]⟩, ⟨#[]⟩, 0, 0, 0, []⟩
def openC (path : ByteArray) (flags : Int) : Cl := ⟨1, path, ⟨#[]⟩, 0, 0, flags, []⟩
theorem lawopen_spec {w0 w : World} {G : List Asn} (path : ByteArray) (flags : Int) (hS : Sat w0 w G) : CR Tryz.prog 54 [.string path, vi flags] w fun v w' => v = .agg (clC (openC path flags) nilS) ∧ Sat w0 w' G := by
  refine calls_enter Tryz.func54 rfl rfl rfl ?_
  (repeat (first | refine c_seq ?_ | refine c_region ?_))
  refine o_alloc ok hS rfl (fun b1 w hS => ?_)
  (repeat (first | (apply o_pure ok; · conv => { lhs; whnf; arg 1; whnf }) | refine c_seq ?_ | refine c_region ?_ | refine c_ret ?_ | refine o_nil ?_ | refine q_then ?_ | (apply o_rd hS; apply rd_build1 ok; rfl; rfl; rfl; rfl) | (refine o_storeW ok hS rfl rfl rfl (i := 0) rfl rfl rfl rfl (fun w hS => ?_))))
  refine outCA ok rfl hS rfl rfl rfl rfl (i := 0) rfl rfl ⟨rfl, hS.tail⟩
end Go.Proofs.YtllomopjoomdiaaGreat
end

section
namespace Go.Proofs.YtllomopjoomdiaaGreat
open Go.SL
theorem Sat.addEmp {w0 w : World} {G : List Asn} (hS : Sat w0 w G) : Sat w0 w (emp :: G) := Sat.closeH [] hS (fun _ _ => trivial)
theorem Sat.resOne {w0 w : World} {L : List Asn} (hS : Sat w0 w L) {i j n e z : Nat} {ov ev : Value} {xs : List Value} {l : List (Int × ByteArray)} (R : Rs) (hi : L[i]? = some (rowA e z ov n xs)) (hj : L[j]? = some (slotsA ev l)) : oneCells (resC R ov ev).toList = true := by
  obtain ⟨_, a, cap, rfl, _, _⟩ := Sat.rowForm hS (i := i) hi
  obtain ⟨_, a2, cap2, rfl, _, _⟩ := Sat.rowForm hS (i := j) hj
  rfl
/-- A call that hands no bytes in. -/
theorem do0_spec {w0 w : World} {G : List Asn} {p : Nat} {m : Mod} {c : Cl} (hf : Fine m) (hd : DOk m) (hp : c.path.size ≤ 4611686018427387904) (hp2 : c.other.size ≤ 4611686018427387904) (hq : c.bytes = [])
    (H : ∀ b1 b2, (callM (unsaid m) c b1 b2).isSome = true) (hS : Sat w0 w (modA p m :: G)) :
    CR Tryz.prog 18 [ptr p, .agg (clC c nilS)] w fun v w' => ∃ b1 b2 m' R ov ev tv, callM (unsaid m) c b1 b2 = some (m', R) ∧ v = .tuple #[.agg (resC R ov ev), tv] ∧
      Sat w0 w' (modA p (unsaid m') :: rowA 5 1 ov R.bytes.length (blkC R.bytes) :: slotsA ev R.ents :: toldA tv m'.told :: G) := by
  refine (do_spec (A := emp) (G := G) hf hd hp hp2 (by rw [hq]; decide) rfl (fun h _ => by rw [hq]; exact .inl ⟨rfl, rfl, rfl⟩) H ((Sat.addEmp hS).bring 1 rfl)).mono ?_
  rintro v w' ⟨b1, b2, m', R, ov, ev, tv, h1, h2, hS⟩
  exact ⟨b1, b2, m', R, ov, ev, tv, h1, h2, (hS.bring 4 rfl).tail⟩
def seekC (size flags : Int) : Cl := ⟨4, ⟨#[]⟩, ⟨#[]⟩, 0, size, flags, []⟩
def readC (size : Int) : Cl := ⟨2, ⟨#[]⟩, ⟨#[]⟩, 0, size, 0, []⟩
def truncC (size : Int) : Cl := ⟨5, ⟨#[]⟩, ⟨#[]⟩, 0, size, 0, []⟩
def statC0 (path : ByteArray) : Cl := ⟨7, path, ⟨#[]⟩, 0, 0, 0, []⟩
theorem resC_stat (R : Rs) (ov ev : Value) : (resC R ov ev).extract 3 (3 + 5) = statV R.stat := rfl
theorem rd_resStat {w0 : World} {L : List Asn} {n : Nat} {f : Nat → Value} {x : Operand} {b i T : Nat} {fz : Nat × Nat} {R : Rs} {ov ev : Value} (hx : SL.ev n f x = .pointer (some ⟨b, 3, none⟩)) (hi : L[i]? = some (pt b (.cells (resC R ov ev) T fz))) :
    Rd Tryz.prog w0 L n f (.load 62 x) (.agg (statV R.stat)) := by
  rw [← resC_stat R ov ev]
  exact rd_loadA (m := 5) ok rfl rfl rfl hx hi (Nat.le_of_ble_eq_true rfl)
end Go.Proofs.YtllomopjoomdiaaGreat
end

section
namespace Go.Proofs.YtllomopjoomdiaaGreat
open Go.SL
theorem stat_fields : Tryz.prog.fieldsOf 62 = #[{ name := "Inum", type := 3, offset := 0, embedded := false, tag := "", pkgPath := "", byteOffset := 0 }, { name := "Kind", type := 60, offset := 1, embedded := false, tag := "", pkgPath := "", byteOffset := 8 }, { name := "Links", type := 3, offset := 2, embedded := false, tag := "", pkgPath := "", byteOffset := 16 }, { name := "Size", type := 3, offset := 3, embedded := false, tag := "", pkgPath := "", byteOffset := 24 }, { name := "Blocks", type := 3, offset := 4, embedded := false, tag := "", pkgPath := "", byteOffset := 32 }] := by kernel_rfl
theorem stat_under : Tryz.prog.underlying 62 = some (.struct (Tryz.prog.fieldsOf 62)) := by kernel_rfl
theorem stat_held : Tryz.prog.stoodInHeld 62 = false := by kernel_rfl
theorem stat_guard : Tryz.prog.eqGuardType Tryz.prog.depth 62 = false := by kernel_rfl
theorem equalIn_stat (a b : Int × Int × Int × Int × Int) (w : World) : (Op.equalIn 10000 62 (.agg (statV a)) (.agg (statV b))).run Tryz.prog w = .ok (decide (a = b)) w := by
  rw [show (10000 : Nat) = 9998 + 1 + 1 from rfl, run_equalIn_agg w _ _ _ _ stat_under stat_held, stat_fields]
  obtain ⟨a1, a2, a3, a4, a5⟩ := a
  obtain ⟨b1, b2, b3, b4, b5⟩ := b
  have hi : Tryz.prog.underlying 3 = some (.int .i64) := by kernel_rfl
  have hk : Tryz.prog.underlying 60 = some (.int .u16) := by kernel_rfl
  have p0 : ∀ c : Int × Int × Int × Int × Int, ∀ w, (part 3 (statV c) 0).run Tryz.prog w = .ok (vi c.1) w := fun c w => run_part ok rfl w
  have p1 : ∀ c : Int × Int × Int × Int × Int, ∀ w, (part 60 (statV c) 1).run Tryz.prog w = .ok (.int .u16 c.2.1) w := fun c w => run_part ok rfl w
  have p2 : ∀ c : Int × Int × Int × Int × Int, ∀ w, (part 3 (statV c) 2).run Tryz.prog w = .ok (vi c.2.2.1) w := fun c w => run_part ok rfl w
  have p3 : ∀ c : Int × Int × Int × Int × Int, ∀ w, (part 3 (statV c) 3).run Tryz.prog w = .ok (vi c.2.2.2.1) w := fun c w => run_part ok rfl w
  have p4 : ∀ c : Int × Int × Int × Int × Int, ∀ w, (part 3 (statV c) 4).run Tryz.prog w = .ok (vi c.2.2.2.2) w := fun c w => run_part ok rfl w
  have n1 : ("Inum" : String) ≠ "_" := by decide
  have n2 : ("Kind" : String) ≠ "_" := by decide
  have n3 : ("Links" : String) ≠ "_" := by decide
  have n4 : ("Size" : String) ≠ "_" := by decide
  have n5 : ("Blocks" : String) ≠ "_" := by decide
  simp only [Op.eqFields, Sem.run_bind, p0, p1, p2, p3, p4, Result.andThen_ok, run_equalIn_int _ _ _ _ _ _ _ hi, run_equalIn_int _ _ _ _ _ _ _ hk, Sem.run_ite, Sem.run_pure]
  rw [if_pos n1, if_pos n2, if_pos n3, if_pos n4, if_pos n5]
  by_cases h1 : a1 = b1
  · by_cases h2 : a2 = b2
    · by_cases h3 : a3 = b3
      · by_cases h4 : a4 = b4
        · by_cases h5 : a5 = b5
          · subst h1 h2 h3 h4 h5; simp
          · subst h1 h2 h3 h4; simp [h5]
        · subst h1 h2 h3; simp [h4]
      · subst h1 h2; simp [h3]
    · subst h1; simp [h2]
  · simp [h1]
theorem rd_eqStat {w0 : World} {L : List Asn} {n : Nat} {f : Nat → Value} {x y : Operand} {u : TypeId} {a b : Int × Int × Int × Int × Int} (hx : ev n f x = .agg (statV a)) (hy : ev n f y = .agg (statV b)) :
    Rd Tryz.prog w0 L n f (.binOp .eql 62 x y u) (.bool (decide (a = b))) := ⟨fun G w _ _ _ _ _ => by
  simp only [execOp, hx, hy, Sem.run_bind, run_eqGuard_agg w _ _ _ _ _ _ stat_guard, Result.andThen_ok, run_eql_struct, equalIn_stat, Sem.run_pure]⟩
theorem rd_neqStat {w0 : World} {L : List Asn} {n : Nat} {f : Nat → Value} {x y : Operand} {u : TypeId} {a b : Int × Int × Int × Int × Int} (hx : ev n f x = .agg (statV a)) (hy : ev n f y = .agg (statV b)) :
    Rd Tryz.prog w0 L n f (.binOp .neq 62 x y u) (.bool (!decide (a = b))) := ⟨fun G w _ _ _ _ _ => by
  simp only [execOp, hx, hy, Sem.run_bind, run_eqGuard_agg w _ _ _ _ _ _ stat_guard, Result.andThen_ok, run_neq_struct, equalIn_stat, Sem.run_pure]⟩
end Go.Proofs.YtllomopjoomdiaaGreat
end

section
namespace Go.Proofs.YtllomopjoomdiaaGreat
open Go.SL
def writeC (q : List Int) : Cl := ⟨3, ⟨#[]⟩, ⟨#[]⟩, 0, 0, 0, q⟩
def lay4 : Lay := ⟨400, 32, 60, 1, 33, 4, 37, 1, 38⟩
def pa : ByteArray := ⟨#[47, 97]⟩
def na : ByteArray := ⟨#[97]⟩
def root1 (n : ByteArray) : It := ⟨2, 2, 48, [], [(1, dot1), (1, dot2), (2, n)]⟩
def items1 (n : ByteArray) (q b1 : Nat) (t : It) : List Itm := [(1, q, root1 n), (2, b1, t)]
def aw1 (n : ByteArray) (q b1 b2 : Nat) : Mod := ⟨lay4, items1 n q b1 fileIt, setD (fun _ => none) 0 (some (b2, ⟨2, 0, 7⟩)), []⟩
def file3 : It := ⟨1, 1, 3, [(0, [1, 2, 3] ++ List.replicate 1021 0)], []⟩
def aw2 (q b1 b2 : Nat) : Mod := ⟨lay4, items1 na q b1 file3, setD (setD (fun _ => none) 0 (some (b2, ⟨2, 0, 7⟩))) 0 (some (b2, ⟨2, 3, 7⟩)), []⟩
def only (l : List Itm) : Mod := ⟨lay4, l, fun _ => none, []⟩
theorem shape4 : shapeOf 400 32 60 = (lay4, 0) := by kernel_rfl
theorem open_a (q b1 b2 : Nat) : callM (unsaid (newOf lay4 q)) (openC pa 7) b1 b2 = some ({ aw1 na q b1 b2 with told := [stateOf (only (items1 na q b1 fileIt))] }, rs0 0) := by kernel_rfl
theorem write_a (q b1 b2 c d : Nat) : callM (unsaid (unsaid (aw1 na q b1 b2))) (writeC [1, 2, 3]) c d = some ({ aw2 q b1 b2 with told := [stateOf (only (items1 na q b1 file3))] }, { rs0 0 with value := 3 }) := by kernel_rfl
theorem stat_a (q b1 b2 c d : Nat) : callM (unsaid (unsaid (aw2 q b1 b2))) (statC0 pa) c d = some (aw2 q b1 b2, { rs0 0 with stat := (2, 1, 1, 3, 1) }) := by kernel_rfl
theorem fine_only (d : Nat → Option (Nat × Dsc)) {l : List Itm} (hn : l.length ≤ 65536) (hk : ∀ x ∈ l, (1 ≤ x.1 ∧ x.1 ≤ 65535) ∧ ItOk x.2.2) : Fine ⟨lay4, l, d, []⟩ :=
  ⟨show 0 ≤ lay4.blocks ∧ lay4.blocks ≤ 1048576 by decide, show 1 ≤ lay4.inodes ∧ lay4.inodes ≤ 65535 by decide, show 0 ≤ lay4.dataAt ∧ lay4.dataAt ≤ 1048576 by decide, hn, fun x hx => (hk x hx).1, fun x hx => (hk x hx).2⟩
theorem root1_ok (n : ByteArray) : ItOk (root1 n) := by
  refine ⟨⟨by show (48 : Int) ≤ _; decide, by show 0 ≤ _; decide⟩, ⟨by show 3 ≤ _; decide, fun e he => ?_⟩, fun p hp => (by cases hp), fun p hp => (by cases hp), List.nodup_nil, by show (0 : Int) ≤ 48; decide, by show (48 : Int) ≤ _; decide, fun _ => rfl, by show (0 : Int) ≤ 2 ∧ (2 : Int) ≤ _; decide⟩
  simp only [root1, List.mem_cons, List.not_mem_nil, or_false] at he
  rcases he with rfl | rfl | rfl
  · show (0 : Int) ≤ 1 ∧ (1 : Int) ≤ 65535; decide
  · show (0 : Int) ≤ 1 ∧ (1 : Int) ≤ 65535; decide
  · show (0 : Int) ≤ 2 ∧ (2 : Int) ≤ 65535; decide
theorem file3_ok : ItOk file3 := by
  refine ⟨⟨by decide, by decide⟩, ⟨by decide, fun e he => by cases he⟩, fun p hp => ?_, fun p hp => ?_, by decide, by decide, by decide, fun h => (by cases h), by decide⟩
  · simp only [file3, List.mem_cons, List.not_mem_nil, or_false] at hp
    subst hp
    show ([1, 2, 3] ++ List.replicate 1021 (0 : Int)).length = 1024
    rw [List.length_append, List.length_replicate]; rfl
  · simp only [file3, List.mem_cons, List.not_mem_nil, or_false] at hp
    subst hp; decide
theorem fine_new (q : Nat) : Fine (newOf lay4 q) := fine_only _ (by show 1 ≤ _; decide) (fun x hx => by
  simp only [List.mem_cons, List.not_mem_nil, or_false] at hx
  subst hx
  exact ⟨by show (1 : Int) ≤ 1 ∧ (1 : Int) ≤ _; decide, dirOf_ok 1 1 (by decide) (by decide)⟩)
theorem fine_items1 (d : Nat → Option (Nat × Dsc)) (n : ByteArray) (q b1 : Nat) {t : It} (ht : ItOk t) : Fine ⟨lay4, items1 n q b1 t, d, []⟩ := fine_only _ (by show 2 ≤ _; decide) (fun x hx => by
  simp only [items1, List.mem_cons, List.not_mem_nil, or_false] at hx
  rcases hx with rfl | rfl
  · exact ⟨by show (1 : Int) ≤ 1 ∧ (1 : Int) ≤ _; decide, root1_ok n⟩
  · exact ⟨by show (1 : Int) ≤ 2 ∧ (2 : Int) ≤ _; decide, ht⟩)
theorem dok_new (q : Nat) : DOk (newOf lay4 q) := fun i x _ h => (by cases h)
/-- Descriptor 0 alone, of the file 2. -/
theorem dok_one {n : ByteArray} {q b1 : Nat} {t : It} (hk : ¬t.kind = 2) {d : Nat → Option (Nat × Dsc)} (hd : ∀ i x, d i = some x → x.2.inum = 2 ∧ 0 ≤ x.2.place ∧ x.2.place ≤ 67381248) : DOk ⟨lay4, items1 n q b1 t, d, []⟩ := fun i x _ h =>
  ⟨(hd i x h).2, (2, b1, t), by rw [(hd i x h).1]; rfl, fun _ => hk⟩
theorem set_one {d : Nat → Option (Nat × Dsc)} {b : Nat} {z : Dsc} (hz : z.inum = 2 ∧ 0 ≤ z.place ∧ z.place ≤ 67381248) (hd : ∀ i x, d i = some x → x.2.inum = 2 ∧ 0 ≤ x.2.place ∧ x.2.place ≤ 67381248) : ∀ i x, setD d 0 (some (b, z)) i = some x → x.2.inum = 2 ∧ 0 ≤ x.2.place ∧ x.2.place ≤ 67381248 := fun i x h => by
  unfold setD at h
  split at h
  · cases h; exact hz
  · exact hd i x h
theorem dok1 (n : ByteArray) (q b1 b2 : Nat) : DOk (aw1 n q b1 b2) := dok_one (by decide) (set_one (by decide) (fun i x h => (by cases h)))
theorem dok2 (q b1 b2 : Nat) : DOk (aw2 q b1 b2) := dok_one (by decide) (set_one (by decide) (set_one (by decide) (fun i x h => (by cases h))))
theorem State_spec {w0 w : World} {G : List Asn} {p : Nat} {m : Mod} (hf : Fine m) (hS : Sat w0 w (modA p m :: G)) :
    CR Tryz.prog 13 [ptr p] w fun v w' => ∃ s : Sl, v = .agg (stC0 (slV s) m) ∧ Sat w0 w' (modA p m :: stA (slV s) (stateOf m) :: G) := by
  obtain ⟨ib, tv, hS⟩ := Sat.modToP hS
  refine (State_specP hf hS).mono ?_
  rintro v w' ⟨s, rfl, hS⟩
  exact ⟨s, rfl, (Sat.modOfP hS (i := 1) rfl).bring 1 rfl⟩
theorem Sat.toldOpen {w0 w : World} {G : List Asn} {tv : Value} {l : List St} (hS : Sat w0 w (toldA tv l :: G)) : ∃ (q : List (St × Value)) (a : Option Addr) (cap : Nat), q.map (·.1) = l ∧ tv = .slice a l.length cap ∧ (0 < l.length → ∃ b, a = some ⟨b, 0, none⟩) ∧ Sat w0 w (rowA 46 3 tv l.length (q.flatMap stC) :: grp (q.map fun x => stA x.2 x.1) :: G) := by
  obtain ⟨q, hS⟩ := Sat.exH (F := fun (q : List (St × Value)) g => q.map (·.1) = l ∧ grp [rowA 46 3 tv q.length (q.flatMap stC), grp (q.map fun x => stA x.2 x.1)] g) hS
  have hq : q.map (·.1) = l := hS.pureH fun g hg => hg.1
  have hS := hS.openH [rowA 46 3 tv q.length (q.flatMap stC), grp (q.map fun x => stA x.2 x.1)] (fun g hg => hg.2)
  have hl : q.length = l.length := by rw [← hq]; simp
  rw [hl] at hS
  obtain ⟨_, a, cap, h1, _, h2⟩ := Sat.rowForm hS (i := 0) rfl
  exact ⟨q, a, cap, hq, h1, h2, hS⟩
theorem Sat.stLen {w0 w : World} {G : List Asn} {s : Sl} {S : St} (hS : Sat w0 w (stA (slV s) S :: G)) : s.2.1 = S.items.length := by
  obtain ⟨q, hS⟩ := Sat.exH (F := fun (q : List (ItS × Value × Value)) g => q.map (·.1) = S.items ∧ grp [itemsRow (slV s) q, grp (q.map itsA)] g) hS
  have hq : q.map (·.1) = S.items := hS.pureH fun g hg => hg.1
  have hS := hS.openH [itemsRow (slV s) q, grp (q.map itsA)] (fun g hg => hg.2)
  obtain ⟨_, a, cap, h1, _, h2⟩ := Sat.rowForm hS (i := 0) rfl
  unfold slV at h1
  injection h1 with h3 h4 h5
  rw [h4, ← hq]; simp
theorem srcOfPt {b : Nat} {cs : Array Value} {T : TypeId} {fz : Nat × Nat} {h : Hp} {l : List Value} {n : Nat} (hg : pt b (.cells cs T fz) h) (hl : cs.toList = l) (hn : n = l.length) : SrcH h (.slice (some ⟨b, 0, none⟩) n n) n l := by
  refine .inr ⟨b, 0, n, rfl, Nat.le_refl _, fun j u hu => ⟨cs, T, fz, hg, ?_⟩⟩
  rw [Nat.zero_add, ← hu, ← hl]; simp
theorem spare_a (q b1 : Nat) : (stateOf (only (items1 na q b1 fileIt))).spare = 58 := by kernel_rfl
theorem free_a (q b1 : Nat) : (stateOf (only (items1 na q b1 file3))).free = 360 := by kernel_rfl
theorem one_of_map {q : List (St × Value)} {S : St} (h : q.map (·.1) = [S]) : ∃ v, q = [(S, v)] := by
  match q, h with
  | [(_, v)], h =>
    simp at h
    exact ⟨v, by rw [h]⟩
theorem awake_spec {w0 w : World} {G : List Asn} (hS : Sat w0 w G) : CR Tryz.prog 17 [] w fun v w' => v = .bool true ∧ Sat w0 w' G := by
  refine calls_enter Tryz.func17 rfl rfl rfl ?_
  (repeat (first | (apply o_pure ok; · conv => { lhs; whnf; arg 1; whnf }) | refine c_seq ?_ | refine c_region ?_ | refine o_nil ?_ | refine q_then ?_))
  refine o_call ok rfl rfl (geometry_spec hS) (fun v w h => ?_)
  obtain ⟨rfl, hS⟩ := h
  skip
  refine o_call ok rfl rfl (new_spec 400 32 60 hS) (fun v w h => ?_)
  rw [shape4] at h
  rcases h with ⟨h, _⟩ | ⟨_, p, q, rfl, hS⟩
  · exact absurd rfl h
  (repeat (first | (apply o_ptr ok; rfl; · conv => { lhs; whnf }) | (apply o_pure ok; · conv => { lhs; whnf; arg 1; whnf }) | refine c_seq ?_ | refine c_region ?_ | refine c_skip ?_ | refine o_nil ?_ | refine q_then ?_ | (apply c_cond_f; rfl) | refine o_want rfl rfl rfl ?_))
  refine o_call ok rfl rfl (State_spec (fine_new q) hS) (fun v w h => ?_)
  obtain ⟨s, rfl, hS⟩ := h
  have hsl : s.2.1 = 1 := Sat.stLen (hS.bring 1 rfl)
  skip
  refine o_alloc ok hS rfl (fun b3 w hS => ?_)
  refine o_storeW ok hS rfl rfl rfl (i := 0) rfl rfl rfl rfl (fun w hS => ?_)
  have hS : Sat w0 w (pt b3 (.cells (stC0 (slV s) (newOf lay4 q)) 46) :: modA p (newOf lay4 q) :: stA (slV s) (stateOf (newOf lay4 q)) :: G) := hS
  have hS := hS.bring 1 rfl
  (repeat (first | (apply o_ptr ok; rfl; · conv => { lhs; whnf }) | refine c_seq ?_ | refine c_region ?_ | refine o_nil ?_ | refine q_then ?_))
  refine o_call (l := [.string pa, vi 7]) ok rfl rfl (lawopen_spec pa 7 hS) (fun v w h => ?_)
  obtain ⟨rfl, hS⟩ := h
  skip
  refine o_call (l := [ptr p, .agg (clC (openC pa 7) nilS)]) ok rfl rfl (do0_spec (c := openC pa 7) (fine_new q) (dok_new q) (by decide) (by decide) rfl (fun b1 b2 => by rw [open_a]; rfl) hS) (fun v w h => ?_)
  obtain ⟨b1, b2, m', R, ov, ev, tv, hc, rfl, hS⟩ := h
  rw [open_a] at hc
  cases hc
  have hone := Sat.resOne hS (rs0 0) (i := 1) (j := 2) rfl rfl
  have hS : Sat w0 w (toldA tv [stateOf (only (items1 na q b1 fileIt))] :: modA p (unsaid (aw1 na q b1 b2)) :: pt b3 (.cells (stC0 (slV s) (newOf lay4 q)) 46) :: stA (slV s) (stateOf (newOf lay4 q)) :: G) := ((hS.bring 1 rfl).tail.bring 1 rfl).tail.bring 1 rfl
  obtain ⟨q1, a1, cap1, hq1, rfl, hb1, hS⟩ := Sat.toldOpen hS
  obtain ⟨bt1, rfl⟩ := hb1 (show 0 < 1 by decide)
  have hS := (hS.bring 1 rfl).tail
  (repeat (first | (apply o_pure ok; · conv => { lhs; whnf; arg 1; whnf })))
  refine o_alloc ok hS rfl (fun b4 w hS => ?_)
  refine o_storeW ok hS rfl rfl rfl (i := 0) rfl hone rfl rfl (fun w hS => ?_)
  have hS : Sat w0 w (modA p (unsaid (aw1 na q b1 b2)) :: pt b4 (.cells (resC (rs0 0) ov ev) 65) :: rowA 46 3 (.slice (some ⟨bt1, 0, none⟩) 1 cap1) 1 (q1.flatMap stC) :: pt b3 (.cells (stC0 (slV s) (newOf lay4 q)) 46) :: stA (slV s) (stateOf (newOf lay4 q)) :: G) := hS.bring 2 rfl
  (repeat (first | (apply o_ptr ok; rfl; · conv => { lhs; whnf }) | (apply o_pure ok; · conv => { lhs; whnf; arg 1; whnf }) | refine c_seq ?_ | refine c_region ?_ | refine o_nil ?_ | refine q_then ?_))
  refine o_buildS ok (vs := [.int .u8 1, .int .u8 2, .int .u8 3]) hS rfl rfl rfl rfl rfl rfl rfl rfl rfl (fun bs w hS => ?_)
  have hS : Sat w0 w (modA p (unsaid (aw1 na q b1 b2)) :: pt bs (.cells #[.int .u8 1, .int .u8 2, .int .u8 3] 5) :: pt b4 (.cells (resC (rs0 0) ov ev) 65) :: rowA 46 3 (.slice (some ⟨bt1, 0, none⟩) 1 cap1) 1 (q1.flatMap stC) :: pt b3 (.cells (stC0 (slV s) (newOf lay4 q)) 46) :: stA (slV s) (stateOf (newOf lay4 q)) :: G) := hS.bring 1 rfl
  (repeat (first | (apply o_rd hS; apply rd_build1 ok; rfl; rfl; rfl; rfl)))
  refine o_call (l := [ptr p, .agg (clC (writeC [1, 2, 3]) (.slice (some ⟨bs, 0, none⟩) 3 3))]) ok rfl rfl (do_spec (m := unsaid (aw1 na q b1 b2)) (A := pt bs (.cells #[.int .u8 1, .int .u8 2, .int .u8 3] 5)) (c := writeC [1, 2, 3]) (fine_items1 _ na q b1 fileIt_ok) (dok1 na q b1 b2) (by decide) (by decide) (by decide) rfl (fun h hg => srcOfPt hg rfl rfl) (fun c d => by
    rw [show callM (unsaid (unsaid (aw1 na q b1 b2))) (writeC [1, 2, 3]) c d = _ from write_a q b1 b2 c d]; rfl) hS) (fun v w h => ?_)
  obtain ⟨b5, b6, m', R, ov2, ev2, tv, hc, rfl, hS⟩ := h
  rw [show callM (unsaid (unsaid (aw1 na q b1 b2))) (writeC [1, 2, 3]) b5 b6 = _ from write_a q b1 b2 b5 b6] at hc
  cases hc
  have hone2 := Sat.resOne hS { rs0 0 with value := 3 } (i := 1) (j := 2) rfl rfl
  have hS : Sat w0 w (toldA tv [stateOf (only (items1 na q b1 file3))] :: modA p (unsaid (aw2 q b1 b2)) :: pt b4 (.cells (resC (rs0 0) ov ev) 65) :: rowA 46 3 (.slice (some ⟨bt1, 0, none⟩) 1 cap1) 1 (q1.flatMap stC) :: pt b3 (.cells (stC0 (slV s) (newOf lay4 q)) 46) :: stA (slV s) (stateOf (newOf lay4 q)) :: G) := (((hS.bring 1 rfl).tail.bring 1 rfl).tail.bring 2 rfl).tail.bring 1 rfl
  obtain ⟨q2, a2, cap2, hq2, rfl, hb2, hS⟩ := Sat.toldOpen hS
  obtain ⟨bt2, rfl⟩ := hb2 (show 0 < 1 by decide)
  have hS := (hS.bring 1 rfl).tail
  (repeat (first | (apply o_pure ok; · conv => { lhs; whnf; arg 1; whnf })))
  refine o_alloc ok hS rfl (fun b7 w hS => ?_)
  refine o_storeW ok hS rfl rfl rfl (i := 0) rfl hone2 rfl rfl (fun w hS => ?_)
  have hS : Sat w0 w (modA p (unsaid (aw2 q b1 b2)) :: pt b7 (.cells (resC { rs0 0 with value := 3 } ov2 ev2) 65) :: rowA 46 3 (.slice (some ⟨bt2, 0, none⟩) 1 cap2) 1 (q2.flatMap stC) :: pt b4 (.cells (resC (rs0 0) ov ev) 65) :: rowA 46 3 (.slice (some ⟨bt1, 0, none⟩) 1 cap1) 1 (q1.flatMap stC) :: pt b3 (.cells (stC0 (slV s) (newOf lay4 q)) 46) :: stA (slV s) (stateOf (newOf lay4 q)) :: G) := hS.bring 2 rfl
  (repeat (first | (apply o_ptr ok; rfl; · conv => { lhs; whnf }) | (apply o_pure ok; · conv => { lhs; whnf; arg 1; whnf }) | refine c_seq ?_ | refine c_region ?_ | refine o_nil ?_ | refine q_then ?_ | (apply o_rd hS; apply rd_build1 ok; rfl; rfl; rfl; rfl)))
  refine o_call (l := [ptr p, .agg (clC (statC0 pa) nilS)]) ok rfl rfl (do0_spec (m := unsaid (aw2 q b1 b2)) (c := statC0 pa) (fine_items1 _ na q b1 file3_ok) (dok2 q b1 b2) (by decide) (by decide) rfl (fun c d => by
    rw [show callM (unsaid (unsaid (aw2 q b1 b2))) (statC0 pa) c d = _ from stat_a q b1 b2 c d]; rfl) hS) (fun v w h => ?_)
  obtain ⟨b8, b9, m', R, ov3, ev3, tv, hc, rfl, hS⟩ := h
  rw [show callM (unsaid (unsaid (aw2 q b1 b2))) (statC0 pa) b8 b9 = _ from stat_a q b1 b2 b8 b9] at hc
  cases hc
  have hone3 := Sat.resOne hS { rs0 0 with stat := (2, 1, 1, 3, 1) } (i := 1) (j := 2) rfl rfl
  have hS : Sat w0 w (toldA tv [] :: modA p (unsaid (aw2 q b1 b2)) :: pt b7 (.cells (resC { rs0 0 with value := 3 } ov2 ev2) 65) :: rowA 46 3 (.slice (some ⟨bt2, 0, none⟩) 1 cap2) 1 (q2.flatMap stC) :: pt b4 (.cells (resC (rs0 0) ov ev) 65) :: rowA 46 3 (.slice (some ⟨bt1, 0, none⟩) 1 cap1) 1 (q1.flatMap stC) :: pt b3 (.cells (stC0 (slV s) (newOf lay4 q)) 46) :: stA (slV s) (stateOf (newOf lay4 q)) :: G) := ((hS.bring 1 rfl).tail.bring 1 rfl).tail.bring 1 rfl
  obtain ⟨q3, a3, cap3, hq3, rfl, _, hS⟩ := Sat.toldOpen hS
  have hS := hS.tail.tail.tail
  (repeat (first | (apply o_pure ok; · conv => { lhs; whnf; arg 1; whnf })))
  refine o_alloc ok hS rfl (fun b10 w hS => ?_)
  refine o_storeW ok hS rfl rfl rfl (i := 0) rfl hone3 rfl rfl (fun w hS => ?_)
  have hS : Sat w0 w (pt b10 (.cells (resC { rs0 0 with stat := (2, 1, 1, 3, 1) } ov3 ev3) 65) :: pt b7 (.cells (resC { rs0 0 with value := 3 } ov2 ev2) 65) :: rowA 46 3 (.slice (some ⟨bt2, 0, none⟩) 1 cap2) 1 (q2.flatMap stC) :: pt b4 (.cells (resC (rs0 0) ov ev) 65) :: rowA 46 3 (.slice (some ⟨bt1, 0, none⟩) 1 cap1) 1 (q1.flatMap stC) :: pt b3 (.cells (stC0 (slV s) (newOf lay4 q)) 46) :: stA (slV s) (stateOf (newOf lay4 q)) :: G) := hS
  obtain ⟨sa, sn, sc⟩ := s
  obtain rfl : sn = 1 := hsl
  (repeat (first | (apply o_ptr ok; rfl; · conv => { lhs; whnf }) | (apply o_pure ok; · conv => { lhs; whnf; arg 1; whnf }) | refine c_seq ?_ | refine c_region ?_ | refine o_nil ?_ | refine q_then ?_ | refine o_want rfl rfl rfl ?_ | (apply o_rd hS; apply rd_load ok (i := 3); rfl; rfl; rfl; rfl; · conv => { lhs; whnf; arg 1; whnf }) | (apply o_rd hS; apply rd_load ok (i := 5); rfl; rfl; rfl; rfl; · conv => { lhs; whnf; arg 1; whnf })))
  obtain ⟨v1, rfl⟩ := one_of_map hq1
  obtain ⟨v2, rfl⟩ := one_of_map hq2
  apply o_rd hS (rd_indexAddr ok rfl rfl rfl rfl (by show (0 : Int) ≤ 0 ∧ (0 : Int) < 1; decide))
  (repeat (first | (apply o_ptr ok; rfl; · conv => { lhs; whnf }) | refine o_want rfl rfl rfl ?_))
  apply o_rd hS (rd_loadR (v := vi (stateOf (only (items1 na q b1 fileIt))).spare) ok rfl rfl rfl (i := 4) rfl rfl rfl)
  rw [spare_a]
  (repeat (first | (apply o_ptr ok; rfl; · conv => { lhs; whnf }) | (apply o_pure ok; · conv => { lhs; whnf; arg 1; whnf }) | refine o_want rfl rfl rfl ?_ | (apply o_rd hS; apply rd_load ok (i := 1); rfl; rfl; rfl; rfl; · conv => { lhs; whnf; arg 1; whnf })))
  apply o_rd hS (rd_indexAddr ok rfl rfl rfl rfl (by show (0 : Int) ≤ 0 ∧ (0 : Int) < 1; decide))
  (repeat (first | (apply o_ptr ok; rfl; · conv => { lhs; whnf }) | refine o_want rfl rfl rfl ?_))
  apply o_rd hS (rd_loadR (v := vi (stateOf (only (items1 na q b1 file3))).free) ok rfl rfl rfl (i := 2) rfl rfl rfl)
  rw [free_a]
  (repeat (first | (apply o_ptr ok; rfl; · conv => { lhs; whnf }) | (apply o_pure ok; · conv => { lhs; whnf; arg 1; whnf }) | refine o_want rfl rfl rfl ?_))
  refine o_rd (v := .agg (statV (2, 1, 1, 3, 1))) hS (by rw [← resC_stat { rs0 0 with stat := (2, 1, 1, 3, 1) } ov3 ev3]; exact rd_loadA (m := 5) ok rfl rfl rfl rfl (i := 0) rfl (Nat.le_of_ble_eq_true rfl)) ?_
  (repeat (first | refine o_want rfl rfl rfl ?_ | (apply o_rd hS; apply rd_build1 ok; rfl; rfl; rfl; rfl)))
  refine o_rd hS (rd_eqStat (a := (2, 1, 1, 3, 1)) (b := (2, 1, 1, 3, 1)) rfl rfl) ?_
  (repeat (first | (apply o_pure ok; · conv => { lhs; whnf; arg 1; whnf }) | refine c_ret ?_ | refine o_nil ?_ | refine q_then ?_))
  refine out1 rfl ⟨rfl, ?_⟩
  exact hS.tail.tail.tail.tail.tail.tail.tail
end Go.Proofs.YtllomopjoomdiaaGreat
end

section
namespace Go.Proofs.YtllomopjoomdiaaGreat
open Go.SL
/-- A model that is nil, or that nobody made. -/
def NoM (A : Asn) (mv : Value) : Prop := ∀ {w0 w : World} {G : List Asn}, Sat w0 w (A :: G) → CR Tryz.prog 42 [mv] w fun v w' => v = .bool false ∧ Sat w0 w' (A :: G)
theorem noNil (A : Asn) : NoM A (.pointer none) := fun hS => by
  refine calls_enter Tryz.func42 rfl rfl rfl ?_
  (repeat (first | (apply o_pure ok; · conv => { lhs; whnf; arg 1; whnf }) | refine c_seq ?_ | refine c_region ?_ | refine c_ret ?_ | refine o_nil ?_ | refine q_then ?_ | refine o_pass rfl rfl rfl rfl ?_))
  exact out1 rfl ⟨rfl, hS⟩
def unmadeC : Array Value := #[vi 0, vi 0, vi 0, vi 0, vi 0, vi 0, vi 0, vi 0, vi 0, .map none, .pointer none, .pointer none, .pointer none, .pointer none, .pointer none, .pointer none, .pointer none, .pointer none, .pointer none, .pointer none, .pointer none, .pointer none, .pointer none, .pointer none, .pointer none, .pointer none, .slice none 0 0]
theorem noMade (b : Nat) : NoM (pt b (.cells unmadeC 58)) (ptr b) := fun hS => by
  refine calls_enter Tryz.func42 rfl rfl rfl ?_
  (repeat (first | (apply o_ptr ok; rfl; · conv => { lhs; whnf }) | (apply o_pure ok; · conv => { lhs; whnf; arg 1; whnf }) | refine c_seq ?_ | refine c_region ?_ | refine c_ret ?_ | refine o_nil ?_ | refine q_then ?_ | refine o_want rfl rfl rfl ?_ | (apply o_rd hS; apply rd_load ok (i := 0); rfl; rfl; rfl; rfl; · conv => { lhs; whnf; arg 1; whnf })))
  exact out1 rfl ⟨rfl, hS⟩
theorem noDo {A : Asn} {mv : Value} (hN : NoM A mv) {w0 w : World} {G : List Asn} (cs : Array Value) (hS : Sat w0 w (A :: G)) :
    CR Tryz.prog 18 [mv, .agg cs] w fun v w' => v = .tuple #[.agg (resC (rs0 1) nilS nilS), nilS] ∧ Sat w0 w' (A :: G) := by
  refine calls_enter Tryz.func18 rfl rfl rfl ?_
  (repeat (first | refine c_seq ?_ | refine c_region ?_))
  refine o_box hS rfl (fun b3 w hS => ?_)
  skip
  refine o_alloc ok hS rfl (fun b4 w hS => ?_)
  (repeat (first | (apply o_pure ok; · conv => { lhs; whnf; arg 1; whnf }) | refine c_seq ?_ | refine c_region ?_ | refine o_nil ?_ | refine q_then ?_))
  refine o_call ok rfl rfl (hN (hS.bring 2 rfl)) (fun v w h => ?_)
  obtain ⟨rfl, hS⟩ := h
  have hS := hS.bring 1 rfl
  (repeat (first | (apply o_pure ok; · conv => { lhs; whnf; arg 1; whnf }) | refine c_seq ?_ | refine c_region ?_ | refine c_ret ?_ | refine o_nil ?_ | refine q_then ?_ | refine q_then_r ?_ | (apply c_cond_t; rfl) | (apply o_rd hS; apply rd_build1 ok; rfl; rfl; rfl; rfl) | (refine o_storeW ok hS rfl rfl rfl (i := 0) rfl rfl rfl rfl (fun w hS => ?_))))
  refine outCA1 ok rfl hS rfl rfl rfl rfl (i := 0) rfl rfl ⟨rfl, ?_⟩
  exact (hS.tail.bring 1 rfl).tail
theorem noUnmount {A : Asn} {mv : Value} (hN : NoM A mv) {w0 w : World} {G : List Asn} (hS : Sat w0 w (A :: G)) :
    CR Tryz.prog 20 [mv] w fun v w' => v = nilS ∧ Sat w0 w' (A :: G) := by
  refine calls_enter Tryz.func20 rfl rfl rfl ?_
  (repeat (first | (apply o_pure ok; · conv => { lhs; whnf; arg 1; whnf }) | refine c_seq ?_ | refine c_region ?_ | refine o_nil ?_ | refine q_then ?_))
  refine o_call ok rfl rfl (hN hS) (fun v w h => ?_)
  obtain ⟨rfl, hS⟩ := h
  (repeat (first | (apply o_pure ok; · conv => { lhs; whnf; arg 1; whnf }) | refine c_seq ?_ | refine c_region ?_ | refine c_ret ?_ | refine o_nil ?_ | refine q_then ?_ | refine q_then_r ?_ | (apply c_cond_t; rfl)))
  exact out1 rfl ⟨rfl, hS⟩
def st0C : Array Value := #[nilS, vi 0, vi 0]
theorem noState {A : Asn} {mv : Value} (hN : NoM A mv) {w0 w : World} {G : List Asn} (hS : Sat w0 w (A :: G)) :
    CR Tryz.prog 13 [mv] w fun v w' => v = .agg st0C ∧ Sat w0 w' (A :: G) := by
  refine calls_enter Tryz.func13 rfl rfl rfl ?_
  (repeat (first | refine c_seq ?_ | refine c_region ?_))
  refine o_alloc ok hS rfl (fun b4 w hS => ?_)
  (repeat (first | (apply o_pure ok; · conv => { lhs; whnf; arg 1; whnf }) | refine c_seq ?_ | refine c_region ?_ | refine o_nil ?_ | refine q_then ?_))
  refine o_call ok rfl rfl (hN (hS.bring 1 rfl)) (fun v w h => ?_)
  obtain ⟨rfl, hS⟩ := h
  have hS := hS.bring 1 rfl
  (repeat (first | (apply o_pure ok; · conv => { lhs; whnf; arg 1; whnf }) | refine c_seq ?_ | refine c_region ?_ | refine c_ret ?_ | refine o_nil ?_ | refine q_then ?_ | refine q_then_r ?_ | (apply c_cond_t; rfl) | (apply o_rd hS; apply rd_build1 ok; rfl; rfl; rfl; rfl) | (refine o_storeW ok hS rfl rfl rfl (i := 0) rfl rfl rfl rfl (fun w hS => ?_))))
  refine outCA ok rfl hS rfl rfl rfl rfl (i := 0) rfl rfl ⟨rfl, ?_⟩
  exact hS.tail
theorem sameEnts0 {w0 w : World} {G : List Asn} (hS : Sat w0 w G) : CR Tryz.prog 69 [nilS, nilS] w fun v w' => v = .bool true ∧ Sat w0 w' G := by
  refine calls_enter Tryz.func69 rfl rfl rfl ?_
  (repeat (first | (apply o_pure ok; · conv => { lhs; whnf; arg 1; whnf }) | refine c_seq ?_ | refine c_region ?_ | refine c_block ?_ | refine c_skip ?_ | refine o_nil ?_ | refine q_then ?_ | (apply c_cond_f; rfl)))
  refine c_loop (fun k g w => ∃ (jk : Nat → Value), g = updL [(0, nilS), (5, vi 0)] jk ∧ Sat w0 w G) 0 ⟨_, updL_self _ _ ⟨rfl, rfl, trivial⟩, hS⟩ ?_
  rintro k g w ⟨jk, rfl, hS⟩
  (repeat (first | (apply o_pure ok; · conv => { lhs; whnf; arg 1; whnf }) | refine c_seq ?_ | refine c_region ?_ | refine c_ret ?_ | refine c_exit ?_ | refine o_nil ?_ | refine q_then ?_ | refine q_then_e ?_ | refine q_blk_e ?_ | (apply c_cond_f; rfl)))
  exact out1 rfl ⟨rfl, hS⟩
theorem same0 {w0 w : World} {G : List Asn} (hS : Sat w0 w G) : CR Tryz.prog 12 [.agg st0C, .agg st0C] w fun v w' => v = .bool true ∧ Sat w0 w' G := by
  refine calls_enter Tryz.func12 rfl rfl rfl ?_
  (repeat (first | refine c_seq ?_ | refine c_region ?_))
  refine o_box hS rfl (fun b2 w hS => ?_)
  skip
  refine o_box hS rfl (fun b3 w hS => ?_)
  have hS : Sat w0 w (pt b3 (.cells st0C 46) :: pt b2 (.cells st0C 46) :: G) := hS
  (repeat (first | (apply o_ptr ok; rfl; · conv => { lhs; whnf }) | (apply o_pure ok; · conv => { lhs; whnf; arg 1; whnf }) | refine c_seq ?_ | refine c_region ?_ | refine c_block ?_ | refine c_skip ?_ | refine o_nil ?_ | refine q_then ?_ | (apply c_cond_f; rfl) | refine o_want rfl rfl rfl ?_ | (apply o_rd hS; apply rd_load ok (i := 0); rfl; rfl; rfl; rfl; · conv => { lhs; whnf; arg 1; whnf }) | (apply o_rd hS; apply rd_load ok (i := 1); rfl; rfl; rfl; rfl; · conv => { lhs; whnf; arg 1; whnf })))
  refine c_loop (fun k g w => ∃ (jk : Nat → Value), g = updL [(2, ptr b2), (5, vi 0)] jk ∧ Sat w0 w (pt b3 (.cells st0C 46) :: pt b2 (.cells st0C 46) :: G)) 0 ⟨_, updL_self _ _ ⟨rfl, rfl, trivial⟩, hS⟩ ?_
  rintro k g w ⟨jk, rfl, hS⟩
  (repeat (first | (apply o_ptr ok; rfl; · conv => { lhs; whnf }) | (apply o_pure ok; · conv => { lhs; whnf; arg 1; whnf }) | refine c_seq ?_ | refine c_region ?_ | refine c_ret ?_ | refine c_exit ?_ | refine o_nil ?_ | refine q_then ?_ | refine q_then_e ?_ | refine q_blk_e ?_ | (apply c_cond_f; rfl) | (apply o_rd hS; apply rd_load ok (i := 1); rfl; rfl; rfl; rfl; · conv => { lhs; whnf; arg 1; whnf })))
  exact out1 rfl ⟨rfl, hS.tail.tail⟩
theorem sameRes0 {w0 w : World} {G : List Asn} (hS : Sat w0 w G) : CR Tryz.prog 19 [.agg (resC (rs0 1) nilS nilS), .agg (resC (rs0 1) nilS nilS)] w fun v w' => v = .bool true ∧ Sat w0 w' G := by
  refine calls_enter Tryz.func19 rfl rfl rfl ?_
  (repeat (first | refine c_seq ?_ | refine c_region ?_))
  refine o_box hS rfl (fun b2 w hS => ?_)
  skip
  refine o_box hS rfl (fun b3 w hS => ?_)
  have hS : Sat w0 w (pt b3 (.cells (resC (rs0 1) nilS nilS) 65) :: pt b2 (.cells (resC (rs0 1) nilS nilS) 65) :: G) := hS
  (repeat (first | (apply o_ptr ok; rfl; · conv => { lhs; whnf }) | (apply o_pure ok; · conv => { lhs; whnf; arg 1; whnf }) | refine c_seq ?_ | refine c_region ?_ | refine o_nil ?_ | refine q_then ?_ | refine o_want rfl rfl rfl ?_ | (apply o_rd hS; apply rd_load ok (i := 0); rfl; rfl; rfl; rfl; · conv => { lhs; whnf; arg 1; whnf }) | (apply o_rd hS; apply rd_load ok (i := 1); rfl; rfl; rfl; rfl; · conv => { lhs; whnf; arg 1; whnf })))
  refine o_rd (v := .agg (statV (0, 0, 0, 0, 0))) hS (rd_resStat (R := rs0 1) rfl (i := 1) rfl) ?_
  (repeat (first | (apply o_ptr ok; rfl; · conv => { lhs; whnf }) | refine o_want rfl rfl rfl ?_))
  refine o_rd (v := .agg (statV (0, 0, 0, 0, 0))) hS (rd_resStat (R := rs0 1) rfl (i := 0) rfl) ?_
  (repeat (first | refine o_want rfl rfl rfl ?_))
  refine o_rd hS (rd_neqStat (a := (0, 0, 0, 0, 0)) (b := (0, 0, 0, 0, 0)) rfl rfl) ?_
  (repeat (first | (apply o_ptr ok; rfl; · conv => { lhs; whnf }) | (apply o_pure ok; · conv => { lhs; whnf; arg 1; whnf }) | refine o_want rfl rfl rfl ?_ | (apply o_rd hS; apply rd_load ok (i := 0); rfl; rfl; rfl; rfl; · conv => { lhs; whnf; arg 1; whnf }) | (apply o_rd hS; apply rd_load ok (i := 1); rfl; rfl; rfl; rfl; · conv => { lhs; whnf; arg 1; whnf })))
  refine o_call ok rfl rfl (sameEnts0 hS) (fun v w h => ?_)
  obtain ⟨rfl, hS⟩ := h
  (repeat (first | (apply o_ptr ok; rfl; · conv => { lhs; whnf }) | (apply o_pure ok; · conv => { lhs; whnf; arg 1; whnf }) | refine c_seq ?_ | refine c_region ?_ | refine c_block ?_ | refine c_skip ?_ | refine o_nil ?_ | refine q_then ?_ | (apply c_cond_f; rfl) | refine o_want rfl rfl rfl ?_ | (apply o_rd hS; apply rd_load ok (i := 0); rfl; rfl; rfl; rfl; · conv => { lhs; whnf; arg 1; whnf }) | (apply o_rd hS; apply rd_load ok (i := 1); rfl; rfl; rfl; rfl; · conv => { lhs; whnf; arg 1; whnf })))
  refine c_loop (fun k g w => ∃ (jk : Nat → Value), g = updL [(2, ptr b2), (5, vi 0)] jk ∧ Sat w0 w (pt b3 (.cells (resC (rs0 1) nilS nilS) 65) :: pt b2 (.cells (resC (rs0 1) nilS nilS) 65) :: G)) 0 ⟨_, updL_self _ _ ⟨rfl, rfl, trivial⟩, hS⟩ ?_
  rintro k g w ⟨jk, rfl, hS⟩
  (repeat (first | (apply o_ptr ok; rfl; · conv => { lhs; whnf }) | (apply o_pure ok; · conv => { lhs; whnf; arg 1; whnf }) | refine c_seq ?_ | refine c_region ?_ | refine c_ret ?_ | refine c_exit ?_ | refine o_nil ?_ | refine q_then ?_ | refine q_then_e ?_ | refine q_blk_e ?_ | (apply c_cond_f; rfl) | (apply o_rd hS; apply rd_load ok (i := 1); rfl; rfl; rfl; rfl; · conv => { lhs; whnf; arg 1; whnf })))
  exact out1 rfl ⟨rfl, hS.tail.tail⟩
/-- Calls that are handed in: each as its seven cells. -/
def CallsH (h : Hp) (cv : Value) (q : List (Array Value)) : Prop := (∃ a c, cv = .slice a 0 c ∧ q = []) ∨ ∃ b o c cs T fz, cv = .slice (some ⟨b, o, none⟩) q.length c ∧ h b = some (.cells cs T fz) ∧ ∀ j x, q[j]? = some x → o + j * 7 + 7 ≤ cs.size ∧ cs.extract (o + j * 7) (o + j * 7 + 7) = x
theorem callsForm {w0 w : World} {L : List Asn} (hS : Sat w0 w L) {i : Nat} {A : Asn} {cv : Value} {q : List (Array Value)} (hi : L[i]? = some A) (hA : ∀ h, A h → CallsH h cv q) : ∃ a c, cv = .slice a q.length c ∧ (0 < q.length → ∃ b o, a = some ⟨b, o, none⟩) := by
  obtain ⟨own, H⟩ := hS.2
  rcases hA _ (H i _ hi) with ⟨a, c, rfl, rfl⟩ | ⟨b, o, c, cs, T, fz, rfl, _⟩
  · exact ⟨a, c, rfl, fun h => (by cases h)⟩
  · exact ⟨_, c, rfl, fun _ => ⟨b, o, rfl⟩⟩
theorem rd_call {w0 : World} {L : List Asn} {n : Nat} {f : Nat → Value} {x : Operand} {i b o c j : Nat} {A : Asn} {q : List (Array Value)} {z : Array Value} (hx : SL.ev n f x = .pointer (some ⟨b, o + j * 7, none⟩)) (hi : L[i]? = some A) (hA : ∀ h, A h → CallsH h (.slice (some ⟨b, o, none⟩) q.length c) q) (hz : q[j]? = some z) :
    Rd Tryz.prog w0 L n f (.load 42 x) (.agg z) := ⟨fun G w _ _ _ _ hS => by
  obtain ⟨own, H⟩ := hS.2
  rcases hA _ (H i _ (by rw [List.getElem?_append_left (lt_of_get hi)]; exact hi)) with ⟨_, _, _, h⟩ | ⟨b', o', c', cs, T, fz, h1, h2, h3⟩
  · rw [h] at hz; cases hz
  · cases h1
    obtain ⟨h4, h5⟩ := h3 j z hz
    have hb : w.heap[b]? = some (.cells cs T fz) := (cutHp_some h2).2
    have hr := SL.run_loadCells (P := Tryz.prog) hb h4
    have e1 : tb.u 42 = some _ := rfl
    have e2 : tb.sz 42 = some 7 := rfl
    simp [execOp, Instr.loadAt, hx, Instr.sureAddr, loadVar, run_isAgg ok e1, aggT, run_sz ok e2, hr, h5]⟩
theorem none_walk {w0 w : World} {G : List Asn} {A : Asn} {cv : Value} {q : List (Array Value)} (hA : ∀ h, A h → CallsH h cv q) (hq : ∀ x ∈ q, x.size = 7 ∧ oneCells x.toList = true) (hn : q.length ≤ 4611686018427387904) (hS : Sat w0 w (A :: G)) :
    CR Tryz.prog 5 [cv] w fun v w' => v = .bool true ∧ Sat w0 w' (A :: G) := by
  refine calls_enter Tryz.func5 rfl rfl rfl ?_
  obtain ⟨a, c, rfl, ha⟩ := callsForm hS (i := 0) rfl hA
  (repeat (first | (apply o_pure ok; · conv => { lhs; whnf; arg 1; whnf }) | refine c_seq ?_ | refine c_region ?_ | refine o_nil ?_ | refine q_then ?_))
  refine o_alloc ok hS rfl (fun bm w hS => ?_)
  have hS : Sat w0 w (pt bm (.cells unmadeC 58) :: A :: G) := hS
  (repeat (first | refine c_seq ?_ | refine c_region ?_ | refine o_nil ?_ | refine q_then ?_))
  refine o_call ok rfl rfl (awake_spec hS) (fun v w h => ?_)
  obtain ⟨rfl, hS⟩ := h
  (repeat (first | (apply o_pure ok; · conv => { lhs; whnf; arg 1; whnf }) | refine c_seq ?_ | refine c_region ?_ | refine c_block ?_ | refine o_nil ?_ | refine q_then ?_))
  refine c_loop (fun k g w => ∃ (j : Nat) (jk : Nat → Value), j + k = q.length + 1 ∧ g = updL [(0, .slice a q.length c), (3, ptr bm), (4, .bool true), (5, vi j)] jk ∧ Sat w0 w (pt bm (.cells unmadeC 58) :: A :: G)) (q.length + 1)
    ⟨0, _, by omega, updL_self _ _ ⟨rfl, rfl, rfl, rfl, trivial⟩, hS⟩ ?_
  rintro k g w ⟨j, jk, hjk, rfl, hS⟩
  (repeat (first | (apply o_pure ok; · conv => { lhs; whnf; arg 1; whnf }) | refine c_seq ?_ | refine c_region ?_ | refine o_nil ?_ | refine q_then ?_))
  refine c_cond_d rfl (fun h1 => ?_) (fun h1 => ?_)
  · (repeat (first | refine c_seq ?_ | refine c_region ?_ | refine c_block ?_ | refine c_skip ?_ | refine q_then ?_ | (apply o_rd hS; apply rd_build1 ok; rfl; rfl; rfl; rfl)))
    refine o_alloc ok hS rfl (fun b6 w hS => ?_)
    (repeat (first | (apply o_pure ok; · conv => { lhs; whnf; arg 1; whnf }) | refine c_seq ?_ | refine c_region ?_ | refine o_nil ?_ | refine q_then ?_ | (refine o_storeW ok hS rfl rfl rfl (i := 0) rfl rfl rfl rfl (fun w hS => ?_))))
    refine c_cutC (K := fun g w => ∃ (x : Array Value) (jk : Nat → Value), (x.size = 7 ∧ oneCells x.toList = true) ∧ g = updL [(0, .slice a q.length c), (3, ptr bm), (4, .bool true), (5, vi j), (6, ptr b6)] jk ∧ Sat w0 w (pt b6 (.cells x 42) :: pt bm (.cells unmadeC 58) :: A :: G)) ?_ ?_
    · refine c_cond_d rfl (fun h2 => ?_) (fun h2 => ?_)
      · obtain ⟨b, o, rfl⟩ := ha (by omega)
        have hz : q[j]? = some q[j] := List.getElem?_eq_getElem (by omega)
        have hz2 := hq _ (List.mem_of_getElem? hz)
        (repeat (first | (apply o_pure ok; · conv => { lhs; whnf; arg 1; whnf }) | refine c_region ?_))
        apply o_rd hS (rd_indexAddr ok rfl rfl rfl rfl (by omega))
        refine o_rd hS (rd_call (j := j) rfl (i := 2) rfl hA hz) ?_
        refine o_storeW ok hS rfl rfl rfl (i := 0) rfl hz2.2 hz2.1 rfl (fun w hS => ?_)
        (repeat (first | refine o_nil ?_ | refine q_then ?_))
        exact ⟨_, _, hz2, updL_self _ _ ⟨rfl, rfl, rfl, rfl, rfl, trivial⟩, hS⟩
      · (repeat (first | refine c_skip ?_ | refine q_then ?_))
        exact ⟨_, _, ⟨rfl, rfl⟩, updL_self _ _ ⟨rfl, rfl, rfl, rfl, rfl, trivial⟩, hS⟩
    rintro g w ⟨x, jk, hx, rfl, hS⟩
    (repeat (first | (apply o_pure ok; · conv => { lhs; whnf; arg 1; whnf }) | refine c_seq ?_ | refine c_region ?_ | refine o_nil ?_ | refine q_then ?_))
    apply o_rd hS (rd_loadW ok rfl rfl rfl rfl (i := 0) rfl hx.1)
    refine o_call ok rfl rfl (noDo (noNil _) x hS) (fun v w h => ?_)
    obtain ⟨rfl, hS⟩ := h
    (repeat (first | (apply o_pure ok; · conv => { lhs; whnf; arg 1; whnf })))
    refine o_alloc ok hS rfl (fun b8 w hS => ?_)
    refine o_storeW ok hS rfl rfl rfl (i := 0) rfl rfl rfl rfl (fun w hS => ?_)
    have hS : Sat w0 w (pt b8 (.cells (resC (rs0 1) nilS nilS) 65) :: pt b6 (.cells x 42) :: pt bm (.cells unmadeC 58) :: A :: G) := hS
    (repeat (first | (apply o_pure ok; · conv => { lhs; whnf; arg 1; whnf }) | refine c_seq ?_ | refine c_region ?_ | refine o_nil ?_ | refine q_then ?_))
    apply o_rd hS (rd_loadW ok rfl rfl rfl rfl (i := 1) rfl hx.1)
    refine o_call ok rfl rfl (noDo (noMade bm) x (hS.bring 2 rfl)) (fun v w h => ?_)
    obtain ⟨rfl, hS⟩ := h
    (repeat (first | (apply o_pure ok; · conv => { lhs; whnf; arg 1; whnf })))
    refine o_alloc ok hS rfl (fun b10 w hS => ?_)
    refine o_storeW ok hS rfl rfl rfl (i := 0) rfl rfl rfl rfl (fun w hS => ?_)
    have hS : Sat w0 w (pt b10 (.cells (resC (rs0 1) nilS nilS) 65) :: pt bm (.cells unmadeC 58) :: pt b8 (.cells (resC (rs0 1) nilS nilS) 65) :: pt b6 (.cells x 42) :: A :: G) := hS
    (repeat (first | (apply o_pure ok; · conv => { lhs; whnf; arg 1; whnf }) | refine c_seq ?_ | refine c_region ?_ | refine o_nil ?_ | refine q_then ?_ | (apply o_rd hS; apply rd_build1 ok; rfl; rfl; rfl; rfl)))
    refine o_alloc ok hS rfl (fun b12 w hS => ?_)
    refine o_storeW ok hS rfl rfl rfl (i := 0) rfl rfl rfl rfl (fun w hS => ?_)
    have hS : Sat w0 w (pt bm (.cells unmadeC 58) :: pt b12 (.cells (resC (rs0 1) nilS nilS) 65) :: pt b10 (.cells (resC (rs0 1) nilS nilS) 65) :: pt b8 (.cells (resC (rs0 1) nilS nilS) 65) :: pt b6 (.cells x 42) :: A :: G) := hS.bring 2 rfl
    (repeat (first | refine c_seq ?_ | refine c_region ?_ | refine o_nil ?_ | refine q_then ?_))
    apply o_rd hS (rd_loadW ok rfl rfl rfl rfl (i := 3) rfl rfl)
    apply o_rd hS (rd_loadW ok rfl rfl rfl rfl (i := 1) rfl rfl)
    refine o_call ok rfl rfl (sameRes0 hS) (fun v w h => ?_)
    obtain ⟨rfl, hS⟩ := h
    (repeat (first | (apply o_pure ok; · conv => { lhs; whnf; arg 1; whnf }) | refine o_want rfl rfl rfl ?_))
    apply o_rd hS (rd_loadW ok rfl rfl rfl rfl (i := 2) rfl rfl)
    (repeat (first | refine o_want rfl rfl rfl ?_))
    apply o_rd hS (rd_loadW ok rfl rfl rfl rfl (i := 1) rfl rfl)
    (repeat (first | refine o_want rfl rfl rfl ?_))
    refine o_call ok rfl rfl (sameRes0 hS) (fun v w h => ?_)
    obtain ⟨rfl, hS⟩ := h
    (repeat (first | (apply o_pure ok; · conv => { lhs; whnf; arg 1; whnf }) | refine o_want rfl rfl rfl ?_))
    refine o_call ok rfl rfl (noUnmount (noNil _) hS) (fun v w h => ?_)
    obtain ⟨rfl, hS⟩ := h
    (repeat (first | (apply o_pure ok; · conv => { lhs; whnf; arg 1; whnf }) | refine o_want rfl rfl rfl ?_))
    refine o_call ok rfl rfl (noUnmount (noMade bm) hS) (fun v w h => ?_)
    obtain ⟨rfl, hS⟩ := h
    (repeat (first | (apply o_pure ok; · conv => { lhs; whnf; arg 1; whnf }) | refine o_want rfl rfl rfl ?_))
    refine o_call ok rfl rfl (noState (noNil _) hS) (fun v w h => ?_)
    obtain ⟨rfl, hS⟩ := h
    (repeat (first | refine o_want rfl rfl rfl ?_ | (apply o_rd hS; apply rd_build1 ok; rfl; rfl; rfl; rfl)))
    refine o_call ok rfl rfl (same0 hS) (fun v w h => ?_)
    obtain ⟨rfl, hS⟩ := h
    (repeat (first | (apply o_pure ok; · conv => { lhs; whnf; arg 1; whnf }) | refine o_want rfl rfl rfl ?_))
    refine o_call ok rfl rfl (noState (noMade bm) hS) (fun v w h => ?_)
    obtain ⟨rfl, hS⟩ := h
    (repeat (first | refine o_want rfl rfl rfl ?_ | (apply o_rd hS; apply rd_build1 ok; rfl; rfl; rfl; rfl)))
    refine o_call ok rfl rfl (same0 hS) (fun v w h => ?_)
    obtain ⟨rfl, hS⟩ := h
    (repeat (first | (apply o_add; rfl; rfl; omega) | (apply o_pure ok; · conv => { lhs; whnf; arg 1; whnf }) | refine c_region ?_ | refine c_skip ?_ | refine o_nil ?_ | refine q_then ?_ | refine q_blk_n ?_ | (apply c_cond_f; rfl) | refine o_want rfl rfl rfl ?_))
    exact ⟨k - 1, by omega, j + 1, _, by omega, updL_self _ _ ⟨rfl, rfl, rfl, rfl, trivial⟩, ((((hS.bring 1 rfl).tail.bring 1 rfl).tail.bring 1 rfl).tail.bring 1 rfl).tail⟩
  · (repeat (first | (apply o_pure ok; · conv => { lhs; whnf; arg 1; whnf }) | refine c_seq ?_ | refine c_region ?_ | refine c_ret ?_ | refine c_exit ?_ | refine o_nil ?_ | refine q_then ?_ | refine q_then_e ?_ | refine q_blk_e ?_))
    exact out1 rfl ⟨rfl, hS.tail⟩
end Go.Proofs.YtllomopjoomdiaaGreat
end

section
namespace Go.Proofs.YtllomopjoomdiaaGreat
open Go.ChangeShapes Go.WideShapes Go.ChangeAt Go.RowKit
theorem oneCell_of {H : Type} {enc : TypeId × Value → H} {P : Program} {w : World} {base : Nat} {spare : Nat → Bool} {held : Bool} {t fuel : Nat} {v : Value} {x : DataW H × List MemPlace}
    (ht : (∃ k, P.underlying t = some (.int k)) ∨ P.underlying t = some .string ∨ ∃ e, P.underlying t = some (.slice e)) (h : DataW.trod enc P w base spare held fuel t [v] = some x) : v.oneCell' = true := by
  rcases ht with ⟨k, ht⟩ | ht | ⟨e, ht⟩
  · obtain ⟨n, h1, _⟩ := DataW.trod_int ht h
    cases h1; rfl
  · obtain ⟨n, h1, _⟩ := DataW.trod_string ht h
    cases h1; rfl
  · rcases DataW.trod_slice ht h with ⟨h1, _⟩ | ⟨_, _, _, _, _, _, _, h1, _⟩
    · cases h1; rfl
    · cases h1; rfl
def callFields : Array Field := #[{ name := "Kind", type := 39, offset := 0, embedded := false, tag := "", pkgPath := "", byteOffset := 0 }, { name := "Path", type := 9, offset := 1, embedded := false, tag := "", pkgPath := "", byteOffset := 8 }, { name := "Other", type := 9, offset := 2, embedded := false, tag := "", pkgPath := "", byteOffset := 24 }, { name := "Desc", type := 3, offset := 3, embedded := false, tag := "", pkgPath := "", byteOffset := 40 }, { name := "Size", type := 3, offset := 4, embedded := false, tag := "", pkgPath := "", byteOffset := 48 }, { name := "Flags", type := 3, offset := 5, embedded := false, tag := "", pkgPath := "", byteOffset := 56 }, { name := "Bytes", type := 40, offset := 6, embedded := false, tag := "", pkgPath := "", byteOffset := 64 }]
theorem call_under : Tryz.prog.underlying 42 = some (.struct callFields) := by kernel_rfl
theorem calls_under : Tryz.prog.underlying 24 = some (.slice 42) := by kernel_rfl
theorem call_cells : Tryz.prog.cellsOf 42 = 7 := by kernel_rfl
theorem call_field : ∀ j, j < 7 → ∃ f, callFields[j]? = some f ∧ f.offset = j ∧ Tryz.prog.cellsOf f.type = 1 ∧ ((∃ k, Tryz.prog.underlying f.type = some (.int k)) ∨ Tryz.prog.underlying f.type = some .string ∨ ∃ e, Tryz.prog.underlying f.type = some (.slice e))
  | 0, _ => ⟨_, rfl, rfl, by kernel_rfl, .inl ⟨.u8, by kernel_rfl⟩⟩
  | 1, _ => ⟨_, rfl, rfl, by kernel_rfl, .inr (.inl (by kernel_rfl))⟩
  | 2, _ => ⟨_, rfl, rfl, by kernel_rfl, .inr (.inl (by kernel_rfl))⟩
  | 3, _ => ⟨_, rfl, rfl, by kernel_rfl, .inl ⟨.i64, by kernel_rfl⟩⟩
  | 4, _ => ⟨_, rfl, rfl, by kernel_rfl, .inl ⟨.i64, by kernel_rfl⟩⟩
  | 5, _ => ⟨_, rfl, rfl, by kernel_rfl, .inl ⟨.i64, by kernel_rfl⟩⟩
  | 6, _ => ⟨_, rfl, rfl, by kernel_rfl, .inr (.inr ⟨5, by kernel_rfl⟩)⟩
  | j + 7, h => by omega
/-- A call's cells are seven, each of them one. -/
theorem call_one {H : Type} {enc : TypeId × Value → H} {w : World} {base : Nat} {spare : Nat → Bool} {held : Bool} {fuel : Nat} {cs : List Value} {x : DataW H × List MemPlace} (h : DataW.trod enc Tryz.prog w base spare held fuel 42 cs = some x) : cs.length = 7 ∧ SL.oneCells cs = true := by
  obtain ⟨xs, n, _, _, hl, hxl, hf⟩ := DataW.trod_struct call_under h
  rw [call_cells] at hl
  refine ⟨hl, ?_⟩
  unfold SL.oneCells
  rw [List.all_eq_true]
  intro v hv
  obtain ⟨j, hj⟩ := List.getElem?_of_mem hv
  have hj7 : j < 7 := by
    rcases Nat.lt_or_ge j 7 with g | g
    · exact g
    · rw [List.getElem?_eq_none (by omega)] at hj; cases hj
  obtain ⟨f, hfj, ho, hc, hk⟩ := call_field j hj7
  have h1 := hf j f hfj
  rw [ho, hc] at h1
  have h2 : (cs.drop j).take 1 = [v] := by
    have hjl : j < cs.length := by omega
    rw [List.drop_eq_getElem_cons hjl]
    rw [List.getElem?_eq_getElem hjl] at hj
    cases hj
    rfl
  rw [h2] at h1
  have h3 : j < xs.length := by rw [hxl]; exact hj7
  rw [List.getElem?_eq_getElem h3] at h1
  exact oneCell_of hk h1
/-- Calls that are handed in, as the walk wants them. -/
theorem calls_open {H : Type} {enc : TypeId × Value → H} {W : World} {a0 : Option Addr} {len cap : Nat} {d : DataW H} {p : List MemPlace} (hlen : len ≤ 4611686018427387904)
    (h : DataW.Trod enc Tryz.prog W 0 (fun _ => true) true 24 (.slice a0 len cap) d p) :
    ∃ q : List (Array Value), (∀ h, SL.old W h → CallsH h (.slice a0 len cap) q) ∧ (∀ x ∈ q, x.size = 7 ∧ SL.oneCells x.toList = true) ∧ q.length ≤ 4611686018427387904 := by
  obtain ⟨fuel, hf⟩ := h
  rcases Go.Deep.open_slice calls_under hf with ⟨hcs, hx⟩ | ⟨a, len', cap', m, n, D, Pl, hcs, hb, hl, hm, hmm, hx, hi⟩
  · simp [Value.cells] at hcs
    obtain ⟨rfl, rfl, rfl⟩ := hcs
    exact ⟨[], fun _ _ => .inl ⟨none, 0, rfl, rfl⟩, fun x hx => (by cases hx), by simp⟩
  · simp [Value.cells] at hcs
    obtain ⟨rfl, rfl, rfl⟩ := hcs
    simp only [if_true] at hmm
    subst hmm
    by_cases hl0 : len = 0
    · subst hl0
      exact ⟨[], fun _ _ => .inl ⟨_, _, rfl, rfl⟩, fun x hx => (by cases hx), by simp⟩
    rw [call_cells] at hi
    obtain ⟨b, o, spot⟩ := a
    have hcell : ∀ i, i < len → ∃ cs', cs'.length = 7 ∧ (∀ j, j < 7 → W.cell? ((Addr.add ⟨b, o, spot⟩ (i * 7)).add j) = cs'[j]?) ∧ SL.oneCells cs' = true := fun i h => by
      obtain ⟨cs', h1, h2⟩ := hi i (by omega)
      obtain ⟨_, h3, h4⟩ := World.cells?_some h1
      exact ⟨cs', h3, h4, (call_one h2).2⟩
    have hspot : spot = none := by
      obtain ⟨cs', h1, h2, _⟩ := hcell 0 (by omega)
      have h3 := h2 0 (by decide)
      rw [List.getElem?_eq_getElem (by omega)] at h3
      have := World.cell?_spot h3
      simpa [Addr.add] using this
    subst hspot
    have hadd : ∀ i j, ((Addr.add ⟨b, o, none⟩ (i * 7)).add j) = ⟨b, o + i * 7 + j, none⟩ := fun i j => by
      rw [SL.addr_add, SL.addr_add]
    obtain ⟨cs, T, fz, hblk⟩ : ∃ cs T fz, W.heap[b]? = some (.cells cs T fz) := by
      obtain ⟨cs', h1, h2, _⟩ := hcell 0 (by omega)
      have h3 := h2 0 (by decide)
      rw [List.getElem?_eq_getElem (by omega), hadd] at h3
      unfold World.cell? at h3
      split at h3
      · rename_i c e f hb'
        exact ⟨_, _, _, hb'⟩
      · cases h3
    have hval : ∀ k, W.cell? ⟨b, k, none⟩ = cs[k]? := fun k => by simp [World.cell?, hblk]
    have hbl : b < W.heap.size := by
      rcases Nat.lt_or_ge b W.heap.size with g | g
      · exact g
      · rw [Array.getElem?_eq_none g] at hblk; cases hblk
    have hex : ∀ i, i < len → o + i * 7 + 7 ≤ cs.size ∧ SL.oneCells (cs.extract (o + i * 7) (o + i * 7 + 7)).toList = true := fun i h => by
      obtain ⟨cs', h1, h2, h3⟩ := hcell i h
      have hs : o + i * 7 + 7 ≤ cs.size := by
        have h4 := h2 6 (by decide)
        rw [hadd, hval, List.getElem?_eq_getElem (by omega)] at h4
        have := (Array.getElem?_eq_some_iff.1 h4).1
        omega
      refine ⟨hs, ?_⟩
      have e : (cs.extract (o + i * 7) (o + i * 7 + 7)).toList = cs' := by
        apply List.ext_getElem?
        intro j
        by_cases hj : j < 7
        · have h4 := h2 j hj
          rw [hadd, hval] at h4
          rw [← h4]
          rw [Array.getElem?_toList, Array.getElem?_extract]
          rw [if_pos (by omega)]
        · rw [List.getElem?_eq_none (by simp; omega), List.getElem?_eq_none (by omega)]
      rw [e]; exact h3
    refine ⟨(List.range len).map fun i => cs.extract (o + i * 7) (o + i * 7 + 7), fun h hold => .inr ⟨b, o, m, cs, T, fz, by simp, (hold b hbl).trans hblk, fun j x hx => ?_⟩, fun x hx => ?_, by simp; omega⟩
    · rw [List.getElem?_map] at hx
      have hjl : j < len := by
        rcases Nat.lt_or_ge j len with g | g
        · exact g
        · rw [List.getElem?_eq_none (by simpa using g)] at hx; cases hx
      rw [List.getElem?_range hjl] at hx
      cases hx
      exact ⟨(hex j hjl).1, rfl⟩
    · obtain ⟨i, hi', rfl⟩ := List.mem_map.1 hx
      have hil : i < len := by simpa using hi'
      exact ⟨by rw [Array.size_extract]; have := (hex i hil).1; omega, (hex i hil).2⟩
theorem own : ownKnob Tryz.prog.godebug = none := by kernel_rfl
theorem laidOut : laidOutB Tryz.prog = true := by kernel_rfl
set_option maxRecDepth 100000 in
theorem none_lifted (os : Os) (started : os.Started) (H : Type) (enc : TypeId × Value → H) :
    ReturnsInHanded {} Tryz.checked os 5 .any (Rows.modelNoneSpec.pre6 enc Tryz.prog Tryz.f5 Rows.modelNoneRow.domain false) (Rows.modelNoneSpec.post enc Tryz.prog Tryz.f5 false true false false) := by
  refine returnsInHanded_of_change_sized (C := Tryz.checked) own started (by kernel_rfl) Tryz.func5
    (ChangeSpec.witness6 (enc := enc) (C := Tryz.checked) false ⟨#[], #[.slice none 0 0], []⟩ 8 (by kernel_rfl) (by kernel_rfl) (by kernel_rfl) (by kernel_rfl)) ?_
  intro W base args ds gs before hval0 hW _ hsz0 _
  have hsz : (DataW.weightsEach Tryz.prog (Tryz.f5.params.toList ++ Rows.modelNoneSpec.plain.varTypes Tryz.prog) (ds ++ gs)).all (· ≤ reachBytes) = true := hsz0
  clear hsz0
  have hval : ∀ (j : Nat) t v, Tryz.f5.params[j]? = some t → args[j]? = some v → Value.okWide Tryz.prog W .any base t v := hval0
  have hW' := hW
  obtain ⟨p, q, hA0, hV, rfl, _, _⟩ := hW
  have hA : DataW.TrodAll enc Tryz.prog W 0 (fun _ => true) true Tryz.f5.params.toList args.toList ds p := hA0
  rw [Tryz.params5] at hA hval hsz
  obtain ⟨v0, d0, rfl, rfl, h0⟩ := trodAll_one hA
  obtain ⟨rfl, rfl⟩ := trodVars_none hV
  obtain ⟨a0, len, cap, rfl⟩ := okWide_slice calls_under (hval 0 24 v0 rfl rfl)
  clear hA0 hval0
  simp only [List.append_nil] at hW'
  have hlt : ∀ x ∈ p, x.block < W.heap.size := fun x hx => by simpa using hW'.lt x hx
  have hlen : len ≤ 4611686018427387904 := by
    obtain ⟨fuel, hf⟩ := h0
    rcases DataW.trod_slice calls_under hf with ⟨hcs, _⟩ | ⟨a, l, c, elems, rest, n, _, hcs, hx, _, _, _, hel, _⟩
    · simp [Value.cells] at hcs
      omega
    · simp [Value.cells] at hcs
      obtain ⟨_, rfl, _⟩ := hcs
      have hd : d0 = .slice (elems.map (·.1)) (rest.map (·.1)) := congrArg Prod.fst hx
      have := sized_slice hsz (j := 0) (t := 24) (e := 42) rfl (by rw [hd]; rfl) calls_under
      have hb : Tryz.prog.bytesOf 42 = 88 := by kernel_rfl
      rw [hb] at this
      simp only [List.length_map, reachBytes] at this
      omega
  obtain ⟨q, hA, hq, hn⟩ := calls_open hlen h0
  refine Calls.mono (none_walk hA hq hn (SL.Sat.start W)).out ?_
  intro e w' hr
  cases e with
  | panicked c => exact hr.elim
  | outgrown => exact hr.elim
  | returned v =>
  obtain ⟨rfl, hS⟩ : v = .bool true ∧ SL.Sat W w' [SL.old W] := hr
  have hb : Below W.heap.size W w' := hS.below (i := 0) rfl
  have hargs : DataW.Trod enc Tryz.prog w' 0 (fun b => decide (b < W.heap.size)) true 24 (.slice a0 len cap) d0 p :=
    Below.trod laidOut (by kernel_rfl) (of_decide_eq_true (by kernel_rfl)) h0 hb hlt
  have hu4 : Tryz.prog.underlying 4 = some .bool := by kernel_rfl
  exact ⟨_, rfl, _, _, _, [], p, [], hW', trodAll_mk1 (shut_bool hu4 _), trodAll_mk1 hargs, rfl, hb.frame _, fun h => by cases h⟩
theorem none_holds : Rows.ModelNoneSaid :=
  OpenClaim.holds_of_wide 5 Tryz.f5 rfl rfl rfl rfl rfl rfl rfl ⟨rfl, rfl, rfl, rfl, rfl⟩ rfl rfl rfl rfl rfl (by kernel_rfl) Tryz.func5 (by kernel_rfl)
    (of_decide_eq_true (by kernel_rfl)) (by unfold Func.isWrapper; first | (rw [if_pos (by decide +kernel)]; kernel_rfl) | (rw [if_neg (by decide +kernel)]; exact ⟨rfl, rfl⟩))
    (fun os started H enc _ => none_lifted os started H enc)
#print axioms none_holds
end Go.Proofs.YtllomopjoomdiaaGreat
end
