import PyProof.Rows.All
import Wide.All
import OpenK.AllK
import Wide.FinOn
import HandS.ForMost
import HandS.Exc
import HandS.TryOnly
import HandS.ExcOwn
import HandS.ExcInit
import HandS.ExcIs
import HandS.IsInst
import HandS.WordsExc
import HandS.Defaults
import HandS.ClsMeth
import HandS.Property
import HandS.MakeKwOnly
import HandS.DictComp
import HandS.SortInts
import HandS.SortRule
import HandS.Style
import HandS.Conv
import HandS.Deep
import HandS.Codes
import PySem.Challenge.RW_bearsmisses_k64_whole_certain_shown
set_option Elab.async false
set_option linter.all false
set_option maxRecDepth 100000
set_option maxHeartbeats 4000000
/-! the plain law: comparisons of neighbours, missed or done; what can come about, by a bar or by the greedy misses -/
namespace BM
abbrev at0 (x : List Nat) (p : Nat) : Nat := x.getD p 0
/-- the items beside gate g exchanged -/
def swp (x : List Nat) (g : Nat) : List Nat := (x.set (g - 1) (at0 x g)).set g (at0 x (g - 1))
def IsOrd (n : Nat) (x : List Nat) : Prop := x.Perm (List.range n)
def GOk (n : Nat) (gs : List Nat) : Prop := ∀ g ∈ gs, 1 ≤ g ∧ g < n
theorem IsOrd.len {n : Nat} {x : List Nat} (h : IsOrd n x) : x.length = n := by
  have := List.Perm.length_eq h
  rwa [List.length_range] at this
theorem IsOrd.nodup {n : Nat} {x : List Nat} (h : IsOrd n x) : x.Nodup := (List.nodup_range (n := n)).perm (List.Perm.symm h)
theorem IsOrd.mem {n : Nat} {x : List Nat} (h : IsOrd n x) {r : Nat} : r ∈ x ↔ r < n := by
  rw [List.Perm.mem_iff h, List.mem_range]
theorem GOk.tail {n g : Nat} {gs : List Nat} (h : GOk n (g :: gs)) : GOk n gs := fun a ha => h a (List.mem_cons_of_mem _ ha)
theorem GOk.head {n g : Nat} {gs : List Nat} (h : GOk n (g :: gs)) : 1 ≤ g ∧ g < n := h g List.mem_cons_self
theorem GOk.erase {n i : Nat} {gs : List Nat} (h : GOk n gs) : GOk n (gs.eraseIdx i) := fun a ha => h a (List.mem_of_mem_eraseIdx ha)

theorem split_at {x : List Nat} {g : Nat} (h1 : 1 ≤ g) (h2 : g < x.length) : ∃ l a b r, x = l ++ a :: b :: r ∧ l.length = g - 1 := by
  refine ⟨x.take (g - 1), x[g - 1], x[g], x.drop (g + 1), ?_, ?_⟩
  · have e1 : x.drop (g - 1) = x[g - 1] :: x.drop (g - 1 + 1) := List.drop_eq_getElem_cons (by omega)
    have e0 : g - 1 + 1 = g := by omega
    rw [e0] at e1
    have e2 : x.drop g = x[g] :: x.drop (g + 1) := List.drop_eq_getElem_cons h2
    rw [← e2, ← e1, List.take_append_drop]
  · rw [List.length_take]
    omega
section
variable {l r : List Nat} {a b g : Nat}
theorem at_left (h1 : 1 ≤ g) (h : l.length = g - 1) : at0 (l ++ a :: b :: r) (g - 1) = a := by
  unfold at0
  rw [List.getD_eq_getElem?_getD, List.getElem?_append_right (by omega), ← h, Nat.sub_self]
  rfl
theorem at_right (h1 : 1 ≤ g) (h : l.length = g - 1) : at0 (l ++ a :: b :: r) g = b := by
  unfold at0
  rw [List.getD_eq_getElem?_getD, List.getElem?_append_right (by omega)]
  have e : g - l.length = 1 := by omega
  rw [e]
  rfl
theorem swp_split (h1 : 1 ≤ g) (h : l.length = g - 1) : swp (l ++ a :: b :: r) g = l ++ b :: a :: r := by
  unfold swp
  rw [at_left h1 h, at_right h1 h, ← h, List.set_append_right _ _ (Nat.le_refl _), Nat.sub_self, List.set_cons_zero, List.set_append_right _ _ (by omega)]
  have e : g - l.length = 1 := by omega
  rw [e]
  rfl
theorem idx_split (hab : a ≠ b) (c : Nat) : (l ++ a :: b :: r).idxOf c = if c ∈ l then l.idxOf c else if c = a then l.length else if c = b then l.length + 1 else l.length + 2 + r.idxOf c := by
  rw [List.idxOf_append]
  split
  · rfl
  · rw [List.idxOf_cons, List.idxOf_cons]
    by_cases ha : c = a
    · subst ha
      simp
    · have ha' : (a == c) = false := by simpa using fun e => ha e.symm
      rw [ha', if_neg ha]
      by_cases hb : c = b
      · subst hb
        simp
        omega
      · have hb' : (b == c) = false := by simpa using fun e => hb e.symm
        rw [hb', if_neg hb]
        simp
        omega
end
theorem swp_perm {x : List Nat} {g : Nat} (h1 : 1 ≤ g) (h2 : g < x.length) : (swp x g).Perm x := by
  obtain ⟨l, a, b, r, rfl, hl⟩ := split_at h1 h2
  rw [swp_split h1 hl]
  exact List.Perm.append_left l (List.Perm.swap a b r)
theorem IsOrd.swp {n g : Nat} {x : List Nat} (h : IsOrd n x) (h1 : 1 ≤ g) (h2 : g < n) : IsOrd n (swp x g) := List.Perm.trans (swp_perm h1 (by rw [h.len]; exact h2)) h

/-! ### wrong pairs, what moved, what is held -/
def wrong (x : List Nat) (a b : Nat) : Prop := a < b ∧ a ∈ x ∧ b ∈ x ∧ x.idxOf b < x.idxOf a
/-- items of the first k places of x that are at place t or later in y -/
def mv (y x : List Nat) (k t : Nat) : Nat := (x.take k).countP (fun r => decide (t ≤ y.idxOf r))
def C : List Nat → Nat → Nat → Nat
  | [], k, t => k - t
  | g :: gs, k, t => if k = g then min (C gs (g + 1) t) (C gs (g - 1) t + 1) else C gs k t
def NoBar (n : Nat) (gs x y : List Nat) : Prop := (∀ a b, wrong y a b → wrong x a b) ∧ ∀ k t, k ≤ n → t ≤ n → mv y x k t ≤ C gs k t

theorem C_mono {t : Nat} : ∀ {gs : List Nat}, (∀ g ∈ gs, 1 ≤ g) → ∀ k, C gs k t ≤ C gs (k + 1) t ∧ C gs (k + 1) t ≤ C gs k t + 1
  | [], _, k => by
    unfold C
    omega
  | g :: gs, h, k => by
    have hg := h g List.mem_cons_self
    have ih := C_mono (t := t) (gs := gs) fun a ha => h a (List.mem_cons_of_mem _ ha)
    unfold C
    have e0 := ih k
    have e1 := ih (g - 1)
    have e2 := ih g
    have e3 : g - 1 + 1 = g := by omega
    rw [e3] at e1
    by_cases h1 : k = g
    · subst h1
      rw [if_pos rfl, if_neg (by omega)]
      omega
    · rw [if_neg h1]
      by_cases h2 : k + 1 = g
      · rw [if_pos h2]
        have h3 : k = g - 1 := by omega
        subst h3
        omega
      · rw [if_neg h2]
        omega

section
variable {l r y : List Nat} {a b g n t : Nat}
def w1 (y : List Nat) (t a : Nat) : Nat := if t ≤ y.idxOf a then 1 else 0
theorem mv_lo (_h1 : 1 ≤ g) (h : l.length = g - 1) : mv y (l ++ a :: b :: r) (g - 1) t = l.countP (fun r => decide (t ≤ y.idxOf r)) := by
  unfold mv
  rw [← h, List.take_left]
theorem take_mid (h1 : 1 ≤ g) (h : l.length = g - 1) : (l ++ a :: b :: r).take g = l ++ [a] := by
  have e : g = l.length + 1 := by omega
  rw [e, List.take_length_add_append]
  rfl
theorem take_hi {k : Nat} (h : l.length = g - 1) (h1 : 1 ≤ g) (hk : g < k) : (l ++ a :: b :: r).take k = l ++ a :: b :: r.take (k - g - 1) := by
  have e : k = l.length + (k - g - 1 + 2) := by omega
  rw [e, List.take_length_add_append]
  have e2 : l.length + (k - g - 1 + 2) - g - 1 = k - g - 1 := by omega
  rw [e2]
  rfl
theorem count_one (a : Nat) : [a].countP (fun r => decide (t ≤ y.idxOf r)) = w1 y t a := by
  unfold w1
  rw [List.countP_cons, List.countP_nil]
  by_cases h : t ≤ y.idxOf a <;> simp [h]
theorem mv_mid (h1 : 1 ≤ g) (h : l.length = g - 1) : mv y (l ++ a :: b :: r) g t = l.countP (fun r => decide (t ≤ y.idxOf r)) + w1 y t a := by
  unfold mv
  rw [take_mid h1 h, List.countP_append, count_one]
theorem mv_up (h1 : 1 ≤ g) (h : l.length = g - 1) : mv y (l ++ a :: b :: r) (g + 1) t = l.countP (fun r => decide (t ≤ y.idxOf r)) + w1 y t a + w1 y t b := by
  unfold mv
  rw [take_hi h h1 (Nat.lt_succ_self g)]
  have e : g + 1 - g - 1 = 0 := by omega
  rw [e, List.take_zero, List.countP_append, show (a :: [b]) = [a] ++ [b] from rfl, List.countP_append, count_one, count_one]
  omega
theorem mv_swp {k : Nat} (h1 : 1 ≤ g) (h : l.length = g - 1) (hk : k ≠ g) : mv y (l ++ b :: a :: r) k t = mv y (l ++ a :: b :: r) k t := by
  unfold mv
  by_cases h2 : k ≤ l.length
  · rw [List.take_append_of_le_length h2, List.take_append_of_le_length h2]
  · rw [take_hi h h1 (by omega), take_hi h h1 (by omega)]
    exact List.Perm.countP_eq _ (List.Perm.append_left l (List.Perm.swap a b _))
theorem w1_le (h : y.idxOf a ≤ y.idxOf b) : w1 y t a ≤ w1 y t b := by
  unfold w1
  by_cases h2 : t ≤ y.idxOf a
  · rw [if_pos h2, if_pos (Nat.le_trans h2 h)]
    exact Nat.le_refl _
  · rw [if_neg h2]
    exact Nat.zero_le _
theorem w1_1 : w1 y t a ≤ 1 := by
  unfold w1
  split <;> omega
end

section
variable {n g : Nat} {gs x y : List Nat}
/-- the row at the gate, where the item ahead stays ahead -/
theorem row_ok {c : Nat → Nat} {l r : List Nat} {a b t : Nat} (h1 : 1 ≤ g) (hl : l.length = g - 1) (hm : c (g - 1) ≤ c g ∧ c g ≤ c (g - 1) + 1) (hm2 : c g ≤ c (g + 1) ∧ c (g + 1) ≤ c g + 1)
    (hlo : mv y (l ++ a :: b :: r) (g - 1) t ≤ c (g - 1)) (hup : mv y (l ++ a :: b :: r) (g + 1) t ≤ c (g + 1)) (hab : y.idxOf a ≤ y.idxOf b) : mv y (l ++ a :: b :: r) g t ≤ c g := by
  rw [mv_lo h1 hl] at hlo
  rw [mv_up h1 hl] at hup
  rw [mv_mid h1 hl]
  have h3 := w1_le (t := t) hab
  have h4 : w1 y t a ≤ 1 := w1_1
  have h5 : w1 y t b ≤ 1 := w1_1
  omega
theorem cap_parts (hg : ∀ h ∈ g :: gs, 1 ≤ h) (t : Nat) : (C gs (g - 1) t ≤ C gs g t ∧ C gs g t ≤ C gs (g - 1) t + 1) ∧ C gs g t ≤ C gs (g + 1) t ∧ C gs (g + 1) t ≤ C gs g t + 1 := by
  have h1 := hg g List.mem_cons_self
  have m := C_mono (t := t) (gs := gs) fun a ha => hg a (List.mem_cons_of_mem _ ha)
  have e := m (g - 1)
  rw [show g - 1 + 1 = g by omega] at e
  exact ⟨e, m g⟩
theorem C_ne {k t : Nat} (h : k ≠ g) : C (g :: gs) k t = C gs k t := by
  conv => lhs; unfold C
  rw [if_neg h]
theorem C_eq {t : Nat} : C (g :: gs) g t = min (C gs (g + 1) t) (C gs (g - 1) t + 1) := by
  conv => lhs; unfold C
  rw [if_pos rfl]
theorem GOk.pos (h : GOk n gs) : ∀ g ∈ gs, 1 ≤ g := fun g hg => (h g hg).1
theorem stay_ok (hx : IsOrd n x) (hG : GOk n (g :: gs)) (nb : NoBar n (g :: gs) x y) (hab : y.idxOf (at0 x (g - 1)) ≤ y.idxOf (at0 x g)) : NoBar n gs x y := by
  obtain ⟨h1, h2⟩ := hG.head
  obtain ⟨l, a, b, r, rfl, hl⟩ := split_at h1 (by rw [hx.len]; exact h2)
  rw [at_left h1 hl, at_right h1 hl] at hab
  refine ⟨nb.1, fun k t hk ht => ?_⟩
  by_cases e : k = g
  · subst e
    obtain ⟨p1, p2⟩ := cap_parts hG.pos t
    have q1 := nb.2 (k - 1) t (by omega) ht
    have q2 := nb.2 (k + 1) t (by omega) ht
    rw [C_ne (by omega)] at q1 q2
    exact row_ok (c := fun k => C gs k t) h1 hl p1 p2 q1 q2 hab
  · have q := nb.2 k t hk ht
    rwa [C_ne e] at q
theorem swap_ok (hx : IsOrd n x) (hG : GOk n (g :: gs)) (nb : NoBar n (g :: gs) x y) (hlt : at0 x g < at0 x (g - 1)) (hab : y.idxOf (at0 x g) ≤ y.idxOf (at0 x (g - 1))) : NoBar n gs (swp x g) y := by
  obtain ⟨h1, h2⟩ := hG.head
  obtain ⟨l, a, b, r, rfl, hl⟩ := split_at h1 (by rw [hx.len]; exact h2)
  rw [at_left h1 hl, at_right h1 hl] at hab hlt
  rw [swp_split h1 hl]
  refine ⟨fun c d w => ?_, fun k t hk ht => ?_⟩
  · obtain ⟨w1, w2, w3, w4⟩ := nb.1 c d w
    have nd := hx.nodup
    have hal : a ∉ l := fun h => by
      have := (List.nodup_append.mp nd).2.2 a h a List.mem_cons_self
      exact this rfl
    have hbl : b ∉ l := fun h => by
      have := (List.nodup_append.mp nd).2.2 b h b (List.mem_cons_of_mem _ List.mem_cons_self)
      exact this rfl
    refine ⟨w1, ?_, ?_, ?_⟩
    · exact (List.Perm.mem_iff (List.Perm.append_left l (List.Perm.swap a b r))).mpr w2
    · exact (List.Perm.mem_iff (List.Perm.append_left l (List.Perm.swap a b r))).mpr w3
    · rw [idx_split (by omega), idx_split (by omega)] at w4
      rw [idx_split (by omega), idx_split (by omega)]
      have no : ¬ (d = a ∧ c = b) := fun ⟨e1, e2⟩ => by
        subst e1 e2
        have := w.2.2.2
        omega
      have hd := List.idxOf_lt_length_iff (l := l) (a := d)
      have hc := List.idxOf_lt_length_iff (l := l) (a := c)
      by_cases k1 : d ∈ l <;> by_cases k2 : c ∈ l <;> simp only [k1, k2, if_true, if_false] at w4 ⊢
      · exact w4
      · have := hd.mpr k1
        repeat' split
        all_goals omega
      · have := hc.mpr k2
        repeat' split at w4
        all_goals omega
      · by_cases k3 : d = a <;> by_cases k4 : d = b <;> by_cases k5 : c = a <;> by_cases k6 : c = b <;> simp only [k3, k4, k5, k6, if_true, if_false] at w4 ⊢ <;> (repeat' split) <;> (try omega) <;> simp_all <;> omega
  · by_cases e : k = g
    · subst e
      obtain ⟨p1, p2⟩ := cap_parts hG.pos t
      have q1 := nb.2 (k - 1) t (by omega) ht
      have q2 := nb.2 (k + 1) t (by omega) ht
      rw [C_ne (by omega), ← mv_swp h1 hl (by omega)] at q1 q2
      exact row_ok (c := fun k => C gs k t) h1 hl p1 p2 q1 q2 hab
    · have q := nb.2 k t hk ht
      rw [C_ne e, ← mv_swp h1 hl e] at q
      exact q
theorem back_row {l r : List Nat} {a b t : Nat} (h1 : 1 ≤ g) (hl : l.length = g - 1) (q1 : mv y (l ++ a :: b :: r) (g - 1) t ≤ C gs (g - 1) t) (q2 : mv y (l ++ a :: b :: r) (g + 1) t ≤ C gs (g + 1) t) :
    mv y (l ++ a :: b :: r) g t ≤ C (g :: gs) g t := by
  rw [mv_lo h1 hl] at q1
  rw [mv_up h1 hl] at q2
  rw [mv_mid h1 hl, C_eq]
  have h4 : w1 y t a ≤ 1 := w1_1
  omega
theorem back_stay (hx : IsOrd n x) (hG : GOk n (g :: gs)) (nb : NoBar n gs x y) : NoBar n (g :: gs) x y := by
  obtain ⟨h1, h2⟩ := hG.head
  obtain ⟨l, a, b, r, rfl, hl⟩ := split_at h1 (by rw [hx.len]; exact h2)
  refine ⟨nb.1, fun k t hk ht => ?_⟩
  by_cases e : k = g
  · subst e
    exact back_row h1 hl (nb.2 _ t (by omega) ht) (nb.2 _ t (by omega) ht)
  · rw [C_ne e]
    exact nb.2 k t hk ht
theorem back_swap (hx : IsOrd n x) (hG : GOk n (g :: gs)) (hlt : at0 x g < at0 x (g - 1)) (nb : NoBar n gs (swp x g) y) : NoBar n (g :: gs) x y := by
  obtain ⟨h1, h2⟩ := hG.head
  obtain ⟨l, a, b, r, rfl, hl⟩ := split_at h1 (by rw [hx.len]; exact h2)
  rw [at_left h1 hl, at_right h1 hl] at hlt
  rw [swp_split h1 hl] at nb
  have pm := List.Perm.append_left l (List.Perm.swap a b r)
  refine ⟨fun c d w => ?_, fun k t hk ht => ?_⟩
  · obtain ⟨w1, w2, w3, w4⟩ := nb.1 c d w
    refine ⟨w1, pm.mem_iff.mp w2, pm.mem_iff.mp w3, ?_⟩
    rw [idx_split (by omega), idx_split (by omega)] at w4
    rw [idx_split (by omega), idx_split (by omega)]
    have hd := List.idxOf_lt_length_iff (l := l) (a := d)
    have hc := List.idxOf_lt_length_iff (l := l) (a := c)
    by_cases k1 : d ∈ l <;> by_cases k2 : c ∈ l <;> simp only [k1, k2, if_true, if_false] at w4 ⊢
    · exact w4
    · have := hd.mpr k1
      repeat' split
      all_goals omega
    · have := hc.mpr k2
      repeat' split at w4
      all_goals omega
    · by_cases k3 : d = a <;> by_cases k4 : d = b <;> by_cases k5 : c = a <;> by_cases k6 : c = b <;> simp only [k3, k4, k5, k6, if_true, if_false] at w4 ⊢ <;> (repeat' split) <;> (try omega) <;> simp_all <;> omega
  · by_cases e : k = g
    · subst e
      have q1 := nb.2 (k - 1) t (by omega) ht
      have q2 := nb.2 (k + 1) t (by omega) ht
      rw [mv_swp h1 hl (by omega)] at q1 q2
      exact back_row h1 hl q1 q2
    · have q := nb.2 k t hk ht
      rw [mv_swp h1 hl e] at q
      rw [C_ne e]
      exact q
end

/-! ### what can come -/
def Reach : List Nat → List Nat → List Nat → Prop
  | [], x, y => x = y
  | g :: gs, x, y => Reach gs x y ∨ (at0 x g < at0 x (g - 1) ∧ Reach gs (swp x g) y)
theorem noBar_refl {n : Nat} {x : List Nat} (hx : IsOrd n x) : NoBar n [] x x := by
  refine ⟨fun _ _ h => h, fun k t hk ht => ?_⟩
  show (x.take k).countP _ ≤ k - t
  -- of the first k places those at t or later
  have nd := hx.nodup
  have e : (x.take k).countP (fun r => decide (t ≤ x.idxOf r)) ≤ ((x.take k).drop t).length := by
    have h2 : x.take k = (x.take k).take t ++ (x.take k).drop t := (List.take_append_drop t _).symm
    rw [h2, List.countP_append]
    have z : ((x.take k).take t).countP (fun r => decide (t ≤ x.idxOf r)) = 0 := by
      rw [List.countP_eq_zero]
      intro r hr
      obtain ⟨i, hi, er⟩ := List.mem_iff_getElem.mp hr
      have hi' : i < t ∧ i < k ∧ i < x.length := by
        simp only [List.length_take] at hi
        omega
      simp only [List.getElem_take] at er
      have : x.idxOf r = i := by
        rw [← er]
        have h3 : x.idxOf x[i] < x.length := List.idxOf_lt_length_iff.mpr (List.getElem_mem _)
        exact (List.getElem_inj nd).mp (List.getElem_idxOf h3)
      rw [this]
      simp
      omega
    have : ((x.take k).drop t).countP (fun r => decide (t ≤ x.idxOf r)) ≤ ((x.take k).drop t).length := List.countP_le_length
    have h4 : (List.take t (List.take k x) ++ List.drop t (List.take k x)).drop t = (x.take k).drop t := by rw [List.take_append_drop]
    rw [h4]
    omega
  refine Nat.le_trans e ?_
  rw [List.length_drop, List.length_take]
  omega
theorem reach_noBar {n : Nat} {y : List Nat} : ∀ {gs x : List Nat}, IsOrd n x → GOk n gs → Reach gs x y → NoBar n gs x y
  | [], x, hx, _, h => by
    have e : x = y := h
    rw [← e]
    exact noBar_refl hx
  | g :: gs, x, hx, hG, h => by
    rcases h with h | ⟨h0, h⟩
    · exact back_stay hx hG (reach_noBar hx hG.tail h)
    · exact back_swap hx hG h0 (reach_noBar (hx.swp hG.head.1 hG.head.2) hG.tail h)
theorem reach_ord {n : Nat} {y : List Nat} : ∀ {gs x : List Nat}, IsOrd n x → GOk n gs → Reach gs x y → IsOrd n y
  | [], x, hx, _, h => by
    have e : x = y := h
    rw [← e]
    exact hx
  | g :: gs, x, hx, hG, h => by
    rcases h with h | ⟨h0, h⟩
    · exact reach_ord hx hG.tail h
    · exact reach_ord (hx.swp hG.head.1 hG.head.2) hG.tail h
/-- without comparisons only the order itself has no bar -/
theorem noBar_nil {n : Nat} {x y : List Nat} (hx : IsOrd n x) (hy : IsOrd n y) (nb : NoBar n [] x y) : x = y := by
  have le : ∀ (p : Nat) (hp : p < x.length), y.idxOf x[p] ≤ p := fun p hp => by
    have hn : p + 1 ≤ n := by
      have := hx.len
      omega
    have q := nb.2 (p + 1) (p + 1) hn hn
    unfold C mv at q
    rw [Nat.sub_self] at q
    have z := List.countP_eq_zero.mp (Nat.le_zero.mp q) x[p] (by
      rw [List.mem_iff_getElem]
      exact ⟨p, by rw [List.length_take]; omega, by rw [List.getElem_take]⟩)
    simp at z
    omega
  have lt : ∀ (p : Nat) (hp : p < x.length), y.idxOf x[p] < y.length := fun p hp => List.idxOf_lt_length_iff.mpr (hy.mem.mpr (hx.mem.mp (List.getElem_mem _)))
  have eq : ∀ (p : Nat) (hp : p < x.length), y.idxOf x[p] = p := by
    intro p
    induction p using Nat.strongRecOn with
    | _ p ih =>
      intro hp
      have h1 := le p hp
      rcases Nat.lt_or_ge (y.idxOf x[p]) p with h2 | h2
      · exfalso
        have h3 := ih _ h2 (by omega)
        have e : x[y.idxOf x[p]] = x[p] := by
          have a1 : y[y.idxOf x[p]]? = some x[p] := List.getElem?_eq_some_iff.mpr ⟨lt p hp, List.getElem_idxOf (lt p hp)⟩
          have a2 : y[y.idxOf x[y.idxOf x[p]]]? = some x[y.idxOf x[p]] := List.getElem?_eq_some_iff.mpr ⟨lt _ (by omega), List.getElem_idxOf (lt (y.idxOf x[p]) (by omega))⟩
          rw [h3, a1] at a2
          exact (Option.some.inj a2).symm
        have := (List.getElem_inj hx.nodup).mp e
        omega
      · omega
  refine List.ext_getElem (by rw [hx.len, hy.len]) fun p h1 h2 => ?_
  have a1 := List.getElem_idxOf (lt p h1)
  rw [← a1]
  congr 1
  exact eq p h1

/-! ### the greedy misses -/
def gfin (y : List Nat) : List Nat → List Nat → List Nat
  | [], x => x
  | g :: gs, x => if at0 x g < at0 x (g - 1) ∧ ¬ y.idxOf (at0 x (g - 1)) < y.idxOf (at0 x g) then gfin y gs (swp x g) else gfin y gs x
def gms (y : List Nat) : Nat → List Nat → List Nat → List Nat
  | _, [], _ => []
  | i, g :: gs, x => if at0 x g < at0 x (g - 1) then (if y.idxOf (at0 x (g - 1)) < y.idxOf (at0 x g) then i :: gms y (i + 1) gs x else gms y (i + 1) gs (swp x g)) else gms y (i + 1) gs x
def gdn (y : List Nat) : Nat → List Nat → List Nat → List Nat
  | _, [], _ => []
  | i, g :: gs, x => if at0 x g < at0 x (g - 1) then (if y.idxOf (at0 x (g - 1)) < y.idxOf (at0 x g) then gdn y (i + 1) gs x else i :: gdn y (i + 1) gs (swp x g)) else gdn y (i + 1) gs x
theorem gfin_eq {n : Nat} {y : List Nat} (hy : IsOrd n y) : ∀ {gs x : List Nat}, IsOrd n x → GOk n gs → NoBar n gs x y → gfin y gs x = y
  | [], x, hx, _, nb => noBar_nil hx hy nb
  | g :: gs, x, hx, hG, nb => by
    unfold gfin
    obtain ⟨h1, h2⟩ := hG.head
    split
    · rename_i h
      exact gfin_eq hy (hx.swp h1 h2) hG.tail (swap_ok hx hG nb h.1 (by omega))
    · rename_i h
      refine gfin_eq hy hx hG.tail (stay_ok hx hG nb ?_)
      by_cases c : at0 x g < at0 x (g - 1)
      · have : y.idxOf (at0 x (g - 1)) < y.idxOf (at0 x g) := Classical.byContradiction fun z => h ⟨c, z⟩
        omega
      · refine Nat.le_of_not_lt fun z => ?_
        obtain ⟨l, a, b, r, rfl, hl⟩ := split_at h1 (by rw [hx.len]; exact h2)
        rw [at_left h1 hl, at_right h1 hl] at c z
        have ha : a ∈ l ++ a :: b :: r := by simp
        have hb : b ∈ l ++ a :: b :: r := by simp
        have nd := hx.nodup
        have hab : a ≠ b := fun e => by
          have := (List.nodup_append.mp nd).2.1
          rw [e] at this
          exact (List.nodup_cons.mp this).1 List.mem_cons_self
        have hal : a ∉ l := fun h => (List.nodup_append.mp nd).2.2 a h a List.mem_cons_self rfl
        have hbl : b ∉ l := fun h => (List.nodup_append.mp nd).2.2 b h b (List.mem_cons_of_mem _ List.mem_cons_self) rfl
        have w := (nb.1 a b ⟨by omega, hy.mem.mpr (hx.mem.mp ha), hy.mem.mpr (hx.mem.mp hb), z⟩).2.2.2
        rw [idx_split hab, idx_split hab, if_neg hal, if_neg hbl, if_pos rfl, if_neg (Ne.symm hab), if_pos rfl] at w
        omega
theorem gfin_reach (y : List Nat) : ∀ (gs x : List Nat), Reach gs x (gfin y gs x)
  | [], x => rfl
  | g :: gs, x => by
    unfold gfin
    split
    · rename_i h
      exact .inr ⟨h.1, gfin_reach y gs _⟩
    · exact .inl (gfin_reach y gs x)
/-- what does not exchange may go -/
theorem gdn_erase (y : List Nat) : ∀ (gs x : List Nat) (i k : Nat), k < gs.length → i + k ∉ gdn y i gs x → Reach (gs.eraseIdx k) x (gfin y gs x)
  | g :: gs, x, i, 0, _, h => by
    show Reach gs x _
    unfold gdn at h
    unfold gfin
    by_cases c : at0 x g < at0 x (g - 1)
    · rw [if_pos c] at h
      by_cases d : y.idxOf (at0 x (g - 1)) < y.idxOf (at0 x g)
      · rw [if_neg (fun z => z.2 d)]
        exact gfin_reach y gs x
      · rw [if_neg d] at h
        exact absurd List.mem_cons_self h
    · rw [if_neg (fun z => c z.1)]
      exact gfin_reach y gs x
  | g :: gs, x, i, k + 1, hk, h => by
    show Reach (g :: gs.eraseIdx k) x _
    have hk' : k < gs.length := by
      rw [List.length_cons] at hk
      omega
    have e : i + (k + 1) = i + 1 + k := by omega
    rw [e] at h
    unfold gdn at h
    unfold gfin
    by_cases c : at0 x g < at0 x (g - 1)
    · rw [if_pos c] at h
      by_cases d : y.idxOf (at0 x (g - 1)) < y.idxOf (at0 x g)
      · rw [if_pos d] at h
        rw [if_neg (fun z => z.2 d)]
        exact .inl (gdn_erase y gs x (i + 1) k hk' h)
      · rw [if_neg d] at h
        rw [if_pos ⟨c, d⟩]
        exact .inr ⟨c, gdn_erase y gs _ (i + 1) k hk' fun z => h (List.mem_cons_of_mem _ z)⟩
    · rw [if_neg c] at h
      rw [if_neg (fun z => c z.1)]
      exact .inl (gdn_erase y gs x (i + 1) k hk' h)
theorem gdn_bounds (y : List Nat) : ∀ (gs x : List Nat) (i : Nat), (∀ j ∈ gdn y i gs x, i ≤ j ∧ j < i + gs.length) ∧ (gdn y i gs x).Pairwise (· < ·)
  | [], x, i => ⟨(fun j h => by cases h), .nil⟩
  | g :: gs, x, i => by
    have a := gdn_bounds y gs x (i + 1)
    have b := gdn_bounds y gs (swp x g) (i + 1)
    unfold gdn
    rw [List.length_cons]
    split
    · split
      · exact ⟨fun j h => by have := a.1 j h; omega, a.2⟩
      · refine ⟨fun j h => ?_, List.pairwise_cons.mpr ⟨fun j h => ?_, b.2⟩⟩
        · rcases List.mem_cons.mp h with e | h
          · omega
          · have := b.1 j h
            omega
        · have := b.1 j h
          omega
    · exact ⟨fun j h => by have := a.1 j h; omega, a.2⟩
theorem gms_bounds (y : List Nat) : ∀ (gs x : List Nat) (i : Nat), (∀ j ∈ gms y i gs x, i ≤ j ∧ j < i + gs.length) ∧ (gms y i gs x).Pairwise (· < ·)
  | [], x, i => ⟨(fun j h => by cases h), .nil⟩
  | g :: gs, x, i => by
    have a := gms_bounds y gs x (i + 1)
    have b := gms_bounds y gs (swp x g) (i + 1)
    unfold gms
    rw [List.length_cons]
    split
    · split
      · refine ⟨fun j h => ?_, List.pairwise_cons.mpr ⟨fun j h => ?_, a.2⟩⟩
        · rcases List.mem_cons.mp h with e | h
          · omega
          · have := a.1 j h
            omega
        · have := a.1 j h
          omega
      · exact ⟨fun j h => by have := b.1 j h; omega, b.2⟩
    · exact ⟨fun j h => by have := a.1 j h; omega, a.2⟩

/-! ### the law's own play, with a list of misses -/
def ply (gone : List Nat) : Nat → List Nat → List Nat → List Nat
  | _, [], x => x
  | i, g :: gs, x => if i ∉ gone ∧ at0 x g < at0 x (g - 1) then ply gone (i + 1) gs (swp x g) else ply gone (i + 1) gs x
def dne (gone : List Nat) : Nat → List Nat → List Nat → List Nat
  | _, [], _ => []
  | i, g :: gs, x => if i ∉ gone ∧ at0 x g < at0 x (g - 1) then i :: dne gone (i + 1) gs (swp x g) else dne gone (i + 1) gs x
theorem ply_reach (gone : List Nat) : ∀ (gs x : List Nat) (i : Nat), Reach gs x (ply gone i gs x)
  | [], x, i => rfl
  | g :: gs, x, i => by
    unfold ply
    split
    · rename_i h
      exact .inr ⟨h.2, ply_reach gone gs _ (i + 1)⟩
    · exact .inl (ply_reach gone gs x (i + 1))
theorem ply_gms (y gone : List Nat) : ∀ (gs x : List Nat) (i : Nat), (∀ j, i ≤ j → (j ∈ gone ↔ j ∈ gms y i gs x)) → ply gone i gs x = gfin y gs x ∧ dne gone i gs x = gdn y i gs x
  | [], x, i, _ => ⟨rfl, rfl⟩
  | g :: gs, x, i, h => by
    have hi := h i (Nat.le_refl _)
    unfold ply gfin dne gdn
    unfold gms at h hi
    by_cases c : at0 x g < at0 x (g - 1)
    · rw [if_pos c] at h hi ⊢
      by_cases d : y.idxOf (at0 x (g - 1)) < y.idxOf (at0 x g)
      · rw [if_pos d] at h hi
        have hg : i ∈ gone := hi.mpr List.mem_cons_self
        rw [if_neg (fun z => z.1 hg), if_neg (fun z => z.2 d), if_neg (fun z => z.1 hg), if_pos d]
        refine ply_gms y gone gs x (i + 1) fun j hj => ?_
        rw [h j (by omega), List.mem_cons]
        constructor
        · rintro (e | e)
          · omega
          · exact e
        · exact .inr
      · rw [if_neg d] at h hi
        have hg : i ∉ gone := fun z => by
          have := (gms_bounds y gs (swp x g) (i + 1)).1 i (hi.mp z)
          omega
        rw [if_pos ⟨hg, c⟩, if_pos ⟨c, d⟩, if_pos ⟨hg, c⟩, if_neg d]
        have ih := ply_gms y gone gs (swp x g) (i + 1) fun j hj => h j (by omega)
        exact ⟨ih.1, by rw [ih.2]⟩
    · rw [if_neg c] at h hi ⊢
      rw [if_neg (fun z => c z.2), if_neg (fun z => c z.1), if_neg (fun z => c z.2)]
      exact ply_gms y gone gs x (i + 1) fun j hj => h j (by omega)

/-! ### capacities by columns -/
abbrev Tab := Nat → Nat → Nat
def col (g : Nat) (c : Tab) : Tab := fun k t => if t = g then min (c k (g - 1)) (c k (g + 1) + 1) else c k t
def rowop (g : Nat) (c : Tab) : Tab := fun k t => if k = g then min (c (g + 1) t) (c (g - 1) t + 1) else c k t
def free : Tab := fun k t => k - t
theorem row_col (g h : Nat) (c : Tab) : rowop h (col g c) = col g (rowop h c) := by
  funext k t
  unfold rowop col
  by_cases hk : k = h <;> by_cases ht : t = g <;> simp only [hk, ht, if_true, if_false]
  omega
theorem row_free {h : Nat} (h1 : 1 ≤ h) : rowop h free = col h free := by
  funext k t
  unfold rowop col free
  by_cases hk : k = h <;> by_cases ht : t = h <;> simp only [hk, ht, if_true, if_false] <;> omega
theorem row_cols (h : Nat) : ∀ (gs : List Nat) (c : Tab), rowop h (gs.foldl (fun c g => col g c) c) = gs.foldl (fun c g => col g c) (rowop h c)
  | [], c => rfl
  | g :: gs, c => by
    rw [List.foldl_cons, List.foldl_cons, row_cols h gs, row_col]
theorem C_cols : ∀ {gs : List Nat}, (∀ g ∈ gs, 1 ≤ g) → C gs = gs.foldl (fun c g => col g c) free
  | [], _ => rfl
  | g :: gs, h => by
    have ih := C_cols (gs := gs) fun a ha => h a (List.mem_cons_of_mem _ ha)
    have e : C (g :: gs) = rowop g (C gs) := by
      funext k t
      conv => lhs; unfold C
      unfold rowop
      rfl
    rw [e, ih, row_cols, row_free (h g List.mem_cons_self), List.foldl_cons]
/-- the program's loop: comparisons at gone are passed over -/
def capL (gone : List Nat) : Nat → List Nat → Tab → Tab
  | _, [], c => c
  | i, g :: gs, c => if i ∈ gone then capL gone (i + 1) gs c else capL gone (i + 1) gs (col g c)
theorem capL_nil : ∀ (gs : List Nat) (i : Nat) (c : Tab), capL [] i gs c = gs.foldl (fun c g => col g c) c
  | [], i, c => rfl
  | g :: gs, i, c => by
    unfold capL
    rw [if_neg (by simp), List.foldl_cons, capL_nil gs]
theorem capL_past {a : Nat} : ∀ (gs : List Nat) (i : Nat) (c : Tab), a < i → capL [a] i gs c = gs.foldl (fun c g => col g c) c
  | [], i, c, _ => rfl
  | g :: gs, i, c, h => by
    unfold capL
    rw [if_neg (by simp; omega), List.foldl_cons, capL_past gs _ _ (by omega)]
theorem capL_one : ∀ (gs : List Nat) (i k : Nat) (c : Tab), capL [i + k] i gs c = (gs.eraseIdx k).foldl (fun c g => col g c) c
  | [], i, k, c => by
    rw [List.eraseIdx_nil]
    rfl
  | g :: gs, i, 0, c => by
    unfold capL
    rw [if_pos (by simp), List.eraseIdx_cons_zero, capL_past gs _ _ (by omega)]
  | g :: gs, i, k + 1, c => by
    unfold capL
    rw [if_neg (by simp), List.eraseIdx_cons_succ, List.foldl_cons, show i + (k + 1) = i + 1 + k by omega, capL_one gs (i + 1) k]

/-! ### what is held, by the falling order's play -/
def held (n : Nat) (x : List Nat) : Tab := fun k t => (x.drop t).countP (fun r => decide (n - k ≤ r))
theorem drop_hi {l r : List Nat} {a b g t : Nat} (h1 : 1 ≤ g) (h : l.length = g - 1) (ht : g < t) : (l ++ a :: b :: r).drop t = r.drop (t - g - 1) := by
  have e : t = l.length + (t - g - 1 + 2) := by omega
  rw [e, List.drop_append, List.drop_eq_nil_of_le (by omega), List.nil_append]
  have e2 : l.length + (t - g - 1 + 2) - l.length = t - g - 1 + 2 := by omega
  have e3 : l.length + (t - g - 1 + 2) - g - 1 = t - g - 1 := by omega
  rw [e2, e3]
  rfl
theorem drop_mid {l r : List Nat} {a b g : Nat} (h1 : 1 ≤ g) (h : l.length = g - 1) : (l ++ a :: b :: r).drop g = b :: r := by
  have e : g = l.length + 1 := by omega
  rw [e, List.drop_append, List.drop_eq_nil_of_le (by omega), List.nil_append, Nat.add_sub_cancel_left]
  rfl
theorem held_step {n g : Nat} {x : List Nat} (hx : x.length = n) (h1 : 1 ≤ g) (h2 : g < n) : held n (if at0 x g < at0 x (g - 1) then swp x g else x) = col g (held n x) := by
  obtain ⟨l, a, b, r, rfl, hl⟩ := split_at h1 (by rw [hx]; exact h2)
  rw [at_left h1 hl, at_right h1 hl, swp_split h1 hl]
  funext k t
  unfold col held
  by_cases ht : t = g
  · subst ht
    rw [if_pos rfl, drop_hi h1 hl (Nat.lt_succ_self t), show t + 1 - t - 1 = 0 by omega, List.drop_zero]
    have e : (l ++ a :: b :: r).drop (t - 1) = a :: b :: r := by
      rw [← hl, List.drop_left]
    rw [e]
    split <;> rename_i hab <;> rw [drop_mid h1 hl] <;> simp only [List.countP_cons] <;>
      (by_cases p1 : n - k ≤ a <;> by_cases p2 : n - k ≤ b <;> simp only [p1, p2, decide_true, decide_false, if_true, if_false, Bool.false_eq_true] <;> omega)
  · rw [if_neg ht]
    split
    · by_cases h3 : t ≤ l.length
      · rw [List.drop_append_of_le_length h3, List.drop_append_of_le_length h3]
        exact List.Perm.countP_eq _ (List.Perm.append_left _ (List.Perm.swap a b r))
      · rw [drop_hi h1 hl (by omega), drop_hi h1 hl (by omega)]
    · rfl
theorem held_ply {n : Nat} : ∀ (gs x : List Nat) (i : Nat), IsOrd n x → GOk n gs → held n (ply [] i gs x) = gs.foldl (fun c g => col g c) (held n x)
  | [], x, i, _, _ => rfl
  | g :: gs, x, i, hx, hG => by
    have st := held_step (x := x) hx.len hG.head.1 hG.head.2
    rw [List.foldl_cons, ← st]
    unfold ply
    by_cases c : at0 x g < at0 x (g - 1)
    · rw [if_pos ⟨by simp, c⟩, if_pos c]
      exact held_ply gs _ (i + 1) (hx.swp hG.head.1 hG.head.2) hG.tail
    · rw [if_neg (fun z => c z.2), if_neg c]
      exact held_ply gs _ (i + 1) hx hG.tail
theorem cols_row {k : Nat} : ∀ (gs : List Nat) (c d : Tab), (∀ t, c k t = d k t) → ∀ t, gs.foldl (fun c g => col g c) c k t = gs.foldl (fun c g => col g c) d k t
  | [], c, d, h, t => h t
  | g :: gs, c, d, h, t => by
    rw [List.foldl_cons, List.foldl_cons]
    refine cols_row gs _ _ (fun t => ?_) t
    unfold col
    rw [h, h, h]
def falling (n : Nat) : List Nat := (List.range n).reverse
theorem falling_ord (n : Nat) : IsOrd n (falling n) := List.reverse_perm _
theorem held_falling {n k : Nat} (hk : k ≤ n) (t : Nat) : held n (falling n) k t = free k t := by
  unfold held falling free
  rw [List.drop_reverse, List.length_range, List.take_range, List.countP_reverse]
  have key : ∀ m, m ≤ n → (List.range m).countP (fun r => decide (n - k ≤ r)) = m - (n - k) := by
    intro m
    induction m with
    | zero =>
      intro _
      simp
    | succ m ih =>
      intro hm
      rw [List.range_succ, List.countP_append, ih (by omega), List.countP_cons, List.countP_nil]
      by_cases h : n - k ≤ m
      · simp [h]
        omega
      · simp [h]
        omega
  rw [key _ (by omega)]
  omega
theorem held_C {n : Nat} {gs : List Nat} (hG : GOk n gs) {k : Nat} (hk : k ≤ n) (t : Nat) : held n (ply [] 0 gs (falling n)) k t = C gs k t := by
  rw [held_ply gs _ 0 (falling_ord n) hG, C_cols hG.pos]
  exact cols_row gs _ _ (fun t => held_falling hk t) t
/-- the law counts from the end's side -/
theorem moved_eq {n : Nat} {x y : List Nat} (hx : IsOrd n x) (hy : IsOrd n y) (k t : Nat) : (y.drop t).countP (fun r => decide (r ∈ x.take k)) = mv y x k t := by
  unfold mv
  rw [List.countP_eq_length_filter, List.countP_eq_length_filter]
  refine List.Perm.length_eq ?_
  refine (List.perm_ext_iff_of_nodup ?_ ?_).mpr fun r => ?_
  · exact List.Pairwise.filter _ ((List.drop_sublist t y).nodup hy.nodup)
  · exact List.Pairwise.filter _ ((List.take_sublist k x).nodup hx.nodup)
  · rw [List.mem_filter, List.mem_filter]
    simp only [decide_eq_true_eq]
    have key : ∀ r, r ∈ x.take k → (r ∈ y.drop t ↔ t ≤ y.idxOf r) := fun r hr => by
      have ry : r ∈ y := hy.mem.mpr (hx.mem.mp (List.mem_of_mem_take hr))
      have hlt : y.idxOf r < y.length := List.idxOf_lt_length_iff.mpr ry
      have e : y[y.idxOf r] = r := List.getElem_idxOf hlt
      constructor
      · intro h
        obtain ⟨i, hi, ei⟩ := List.mem_iff_getElem.mp h
        rw [List.getElem_drop] at ei
        have := (List.getElem_inj hy.nodup).mp (e.trans ei.symm)
        omega
      · intro h
        rw [List.mem_iff_getElem]
        refine ⟨y.idxOf r - t, by rw [List.length_drop]; omega, ?_⟩
        rw [List.getElem_drop]
        simp only [show t + (y.idxOf r - t) = y.idxOf r by omega]
        exact e
    constructor
    · rintro ⟨h1, h2⟩
      exact ⟨h2, (key r h2).mp h1⟩
    · rintro ⟨h1, h2⟩
      exact ⟨(key r h1).mpr h2, h1⟩
end BM
namespace BM
/-! ### orders by place -/
theorem at0_eq {x : List Nat} {i : Nat} (h : i < x.length) : at0 x i = x[i] := by
  unfold at0
  rw [List.getD_eq_getElem?_getD, List.getElem?_eq_getElem h]
  rfl
theorem at0_of {x : List Nat} {i r : Nat} (h : x[i]? = some r) : at0 x i = r := by
  unfold at0
  rw [List.getD_eq_getElem?_getD, h]
  rfl
theorem IsOrd.idx_at {n i : Nat} {x : List Nat} (hx : IsOrd n x) (hi : i < n) : x.idxOf (at0 x i) = i := by
  have h : i < x.length := by rw [hx.len]; exact hi
  rw [at0_eq h]
  have h3 : x.idxOf x[i] < x.length := List.idxOf_lt_length_iff.mpr (List.getElem_mem _)
  exact (List.getElem_inj hx.nodup).mp (List.getElem_idxOf h3)
theorem IsOrd.at_lt {n i : Nat} {x : List Nat} (hx : IsOrd n x) (hi : i < n) : at0 x i < n := by
  have h : i < x.length := by rw [hx.len]; exact hi
  rw [at0_eq h]
  exact hx.mem.mp (List.getElem_mem _)
theorem IsOrd.at_idx {n r : Nat} {x : List Nat} (hx : IsOrd n x) (hr : r < n) : at0 x (x.idxOf r) = r := by
  have h : x.idxOf r < x.length := List.idxOf_lt_length_iff.mpr (hx.mem.mpr hr)
  rw [at0_eq h]
  exact List.getElem_idxOf h
theorem IsOrd.idx_lt {n r : Nat} {x : List Nat} (hx : IsOrd n x) (hr : r < n) : x.idxOf r < n := by
  rw [← hx.len]
  exact List.idxOf_lt_length_iff.mpr (hx.mem.mpr hr)
/-! ### the inverse -/
def invL (n : Nat) (x : List Nat) : List Nat := (List.range n).map fun r => x.idxOf r
def invP (n : Nat) (x : List Nat) (i : Nat) : List Nat := (List.range n).map fun r => if x.idxOf r < i then x.idxOf r else 0
theorem invP_zero (n : Nat) (x : List Nat) : invP n x 0 = List.replicate n 0 := by
  unfold invP
  refine List.ext_getElem (by simp) fun i h1 h2 => ?_
  simp
theorem invP_full {n : Nat} {x : List Nat} (hx : IsOrd n x) : invP n x n = invL n x := by
  unfold invP invL
  refine List.map_congr_left fun r hr => ?_
  rw [if_pos (hx.idx_lt (List.mem_range.mp hr))]
theorem invP_step {n i : Nat} {x : List Nat} (hx : IsOrd n x) (hi : i < n) : (invP n x i).set (at0 x i) i = invP n x (i + 1) := by
  unfold invP
  refine List.ext_getElem (by simp) fun r h1 h2 => ?_
  have hr : r < n := by simpa using h2
  rw [List.getElem_set]
  simp only [List.getElem_map, List.getElem_range]
  by_cases e : at0 x i = r
  · rw [if_pos e]
    subst e
    rw [hx.idx_at hi, if_pos (Nat.lt_succ_self i)]
  · rw [if_neg e]
    have ne : x.idxOf r ≠ i := fun z => e (by rw [← z]; exact hx.at_idx hr)
    by_cases h : x.idxOf r < i
    · rw [if_pos h, if_pos (by omega)]
    · rw [if_neg h, if_neg (by omega)]
theorem invP_len (n : Nat) (x : List Nat) (i : Nat) : (invP n x i).length = n := by simp [invP]
theorem invL_len (n : Nat) (x : List Nat) : (invL n x).length = n := by simp [invL]
theorem invL_at {n r : Nat} {x : List Nat} (h : r < n) : at0 (invL n x) r = x.idxOf r := by
  refine at0_of ?_
  unfold invL
  rw [List.getElem?_map, List.getElem?_range h]
  rfl
/-! ### tables by rows -/
def rowL (n : Nat) (c : Tab) (k : Nat) : List Nat := (List.range (n + 1)).map (c k)
theorem rowL_len (n : Nat) (c : Tab) (k : Nat) : (rowL n c k).length = n + 1 := by simp [rowL]
theorem rowL_at {n k t : Nat} {c : Tab} (h : t ≤ n) : at0 (rowL n c k) t = c k t := by
  refine at0_of ?_
  unfold rowL
  rw [List.getElem?_map, List.getElem?_range (Nat.lt_succ_of_le h)]
  rfl
theorem rowL_set {n g k : Nat} {c : Tab} : (rowL n c k).set g (min (c k (g - 1)) (c k (g + 1) + 1)) = rowL n (col g c) k := by
  have ln : ∀ (d : Tab), (rowL n d k).length = n + 1 := fun d => by simp [rowL]
  have gt : ∀ (d : Tab) (t : Nat) (h : t < (rowL n d k).length), (rowL n d k)[t] = d k t := fun d t h => by simp [rowL]
  refine List.ext_getElem (by rw [List.length_set, ln, ln]) fun t h1 h2 => ?_
  rw [List.getElem_set, gt, gt]
  unfold col
  by_cases e : g = t
  · rw [if_pos e, if_pos e.symm]
  · rw [if_neg e, if_neg (fun z => e z.symm)]
theorem range_snoc (i : Nat) {β : Type} (f : Nat → β) : (List.range (i + 1)).map f = (List.range i).map f ++ [f i] := by
  rw [List.range_succ, List.map_append]
  rfl
end BM
namespace BM
/-! ### pairs from two ranges -/
def inn (k lo : Nat) (p : Nat → Bool) (j : Nat) : List (Nat × Nat) := (((List.range j).map fun t => lo + t).filter p).map fun t => (k, t)
def dbl (n : Nat) (lo m : Nat → Nat) (p : Nat → Nat → Bool) : List (Nat × Nat) := (List.range n).flatMap fun k => inn k (lo k) (p k) (m k)
theorem inn_zero (k lo : Nat) (p : Nat → Bool) : inn k lo p 0 = [] := rfl
theorem inn_yes {k lo j : Nat} {p : Nat → Bool} (h : p (lo + j) = true) : inn k lo p (j + 1) = inn k lo p j ++ [(k, lo + j)] := by
  unfold inn
  rw [List.range_succ, List.map_append, List.filter_append, List.map_append, List.map_singleton, List.filter_cons, if_pos h]
  rfl
theorem inn_no {k lo j : Nat} {p : Nat → Bool} (h : p (lo + j) = false) : inn k lo p (j + 1) = inn k lo p j := by
  unfold inn
  rw [List.range_succ, List.map_append, List.filter_append, List.map_append, List.map_singleton, List.filter_cons, if_neg (by rw [h]; simp)]
  simp
theorem dbl_step (n : Nat) (lo m : Nat → Nat) (p : Nat → Nat → Bool) : dbl (n + 1) lo m p = dbl n lo m p ++ inn n (lo n) (p n) (m n) := by
  unfold dbl
  rw [List.range_succ, List.flatMap_append, List.flatMap_singleton]
theorem inn_mem {k lo j : Nat} {p : Nat → Bool} {q : Nat × Nat} : q ∈ inn k lo p j ↔ q.1 = k ∧ lo ≤ q.2 ∧ q.2 < lo + j ∧ p q.2 = true := by
  unfold inn
  rw [List.mem_map]
  constructor
  · rintro ⟨t, ht, rfl⟩
    rw [List.mem_filter, List.mem_map] at ht
    obtain ⟨⟨i, hi, rfl⟩, hp⟩ := ht
    rw [List.mem_range] at hi
    exact ⟨rfl, by simp, by simpa using hi, hp⟩
  · rintro ⟨h1, h2, h3, h4⟩
    obtain ⟨a, b⟩ := q
    refine ⟨b, ?_, by simp at h1; rw [h1]⟩
    rw [List.mem_filter, List.mem_map]
    simp at h2 h3 h4
    exact ⟨⟨b - lo, List.mem_range.mpr (by omega), by omega⟩, h4⟩
theorem dbl_mem {n : Nat} {lo m : Nat → Nat} {p : Nat → Nat → Bool} {q : Nat × Nat} : q ∈ dbl n lo m p ↔ q.1 < n ∧ lo q.1 ≤ q.2 ∧ q.2 < lo q.1 + m q.1 ∧ p q.1 q.2 = true := by
  unfold dbl
  rw [List.mem_flatMap]
  constructor
  · rintro ⟨k, hk, h⟩
    rw [inn_mem] at h
    obtain ⟨h1, h2, h3, h4⟩ := h
    rw [List.mem_range] at hk
    subst h1
    exact ⟨hk, h2, h3, h4⟩
  · rintro ⟨h1, h2, h3, h4⟩
    exact ⟨q.1, List.mem_range.mpr h1, inn_mem.mpr ⟨rfl, h2, h3, h4⟩⟩
theorem inn_len (k lo : Nat) (p : Nat → Bool) (j : Nat) : (inn k lo p j).length ≤ j := by
  unfold inn
  rw [List.length_map]
  refine Nat.le_trans (List.length_filter_le _ _) ?_
  simp
theorem dbl_len {b : Nat} (lo : Nat → Nat) {m : Nat → Nat} (hm : ∀ k, m k ≤ b) (p : Nat → Nat → Bool) : ∀ n, (dbl n lo m p).length ≤ n * b
  | 0 => by simp [dbl]
  | n + 1 => by
    rw [dbl_step, List.length_append, Nat.succ_mul]
    have h1 := dbl_len lo hm p n
    have h2 := inn_len n (lo n) (p n) (m n)
    have h3 := hm n
    omega
/-- the program's pairs and cells -/
def wpL (n : Nat) (x : List Nat) : List (Nat × Nat) := dbl n (fun k => k + 1) (fun k => n - (k + 1)) fun low high => decide (x.idxOf high < x.idxOf low)
def cellL (n : Nat) (c d : Tab) : List (Nat × Nat) := dbl (n + 1) (fun _ => 0) (fun _ => n + 1) fun k t => decide (d k t < c k t)
def newL (n : Nat) (x y : List Nat) : List (Nat × Nat) := (wpL n y).filter fun q => !decide (q ∈ wpL n x)
theorem wpL_mem {n : Nat} {x : List Nat} (hx : IsOrd n x) {a b : Nat} : (a, b) ∈ wpL n x ↔ wrong x a b := by
  unfold wpL wrong
  rw [dbl_mem]
  simp only [decide_eq_true_eq]
  rw [hx.mem, hx.mem]
  constructor
  · rintro ⟨h1, h2, h3, h4⟩
    exact ⟨by omega, h1, by omega, h4⟩
  · rintro ⟨h1, h2, h3, h4⟩
    exact ⟨h2, by omega, by omega, h4⟩
theorem cellL_mem {n : Nat} {c d : Tab} {k t : Nat} : (k, t) ∈ cellL n c d ↔ k ≤ n ∧ t ≤ n ∧ d k t < c k t := by
  unfold cellL
  rw [dbl_mem]
  simp only [decide_eq_true_eq]
  constructor
  · rintro ⟨h1, h2, h3, h4⟩
    exact ⟨by omega, by omega, h4⟩
  · rintro ⟨h1, h2, h3⟩
    exact ⟨by omega, by omega, by omega, h3⟩
theorem newL_mem {n : Nat} {x y : List Nat} (hx : IsOrd n x) (hy : IsOrd n y) {a b : Nat} : (a, b) ∈ newL n x y ↔ wrong y a b ∧ ¬ wrong x a b := by
  unfold newL
  rw [List.mem_filter, wpL_mem hy]
  simp only [Bool.not_eq_true', decide_eq_false_iff_not, wpL_mem hx]
theorem noBar_iff {n : Nat} {x y gs : List Nat} (hx : IsOrd n x) (hy : IsOrd n y) : NoBar n gs x y ↔ newL n x y = [] ∧ cellL n (mv y x) (C gs) = [] := by
  constructor
  · rintro ⟨h1, h2⟩
    refine ⟨?_, ?_⟩
    · rw [List.eq_nil_iff_forall_not_mem]
      rintro ⟨a, b⟩ h
      rw [newL_mem hx hy] at h
      exact h.2 (h1 a b h.1)
    · rw [List.eq_nil_iff_forall_not_mem]
      rintro ⟨k, t⟩ h
      rw [cellL_mem] at h
      have := h2 k t h.1 h.2.1
      omega
  · rintro ⟨h1, h2⟩
    refine ⟨fun a b h => Classical.byContradiction fun z => ?_, fun k t hk ht => Nat.le_of_not_lt fun z => ?_⟩
    · have : (a, b) ∈ newL n x y := (newL_mem hx hy).mpr ⟨h, z⟩
      rw [h1] at this
      cases this
    · have : (k, t) ∈ cellL n (mv y x) (C gs) := cellL_mem.mpr ⟨hk, ht, z⟩
      rw [h2] at this
      cases this
/-- demands -/
def dem (x : List Nat) : Tab := fun k t => (x.take k).countP fun r => decide (t ≤ r)
theorem dem_map (y x : List Nat) : dem (x.map fun r => y.idxOf r) = mv y x := by
  funext k t
  unfold dem mv
  rw [← List.map_take, List.countP_map]
  rfl
theorem dem_zero (x : List Nat) (t : Nat) : dem x 0 t = 0 := by simp [dem]
theorem dem_step {x : List Nat} {k r : Nat} (h : x[k]? = some r) (t : Nat) : dem x (k + 1) t = dem x k t + if t ≤ r then 1 else 0 := by
  unfold dem
  rw [List.take_add_one, h, List.countP_append]
  show _ + [r].countP _ = _
  rw [List.countP_cons, List.countP_nil]
  by_cases ht : t ≤ r <;> simp [ht]
/-! ### cells by what is counted -/
theorem cellL_congr {n : Nat} {c c' d d' : Tab} (h1 : ∀ k t, k ≤ n → t ≤ n → c k t = c' k t) (h2 : ∀ k t, k ≤ n → t ≤ n → d k t = d' k t) (q : Nat × Nat) : q ∈ cellL n c d ↔ q ∈ cellL n c' d' := by
  obtain ⟨k, t⟩ := q
  rw [cellL_mem, cellL_mem]
  constructor
  · rintro ⟨a, b, e⟩
    exact ⟨a, b, by rw [← h1 k t a b, ← h2 k t a b]; exact e⟩
  · rintro ⟨a, b, e⟩
    exact ⟨a, b, by rw [h1 k t a b, h2 k t a b]; exact e⟩
theorem capL_all {gs : List Nat} (h : ∀ g ∈ gs, 1 ≤ g) : capL [] 0 gs free = C gs := by rw [capL_nil, C_cols h]
theorem capL_but {gs : List Nat} {k : Nat} (h : ∀ g ∈ gs, 1 ≤ g) : capL [k] 0 gs free = C (gs.eraseIdx k) := by
  have e := capL_one gs 0 k free
  rw [Nat.zero_add] at e
  rw [e, C_cols fun g hg => h g (List.mem_of_mem_eraseIdx hg)]
theorem gdn_len (y : List Nat) : ∀ (gs x : List Nat) (i : Nat), (gdn y i gs x).length ≤ gs.length
  | [], x, i => Nat.le_refl _
  | g :: gs, x, i => by
    have a := gdn_len y gs x (i + 1)
    have b := gdn_len y gs (swp x g) (i + 1)
    unfold gdn
    rw [List.length_cons]
    split
    · split
      · omega
      · rw [List.length_cons]
        omega
    · omega
end BM
/-! rules of this proof's own, over the layer -/
namespace BR
open PySem PySem.Spec PyProof.Rows L2

/-! ### an item of a list as an operand of an in-place store -/
theorem get_list {X : Cx} : PGet X (rIxL X.K) := by
  intro pins s σ H o i ov iv Q I ro ri h
  obtain ⟨p, xs, z, v, e1, e2, hS, ha, q⟩ := h
  subst e1 e2
  cases ro
  obtain ⟨t, rfl⟩ := ri
  obtain ⟨its, rv, pl, hz⟩ := I.list hS
  obtain ⟨j, h1, h2, h3, h4, h5⟩ := atI_get ha
  obtain ⟨w, ew, rw'⟩ := rv.get h2
  have hlen := rv.length
  have hn := line63
  by_cases h0 : 0 ≤ z
  · have hj : z.toNat = j := Option.some.inj ((seqIndex_of h0 h5).symm.trans h1)
    exact wpAny_getItem_list pl.isList h0 (by omega) (by rw [hj]; simpa using ew) ⟨v, H, I, rw', q⟩
  · have hj : (z + (its.toArray.size : Int)).toNat = j := by
      have a1 := seqIndex_neg (Int.not_le.mp h0) h4
      rw [a1] at h1
      rw [List.size_toArray, ← hlen]
      exact Option.some.inj h1
    exact wpAny_getItem_list_neg pl.isList (Int.not_le.mp h0) (by rw [List.size_toArray]; omega) (by omega) (by rw [hj]; simpa using ew) ⟨v, H, I, rw', q⟩

/-! ### a def whose promise asks that no display is under way -/
structure FnG (P : Program) (w : World) (K : PySem.W.Frag) (mg : Str → Option Value) (base : Heap) (k : Nat) (f : Addr) (fd : FuncData) (ps : List Str) (sp : Sp) : Prop where
  len : ∀ vs H Q E, sp vs H Q E → vs.length = ps.length
  run : ∀ (A : Around) (outer : List Env) (s : Shared) (H : Hp) (args : Args) (us : List Value) (vs : List V) (Q : VK) (E : XK), A.guards = some [] → Room k A → Env0 P w K mg base A outer s H →
    BindsTo s fd args (ps.zip us) → Vals vs us → sp vs H Q E → codeAny (model P w) A (.call (.ref f) args) (CR CX0 outer P w H s Q E) s
section
variable {P : Program} {w : World} {K : PySem.W.Frag} {mg : Str → Option Value} {base : Heap}
theorem FnG.mono {j k : Nat} {f : Addr} {fd : FuncData} {ps : List Str} {sp : Sp} (F : FnG P w K mg base j f fd ps sp) (h : j ≤ k) : FnG P w K mg base k f fd ps sp :=
  ⟨F.len, fun A outer s H args us vs Q E hg hr => F.run A outer s H args us vs Q E hg (Room.mono hr h)⟩
theorem fnG_of {x qual : Str} {st : Stmt} {f : Addr} {fd : FuncData} {N ps : List Str} {k : Nat} {sp : Sp} (F : Fun K x qual st f fd) (S : FnScope N ps (defScope st)) (len : ∀ vs H Q E, sp vs H Q E → vs.length = ps.length)
    (hbody : ∀ (cdv : Value) (A : Around) (outer : List Env) (s : Shared) (H : Hp) (vs : List V) (Q : VK) (E : XK), A.guards = some [] → Room k (A.deeper (envOfC qual (defScope st) s.heap.objs.size f cdv)) → sp vs H Q E →
      ∃ t, PSs (cxOf CX0 P w K mg base N qual (defScope st) f cdv A outer s H E).nox (defBody st) t ∧ t { nx := fun _ H' => Q .non H', rt := Q } (start N vs) H) :
    FnG P w K mg base (k + 1) f fd ps sp := by
  obtain ⟨oc, od, kV, doc, pm, an, cdv, ct, osl, efd, lk, hcd⟩ := F.ex
  subst efd
  refine ⟨len, fun A outer s H args us vs Q E hg hr e0 hb rv hsp => ?_⟩
  have KX : K.In s.heap := e0.mod.kin.keeps fun b o e => (e0.bs b o e).1
  have lim : s.heap.NoLimit := e0.mod.nolimit.keeps fun b o e => (e0.bs b o e).1
  refine codeAny_call_function (Room.depth hr) (KX _ _ lk) rfl S.co S.gen rfl (PySem.W.codeRec_of KX hcd) (hb _ _ _ _ ?_)
  refine wpAny_newFunctionEnv_cells S.kind (fun y hy => (S.par y.1 (List.of_mem_zip (a := y.1) (b := y.2) hy).1).imp (fun q => q) fun q => ⟨q, PySem.W.cellsFrom_some _ _ _ (.inl q)⟩) fun env he s1 ent => ?_
  subst he
  refine ⟨lim.keeps ent.toInCall.keep, codeAny_func ?_⟩
  obtain ⟨t, ht, hq⟩ := hbody cdv A outer s H vs Q E hg (Room.deeper hr _) hsp
  have I : Inv (cxOf CX0 P w K mg base N qual (defScope st) f cdv A outer s H E) [] (start N vs) H s1 := inv_start S hr.hd e0 (len _ _ _ _ hsp) rv ent
  refine wpAny_mono ((PSs.nox ht).run [] s1 _ H _ I hq) (fun fl s' hs => ?_) fun _ _ hs => hs
  cases fl with
  | ret u =>
    obtain ⟨v, σ', H', J, r1, q⟩ := hs
    exact (⟨v, H', J.os, J.bare, J.base, J.hok, r1, q⟩ : CE outer P w H s Q u s')
  | next =>
    obtain ⟨σ', H', J, q⟩ := hs
    exact (⟨.non, H', J.os, J.bare, J.base, J.hok, rfl, q⟩ : CE outer P w H s Q .none s')
  | brk =>
    obtain ⟨_, _, _, q⟩ := hs
    exact q.elim
  | cont =>
    obtain ⟨_, _, _, q⟩ := hs
    exact q.elim
end
section
variable {X : Cx} {k : Nat} {f : Addr} {fd : FuncData} {ps : List Str} {sp : Sp} {x : Str} {p pos : Pos} {e : Expr} {es : List Expr} {t : TA}
/-- its call -/
theorem pe_callG (F : FnG X.prog X.w X.K X.mg X.base k f fd ps sp) (hG : X.A.guards = some []) (hr : Room k X.A) (hg : Gl X x) (hm : X.mg x = some (.ref f)) (hk : PySem.W.keepIn X.K (.ref f) = true) (hb : Binds X.K fd ps [])
    (ha : PA X (e :: es) t) (hdb : (x == ("__debug__" : Str)) = false := by decide) (he : starEach (e :: es) X.env = (false, eval e X.env) :: starEach es X.env := by rfl)
    (hpl : (backTo pos (starEach es X.env)).any (·.1) = false := by rfl) : PE X (.Call (.Name x p) (e :: es) [] pos) (tCall sp [] E0 t) := by
  refine ⟨fun pins s σ H Q I h => wpAny_Call_Name_kw (ld_glob I hg hm ?_ hdb)⟩
  refine PySem.W.callWith_K (h₀ := X.base) I.ok.mod.kin hk (thn (ha.run pos pins s σ H _ I h) fun us s1 hh => ?_) he hpl
  obtain ⟨vs, H1, I1, rv, q⟩ := hh
  refine ⟨I1.kIn, ?_⟩
  rw [List.append_nil] at q
  have hl : us.length = ps.length := by
    rw [← rv.length]
    exact F.len _ _ _ _ q
  have bd := hb s1 us I1.kIn (by rw [List.append_nil]; exact hl)
  rw [List.append_nil] at bd
  refine wpAny_call (codeAny_mono (F.run X.A X.stack s1 H1 ⟨us, []⟩ us vs Q E0 hG hr I1.env0 bd rv q) fun r s' hq => ?_)
  match r, hq with
  | .ok (.ret u), hq => exact I1.after hq
  | .ok .next, hq => exact hq.elim
  | .ok .brk, hq => exact hq.elim
  | .ok .cont, hq => exact hq.elim
  | .error _, hq => exact hq.elim
end
/-! ### the text of a display -/
theorem call_reprD {X : Cx} (hG : X.A.guards = some []) (hu : X.A.units + 64 < cLine) : CallR X (.builtin "repr") (fun xs H Q => ∃ (a : Addr) (d : PyData), xs = [.ref a] ∧ Dp X.K H (.ref a) d ∧ d.showable = true ∧ d.hasDict = false ∧ d.depth ≤ 60 ∧ d.shown.length ≤ sizeLine ∧ Q (.str d.shown) H) := by
  intro pins s σ H xs us Q I r h
  obtain ⟨a, d, e, hd, h1, h2, h3, h4, q⟩ := h
  subst e
  have e2 := Vals.ref1 r
  subst e2
  obtain ⟨as, rd⟩ := Dp.reads I d (.ref a) (.ref a) hd rfl
  exact repr_of_reads' rd h1 (fun z => by rw [h2] at z; cases z) hG (by omega) (fun _ _ z => z) (fun h' u tk hk => ⟨.str d.shown, H, I.kept (t' := tk) hk, ⟨u, rfl⟩, q⟩) h4

/-! ### an instance made by a local name that holds the class -/
theorem pe_makeL {X : Cx} {CX : CXT} {k i : Nat} {f C : Addr} {fd : FuncData} {ps : List Str} {sp : Sp} {E : XK} {x : Str} {p pos : Pos} {e : Expr} {es : List Expr} {t : TA} (M : Mk X.K C f) (F : FnOk X.prog X.w X.K X.mg X.base CX k f fd ps sp) (hr : Room (k + 1) X.A)
    (hN : X.N[i]? = some x) (hv : Vis X.env.scope x) (hb : Binds X.K fd ps []) (hx : Passes CX X E) (ha : PA X (e :: es) t)
    (hdb : (x == ("__debug__" : Str)) = false := by decide) (hcd : (x == ("__classdict__" : Str)) = false := by decide)
    (he : starEach (e :: es) X.env = (false, eval e X.env) :: starEach es X.env := by rfl) (hpl : (backTo pos (starEach es X.env)).any (·.1) = false := by rfl) :
    PE X (.Call (.Name x p) (e :: es) [] pos) (fun σ H Q => σ[i]? = some (some (.ref C)) ∧ tMake C sp [] E t σ H Q) := by
  refine ⟨fun pins s σ H Q I h => ?_⟩
  obtain ⟨hs, ht⟩ := h
  refine wpAny_Call_Name_kw (thn ((pe_var (pos := p) hN hv hdb hcd).run pins s σ H (fun v H1 => v = .ref C ∧ H1 = H) I ⟨_, hs, rfl, rfl⟩) fun u s1 hh => ?_)
  obtain ⟨v, H1, I1, r1, e1, e2⟩ := hh
  subst e1 e2
  cases r1
  refine PySem.W.callWith_K (h₀ := X.base) I.ok.mod.kin M.kp (thn (ha.run pos pins s1 σ _ _ I1 ht) fun us s2 h2 => ?_) he hpl
  obtain ⟨vs, H2, I2, r2, q⟩ := h2
  exact ⟨I2.kIn, run_make M F hr hb .nil hx I2 r2 q⟩

/-! ### an own exception class over another own one: its __init__ says only LineError.__init__(self) -/
/-- what the written part says of the base class, at B -/
structure BaseC (K : PySem.W.Frag) (mg : Str → Option Value) (B : Addr) : Prop where
  gB : mg "LineError" = some (.ref B)
  rd : ClX.CRead K B (.type "type")
  at_ : PySem.W.findCls K (.ref B) (.type "type") "__init__" = some (.val (.builtin "ValueError.__init__"))
theorem pe_binit {X : Cx} {B : Addr} {ta : TA} {e : Expr} {es : List Expr} {p1 p2 pos : Pos} {pl : Sem Bool} (T : BaseC X.K X.mg B) (hg : Gl X "LineError") (ha : PA X (e :: es) ta)
    (hc : eval (.Call (.Attribute (.Name "LineError" p1) "__init__" p2) (e :: es) [] pos) X.env = (do
      let ov ← eval (.Name "LineError" p1) X.env
      standAt p2.atName
      let (f, first) ← holding [ov] (getMethod ov "__init__" pl)
      callWith pos f first (backTo pos (starEach (e :: es) X.env)) (backToKw pos (keywordEach [] X.env))) := by rfl)
    (he : starEach (e :: es) X.env = (false, eval e X.env) :: starEach es X.env := by rfl) (hpl : (backTo pos (starEach es X.env)).any (·.1) = false := by rfl) :
    PE X (.Call (.Attribute (.Name "LineError" p1) "__init__" p2) (e :: es) [] pos) (tVeI X.K ta) := by
  refine ⟨fun pins s σ H Q I h => ?_⟩
  refine PySem.W.methodCall_KW (ld_glob I hg T.gB ?_) hc
  refine PySem.W.method_cls I.kIn T.rd.ga (PySem.W.cls_value I.kIn T.rd.rd T.at_ rfl ?_)
  show wpAny _ _ (callWith pos (Value.builtin "ValueError.__init__") [] (backTo pos (starEach (e :: es) X.env)) []) _ _ _
  refine PyProof.Rows.callWith_method1 (thn (ha.run pos pins _ σ H _ (I.tok _) h) fun us s1 hh => ?_) he hpl
  obtain ⟨vs, H1, I1, r1, a, C, ws, ev, hl, TC, ea, q⟩ := hh
  subst ev
  cases r1 with
  | @cons _ u0 _ ur ra rw' =>
    obtain rfl : u0 = Value.ref a := ra
    exact oinit_ok TC I1 ea (by rw [← Vals.length rw', sizeLine_eq]; omega) fun s' J => ⟨.non, H1, J, rfl, q⟩
/-- its promise -/
def spNp (K : PySem.W.Frag) : Sp := fun vs H Q _ => ∃ a C : Addr, vs = [.ref a] ∧ OexC K C ∧ H a = some (exo a C none) ∧ Q .non H
/-- C(): the exception is let go, it has no dict -/
theorem pmk_np {X : Cx} {x : Str} {C fI : Addr} {k : Nat} {fd : FuncData} {p pos : Pos} (T : OexC X.K C) (iC : PySem.W.findIn X.K (.ref C) "__init__" = some (some (.ref fI))) (tI : PySem.W.typeIn X.K (.ref fI) = some (.type "function"))
    (FI : FnOk X.prog X.w X.K X.mg X.base CX0 k fI fd ["self"] (spNp X.K)) (hr : Room (k + 1) X.A) (hb : Binds X.K fd ["self"] []) (hg : Gl X x) (hm : X.mg x = some (.ref C)) (hdb : (x == ("__debug__" : Str)) = false := by decide) :
    PMk X (.Call (.Name x p) [] [] pos) (fun _ H Q => Q (.ref C) none H) := by
  intro pins s σ H Q I h
  obtain ⟨nm, q, N, bs, bm, sn, sub, ab, col, dd, k0, k1, k2, k3, k5, hC, hbm⟩ := T.cls
  refine wpAny_Call_Name_kw (ld_glob I hg hm (PySem.W.callWith_K0 I.kIn T.kC ?_) hdb)
  show wpAny _ _ (call (.ref C) []) _ _ _
  obtain ⟨hp, g, dr, tk, os⟩ := s
  have big : hp.objs.size ≤ hp.objs.size + 1 := Nat.le_succ _
  generalize ha : hp.objs.size + 1 = a at big
  have hn : H a = none := I.hok.fresh big
  have old : ∀ b o, hp.get? b = some o → ((hp.push (PySem.W.kdv_tup [])).push (PySem.HandSPX.excO C hp.objs.size)).get? b = some o := fun b o z => Heap.get?_push_of_some _ (Heap.get?_push_of_some _ z)
  have new : ((hp.push (PySem.W.kdv_tup [])).push (PySem.HandSPX.excO C hp.objs.size)).get? a = some (PySem.HandSPX.excO C hp.objs.size) := by
    rw [← ha]
    heap_get
  have I2 : Inv X pins σ (upd H a (exo a C none)) ⟨(hp.push (PySem.W.kdv_tup [])).push (PySem.HandSPX.excO C hp.objs.size), g, dr, tk, os⟩ := I.laid (t' := tk) old big (exo_ok new)
  have bd := hb _ [.ref a] I2.kIn rfl
  refine wpAny_call (PySem.HandSPX.call_own PySem.F.excBase_ValueError (fun Y => PySem.HandSPX.refsVE_contains Y bm hbm) (I.kIn _ _ hC) (PySem.W.looks_findIn I.kIn iC) (fun self => PySem.W.bind_fn I.kIn self tI) (Nat.zero_le _) ?_)
  rw [ha]
  refine codeAny_mono (FI.run _ X.stack _ _ ⟨[.ref a], []⟩ [.ref a] [.ref a] (fun v H2 => v = .non ∧ H2 = upd H a (exo a C none)) E0 (hr.make C [] []) (I2.env0.make C [] []) bd (.cons rfl .nil) ⟨a, C, rfl, T, upd_same, rfl, rfl⟩) fun r s' hq => ?_
  match r, hq with
  | .ok .next, hq => exact hq.elim
  | .ok .brk, hq => exact hq.elim
  | .ok .cont, hq => exact hq.elim
  | .error _, hq => exact hq.elim
  | .ok (.ret u), hq =>
    obtain ⟨v, H2, os2, bare2, un, hok, rv, ev, eH⟩ := hq
    subst ev eH
    obtain ⟨h2, g2, d2, t2, os'⟩ := s'
    obtain rfl : os' = os := os2
    obtain ⟨t0, hoe⟩ := exo_at hok upd_same
    obtain ⟨G, r1, r2⟩ := restrict h2 fun b => decide (b ≠ a)
    have gk : ∀ b, b ≠ a → G.get? b = h2.get? b := fun b hb => r1 b (decide_eq_true hb)
    have ga : G.get? a = none := r2 a (by simp)
    have ne : ∀ {b : Addr} {o : Obj}, hp.get? b = some o → b ≠ a := fun {b o} z => Nat.ne_of_lt (Nat.lt_of_lt_of_le (Heap.lt_size z) big)
    have ne' : ∀ {b : Addr} {o : HO}, H b = some o → b ≠ a := fun {b o} z => ne_of_none z hn
    have un' : ∀ {b : Addr}, b ≠ a → upd H a (exo a C none) b = H b := fun {b} z => upd_ne z
    have U : Un (frs X.stack) [] H H hp G := {
      keep := fun b o z n hf hx => (gk b (ne z)).trans (un.keep b o (old b o z) ((un' (ne z)).trans n) hf hx)
      slot := fun b o z n hf hx => by
        obtain ⟨sl, y⟩ := un.slot b o (old b o z) ((un' (ne z)).trans n) hf hx
        exact ⟨sl, (gk b (ne z)).trans y⟩
      free := fun b o z n _ => n
      there := fun b o z hx => by
        obtain ⟨o', y⟩ := un.there b o (old b o z) hx
        exact ⟨o', (gk b (ne z)).trans y⟩
      tups := fun b xs z => z
      frzs := fun b o v z => z
      tbls := fun b ps z => ⟨#[], by rw [z]; simp⟩ }
    have hokG : HOk X.prog X.w H G := fun b o z => by
      have hb := ne' z
      exact (hok b o ((un' hb).trans z)).stay (fun c v hc y => by
          have hca : c ≠ a := by
            rcases hc with hc | hc
            · rw [hc]
              exact hb
            · intro e
              rw [e, upd_same] at hc
              exact exo_own (Option.some.inj hc)
          exact (gk c hca).trans y)
        (fun c hc => by
          have hca : c ≠ a := fun e => by
            rw [e, upd_same] at hc
            exact exo_own (Option.some.inj hc)
          rw [un' hca] at hc
          exact hc)
        (fun c xs hc => by
          have hca : c ≠ a := fun e => by
            rw [e, upd_same] at hc
            exact exo_tup (Option.some.inj hc)
          rw [un' hca] at hc
          exact hc)
    have J : Inv X pins σ H ⟨G, g2, d2, t2, os'⟩ := I.call' (s' := ⟨G, g2, d2, t2, os'⟩) (ch := []) rfl U hokG bare2 (fun b z => absurd z (by simp))
    refine ⟨rv, a, _, _, ⟨G, g2, d2, t2, os'⟩, H, .ref C, none, rfl, J, fun b o z => ?_, ga, hoe, ⟨rfl, rfl⟩, rfl, rfl, hn, rfl, bare2, raises_own T.exC T.tyC, h⟩
    by_cases hb : b = a
    · have z' : G.get? b = some o := z
      rw [hb, ga] at z'
      cases z'
    · exact (gk b hb).symm.trans z
/-- isinstance(e, D) of the caught exception, D its own class -/
theorem pe_isD {X : Cx} {a D : Addr} {oe : Obj} {cls : Value} {d : Option Addr} {pn : List (Addr × Obj)} {i : Nat} {n x : Str} {p0 p1 p2 pos : Pos} (C : ExcC X.K D) (hz : Zc cls d oe) (hf : ∃ vs, oe.data = .fields vs) (kD : PySem.W.kitOne X.K (.ref D) (.ref D) = some true)
    (hi : Gl X "isinstance") (mi : X.mg "isinstance" = none) (hg : Gl X x) (hm : X.mg x = some (.ref D)) (hN : X.N[i]? = some n) (hv : Vis X.env.scope n) (hdb : (x == ("__debug__" : Str)) = false := by decide)
    (hd1 : (n == ("__debug__" : Str)) = false := by decide) (hd2 : (n == ("__classdict__" : Str)) = false := by decide)
    (he : starEach [.Name n p1, .Name x p2] X.env = (false, eval (.Name n p1) X.env) :: starEach [.Name x p2] X.env := by rfl) (he2 : starEach [.Name x p2] X.env = (false, eval (.Name x p2) X.env) :: starEach [] X.env := by rfl)
    (hpl : (backTo pos (starEach [.Name x p2] X.env)).any (·.1) = false := by rfl) :
    PE (X.suite a ((a, oe) :: pn)) (.Call (.Name "isinstance" p0) [.Name n p1, .Name x p2] [] pos) (fun σ H Q => cls = .ref D ∧ d = none ∧ σ[i]? = some (some (.ref a)) ∧ Q (.bl true) H) := by
  refine ⟨fun pins s σ H Q I h => ?_⟩
  obtain ⟨e1, e2, e3, q⟩ := h
  subst e1 e2
  have ha : PA (X.suite a ((a, oe) :: pn)) [.Name n p1, .Name x p2] (tCons (tVar i) (tCons (tC (.ref D)) tNil)) := pa_cons (pe_var hN hv hd1 hd2) (pa_cons (pe_glob hg hm rfl hdb) pa_nil he2) he
  exact (pe_callB (call_isE C hz hf) hi mi (by decide +kernel) ha (by decide) (by decide) he hpl).run pins s σ H Q I ⟨_, e3, .ref D, .ref D, true, rfl, fun _ z => z, kD, q⟩
end BR
namespace BR
open PySem PySem.Spec PyProof.Rows L2
/-! ### the end of the row, from a promise that asks that no display is under way -/
section
variable {P : Program} {w : World} {K : PySem.W.Frag} {mg mb : Str → Option Value} {k : Nat} {fa a : Addr} {fd : FuncData} {x : Str} {sp : Sp} {s1 : Shared} {us : List Value} {ns : List Int}
theorem core_G (KX : K.In s1.heap) (G : s1.heap.Ns mainGlobals mg) (B : s1.heap.Ns builtinsNs mb) (BB : ∀ y : Str, y ≠ "__name__" → mb y = bootBuiltins y) (lim : s1.heap.NoLimit) (gens : s1.gens = #[])
    (ha : s1.heap.get? a = some { cls := .type "list", data := .seq us.toArray }) (hr : Room k callerA)
    (F : ∀ base : Heap, K.In base → base.Ns mainGlobals mg → FnG P w K mg base k fa fd [x] sp) (hbind : ∀ (s : Shared) (u : Value), BindsTo s fd ⟨[u], []⟩ [(x, u)])
    {H : Hp} (hO : Only H) (hsp : sp [.ref a] H (fun v _ => v = .bl true) E0) (ok : HOk P w H s1.heap) (hA : ∀ b u, H b = some u → b = a) (hK : ∀ u, H a = some u → K.lookup a = none) :
    codeAny (model P w) callerA (.call (.ref fa) ⟨[.ref a], []⟩) (fun r s' => r = .ok (.ret (.bool true)) ∧ OldK s1.heap s'.heap ∧ s'.os = s1.os ∧ AllBare s'.gens) s1 := by
  -- the base: what is not tracked
  have isdict : ∀ {b : Addr} {m : Str → Option Value}, s1.heap.Ns b m → (hidT s1.heap H).Ns b m := by
    rintro b m ⟨o, es, ep, e, d, rest⟩
    refine ⟨o, es, ep, hidT_get e ?_, d, rest⟩
    cases q : H b with
    | none => rfl
    | some u =>
      have eb := hA b u q
      subst eb
      rw [ha] at e
      cases e
      cases (show Data.seq us.toArray _ = Data.dict es ep from d)
  have kb : K.In (hidT s1.heap H) := by
    intro b o e
    refine hidT_get (KX b o e) ?_
    cases q : H b with
    | none => rfl
    | some u =>
      have eb := hA b u q
      subst eb
      rw [hK u q] at e
      cases e
  obtain ⟨mc, l1, l2⟩ := lim
  have mod : Mod K mg (hidT s1.heap H) := ⟨kb, isdict G, ⟨mb, isdict B, BB⟩, ⟨mc, isdict l1, l2⟩⟩
  have e0 : Env0 P w K mg (hidT s1.heap H) callerA [] s1 H :=
    ⟨rfl, mod, fun b o e => of_hidT e, Nat.le_of_eq (hidT_size _ _), trivial, (fun b hb => absurd (show b ∈ ([] : List Addr) from hb) (by simp)), ok, .of_eq gens⟩
  have run := (F _ kb (isdict G)).run callerA [] s1 H ⟨[.ref a], []⟩ [.ref a] [.ref a] _ E0 rfl hr e0 (hbind s1 (.ref a)) (.cons rfl .nil) hsp
  refine codeAny_mono run fun r s' h => ?_
  match r, h with
  | .error _, h => exact h.elim
  | .ok .next, h => exact h.elim
  | .ok .brk, h => exact h.elim
  | .ok .cont, h => exact h.elim
  | .ok (.ret u), h =>
    obtain ⟨v, H', os, bare, un, ok', rv, ev⟩ := h
    have ev : v = .bl true := ev
    subst ev
    obtain rfl : u = Value.bool true := rv
    refine ⟨rfl, .of_keep fun b o e => ?_, os, bare⟩
    cases q : H b with
    | none => exact un.keep b o e q (fun z => absurd (show b ∈ ([] : List Addr) from z) (by simp)) (by simp)
    | some u =>
      rcases hO b with z | ⟨ob, xs, z⟩
      · rw [q] at z
        cases z
      · have a1 := (ok b _ z).1
        have a2 := (ok' b _ (un.frzs b ob _ z)).1
        rw [e] at a1
        cases a1
        exact a2
theorem call_G (KX : K.In s1.heap) (G : s1.heap.Ns mainGlobals mg) (B : s1.heap.Ns builtinsNs mb) (BB : ∀ y : Str, y ≠ "__name__" → mb y = bootBuiltins y) (lim : s1.heap.NoLimit) (gens : s1.gens = #[])
    (ha : s1.heap.get? a = some { cls := .type "list", data := .seq us.toArray }) (hi : IntsAre us ns) (hl : ns.length ≤ sizeLine) (hr : Room k callerA)
    (F : ∀ base : Heap, K.In base → base.Ns mainGlobals mg → FnG P w K mg base k fa fd [x] sp) (hbind : ∀ (s : Shared) (u : Value), BindsTo s fd ⟨[u], []⟩ [(x, u)])
    (hsp : ∀ H : Hp, SqL K H a (ns.map V.int) → sp [.ref a] H (fun v _ => v = .bl true) E0) :
    codeAny (model P w) callerA (.call (.ref fa) ⟨[.ref a], []⟩) (fun r s' => r = .ok (.ret (.bool true)) ∧ OldK s1.heap s'.heap ∧ s'.os = s1.os ∧ AllBare s'.gens) s1 := by
  have rv := vals_ints hi
  have len := hi.length
  cases hk : K.lookup a with
  | some o =>
    have e := (KX a o hk).symm.trans ha
    cases e
    have hS : SqL K (fun _ => none) a (ns.map V.int) := .inr ⟨_, us.toArray, _, hk, rfl, rfl, rfl, by rw [List.size_toArray, len]; exact hl, by simpa using rv⟩
    exact core_G KX G B BB lim gens ha hr F hbind (fun _ => .inl rfl) (hsp _ hS) (fun b u (z : none = some u) => by cases z) (fun b u (z : none = some u) => by cases z) (fun u (z : none = some u) => by cases z)
  | none =>
    let Z : HO := .frz { cls := .type "list", data := .seq us.toArray } (.lst (ns.map V.int))
    let H : Hp := upd (fun _ => none) a Z
    have at_ : ∀ b u, H b = some u → b = a ∧ u = Z := fun b u z => by
      by_cases hb : b = a
      · subst hb
        exact ⟨rfl, (Option.some.inj ((upd_same (H := fun _ => none) (o := Z)).symm.trans z)).symm⟩
      · have z2 := (upd_ne (H := fun _ => none) (o := Z) hb).symm.trans z
        cases z2
    refine core_G (H := H) KX G B BB lim gens ha hr F hbind (fun b => ?_) (hsp _ (.inl (.inr ⟨_, upd_same⟩))) (fun b u z => ?_) (fun b u z => (at_ b u z).1) (fun _ _ => hk)
    · by_cases hb : b = a
      · exact .inr ⟨_, _, by rw [hb]; exact upd_same⟩
      · exact .inl (upd_ne hb)
    · obtain ⟨e1, e2⟩ := at_ b u z
      subst e1 e2
      exact ⟨ha, by rw [List.length_map]; exact hl, us, _, rv, ha⟩
end
theorem walk_G {l : PySem.W.OpenLaw} {n k : Nat} {q : Program} {loose : List Str} {XP : (Str → Option Value) → Heap → Prop} {YP : World → Heap → Prop} {d : DefRec} {K : Params → PySem.W.Frag} {sp : World → Sp} {x : Str}
    (hn : l.most = some n) (hn2 : n ≤ sizeLine) (hdf : d.params.defaults = []) (hr : Room k callerA) (hY : ∀ (w : World) (h : Heap), YP w h → (K w.params).In h)
    (F : ∀ (w : World) (mg : Str → Option Value) (fa : Addr) (h : Heap), (K w.params).In h → h.Ns mainGlobals mg → mg d.name = some (.ref fa) →
      ∃ fd : FuncData, (∀ (s : Shared) (u : Value), BindsTo s fd ⟨[u], []⟩ [(x, u)]) ∧ ∀ base : Heap, (K w.params).In base → base.Ns mainGlobals mg → FnG l.prog w (K w.params) mg base k fa fd [x] (sp w))
    (hsp : ∀ (w : World) (H : Hp) (a : Addr) (ns : List Int), ns.length ≤ n → SqL (K w.params) H a (ns.map V.int) → sp w [.ref a] H (fun v _ => v = .bl true) E0) :
    PySem.W.WalkO q loose XP YP l.row.toRowW d [] (fun f vs => PySem.call f vs) := by
  refine Att.attach_call hn hdf fun w s0 s1 mg mb fa o pm cd doc a us ns GG Y _ _ _ hmg hobj hints hlen hg => ?_
  have KX := hY w _ Y
  obtain ⟨fd, hb, hF⟩ := F w mg fa _ KX GG.T.g hmg
  exact call_G KX GG.T.g GG.T.b GG.T.builtins GG.T.nolimit hg hobj hints (Nat.le_trans hlen hn2) hr hF hb fun H hS => hsp w H a ns hlen hS
end BR
/-! the text by places; heaps; loops -/
namespace BM
open PySem PySem.Spec PyProof.Rows L2 BR
def topS (i : Nat) : Stmt := PySem.Challenge.pw_bearsmisses_k64_whole_certain_shown.main.body.getD i (.Pass ⟨0, 0, 0, 0⟩)

/-! ### what a caller knows of a def -/
/-- a def of the text as the top leaves it -/
structure Gd (K : PySem.W.Frag) (mg : Str → Option Value) (x : Str) (st : Stmt) (ps : List Str) : Prop where
  ex : ∃ (f : Addr) (fd : FuncData), Fun K x x st f fd ∧ mg x = some (.ref f) ∧ L2.Binds K fd ps []
/-- a global name that may be called with a promise -/
structure Cl (P : Program) (w : World) (K : PySem.W.Frag) (mg : Str → Option Value) (base : Heap) (k : Nat) (x : Str) (sp : Sp) : Prop where
  ex : ∃ (f : Addr) (fd : FuncData) (ps : List Str), FnOk P w K mg base CX0 k f fd ps sp ∧ mg x = some (.ref f) ∧ PySem.W.keepIn K (.ref f) = true ∧ L2.Binds K fd ps []
theorem Cl.mono {P : Program} {w : World} {K : PySem.W.Frag} {mg : Str → Option Value} {base : Heap} {j k : Nat} {x : Str} {sp : Sp} (c : Cl P w K mg base j x sp) (h : j ≤ k) : Cl P w K mg base k x sp := by
  obtain ⟨f, fd, ps, F, a, b, d⟩ := c.ex
  exact ⟨f, fd, ps, F.mono h, a, b, d⟩
theorem pe_cl {X : Cx} {k : Nat} {sp : Sp} {x : Str} {p pos : Pos} {e : Expr} {es : List Expr} {t : TA} (c : Cl X.prog X.w X.K X.mg X.base k x sp) (hr : Room k X.A) (ha : PA X (e :: es) t) (hg : Gl X x := by rfl)
    (hdb : (x == ("__debug__" : Str)) = false := by decide) (he : starEach (e :: es) X.env = (false, eval e X.env) :: starEach es X.env := by rfl) (hpl : (backTo pos (starEach es X.env)).any (·.1) = false := by rfl) :
    PE X (.Call (.Name x p) (e :: es) [] pos) (tCall sp [] E0 t) := by
  obtain ⟨f, fd, ps, F, a, b, d⟩ := c.ex
  exact pe_call F hr hg a b d .nil pass0 ha hdb he hpl
/-- a def keeps its promise, so it may be called -/
theorem cl_of {P : Program} {w : World} {K : PySem.W.Frag} {mg : Str → Option Value} {base : Heap} {k : Nat} {x : Str} {st : Stmt} {N ps : List Str} {sp : Sp} (D : Gd K mg x st ps) (S : FnScope N ps (defScope st)) (len : ∀ vs H Q E, sp vs H Q E → vs.length = ps.length)
    (hbody : ∀ (f : Addr) (cdv : Value) (A : Around) (outer : List Env) (s : Shared) (H : Hp) (vs : List V) (Q : VK) (E : XK), Room k (A.deeper (envOfC x (defScope st) s.heap.objs.size f cdv)) → sp vs H Q E →
      ∃ t, PSs (cxOf CX0 P w K mg base N x (defScope st) f cdv A outer s H E).nox (defBody st) t ∧ t { nx := fun _ H' => Q .non H', rt := Q } (start N vs) H) : Cl P w K mg base (k + 1) x sp := by
  obtain ⟨f, fd, F, g, b⟩ := D.ex
  exact ⟨f, fd, ps, F.ok S len fun cdv A outer s H vs Q E hr h => hbody f cdv A outer s H vs Q E hr h, g, F.kp, b⟩

/-! ### lists of places, ranks, gates -/
abbrev nV (xs : List Nat) : List V := xs.map fun (i : Nat) => V.int (i : Int)
theorem nV_get {xs : List Nat} {i : Nat} {v : V} (h : (nV xs)[i]? = some v) : ∃ r, xs[i]? = some r ∧ v = .int (r : Int) := by
  rw [List.getElem?_map] at h
  cases e : xs[i]? with
  | none =>
    rw [e] at h
    cases h
  | some r =>
    rw [e] at h
    exact ⟨r, rfl, (Option.some.inj h).symm⟩
theorem nV_at {xs : List Nat} {i : Nat} (h : i < xs.length) : (nV xs)[i]? = some (.int ((at0 xs i : Nat) : Int)) := by
  unfold at0
  rw [List.getElem?_map, List.getElem?_eq_getElem h, List.getD_eq_getElem?_getD, List.getElem?_eq_getElem h]
  rfl
theorem nV_ix {xs : List Nat} {i : Nat} {z : Int} (e : z = (i : Int)) (h : i < xs.length) : atI (nV xs) z = some (.int ((at0 xs i : Nat) : Int)) := at_of e (nV_at h)
theorem nV_len (xs : List Nat) : (nV xs).length = xs.length := List.length_map ..
theorem nV_set (xs : List Nat) (i r : Nat) : (nV xs).set i (.int (r : Int)) = nV (xs.set i r) := by
  unfold nV
  rw [List.map_set]
theorem nV_app (xs : List Nat) (r : Nat) : nV xs ++ [.int (r : Int)] = nV (xs ++ [r]) := by
  unfold nV
  rw [List.map_append]
  rfl
theorem nV_flat : ∀ xs : List Nat, (nV xs).all flatV = true
  | [] => rfl
  | x :: xs => by
    show (flatV (.int x) && (nV xs).all flatV) = true
    rw [nV_flat xs]
    rfl
theorem nV_in (r : Nat) : ∀ xs : List Nat, inV (.int (r : Int)) (nV xs) = decide (r ∈ xs)
  | [] => by simp [inV, nV]
  | x :: xs => by
    have ih := nV_in r xs
    have e : inV (.int (r : Int)) (nV (x :: xs)) = (eqV (.int (x : Int)) (.int (r : Int)) || inV (.int (r : Int)) (nV xs)) := rfl
    rw [e, ih]
    have e2 : eqV (.int (x : Int)) (.int (r : Int)) = decide (r = x) := by
      show ((x : Int) == (r : Int)) = _
      by_cases h : r = x
      · subst h
        simp
      · rw [decide_eq_false h]
        simp
        omega
    rw [e2]
    by_cases h : r = x <;> by_cases h2 : r ∈ xs <;> simp [h, h2]
theorem ixN_nat {n i : Nat} (h : i < n) : ixN n (i : Int) = some i := by
  unfold ixN
  rw [if_pos (Int.natCast_nonneg i), if_pos (by omega)]
  rfl
theorem ixN_of {n i : Nat} {z : Int} (e : z = (i : Int)) (h : i < n) : ixN n z = some i := by
  rw [e]
  exact ixN_nat h

/-! ### heaps -/
theorem same_new {H : Hp} {p : Addr} {o : HO} (h : H p = none) : Same H (upd H p o) := fun b x e => by
  rw [upd_ne (ne_of_none e h)]
  exact e
/-- all but b is as it was -/
def But (b : Addr) (H H' : Hp) : Prop := ∀ c o, c ≠ b → H c = some o → H' c = some o
theorem But.of {b : Addr} {H H' : Hp} (h : Same H H') : But b H H' := fun c o _ e => h c o e
theorem But.trans {b : Addr} {H H1 H2 : Hp} (x : But b H H1) (y : But b H1 H2) : But b H H2 := fun c o n e => y c o n (x c o n e)
theorem But.same {b : Addr} {H H1 H2 : Hp} (hb : H b = none) (x : Same H H1) (y : But b H1 H2) : Same H H2 := fun c o e => y c o (ne_of_none e hb) (x c o e)
theorem but_upd {b : Addr} {H : Hp} {o : HO} : But b H (upd H b o) := fun c u n e => by
  rw [upd_ne n]
  exact e
theorem But.free {b : Addr} {H H' : Hp} {p : Addr} (x : But b H H') (h : H' p = none) (hb : p ≠ b) : H p = none := by
  cases q : H p with
  | none => rfl
  | some o =>
    have := x p o hb q
    rw [h] at this
    cases this

/-! ### pairs of lists -/
theorem prd_snoc {α β : Type} {F : α → β → Prop} {a : α} {b : β} (r : F a b) : ∀ {l1 : List α} {l2 : List β}, Paired F l1 l2 → Paired F (l1 ++ [a]) (l2 ++ [b])
  | _, _, .nil => .cons r .nil
  | _, _, .cons q t => .cons q (prd_snoc r t)
theorem prd_get {α β : Type} {F : α → β → Prop} : ∀ {l1 : List α} {l2 : List β} {i : Nat} {a : α}, Paired F l1 l2 → l1[i]? = some a → ∃ b, l2[i]? = some b ∧ F a b
  | _, _, _, _, .nil, e => by simp at e
  | _, _, 0, _, .cons r _, e => by simp at e; subst e; exact ⟨_, rfl, r⟩
  | _, _, i + 1, _, .cons _ t, e => by
    obtain ⟨b, h1, h2⟩ := prd_get (i := i) t (by simpa using e)
    exact ⟨b, by simpa using h1, h2⟩
theorem prd_get2 {α β : Type} {F : α → β → Prop} : ∀ {l1 : List α} {l2 : List β} {i : Nat} {b : β}, Paired F l1 l2 → l2[i]? = some b → ∃ a, l1[i]? = some a ∧ F a b
  | _, _, _, _, .nil, e => by simp at e
  | _, _, 0, _, .cons r _, e => by simp at e; subst e; exact ⟨_, rfl, r⟩
  | _, _, i + 1, _, .cons _ t, e => by
    obtain ⟨a, h1, h2⟩ := prd_get2 (i := i) t (by simpa using e)
    exact ⟨a, by simpa using h1, h2⟩
theorem rV_get {as : List Addr} {i : Nat} {v : V} (h : (as.map V.ref)[i]? = some v) : ∃ a, as[i]? = some a ∧ v = .ref a := by
  rw [List.getElem?_map] at h
  cases e : as[i]? with
  | none =>
    rw [e] at h
    cases h
  | some a =>
    rw [e] at h
    exact ⟨a, rfl, (Option.some.inj h).symm⟩
theorem rV_app (as : List Addr) (a : Addr) : as.map V.ref ++ [.ref a] = (as ++ [a]).map V.ref := by
  rw [List.map_append]
  rfl

/-! ### loops and comprehensions: one turn's body as a letter -/
section
variable {Body : V → Hp → (Hp → Prop) → Prop} {H0 : Hp} {Qd : Hp → Prop}
theorem rng_turns {lo : Int} {n : Nat} (Pv : Nat → Hp → Prop) (h0 : Pv 0 H0) (hs : ∀ i H, i < n → Pv i H → Body (.int (lo + (i : Nat))) H (Pv (i + 1))) (hd : ∀ H, Pv n H → Qd H) :
    ∃ W : Nat → Nat → Hp → Prop, (∃ m, W 0 m H0) ∧ ∀ i m H, W i m H →
      ((Itr lo n).stop i H ∧ Qd H) ∨ ((Itr lo n).go i H ∧ ∃ Nx : Hp → Prop, (∀ H', Nx H' → ∃ m', m' < m ∧ W (i + 1) m' H') ∧ ∀ x H', (Itr lo n).yld i H x H' → Body x H' Nx) := by
  refine ⟨fun i m H => m = n - i ∧ i ≤ n ∧ Pv i H, ⟨n, rfl, Nat.zero_le _, h0⟩, fun i m H hw => ?_⟩
  obtain ⟨em, hi, p⟩ := hw
  subst em
  rcases Nat.lt_or_ge i n with hlt | hge
  · refine .inr ⟨hlt, Pv (i + 1), fun H' p' => ⟨n - (i + 1), by omega, rfl, hlt, p'⟩, fun x H' y => ?_⟩
    obtain ⟨y1, y2⟩ := y
    subst y1 y2
    exact hs i _ hlt p
  · have e : i = n := Nat.le_antisymm hi hge
    subst e
    exact .inl ⟨Nat.le_refl _, hd H p⟩
theorem lst_turns {K : PySem.W.Frag} {a : Addr} {xs : List V} (Pv : Nat → Hp → Prop) (h0 : Pv 0 H0) (hl : ∀ i H, i ≤ xs.length → Pv i H → SqL K H a xs)
    (hs : ∀ i x H, xs[i]? = some x → Pv i H → Body x H (Pv (i + 1))) (hd : ∀ H, Pv xs.length H → Qd H) :
    ∃ W : Nat → Nat → Hp → Prop, (∃ m, W 0 m H0) ∧ ∀ i m H, W i m H →
      ((Itl K a).stop i H ∧ Qd H) ∨ ((Itl K a).go i H ∧ ∃ Nx : Hp → Prop, (∀ H', Nx H' → ∃ m', m' < m ∧ W (i + 1) m' H') ∧ ∀ x H', (Itl K a).yld i H x H' → Body x H' Nx) := by
  refine ⟨fun i m H => m = xs.length - i ∧ i ≤ xs.length ∧ Pv i H, ⟨xs.length, rfl, Nat.zero_le _, h0⟩, fun i m H hw => ?_⟩
  obtain ⟨em, hi, p⟩ := hw
  subst em
  have q := hl i H hi p
  rcases Nat.lt_or_ge i xs.length with hlt | hge
  · refine .inr ⟨⟨xs, xs[i], q, List.getElem?_eq_getElem hlt⟩, Pv (i + 1), fun H' p' => ⟨xs.length - (i + 1), by omega, rfl, hlt, p'⟩, fun x H' y => ?_⟩
    obtain ⟨y1, y2⟩ := y
    subst y1
    exact hs i x _ (y2 xs q) p
  · have e : i = xs.length := Nat.le_antisymm hi hge
    subst e
    exact .inl ⟨⟨xs, q, Nat.le_refl _⟩, hd H p⟩
theorem enu_turns {K : PySem.W.Frag} {a : Addr} {xs : List V} (Pv : Nat → Hp → Prop) (h0 : Pv 0 H0) (hl : ∀ i H, i ≤ xs.length → Pv i H → SqL K H a xs)
    (hs : ∀ i x H T, xs[i]? = some x → Pv i H → H T = none → Body (.ref T) (upd H T (.tup [.int (i : Nat), x])) (Pv (i + 1))) (hd : ∀ H, Pv xs.length H → Qd H) :
    ∃ W : Nat → Nat → Hp → Prop, (∃ m, W 0 m H0) ∧ ∀ i m H, W i m H →
      ((Ite K a).stop i H ∧ Qd H) ∨ ((Ite K a).go i H ∧ ∃ Nx : Hp → Prop, (∀ H', Nx H' → ∃ m', m' < m ∧ W (i + 1) m' H') ∧ ∀ x H', (Ite K a).yld i H x H' → Body x H' Nx) := by
  refine ⟨fun i m H => m = xs.length - i ∧ i ≤ xs.length ∧ Pv i H, ⟨xs.length, rfl, Nat.zero_le _, h0⟩, fun i m H hw => ?_⟩
  obtain ⟨em, hi, p⟩ := hw
  subst em
  have q := hl i H hi p
  rcases Nat.lt_or_ge i xs.length with hlt | hge
  · refine .inr ⟨⟨xs, xs[i], q, List.getElem?_eq_getElem hlt⟩, Pv (i + 1), fun H' p' => ⟨xs.length - (i + 1), by omega, rfl, hlt, p'⟩, fun v H' y => ?_⟩
    obtain ⟨T, x, y1, y2, y3, y4⟩ := y
    subst y1 y3
    exact hs i x _ T (y4 xs q) p y2
  · have e : i = xs.length := Nat.le_antisymm hi hge
    subst e
    exact .inl ⟨⟨xs, q, Nat.le_refl _⟩, hd H p⟩
end
section
variable {Body : V → L2.St → Hp → (L2.St → Hp → Prop) → Prop} {σ0 : L2.St} {H0 : Hp} {Qd : L2.St → Hp → Prop}
theorem for_enu {K : PySem.W.Frag} {a : Addr} {xs : List V} (Pv : Nat → L2.St → Hp → Prop) (h0 : Pv 0 σ0 H0) (hl : ∀ i σ H, i ≤ xs.length → Pv i σ H → SqL K H a xs)
    (hs : ∀ i x σ H T, xs[i]? = some x → Pv i σ H → H T = none → Body (.ref T) σ (upd H T (.tup [.int (i : Nat), x])) (Pv (i + 1))) (hd : ∀ σ H, Pv xs.length σ H → Qd σ H) :
    ∃ W : Nat → Nat → L2.St → Hp → Prop, (∃ m, W 0 m σ0 H0) ∧ ∀ i m σ H, W i m σ H →
      ((Ite K a).stop i H ∧ Qd σ H) ∨ ((Ite K a).go i H ∧ ∃ N : L2.St → Hp → Prop, (∀ σ' H', N σ' H' → ∃ m', m' < m ∧ W (i + 1) m' σ' H') ∧ ∀ x H', (Ite K a).yld i H x H' → Body x σ H' N) := by
  refine ⟨fun i m σ H => m = xs.length - i ∧ i ≤ xs.length ∧ Pv i σ H, ⟨xs.length, rfl, Nat.zero_le _, h0⟩, fun i m σ H hw => ?_⟩
  obtain ⟨em, hi, p⟩ := hw
  subst em
  have q := hl i σ H hi p
  rcases Nat.lt_or_ge i xs.length with hlt | hge
  · refine .inr ⟨⟨xs, xs[i], q, List.getElem?_eq_getElem hlt⟩, Pv (i + 1), fun σ' H' p' => ⟨xs.length - (i + 1), by omega, rfl, hlt, p'⟩, fun v H' y => ?_⟩
    obtain ⟨T, x, y1, y2, y3, y4⟩ := y
    subst y1 y3
    exact hs i x σ _ T (y4 xs q) p y2
  · have e : i = xs.length := Nat.le_antisymm hi hge
    subst e
    exact .inl ⟨⟨xs, q, Nat.le_refl _⟩, hd σ H p⟩
end
/-- a list or a tuple that is walked -/
theorem pi_any {X : Cx} {tg l : Expr} {tl : TE} (hl : PE X l tl) : PI X tg l (fun σ H R => iList X.K tl σ H R ∨ iTup X.K tl σ H R) :=
  ⟨fun pins s σ H R I h => h.elim ((pi_list hl).run pins s σ H R I) ((pi_tup hl).run pins s σ H R I)⟩
end BM
namespace BM
open PySem PySem.Spec PyProof.Rows L2 BR
/-! ### name = {k: v for ..}, the name a local -/
theorem ps_setDc {X : Cx} {i : Nat} {y : Str} {py : Pos} {kx vx tg iter : Expr} {ifs : List Expr} {scope : Scope} {own : List (Str × Nat)} {pos spos : Pos} {wi : TI} {g : TG} {tt : TT} {tk tv : TE} (hc : X.calm = true) (hN : X.N.Nodup) (hy : X.N[i]? = some y)
    (hyl : X.env.scope.names.lookup y = some .local) (hsw : swapsWith (.DictComp kx vx [⟨tg, iter, ifs, 0⟩] scope pos) (some (.Name y py)) spos.line X.env = pure true) (hi : PI X tg iter wi) (ok : BlkOk X.N X.env.scope scope own)
    (hg : ∀ (s : Shared) (H : Hp) (C : Addr) (cl : List (Str × Addr)) (fp : List Addr), PG (X.blk s H scope (compEnvC scope cl C X.env) fp) tg g)
    (ht : ∀ (s : Shared) (H : Hp) (C : Addr) (cl : List (Str × Addr)) (fp : List Addr), PTs (X.blk s H scope (compEnvC scope cl C X.env) fp) ifs tt)
    (hk : ∀ (s : Shared) (H : Hp) (C : Addr) (cl : List (Str × Addr)) (fp : List Addr), PE (X.blk s H scope (compEnvC scope cl C X.env) fp) kx tk)
    (he : ∀ (s : Shared) (H : Hp) (C : Addr) (cl : List (Str × Addr)) (fp : List Addr), PE (X.blk s H scope (compEnvC scope cl C X.env) fp) vx tv) (hs : ∀ x, foldedSetIterable iter X.env x = pure x := by intro _; rfl) :
    PS X (.Assign [.Name y py] (.DictComp kx vx [⟨tg, iter, ifs, 0⟩] scope pos) spos) (tAsg (tDc wi g tt tk tv (own.map (·.2))) (gName i)) := by
  refine ⟨fun pins s σ H D I h => ?_⟩
  rw [exec_Assign_Name_used _ _ _ _ hsw]
  refine wpAny_bind (wpAny_standAt (wpAny_bind ?_))
  show wpAny _ X.A (do let _ ← comprehension (.DictComp kx vx [⟨tg, iter, ifs, 0⟩] scope pos) scope X.env (firstIterPos [⟨tg, iter, ifs, 0⟩] pos) newDict false (eval iter X.env) (some (assign (.Name y py) X.env))) _ _ s
  have h2 : tDc wi g tt tk tv (own.map (·.2)) σ H (fun x H1 => D.nx (σ.set i (some x)) H1) := h
  refine wpAny_bind (thn (dc_core (Qf := fun _ s' => SP X pins D .next s') hc hN I hi ok hg ht hk he hs h2 fun L c s' m H' I' q hn f => ?_) fun _ s' hq => wpAny_pure (wpAny_pure hq))
  obtain ⟨f0, f1, f2, f3, f4, f5⟩ := f
  show wpAny _ _ (assign (.Name y py) X.env (.ref L)) _ _ _
  refine wpAny_assign_Name (store_ok2 (v := V.ref L) I' hN hy (.inl hyl) rfl (fun s2 I2 hh => ?_) (.inr hyl))
  obtain ⟨a, sb, ha⟩ := hh
  have haC : c ≠ a := ha.elim (fun z => by rw [z]; exact f1) fun z e => f4 y a z e.symm
  exact ⟨m, hn.sameBut sb haC, fun h3 sb3 => ⟨_, H', I2.turned (t' := s2.toks) (fun b o hb e => (sb3.2 b hb).trans e) f0 f1 f3 f4 f5, q⟩⟩
theorem sw_trueD {kx vx : Expr} {gs : List Comprehension} {scope : Scope} {pos py : Pos} {y : Str} {l : Nat} {env : Env} (hk : env.scope.kind = .function) (hy : env.scope.names.lookup y = some .local) (hl : (py.line == pos.line) = true)
    (ha : (scope.names.any fun (n, k) => n == y && (k == .local || k == .cell)) = false) : swapsWith (.DictComp kx vx gs scope pos) (some (.Name y py)) l env = pure true := by
  have ky : env.kindOf y = some .local := hy
  have hb : env.blockKind = .function := by
    unfold Env.blockKind
    rw [hk]
    rfl
  unfold swapsWith
  simp only [hb, ky, ha, Expr.pos, hl]
  rfl
end BM
namespace BM
open PySem PySem.Spec PyProof.Rows L2 BR
/-! ### data that are compared -/
theorem canLay_map {α : Type} {f : α → PyData} (h : ∀ a, PyData.canLay0 (f a) = true) : ∀ l : List α, PyData.canLayAll0 (l.map f) = true
  | [] => by simp only [List.map_nil, PyData.canLayAll0]
  | a :: l => by simp only [List.map_cons, PyData.canLayAll0, h a, canLay_map h l, Bool.and_self]
theorem depth_map {α : Type} {f : α → PyData} {d : Nat} (h : ∀ a, PyData.depth (f a) ≤ d) : ∀ l : List α, PyData.depthAll (l.map f) ≤ d
  | [] => by simp only [List.map_nil, PyData.depthAll]; exact Nat.zero_le _
  | a :: l => by
    simp only [List.map_cons, PyData.depthAll]
    exact Nat.max_le.mpr ⟨h a, depth_map h l⟩
theorem shaped_map {α : Type} {f : α → PyData} {d : Nat} (hd : d ≤ 60) (h1 : ∀ a, PyData.canLay0 (f a) = true) (h2 : ∀ a, PyData.depth (f a) ≤ d) (l : List α) : SeqAt.shaped (.list (l.map f)) = true := by
  unfold SeqAt.shaped
  have a1 := canLay_map h1 l
  have a2 := depth_map h2 l
  simp only [PyData.canLay0, PyData.depth, a1, Bool.true_and]
  exact decide_eq_true (by omega)
def iD (i : Nat) : PyData := .int (i : Int)
def iL (xs : List Nat) : PyData := .list (xs.map iD)
theorem iD_can (i : Nat) : PyData.canLay0 (iD i) = true := by simp only [iD, PyData.canLay0]
theorem iD_depth (i : Nat) : PyData.depth (iD i) ≤ 0 := by simp only [iD, PyData.depth]; exact Nat.le_refl _
theorem iL_shaped (xs : List Nat) : SeqAt.shaped (iL xs) = true := shaped_map (by decide) iD_can iD_depth xs
theorem iL_can (xs : List Nat) : PyData.canLay0 (iL xs) = true := by
  have := canLay_map iD_can xs
  simpa only [iL, PyData.canLay0] using this
theorem iL_depth (xs : List Nat) : PyData.depth (iL xs) ≤ 1 := by
  have := depth_map iD_depth xs
  simp only [iL, PyData.depth]
  omega
theorem iL_all {K : PySem.W.Frag} {H : Hp} : ∀ xs : List Nat, DpAll K H (nV xs) (xs.map iD)
  | [] => .nil
  | x :: xs => .cons (.int _) (iL_all xs)
theorem iL_dp {K : PySem.W.Frag} {H : Hp} {a : Addr} {xs : List Nat} (h : SqL K H a (nV xs)) : Dp K H (.ref a) (iL xs) := .lst h (iL_all xs)
theorem iL_eqv : ∀ xs ys : List Nat, PyData.eqv (iL xs) (iL ys) = decide (xs = ys)
  | [], [] => by simp [iL, PyData.eqv, PyData.eqvAll]
  | [], y :: ys => by simp [iL, PyData.eqv, PyData.eqvAll]
  | x :: xs, [] => by simp [iL, PyData.eqv, PyData.eqvAll]
  | x :: xs, y :: ys => by
    have ih := iL_eqv xs ys
    simp only [iL, PyData.eqv] at ih
    simp only [iL, PyData.eqv, List.map_cons, PyData.eqvAll, ih]
    have e : PyData.eqv (iD x) (iD y) = decide (x = y) := by
      simp only [iD, PyData.eqv]
      by_cases h : x = y
      · subst h
        simp
      · rw [decide_eq_false h]
        simp
        omega
    rw [e]
    by_cases h1 : x = y <;> by_cases h2 : xs = ys <;> simp [h1, h2]
/-- a list against the empty one -/
theorem nil_eqv (ds : List PyData) : PyData.eqv (.list ds) (.list []) = ds.isEmpty := by
  cases ds with
  | nil => simp [PyData.eqv, PyData.eqvAll]
  | cons d ds => simp [PyData.eqv, PyData.eqvAll]
theorem nil_shaped : SeqAt.shaped (.list []) = true := by
  have := shaped_map (f := iD) (by decide) iD_can iD_depth []
  exact this
theorem nil_dp {K : PySem.W.Frag} {H : Hp} {a : Addr} (h : H a = some (.lst [])) : Dp K H (.ref a) (.list []) := .lst (SqL.of h) .nil
theorem isEmpty_map {α : Type} (f : α → PyData) (l : List α) : (l.map f).isEmpty = l.isEmpty := by cases l <;> rfl
/-- two lists of ints in a list -/
def iLL (xss : List (List Nat)) : PyData := .list (xss.map iL)
theorem iLL_shaped (xss : List (List Nat)) : SeqAt.shaped (iLL xss) = true := shaped_map (d := 1) (by decide) iL_can iL_depth xss
theorem iLL_refl (xss : List (List Nat)) : PyData.eqv (iLL xss) (iLL xss) = true := by
  unfold iLL
  simp only [PyData.eqv]
  induction xss with
  | nil => simp [PyData.eqvAll]
  | cons xs xss ih =>
    have e := iL_eqv xs xs
    simp only [List.map_cons, PyData.eqvAll, ih, e]
    simp
/-! ### pairs -/
def prD (q : Nat × Nat) : PyData := .tuple [.int (q.1 : Int), .int (q.2 : Int)]
theorem prD_can (q : Nat × Nat) : PyData.canLay0 (prD q) = true := by simp only [prD, PyData.canLay0, PyData.canLayAll0, Bool.and_self]
theorem prD_depth (q : Nat × Nat) : PyData.depth (prD q) ≤ 1 := by simp only [prD, PyData.depth, PyData.depthAll]; decide
theorem prD_shaped (q : Nat × Nat) : SeqAt.shaped (prD q) = true := by
  unfold SeqAt.shaped
  rw [prD_can, Bool.true_and]
  exact decide_eq_true (Nat.le_trans (prD_depth q) (by decide))
theorem prD_shapedAll (ps : List (Nat × Nat)) : SeqAt.shaped (.list (ps.map prD)) = true := shaped_map (by decide) prD_can prD_depth ps
theorem prD_eqv (q r : Nat × Nat) : PyData.eqv (prD q) (prD r) = decide (q = r) := by
  obtain ⟨a, b⟩ := q
  obtain ⟨c, d⟩ := r
  unfold prD
  simp only [PyData.eqv, PyData.eqvAll, Bool.and_true]
  by_cases h1 : a = c <;> by_cases h2 : b = d <;> simp [h1, h2] <;> omega
theorem prD_any (q : Nat × Nat) : ∀ ps : List (Nat × Nat), ((ps.map prD).any fun z => PyData.eqv z (prD q)) = decide (q ∈ ps)
  | [] => by simp
  | r :: ps => by
    rw [List.map_cons, List.any_cons, prD_any q ps, prD_eqv]
    by_cases h : q = r
    · subst h
      simp
    · have h' : ¬ r = q := fun z => h z.symm
      simp [h, h']
end BM
namespace BM
open PySem PySem.Spec PyProof.Rows L2 BR
abbrev sIsInt : Stmt := topS 12
abbrev sBetween : Stmt := topS 13
abbrev sIsPrice : Stmt := topS 14
abbrev sIsCmp : Stmt := topS 15
theorem scIsInt : FnScope ["thing"] ["thing"] (defScope sIsInt) := ⟨rfl, rfl, rfl, by decide +kernel, rfl, by decide +kernel, by decide +kernel⟩
theorem scBetween : FnScope ["thing", "low", "high"] ["thing", "low", "high"] (defScope sBetween) := ⟨rfl, rfl, rfl, by decide +kernel, rfl, by decide +kernel, by decide +kernel⟩
theorem scIsPrice : FnScope ["thing"] ["thing"] (defScope sIsPrice) := ⟨rfl, rfl, rfl, by decide +kernel, rfl, by decide +kernel, by decide +kernel⟩
theorem scIsCmp : FnScope ["thing", "places"] ["thing", "places"] (defScope sIsCmp) := ⟨rfl, rfl, rfl, by decide +kernel, rfl, by decide +kernel, by decide +kernel⟩
def spIsInt : Sp := fun vs H Q _ => ∃ i : Int, vs = [.int i] ∧ Q (.bl true) H
def spBetween : Sp := fun vs H Q _ => ∃ i lo hi : Int, vs = [.int i, .int lo, .int hi] ∧ lo ≤ i ∧ i ≤ hi ∧ Q (.bl true) H
def spIsPrice : Sp := fun vs H Q _ => ∃ i : Int, vs = [.int i] ∧ 0 ≤ i ∧ i ≤ 10 ^ 18 ∧ Q (.bl true) H
def spIsCmp : Sp := fun vs H Q _ => ∃ (p : Addr) (g n : Int), vs = [.ref p, .int n] ∧ H p = some (.tup [.int g, .int 1]) ∧ 1 ≤ g ∧ g ≤ n - 1 ∧ Q (.bl true) H
section
variable {P : Program} {w : World} {K : PySem.W.Frag} {mg : Str → Option Value} {base : Heap}
theorem ok_isInt (D : Gd K mg "is_integer" sIsInt ["thing"]) (mi : mg "isinstance" = none) (mt : mg "int" = none) (mb : mg "bool" = none) : Cl P w K mg base 1 "is_integer" spIsInt := by
  refine cl_of D scIsInt (fun vs H Q E h => ?_) (fun f cdv A outer s H vs Q E hr h => ?_)
  · obtain ⟨i, rfl, _⟩ := h
    rfl
  · obtain ⟨i, rfl, q⟩ := h
    refine ⟨_, pss_one (ps_ret (pe_and (pe_callB call_isi (by rfl) mi (by decide +kernel) (pa_cons (pv 0) (pa_cons (pe_bltn (v := .ty "int") (by rfl) mt (by decide +kernel) rfl) pa_nil)))
      (pe_one (pe_not (pe_callB call_isi (by rfl) mi (by decide +kernel) (pa_cons (pv 0) (pa_cons (pe_bltn (v := .ty "bool") (by rfl) mb (by decide +kernel) rfl) pa_nil))))))), ?_⟩
    refine ⟨_, rfl, _, _, _, _, true, rfl, .ty "int", .base (.int i), kit_ty (by decide +kernel), true, rfl, iteT ?_⟩
    exact ⟨_, rfl, _, _, _, _, false, rfl, .ty "bool", .base (.int i), kit_ty (by decide +kernel), false, rfl, q⟩
theorem ok_between (D : Gd K mg "is_between" sBetween ["thing", "low", "high"]) (cI : Cl P w K mg base 1 "is_integer" spIsInt) : Cl P w K mg base 2 "is_between" spBetween := by
  refine cl_of D scBetween (fun vs H Q E h => ?_) (fun f cdv A outer s H vs Q E hr h => ?_)
  · obtain ⟨i, lo, hi, rfl, _⟩ := h
    rfl
  · obtain ⟨i, lo, hi, rfl, h1, h2, q⟩ := h
    refine ⟨_, pss_one (ps_ret (pe_and (pe_cl cI hr (pa_cons (pv 0) pa_nil)) (pe_one (pe_chain op_le op_le (pv 1) (pv 0) (pv 2))))), ?_⟩
    refine ⟨_, rfl, i, rfl, true, rfl, iteT ?_⟩
    refine ⟨_, rfl, _, rfl, _, _, rfl, rfl, _, rfl, ?_⟩
    rw [decide_eq_true h1]
    refine iteT ⟨_, rfl, _, _, rfl, rfl, ?_⟩
    show Q (.bl (decide (i ≤ hi))) H
    rw [decide_eq_true h2]
    exact q
theorem ok_isPrice (D : Gd K mg "is_price" sIsPrice ["thing"]) (cB : Cl P w K mg base 2 "is_between" spBetween) {t : Tok} (mp : mg "MAX_PRICE" = some (.int 1000000000000000000 t)) : Cl P w K mg base 3 "is_price" spIsPrice := by
  refine cl_of D scIsPrice (fun vs H Q E h => ?_) (fun f cdv A outer s H vs Q E hr h => ?_)
  · obtain ⟨i, rfl, _⟩ := h
    rfl
  · obtain ⟨i, rfl, h1, h2, q⟩ := h
    refine ⟨_, pss_one (ps_ret (pe_cl cB hr (pa_cons (pv 0) (pa_cons pe_int (pa_cons (pe_glob (v := .int 1000000000000000000) (by rfl) mp ⟨_, rfl⟩) pa_nil))))), ?_⟩
    exact ⟨_, rfl, i, 0, 1000000000000000000, rfl, h1, h2, q⟩
theorem ok_isCmp (D : Gd K mg "is_comparison" sIsCmp ["thing", "places"]) (cB : Cl P w K mg base 2 "is_between" spBetween) (cP : Cl P w K mg base 3 "is_price" spIsPrice) (mi : mg "isinstance" = none) (mt : mg "tuple" = none) (ml : mg "len" = none) :
    Cl P w K mg base 4 "is_comparison" spIsCmp := by
  refine cl_of D scIsCmp (fun vs H Q E h => ?_) (fun f cdv A outer s H vs Q E hr h => ?_)
  · obtain ⟨i, g, n, rfl, _⟩ := h
    rfl
  · obtain ⟨p, g, n, rfl, hp, h1, h2, q⟩ := h
    refine ⟨_, pss_cons (ps_if (PW.pt (pw_or (pt_not (pt_val (pe_callB call_isi (by rfl) mi (by decide +kernel) (pa_cons (pv 0) (pa_cons (pe_bltn (v := .ty "tuple") (by rfl) mt (by decide +kernel) rfl) pa_nil)))))
        (pw_or1 (pt_cmpR op_ne (pe_callB call_len_seq (by rfl) ml PySem.boot_len (pa_cons (pv 0) pa_nil)) pe_int (nomark _))))) (pss_one (ps_ret pe_bl)) pss_nil)
      (pss_one (ps_ret (pe_and (pe_cl cB (hr.mono (by decide)) (pa_cons (pe_ix ix_tup (pv 0) pe_int (fun _ _ => rfl)) (pa_cons pe_int (pa_cons (pe_op op_sub (pv 1) pe_int) pa_nil))))
        (pe_one (pe_cl cP hr (pa_cons (pe_ix ix_tup (pv 0) pe_int (fun _ _ => rfl)) pa_nil)))))), ?_⟩
    have hT : SqT K H p [.int g, .int 1] := SqT.of hp
    refine ⟨_, rfl, _, _, _, _, true, rfl, .ty "tuple", .base (.tup hp), kit_ty (by decide +kernel), true, rfl, iteF ?_⟩
    refine ⟨_, rfl, p, _, rfl, .inr hT, rfl, _, rfl, iteF ?_⟩
    refine ⟨_, rfl, p, _, _, _, rfl, rfl, hT, atI_nat (j := 0) rfl, _, rfl, _, _, rfl, rfl, g, 1, n - 1, rfl, h1, h2, true, rfl, iteT ?_⟩
    exact ⟨_, rfl, p, _, _, _, rfl, rfl, hT, atI_nat (j := 1) rfl, 1, rfl, by decide, by decide, q⟩
end
end BM
namespace BM
open PySem PySem.Spec PyProof.Rows L2 BR
abbrev sInverse : Stmt := topS 17
abbrev sIsExch : Stmt := topS 23
abbrev sExch : Stmt := topS 24
abbrev sFree : Stmt := topS 26
abbrev sPassed : Stmt := topS 27
theorem scInverse : FnScope ["order", "found", "place", "rank"] ["order"] (defScope sInverse) := ⟨rfl, rfl, rfl, by decide +kernel, rfl, by decide +kernel, by decide +kernel⟩
theorem scIsExch : FnScope ["order", "gate"] ["order", "gate"] (defScope sIsExch) := ⟨rfl, rfl, rfl, by decide +kernel, rfl, by decide +kernel, by decide +kernel⟩
theorem scExch : FnScope ["order", "gate"] ["order", "gate"] (defScope sExch) := ⟨rfl, rfl, rfl, by decide +kernel, rfl, by decide +kernel, by decide +kernel⟩
theorem scFree : FnScope ["places", "k", "t"] ["places"] (defScope sFree) := ⟨rfl, rfl, rfl, by decide +kernel, rfl, by decide +kernel, by decide +kernel⟩
theorem scPassed : FnScope ["row", "gate"] ["row", "gate"] (defScope sPassed) := ⟨rfl, rfl, rfl, by decide +kernel, rfl, by decide +kernel, by decide +kernel⟩
/-- a new list of places, all that was tracked as it was -/
def NewL (H : Hp) (xs : List Nat) (Q : VK) : Prop := ∀ (H' : Hp) (p : Addr), Same H H' → H p = none → H' p = some (.lst (nV xs)) → Q (.ref p) H'
def spInverse (K : PySem.W.Frag) : Sp := fun vs H Q _ => ∃ (a : Addr) (n : Nat) (x : List Nat), vs = [.ref a] ∧ SqL K H a (nV x) ∧ IsOrd n x ∧ n ≤ 12 ∧ NewL H (invL n x) Q
def spIsExch (K : PySem.W.Frag) : Sp := fun vs H Q _ => ∃ (a : Addr) (g : Nat) (x : List Nat), vs = [.ref a, .int (g : Int)] ∧ SqL K H a (nV x) ∧ 1 ≤ g ∧ g < x.length ∧ Q (.bl (decide (at0 x g < at0 x (g - 1)))) H
def spExch : Sp := fun vs H Q _ => ∃ (a : Addr) (g : Nat) (x : List Nat), vs = [.ref a, .int (g : Int)] ∧ H a = some (.lst (nV x)) ∧ 1 ≤ g ∧ g < x.length ∧
  ∀ H' : Hp, But a H H' → H' a = some (.lst (nV (swp x g))) → Q .non H'
def spPassed (K : PySem.W.Frag) : Sp := fun vs H Q _ => ∃ (a : Addr) (g : Nat) (r : List Nat), vs = [.ref a, .int (g : Int)] ∧ SqL K H a (nV r) ∧ 1 ≤ g ∧ g + 1 < r.length ∧
  Q (.int ((min (at0 r (g - 1)) (at0 r (g + 1) + 1) : Nat) : Int)) H
section
variable {P : Program} {w : World} {K : PySem.W.Frag} {mg : Str → Option Value} {base : Heap}
theorem ok_inverse (D : Gd K mg "inverse" sInverse ["order"]) (ml : mg "len" = none) (me : mg "enumerate" = none) : Cl P w K mg base 1 "inverse" (spInverse K) := by
  refine cl_of D scInverse (fun vs H Q E h => ?_) (fun f cdv A outer s H vs Q E hr h => ?_)
  · obtain ⟨a, n, x, rfl, _⟩ := h
    rfl
  · obtain ⟨a, n, x, rfl, hS, hx, hn, q⟩ := h
    refine ⟨_, pss_cons (ps_set (i := 1) scInverse.nd rfl (.inl rfl) (pe_op op_rep (pe_lst (pa_cons pe_int pa_nil)) (pe_callB call_len_seq (by rfl) ml PySem.boot_len (pa_cons (pv 0) pa_nil))))
      (pss_cons (ps_for PassesOwn.never rfl (pi_enum (by rfl) me (pa_cons (pv 0) pa_nil))
          (pg_tup rfl (pgs_cons (pg_name (i := 2) scInverse.nd rfl (.inl rfl)) (pgs_cons (pg_name (i := 3) scInverse.nd rfl (.inl rfl)) pgs_nil)))
        (pss_one (ps_asg (pv 2) (pg_sub (pv 1) (pv 3) set_list))))
      (pss_one (ps_ret (pv 1)))), ?_⟩
    refine ⟨(by show 1 ≤ sizeLine; decide), fun z nz => ?_⟩
    have s1 : Same H (upd H z (.lst [.int 0])) := same_new nz
    refine ⟨_, rfl, a, nV x, rfl, .inl (s1.seq hS), z, _, _, rfl, rfl, upd_same, by omega, ?_, ?_, fun o no => ?_⟩
    · rw [nV_len, hx.len]
      omega
    · rw [nV_len, hx.len]
      exact Nat.le_trans (Nat.mul_le_mul_left _ (show (n : Int).toNat ≤ 12 by omega)) (by show 12 ≤ sizeLine; decide)
    have s2 : Same H (upd (upd H z (.lst [.int 0])) o (.lst (List.replicate ((nV x).length : Int).toNat [V.int 0]).flatten)) := s1.trans (same_new no)
    have e0 : (List.replicate ((nV x).length : Int).toNat [V.int 0]).flatten = nV (invP n x 0) := by
      rw [nV_len, hx.len, invP_zero, Int.toNat_natCast]
      clear hx hn q
      induction n with
      | zero => rfl
      | succ m ih =>
        rw [List.replicate_succ, List.flatten_cons, ih, List.replicate_succ]
        rfl
    rw [e0] at s2 ⊢
    have hno : H o = none := s1.free no
    refine ⟨_, rfl, a, nV x, rfl, s2.seq hS, ?_⟩
    refine for_enu (xs := nV x) (fun i σ H' => ∃ y2 y3, σ = [some (.ref a), some (.ref o), y2, y3] ∧ Same H H' ∧ H' o = some (.lst (nV (invP n x i)))) ⟨none, none, rfl, s2, upd_same⟩ ?_ ?_ ?_
    · rintro i σ H' _ ⟨y2, y3, rfl, sm, _⟩
      exact sm.seq hS
    · rintro i v σ H' T hi ⟨y2, y3, rfl, sm, eo⟩ nT
      obtain ⟨r, er, rfl⟩ := nV_get hi
      have hin : i < n := by
        rw [← hx.len]
        exact (List.getElem?_eq_some_iff.mp er).1
      have ear : at0 x i = r := at0_of er
      have hrn : r < n := by rw [← ear]; exact hx.at_lt hin
      refine ⟨T, _, rfl, .inl (.inl upd_same), rfl, _, _, rfl, _, _, rfl, rfl, ?_⟩
      have eoT : (upd H' T (.tup [.int (i : Int), .int (r : Int)])) o = some (.lst (nV (invP n x i))) := by
        rw [upd_ne (ne_of_none eo nT)]
        exact eo
      refine ⟨_, rfl, _, rfl, _, rfl, o, _, _, r, rfl, rfl, eoT, ixN_nat (by rw [nV_len, invP_len]; exact hrn), ?_⟩
      refine ⟨_, _, rfl, fun b u hb => ?_, ?_⟩
      · rw [upd_ne (ne_of_none hb hno)]
        exact same_new nT b u (sm b u hb)
      · rw [upd_same, nV_set, ← ear, invP_step hx hin]
    · rintro σ H' ⟨y2, y3, rfl, sm, eo⟩
      rw [nV_len, hx.len, invP_full hx] at eo
      exact ⟨_, rfl, q H' o sm hno eo⟩
theorem ok_isExch (D : Gd K mg "is_exchanged" sIsExch ["order", "gate"]) : Cl P w K mg base 1 "is_exchanged" (spIsExch K) := by
  refine cl_of D scIsExch (fun vs H Q E h => ?_) (fun f cdv A outer s H vs Q E hr h => ?_)
  · obtain ⟨a, g, x, rfl, _⟩ := h
    rfl
  · obtain ⟨a, g, x, rfl, hS, h1, h2, q⟩ := h
    refine ⟨_, pss_one (ps_ret (pe_cmpR op_gt (pe_ix ix_list (pv 0) (pe_op op_sub (pv 1) pe_int) (fun _ _ => rfl)) (pe_ix ix_list (pv 0) (pv 1) (fun _ _ => rfl)) (nomark _))), ?_⟩
    refine ⟨_, rfl, _, rfl, _, _, rfl, rfl, a, _, _, _, rfl, rfl, hS, nV_ix (i := g - 1) (by omega) (by omega), _, rfl, _, rfl, a, _, _, _, rfl, rfl, hS, nV_ix rfl h2, _, _, rfl, rfl, ?_⟩
    have e : decide (((at0 x g : Nat) : Int) < ((at0 x (g - 1) : Nat) : Int)) = decide (at0 x g < at0 x (g - 1)) := by
      rw [decide_eq_decide]
      omega
    show Q (.bl (decide (((at0 x g : Nat) : Int) < ((at0 x (g - 1) : Nat) : Int)))) H
    rw [e]
    exact q
theorem ok_exch (D : Gd K mg "exchange" sExch ["order", "gate"]) : Cl P w K mg base 1 "exchange" spExch := by
  refine cl_of D scExch (fun vs H Q E h => ?_) (fun f cdv A outer s H vs Q E hr h => ?_)
  · obtain ⟨a, g, x, rfl, _⟩ := h
    rfl
  · obtain ⟨a, g, x, rfl, ha, h1, h2, q⟩ := h
    refine ⟨_, pss_one (ps_asg (pe_tup (pa_cons (pe_ix ix_list (pv 0) (pv 1) (fun _ _ => rfl)) (pa_cons (pe_ix ix_list (pv 0) (pe_op op_sub (pv 1) pe_int) (fun _ _ => rfl)) pa_nil)))
      (pg_tup rfl (pgs_cons (pg_sub (pv 0) (pe_op op_sub (pv 1) pe_int) set_list) (pgs_cons (pg_sub (pv 0) (pv 1) set_list) pgs_nil)))), ?_⟩
    have hS : SqL K H a (nV x) := SqL.of ha
    refine ⟨_, rfl, _, rfl, a, _, _, _, rfl, rfl, hS, nV_ix rfl h2, _, rfl, _, rfl, _, _, rfl, rfl, a, _, _, _, rfl, rfl, hS, nV_ix (i := g - 1) (by omega) (by omega), (by show 2 ≤ sizeLine; decide), fun T nT => ?_⟩
    have haT : (upd H T (.tup [.int ((at0 x g : Nat) : Int), .int ((at0 x (g - 1) : Nat) : Int)])) a = some (.lst (nV x)) := by
      rw [upd_ne (ne_of_none ha nT)]
      exact ha
    refine ⟨T, _, rfl, .inl (.inl upd_same), rfl, _, _, rfl, ?_⟩
    refine ⟨_, rfl, _, rfl, _, _, rfl, rfl, a, _, _, g - 1, rfl, rfl, haT, ixN_of (by omega) (by rw [nV_len]; omega), ?_⟩
    refine ⟨_, _, rfl, _, rfl, _, rfl, a, _, _, g, rfl, rfl, upd_same, ixN_of rfl (by rw [List.length_set, nV_len]; omega), rfl, ?_⟩
    refine q _ (fun c o hc e => ?_) ?_
    · rw [upd_ne hc, upd_ne hc]
      exact same_new nT c o e
    · rw [upd_same, nV_set, nV_set]
      rfl
theorem ok_passed (D : Gd K mg "passed" sPassed ["row", "gate"]) (mm : mg "min" = none) : Cl P w K mg base 1 "passed" (spPassed K) := by
  refine cl_of D scPassed (fun vs H Q E h => ?_) (fun f cdv A outer s H vs Q E hr h => ?_)
  · obtain ⟨a, g, x, rfl, _⟩ := h
    rfl
  · obtain ⟨a, g, r, rfl, hS, h1, h2, q⟩ := h
    refine ⟨_, pss_one (ps_ret (pe_callB (call_min2 rfl) (by rfl) mm (by decide +kernel) (pa_cons (pe_ix ix_list (pv 0) (pe_op op_sub (pv 1) pe_int) (fun _ _ => rfl)) (pa_cons (pe_op op_add (pe_ix ix_list (pv 0) (pe_op op_add (pv 1) pe_int) (fun _ _ => rfl)) pe_int) pa_nil)))), ?_⟩
    refine ⟨_, rfl, _, rfl, _, _, rfl, rfl, a, _, _, _, rfl, rfl, hS, nV_ix (i := g - 1) (by omega) (by omega), _, rfl, _, rfl, _, _, rfl, rfl, a, _, _, _, rfl, rfl, hS, nV_ix (i := g + 1) (by omega) h2, _, _, rfl, rfl, _, _, rfl, ?_⟩
    have e : (if ((at0 r (g + 1) : Nat) : Int) + 1 < ((at0 r (g - 1) : Nat) : Int) then ((at0 r (g + 1) : Nat) : Int) + 1 else ((at0 r (g - 1) : Nat) : Int)) = ((min (at0 r (g - 1)) (at0 r (g + 1) + 1) : Nat) : Int) := by
      split <;> omega
    show Q (.int (if ((at0 r (g + 1) : Nat) : Int) + 1 < ((at0 r (g - 1) : Nat) : Int) then ((at0 r (g + 1) : Nat) : Int) + 1 else ((at0 r (g - 1) : Nat) : Int))) H
    rw [e]
    exact q
end
end BM
namespace BM
open PySem PySem.Spec PyProof.Rows L2 BR
/-- a comprehension's own scope; what a return says -/
def lcScope : Expr → Scope
  | .ListComp _ _ sc _ => sc
  | .DictComp _ _ _ sc _ => sc
  | _ => { kind := .function, names := [], isGenerator := false, isCoroutine := false }
def lcElt : Expr → Expr
  | .ListComp e _ _ _ => e
  | e => e
def retOf : Stmt → Expr
  | .Return (some e) _ => e
  | _ => .Constant .none 0 ⟨0, 0, 0, 0⟩
def asgOf : Stmt → Expr
  | .Assign _ e _ => e
  | _ => .Constant .none 0 ⟨0, 0, 0, 0⟩
def stAt (l : List Stmt) (i : Nat) : Stmt := l.getD i (.Pass ⟨0, 0, 0, 0⟩)

/-! ### tables in the heap -/
/-- rows: apart, new since H0, as rs says -/
def Rows (H0 H : Hp) (as : List Addr) (rs : Nat → List Nat) : Prop := as.Nodup ∧ (∀ a ∈ as, H0 a = none) ∧ ∀ (k : Nat) (a : Addr), as[k]? = some a → H a = some (.lst (nV (rs k)))
theorem Rows.nil {H0 H : Hp} {rs : Nat → List Nat} : Rows H0 H [] rs := ⟨.nil, (fun a h => by cases h), fun k a h => by simp at h⟩
theorem Rows.mono {H0 H H' : Hp} {as : List Addr} {rs : Nat → List Nat} (r : Rows H0 H as rs) (h : ∀ a ∈ as, ∀ o, H a = some o → H' a = some o) : Rows H0 H' as rs :=
  ⟨r.1, r.2.1, fun k a e => h a (List.mem_of_getElem? e) _ (r.2.2 k a e)⟩
theorem Rows.there {H0 H : Hp} {as : List Addr} {rs : Nat → List Nat} (r : Rows H0 H as rs) {a : Addr} (h : a ∈ as) : ∃ k, k < as.length ∧ H a = some (.lst (nV (rs k))) := by
  obtain ⟨k, hk, e⟩ := List.mem_iff_getElem.mp h
  exact ⟨k, hk, r.2.2 k a (List.getElem?_eq_some_iff.mpr ⟨hk, e⟩)⟩
theorem Rows.notin {H0 H : Hp} {as : List Addr} {rs : Nat → List Nat} (r : Rows H0 H as rs) {a : Addr} (h : H a = none) : a ∉ as := fun z => by
  obtain ⟨k, _, e⟩ := r.there z
  rw [h] at e
  cases e
theorem Rows.snoc {H0 H : Hp} {as : List Addr} {rs : Nat → List Nat} {a : Addr} (r : Rows H0 H as rs) (n : a ∉ as) (h0 : H0 a = none) (e : H a = some (.lst (nV (rs as.length)))) : Rows H0 H (as ++ [a]) rs := by
  refine ⟨?_, fun b hb => ?_, fun k b eb => ?_⟩
  · rw [List.nodup_append]
    refine ⟨r.1, by simp, fun x hx y hy => ?_⟩
    have : y = a := by simpa using hy
    subst this
    exact fun z => n (z ▸ hx)
  · rcases List.mem_append.mp hb with hb | hb
    · exact r.2.1 b hb
    · have : b = a := by simpa using hb
      subst this
      exact h0
  · rcases Nat.lt_or_ge k as.length with hk | hk
    · rw [List.getElem?_append_left hk] at eb
      exact r.2.2 k b eb
    · rw [List.getElem?_append_right hk] at eb
      have hk0 : k - as.length = 0 := by
        rcases Nat.eq_zero_or_pos (k - as.length) with z | z
        · exact z
        · rw [List.getElem?_eq_none (show ([a] : List Addr).length ≤ k - as.length from z)] at eb
          cases eb
      rw [hk0] at eb
      have e1 : a = b := Option.some.inj eb
      subst e1
      have e2 : k = as.length := by omega
      rw [e2]
      exact e
def NewTab (H0 : Hp) (n : Nat) (c : Tab) (Q : VK) : Prop := ∀ (H' : Hp) (p : Addr) (as : List Addr), Same H0 H' → H0 p = none → H' p = some (.lst (as.map V.ref)) → as.length = n + 1 → Rows H0 H' as (rowL n c) → Q (.ref p) H'
/-- a table that is read -/
def TabAt (H : Hp) (p : Addr) (n : Nat) (c : Tab) : Prop := ∃ as : List Addr, H p = some (.lst (as.map V.ref)) ∧ as.length = n + 1 ∧ ∀ (k : Nat) (a : Addr), as[k]? = some a → H a = some (.lst (nV (rowL n c k)))
theorem TabAt.same {H H' : Hp} {p : Addr} {n : Nat} {c : Tab} (t : TabAt H p n c) (s : Same H H') : TabAt H' p n c := by
  obtain ⟨as, h1, h2, h3⟩ := t
  exact ⟨as, s _ _ h1, h2, fun k a e => s _ _ (h3 k a e)⟩
/-- the row at k -/
theorem TabAt.row {H : Hp} {p : Addr} {n : Nat} {c : Tab} (t : TabAt H p n c) {k : Nat} (hk : k ≤ n) : ∃ (as : List Addr) (a : Addr), H p = some (.lst (as.map V.ref)) ∧ as[k]? = some a ∧ H a = some (.lst (nV (rowL n c k))) := by
  obtain ⟨as, h1, h2, h3⟩ := t
  have hk' : k < as.length := by omega
  exact ⟨as, as[k], h1, List.getElem?_eq_getElem hk', h3 k _ (List.getElem?_eq_getElem hk')⟩
theorem toN (n : Nat) : ((n : Int) + 1).toNat = n + 1 := by omega

def spFree : Sp := fun vs H Q _ => ∃ n : Nat, vs = [.int (n : Int)] ∧ n ≤ 12 ∧ NewTab H n free Q
section
variable {P : Program} {w : World} {K : PySem.W.Frag} {mg : Str → Option Value} {base : Heap}
abbrev eFree : Expr := retOf (stAt (defBody sFree) 0)
theorem ok_free (D : Gd K mg "free_table" sFree ["places"]) (mr : mg "range" = none) (mm : mg "max" = none) : Cl P w K mg base 1 "free_table" spFree := by
  refine cl_of D scFree (fun vs H Q E h => ?_) (fun f cdv A outer s H vs Q E hr h => ?_)
  · obtain ⟨n, rfl, _⟩ := h
    rfl
  · obtain ⟨n, rfl, hn, q⟩ := h
    refine ⟨_, pss_one (ps_ret (pe_lc (own := [("k", 1)]) (g := gName 1) (tt := tYes) rfl scFree.nd (pi_range1 (by rfl) mr (pa_cons (pe_op op_add (pv 0) pe_int) pa_nil))
      (blkOk_by (N := ["places", "k", "t"]) (sc := defScope sFree) (by decide +kernel)) (fun _ _ _ _ _ => pg_name (i := 1) scFree.nd rfl (Or.inr rfl)) (fun _ _ _ _ _ => pts_nil)
      (fun _ _ _ _ _ => pe_lc (own := [("t", 2)]) (g := gName 2) (tt := tYes) rfl scFree.nd (pi_range1 (by rfl) mr (pa_cons (pe_op op_add (pv 0) pe_int) pa_nil))
        (blkOk_by (N := ["places", "k", "t"]) (sc := relS (lcScope eFree) (defScope sFree)) (by decide +kernel)) (fun _ _ _ _ _ => pg_name (i := 2) scFree.nd rfl (Or.inl rfl)) (fun _ _ _ _ _ => pts_nil)
        (fun _ _ _ _ _ => pe_callB (call_max2 rfl) (by rfl) mm (by decide +kernel) (pa_cons (pe_op op_sub (pv 1) (pv 2)) (pa_cons pe_int pa_nil)))))), ?_⟩
    refine ⟨_, rfl, _, _, rfl, rfl, _, rfl, by omega, by omega, ?_⟩
    refine fun D nD => rng_turns (n := n + 1) (fun i H' => Same H H' ∧ ∃ as : List Addr, H' D = some (.lst (as.map V.ref)) ∧ as.length = i ∧ Rows H H' as (rowL n free)) ⟨same_new nD, [], upd_same, rfl, .nil⟩ ?_ ?_
    · rintro i H1 hi ⟨sm, as, eD, el, R⟩
      refine ⟨rfl, ?_⟩
      refine ⟨_, rfl, _, _, rfl, rfl, _, rfl, by omega, by omega, ?_⟩
      refine fun D2 nD2 => rng_turns (n := n + 1) (fun j H' => Same H1 H' ∧ H' D2 = some (.lst (nV ((List.range j).map (free i))))) ⟨same_new nD2, upd_same⟩ ?_ ?_
      · rintro j H2 hj ⟨sm2, e2⟩
        refine ⟨rfl, ?_⟩
        refine ⟨_, rfl, _, rfl, _, _, rfl, rfl, _, _, rfl, _, e2, ?_, fun b u hb => ?_, ?_⟩
        · rw [nV_len, List.length_map, List.length_range]
          exact small1000 (by omega)
        · rw [upd_ne (ne_of_none hb nD2)]
          exact sm2 b u hb
        · rw [upd_same, range_snoc, ← nV_app]
          have e : (if (0 : Int) > 0 + (i : Int) - (0 + (j : Int)) then (0 : Int) else 0 + (i : Int) - (0 + (j : Int))) = ((free i j : Nat) : Int) := by
            unfold free
            split <;> omega
          show some (HO.lst (nV ((List.range j).map (free i)) ++ [V.int (if (0 : Int) > 0 + (i : Int) - (0 + (j : Int)) then (0 : Int) else 0 + (i : Int) - (0 + (j : Int)))])) = _
          rw [e]
      · rintro H2 ⟨sm2, e2⟩
        have n2 : D2 ∉ as := R.notin nD2
        have eD2 : H2 D = some (.lst (as.map V.ref)) := sm2 _ _ eD
        have hD2 : D2 ≠ D := (ne_of_none eD nD2).symm
        refine ⟨_, eD2, by rw [List.length_map, el]; exact small1000 (by omega), fun b u hb => ?_, as ++ [D2], ?_, by rw [List.length_append, el]; rfl, ?_⟩
        · rw [upd_ne (ne_of_none hb nD)]
          exact sm2 b u (sm b u hb)
        · rw [upd_same, rV_app]
        · have R2 : Rows H (upd H2 D (.lst (as.map V.ref ++ [.ref D2]))) as (rowL n free) := R.mono fun b hb o ho => by
            have hbD : b ≠ D := fun z => by
              obtain ⟨k, _, e⟩ := R.there hb
              rw [z, eD] at e
              have e' := HO.lst.inj (Option.some.inj e)
              have := congrArg List.length e'
              rw [z] at hb
              have hd := R.2.1 D hb
              cases as with
              | nil => cases hb
              | cons c cs =>
                have q1 : V.ref c = (nV (rowL n free k)).headD .non := by
                  rw [← e']
                  rfl
                cases hk : rowL n free k with
                | nil =>
                  rw [hk] at q1
                  cases q1
                | cons y ys =>
                  rw [hk] at q1
                  cases q1
            rw [upd_ne hbD]
            exact sm2 b o ho
          refine R2.snoc n2 (sm.free nD2) ?_
          rw [upd_ne hD2, el]
          exact e2
    · rintro H1 ⟨sm, as, eD, el, R⟩
      exact q H1 D as sm nD eD el R
end
end BM
namespace BM
open PySem PySem.Spec PyProof.Rows L2 BR
abbrev sSched : Stmt := topS 21
abbrev sInit : Stmt := inClass sSched 0
abbrev sOf : Stmt := inClass sSched 1
abbrev sPlaces : Stmt := inClass sSched 2
abbrev sGates : Stmt := inClass sSched 4
theorem scInit : FnScope ["self", "places", "comparisons", "at", "comparison"] ["self", "places", "comparisons"] (defScope sInit) := ⟨rfl, rfl, rfl, by decide +kernel, rfl, by decide +kernel, by decide +kernel⟩
theorem scOf : FnScope ["cls", "places", "gates", "price", "gate"] ["cls", "places", "gates", "price"] (defScope sOf) := ⟨rfl, rfl, rfl, by decide +kernel, rfl, by decide +kernel, by decide +kernel⟩
theorem scPlaces : FnScope ["self"] ["self"] (defScope sPlaces) := ⟨rfl, rfl, rfl, by decide +kernel, rfl, by decide +kernel, by decide +kernel⟩
theorem scGates : FnScope ["self", "gate", "price"] ["self"] (defScope sGates) := ⟨rfl, rfl, rfl, by decide +kernel, rfl, by decide +kernel, by decide +kernel⟩
/-! ### a schedule in the heap -/
abbrev CmpAt (H : Hp) (b : Addr) (g : Nat) : Prop := H b = some (.tup [.int (g : Int), .int 1])
def SchedAt (H : Hp) (C a : Addr) (n : Nat) (gs : List Nat) : Prop := ∃ (dx r : Addr) (rs : List Addr), H a = some (.ins C dx [("place_count", .int (n : Int)), ("rows", .ref r)]) ∧ H r = some (.lst (rs.map V.ref)) ∧ Paired (CmpAt H) rs gs
theorem SchedAt.same {H H' : Hp} {C a : Addr} {n : Nat} {gs : List Nat} (h : SchedAt H C a n gs) (s : Same H H') : SchedAt H' C a n gs := by
  obtain ⟨dx, r, rs, h1, h2, h3⟩ := h
  exact ⟨dx, r, rs, s _ _ h1, s _ _ h2, Paired.mapP h3 fun b g e => s _ _ e⟩
def spPlaces (C : Addr) : Sp := fun vs H Q _ => ∃ (a : Addr) (n : Nat) (gs : List Nat), vs = [.ref a] ∧ SchedAt H C a n gs ∧ Q (.int (n : Int)) H
def spGates (C : Addr) : Sp := fun vs H Q _ => ∃ (a : Addr) (n : Nat) (gs : List Nat), vs = [.ref a] ∧ SchedAt H C a n gs ∧ gs.length ≤ 400 ∧ NewL H gs Q
def spInit (C : Addr) : Sp := fun vs H Q _ => ∃ (x dx c : Addr) (n : Nat) (rs : List Addr) (gs : List Nat), vs = [.ref x, .int (n : Int), .ref c] ∧ H x = some (.ins C dx []) ∧ H c = some (.lst (rs.map V.ref)) ∧ Paired (CmpAt H) rs gs ∧
  1 ≤ n ∧ n ≤ 12 ∧ GOk n gs ∧ gs.length ≤ 400 ∧ ∀ H' : Hp, But x H H' → SchedAt H' C x n gs → Q .non H'
def spOf (K : PySem.W.Frag) (C : Addr) : Sp := fun vs H Q _ => ∃ (a : Addr) (n : Nat) (gs : List Nat), vs = [.ref C, .int (n : Int), .ref a, .int 1] ∧ SqL K H a (nV gs) ∧ 1 ≤ n ∧ n ≤ 12 ∧ GOk n gs ∧ gs.length ≤ 400 ∧
  ∀ (H' : Hp) (s : Addr), Same H H' → H s = none → SchedAt H' C s n gs → Q (.ref s) H'
/-- what the written part says of the class -/
structure SchC (K : PySem.W.Frag) (C : Addr) : Prop where
  cl : Cls K C
  nP : NoAttr K C "place_count"
  nR : NoAttr K C "rows"
theorem rs_len {H : Hp} {rs : List Addr} {gs : List Nat} (h : Paired (CmpAt H) rs gs) : rs.length = gs.length := Paired.length h
section
variable {P : Program} {w : World} {K : PySem.W.Frag} {mg : Str → Option Value} {base : Heap} {C : Addr}
theorem ok_places {f : Addr} {fd : FuncData} (F : Fun K "places" "Schedule.places" sPlaces f fd) (T : SchC K C) : FnOk P w K mg base CX0 1 f fd ["self"] (spPlaces C) := by
  refine F.ok scPlaces (fun vs H Q E h => ?_) (fun cdv A outer s H vs Q E hr h => ?_)
  · obtain ⟨a, n, gs, rfl, _⟩ := h
    rfl
  · obtain ⟨a, n, gs, rfl, ⟨dx, r, rs, h1, h2, h3⟩, q⟩ := h
    refine ⟨_, pss_one (ps_ret (pe_fld (pv 0) rfl)), ?_⟩
    exact ⟨_, rfl, a, C, dx, _, _, rfl, h1, T.cl, T.nP, rfl, q⟩
theorem ok_gates {f : Addr} {fd : FuncData} (F : Fun K "gates" "Schedule.gates" sGates f fd) (T : SchC K C) : FnOk P w K mg base CX0 1 f fd ["self"] (spGates C) := by
  refine F.ok scGates (fun vs H Q E h => ?_) (fun cdv A outer s H vs Q E hr h => ?_)
  · obtain ⟨a, n, gs, rfl, _⟩ := h
    rfl
  · obtain ⟨a, n, gs, rfl, ⟨dx, r, rs, h1, h2, h3⟩, hl, q⟩ := h
    refine ⟨_, pss_one (ps_ret (pe_lc (own := [("gate", 1), ("price", 2)]) (g := gTup K 2 (gCons (gName 1) (gCons (gName 2) gNil))) (tt := tYes) rfl scGates.nd (pi_list (pe_fld (pv 0) rfl))
      (blkOk_by (N := ["self", "gate", "price"]) (sc := defScope sGates) (by decide +kernel)) (fun _ _ _ _ _ => pg_tup rfl (pgs_cons (pg_name (i := 1) scGates.nd rfl (Or.inl rfl)) (pgs_cons (pg_name (i := 2) scGates.nd rfl (Or.inl rfl)) pgs_nil))) (fun _ _ _ _ _ => pts_nil)
      (fun _ _ _ _ _ => pv 1))), ?_⟩
    refine ⟨_, rfl, a, C, dx, _, _, rfl, h1, T.cl, T.nR, rfl, r, rfl, ⟨_, SqL.of h2⟩, ?_⟩
    refine fun D nD => lst_turns (xs := rs.map V.ref) (fun i H' => Same H H' ∧ H' D = some (.lst (nV (gs.take i)))) ⟨same_new nD, upd_same⟩ (fun i H' _ h => SqL.of (h.1 _ _ h2)) ?_ ?_
    · rintro i v H' hi ⟨sm, eD⟩
      obtain ⟨b, eb, rfl⟩ := rV_get hi
      obtain ⟨g, eg, hb⟩ := prd_get h3 eb
      refine ⟨b, _, rfl, .inl (.inl (sm _ _ hb)), rfl, _, _, rfl, _, _, rfl, rfl, rfl, ?_⟩
      refine ⟨_, rfl, _, eD, ?_, fun c u hc => ?_, ?_⟩
      · rw [nV_len, List.length_take]
        exact small1000 (by omega)
      · rw [upd_ne (ne_of_none hc nD)]
        exact sm c u hc
      · rw [upd_same, nV_app, List.take_add_one, eg]
        rfl
    · rintro H' ⟨sm, eD⟩
      have e : gs.take (rs.map V.ref).length = gs := List.take_of_length_le (by rw [List.length_map, rs_len h3]; exact Nat.le_refl _)
      rw [e] at eD
      exact q H' D sm nD eD
theorem ok_init {f : Addr} {fd : FuncData} (F : Fun K "__init__" "Schedule.__init__" sInit f fd) (T : SchC K C) (cB : Cl P w K mg base 2 "is_between" spBetween) (cC : Cl P w K mg base 4 "is_comparison" spIsCmp) {t1 t2 : Tok} (m1 : mg "MAX_PLACES" = some (.int 12 t1))
    (m2 : mg "MAX_COMPARISONS" = some (.int 400 t2)) (mi : mg "isinstance" = none) (mt : mg "list" = none) (ml : mg "len" = none) (me : mg "enumerate" = none) : FnOk P w K mg base CX0 5 f fd ["self", "places", "comparisons"] (spInit C) := by
  refine F.ok scInit (fun vs H Q E h => ?_) (fun cdv A outer s H vs Q E hr h => ?_)
  · obtain ⟨x, dx, c, n, rs, gs, rfl, _⟩ := h
    rfl
  · obtain ⟨x, dx, c, n, rs, gs, rfl, hx, hc, hrs, n1, n2, hG, hl, q⟩ := h
    refine ⟨_, pss_cons (ps_if (pt_not (pt_val (pe_cl cB (hr.mono (by decide)) (pa_cons (pv 1) (pa_cons pe_int (pa_cons (pe_glob (v := .int 12) (by rfl) m1 ⟨_, rfl⟩) pa_nil)))))) (pss_one ps_never) pss_nil)
      (pss_cons (ps_if (PW.pt (pw_or (pt_not (pt_val (pe_callB call_isi (by rfl) mi (by decide +kernel) (pa_cons (pv 2) (pa_cons (pe_bltn (v := .ty "list") (by rfl) mt (by decide +kernel) rfl) pa_nil)))))
          (pw_or1 (pt_cmpR op_gt (pe_callB call_len_seq (by rfl) ml PySem.boot_len (pa_cons (pv 2) pa_nil)) (pe_glob (v := .int 400) (by rfl) m2 ⟨_, rfl⟩) (nomark _))))) (pss_one ps_never) pss_nil)
      (pss_cons (ps_for PassesOwn.never rfl (pi_enum (by rfl) me (pa_cons (pv 2) pa_nil))
          (pg_tup rfl (pgs_cons (pg_name (i := 3) scInit.nd rfl (.inl rfl)) (pgs_cons (pg_name (i := 4) scInit.nd rfl (.inl rfl)) pgs_nil)))
          (pss_one (ps_if (pt_not (pt_val (pe_cl cC hr (pa_cons (pv 4) (pa_cons (pv 1) pa_nil))))) (pss_one ps_never) pss_nil)))
      (pss_cons (ps_fld (pv 0) (pv 1) rfl)
      (pss_one (ps_fld (pv 0) (pe_callTy call_list_of (by rfl) mt (by decide +kernel) (pa_cons (pv 2) pa_nil)) rfl))))), ?_⟩
    refine ⟨_, rfl, (n : Int), 1, 12, rfl, by omega, by omega, true, rfl, iteF ?_⟩
    refine ⟨_, rfl, _, _, _, _, true, rfl, .ty "list", .base (.lst hc), kit_ty (by decide +kernel), true, rfl, iteF ?_⟩
    refine ⟨_, rfl, c, _, rfl, .inl (SqL.of hc), _, _, rfl, rfl, _, rfl, ?_⟩
    have e400 : decide ((400 : Int) < ((rs.map V.ref).length : Int)) = false := decide_eq_false (by rw [List.length_map, rs_len hrs]; omega)
    show if decide ((400 : Int) < ((rs.map V.ref).length : Int)) = true then _ else _
    rw [e400]
    refine iteF ?_
    refine ⟨_, rfl, c, _, rfl, SqL.of hc, ?_⟩
    refine for_enu (xs := rs.map V.ref) (fun i σ H' => ∃ y3 y4, σ = [some (.ref x), some (.int (n : Int)), some (.ref c), y3, y4] ∧ Same H H') ⟨none, none, rfl, Same.refl H⟩ ?_ ?_ ?_
    · rintro i σ H' _ ⟨y3, y4, rfl, sm⟩
      exact SqL.of (sm _ _ hc)
    · rintro i v σ H' U hi ⟨y3, y4, rfl, sm⟩ nU
      obtain ⟨b, eb, rfl⟩ := rV_get hi
      obtain ⟨g, eg, hb⟩ := prd_get hrs eb
      have hg := hG g (List.mem_of_getElem? eg)
      refine ⟨U, _, rfl, .inl (.inl upd_same), rfl, _, _, rfl, _, _, rfl, rfl, ?_⟩
      refine ⟨_, rfl, _, rfl, b, (g : Int), (n : Int), rfl, same_new nU _ _ (sm _ _ hb), by omega, by omega, true, rfl, iteF ?_⟩
      exact ⟨_, _, rfl, sm.trans (same_new nU)⟩
    · rintro σ H' ⟨y3, y4, rfl, sm⟩
      refine ⟨_, rfl, _, rfl, x, C, dx, [], rfl, sm _ _ hx, T.cl, T.nP, by decide, ?_⟩
      have hc' : (upd H' x (.ins C dx (putF "place_count" (.int (n : Int)) []))) c = some (.lst (rs.map V.ref)) := by
        rw [upd_ne (ne_of hc hx (by intro z; cases z))]
        exact sm _ _ hc
      refine ⟨_, rfl, c, _, rfl, .inl (SqL.of hc'), fun l nl => ?_⟩
      have nlx : l ≠ x := fun z => by
        rw [z, upd_same] at nl
        cases nl
      refine ⟨_, rfl, x, C, dx, [("place_count", .int (n : Int))], rfl, ?_, T.cl, T.nR, (by show 1 < 1000; omega), ?_⟩
      · rw [upd_ne (Ne.symm nlx), upd_same]
        rfl
      refine q _ (fun b o hb e => ?_) ⟨dx, l, rs, ?_, ?_, Paired.mapP hrs fun b g e => ?_⟩
      · have nb : b ≠ l := fun z => by
          rw [z] at e
          rw [upd_ne nlx] at nl
          rw [sm _ _ e] at nl
          cases nl
        rw [upd_ne hb, upd_ne nb, upd_ne hb]
        exact sm _ _ e
      · rw [upd_same]
        rfl
      · rw [upd_ne nlx, upd_same]
      · have nbx : b ≠ x := ne_of e hx (by intro z; cases z)
        have nb : b ≠ l := fun z => by
          rw [z] at e
          rw [upd_ne nlx] at nl
          rw [sm _ _ e] at nl
          cases nl
        show _ = _
        rw [upd_ne nbx, upd_ne nb, upd_ne nbx]
        exact sm _ _ e
theorem ok_of {f fI : Addr} {fd fdI : FuncData} (F : FunD K "of_gates" "Schedule.of_gates" (defArgs sOf) (defBody sOf) (defScope sOf) [] [("price", .int 1)] f fd) (M : Mk K C fI) (FI : FnOk P w K mg base CX0 5 fI fdI ["self", "places", "comparisons"] (spInit C)) (bI : L2.Binds K fdI ["self", "places", "comparisons"] []) :
    FnOk P w K mg base CX0 7 f fd ["cls", "places", "gates", "price"] (spOf K C) := by
  refine F.ok scOf (fun vs H Q E h => ?_) (fun cdv A outer s H vs Q E hr h => ?_)
  · obtain ⟨a, n, gs, rfl, _⟩ := h
    rfl
  · obtain ⟨a, n, gs, rfl, hS, n1, n2, hG, hl, q⟩ := h
    refine ⟨_, PSs.nox (pss_one (ps_ret (pe_makeL (i := 0) M FI hr rfl (Or.inl rfl) bI pass0 (pa_cons (pv 1) (pa_cons
      (pe_lc (own := [("gate", 4)]) (g := gName 4) (tt := tYes) rfl scOf.nd (pi_list (pv 2)) (blkOk_by (N := ["cls", "places", "gates", "price", "gate"]) (sc := defScope sOf) (by decide +kernel)) (fun _ _ _ _ _ => pg_name (i := 4) scOf.nd rfl (Or.inl rfl)) (fun _ _ _ _ _ => pts_nil)
        (fun _ _ _ _ _ => pe_tup (pa_cons (pv 4) (pa_cons (pv 3) pa_nil)))) pa_nil))))), ?_⟩
    refine ⟨rfl, _, rfl, _, rfl, a, rfl, ⟨_, hS⟩, fun D nD => ?_⟩
    refine lst_turns (xs := nV gs) (fun i H' => Same H H' ∧ ∃ rs : List Addr, H' D = some (.lst (rs.map V.ref)) ∧ Paired (CmpAt H') rs (gs.take i)) ⟨same_new nD, [], upd_same, .nil⟩ (fun i H' _ h => h.1.seq hS) ?_ ?_
    · rintro i v H' hi ⟨sm, rs, eD, pr⟩
      obtain ⟨g, eg, rfl⟩ := nV_get hi
      have pl := rs_len pr
      rw [List.length_take] at pl
      refine ⟨rfl, _, rfl, _, rfl, (by show 2 ≤ sizeLine; decide), fun U nU => ?_⟩
      have nUD : U ≠ D := (ne_of_none eD nU).symm
      refine ⟨_, by rw [upd_ne (Ne.symm nUD)]; exact eD, by rw [List.length_map]; exact small1000 (by omega), fun b u hb => ?_, rs ++ [U], ?_, ?_⟩
      · rw [upd_ne (ne_of_none hb nD)]
        exact same_new nU b u (sm b u hb)
      · rw [upd_same, rV_app]
      · rw [List.take_add_one, eg]
        refine prd_snoc ?_ (Paired.mapP pr fun b g e => ?_)
        · show _ = _
          rw [upd_ne nUD, upd_same]
        · show _ = _
          rw [upd_ne (ne_of e eD (by intro z; cases z))]
          exact same_new nU _ _ e
    · rintro H' ⟨sm, rs, eD, pr⟩
      have e : gs.take (nV gs).length = gs := List.take_of_length_le (by rw [nV_len]; exact Nat.le_refl _)
      rw [e] at pr
      refine fun x dx nx ndx nex => ?_
      have s1 : Same H' (upd (upd H' dx (.own x)) x (.ins C dx [])) := fun b o e => by
        rw [upd_ne (ne_of_none e nx), upd_ne (ne_of_none e ndx)]
        exact e
      refine ⟨x, dx, D, n, rs, gs, rfl, upd_same, s1 _ _ eD, Paired.mapP pr fun b g e => s1 _ _ e, n1, n2, hG, hl, fun H2 b2 S2 => ⟨rfl, q H2 x ?_ (sm.free nx) S2⟩⟩
      exact But.same (sm.free nx) sm ((But.of s1).trans b2)
end
end BM
namespace BM
open PySem PySem.Spec PyProof.Rows L2 BR
abbrev sCap : Stmt := topS 28
theorem scCap : FnScope ["schedule", "missed", "found", "at", "left", "gate", "row"] ["schedule", "missed"] (defScope sCap) := ⟨rfl, rfl, rfl, by decide +kernel, rfl, by decide +kernel, by decide +kernel⟩
/-- what the written part says of Schedule's methods that are used -/
structure SchM (P : Program) (w : World) (K : PySem.W.Frag) (mg : Str → Option Value) (base : Heap) (C : Addr) : Prop where
  c : SchC K C
  pl : ∃ (p g : Addr) (fd : FuncData), PropOf K C "places" p g ∧ FnOk P w K mg base CX0 1 g fd ["self"] (spPlaces C) ∧ L2.Binds K fd ["self"] []
  ga : ∃ (g : Addr) (fd : FuncData), Meth K C "gates" g ∧ FnOk P w K mg base CX0 1 g fd ["self"] (spGates C) ∧ L2.Binds K fd ["self"] []
def MissAt (K : PySem.W.Frag) (H : Hp) (m : Addr) (gone : List Nat) : Prop := SqL K H m (nV gone) ∨ SqT K H m (nV gone)
theorem sqT_same {K : PySem.W.Frag} {H H' : Hp} {a : Addr} {xs : List V} (e : Same H H') (h : SqT K H a xs) : SqT K H' a xs := by
  rcases h with (h | ⟨o, h⟩) | h
  · exact .inl (.inl (e _ _ h))
  · exact .inl (.inr ⟨o, e _ _ h⟩)
  · exact .inr h
theorem MissAt.same {K : PySem.W.Frag} {H H' : Hp} {m : Addr} {gone : List Nat} (e : Same H H') (h : MissAt K H m gone) : MissAt K H' m gone := h.imp (Same.seq e) (sqT_same e)
def spCap (K : PySem.W.Frag) (C : Addr) : Sp := fun vs H Q _ => ∃ (a m : Addr) (n : Nat) (gs gone : List Nat), vs = [.ref a, .ref m] ∧ SchedAt H C a n gs ∧ n ≤ 12 ∧ GOk n gs ∧ gs.length ≤ 400 ∧ MissAt K H m gone ∧ gone.length ≤ 1 ∧
  ∀ (H' : Hp) (p : Addr), Same H H' → H p = none → TabAt H' p n (capL gone 0 gs free) → Q (.ref p) H'
theorem refs_ints {as : List Addr} {r : List Nat} {n : Nat} (h : as.length = n + 1) : HO.lst (as.map V.ref) ≠ HO.lst (nV r) := fun z => by
  have e := HO.lst.inj z
  cases as with
  | nil => cases h
  | cons a as =>
    cases r with
    | nil => cases e
    | cons x r =>
      have e0 : V.ref a = V.int (x : Int) := (List.cons.inj e).1
      cases e0
theorem capL_in {gone : List Nat} {i g : Nat} {gs : List Nat} {c : Tab} (h : i ∈ gone) : capL gone i (g :: gs) c = capL gone (i + 1) gs c := if_pos h
theorem capL_out {gone : List Nat} {i g : Nat} {gs : List Nat} {c : Tab} (h : i ∉ gone) : capL gone i (g :: gs) c = capL gone (i + 1) gs (col g c) := if_neg h
/-- an iterator over xs, whatever comes beside -/
def SeqIt (J : It) (xs : List V) (H0 : Hp) : Prop := ∀ (H : Hp), Same H0 H → ∀ i, (i < xs.length → J.go i H) ∧ (xs.length ≤ i → J.stop i H) ∧ ∀ x H', J.yld i H x H' → H' = H ∧ xs[i]? = some x
theorem any_walk {K : PySem.W.Frag} {i : Nat} {σ : L2.St} {H : Hp} {a : Addr} {xs : List V} {R : It → Hp → Prop} (hs : σ[i]? = some (some (.ref a))) (h : SqL K H a xs ∨ SqT K H a xs) (hR : ∀ J, SeqIt J xs H → R J H) :
    iList K (tVar i) σ H R ∨ iTup K (tVar i) σ H R := by
  rcases h with h | h
  · refine .inl ⟨_, hs, a, rfl, ⟨_, h⟩, hR _ fun H' sm j => ?_⟩
    have h' := sm.seq h
    exact ⟨fun hj => ⟨xs, xs[j], h', List.getElem?_eq_getElem hj⟩, fun hj => ⟨xs, h', hj⟩, fun x H2 y => ⟨y.1, y.2 xs (by rw [y.1] at *; exact h')⟩⟩
  · refine .inr ⟨_, hs, a, rfl, ⟨_, h⟩, hR _ fun H' sm j => ?_⟩
    have h' := sqT_same sm h
    exact ⟨fun hj => ⟨xs, xs[j], h', List.getElem?_eq_getElem hj⟩, fun hj => ⟨xs, h', hj⟩, fun x H2 y => ⟨y.1, y.2 xs (by rw [y.1] at *; exact h')⟩⟩
theorem seq_turns {Body : V → Hp → (Hp → Prop) → Prop} {Hs H0 : Hp} {Qd : Hp → Prop} {J : It} {xs : List V} (hJ : SeqIt J xs H0) (Pv : Nat → Hp → Prop) (h0 : Pv 0 Hs) (hl : ∀ i H, Pv i H → Same H0 H)
    (hs : ∀ i x H, xs[i]? = some x → Pv i H → Body x H (Pv (i + 1))) (hd : ∀ H, Pv xs.length H → Qd H) :
    ∃ W : Nat → Nat → Hp → Prop, (∃ m, W 0 m Hs) ∧ ∀ i m H, W i m H →
      (J.stop i H ∧ Qd H) ∨ (J.go i H ∧ ∃ Nx : Hp → Prop, (∀ H', Nx H' → ∃ m', m' < m ∧ W (i + 1) m' H') ∧ ∀ x H', J.yld i H x H' → Body x H' Nx) := by
  refine ⟨fun i m H => m = xs.length - i ∧ i ≤ xs.length ∧ Pv i H, ⟨xs.length, rfl, Nat.zero_le _, h0⟩, fun i m H hw => ?_⟩
  obtain ⟨em, hi, p⟩ := hw
  subst em
  obtain ⟨a1, a2, a3⟩ := hJ H (hl i H p) i
  rcases Nat.lt_or_ge i xs.length with hlt | hge
  · refine .inr ⟨a1 hlt, Pv (i + 1), fun H' p' => ⟨xs.length - (i + 1), by omega, rfl, hlt, p'⟩, fun x H' y => ?_⟩
    obtain ⟨y1, y2⟩ := a3 x H' y
    subst y1
    exact hs i x _ y2 p
  · have e : i = xs.length := Nat.le_antisymm hi hge
    subst e
    exact .inl ⟨a2 (Nat.le_refl _), hd H p⟩
section
variable {P : Program} {w : World} {K : PySem.W.Frag} {mg : Str → Option Value} {base : Heap} {C : Addr}
theorem ok_cap {f : Addr} {fd : FuncData} {kws : List (Str × V)} (F : FunD K "capacities" "capacities" (defArgs sCap) (defBody sCap) (defScope sCap) [] kws f fd) (S : SchM P w K mg base C) (cF : Cl P w K mg base 1 "free_table" spFree) (cP : Cl P w K mg base 1 "passed" (spPassed K)) (me : mg "enumerate" = none) :
    FnOk P w K mg base CX0 3 f fd ["schedule", "missed"] (spCap K C) := by
  obtain ⟨pp, pg, pfd, PP, PF, PB⟩ := S.pl
  obtain ⟨gg, gfd, GM, GF, GB⟩ := S.ga
  refine F.ok scCap (fun vs H Q E h => ?_) (fun cdv A outer s H vs Q E hr h => ?_)
  · obtain ⟨a, m, n, gs, gone, rfl, _⟩ := h
    rfl
  · obtain ⟨a, m, n, gs, gone, rfl, hS, hn, hG, hl, hM, hg1, q⟩ := h
    have hu := hu_of hr
    refine ⟨_, PSs.nox (pss_cons (ps_set (i := 2) scCap.nd rfl (.inl rfl) (pe_cl cF (hr.mono (by decide)) (pa_cons (pe_prop (pv 0) S.c.cl PP PF hr PB .nil pass0 rfl) pa_nil)))
      (pss_cons (ps_setDc (i := 4) (own := [("at", 3)]) (g := gName 3) (tt := tYes) rfl scCap.nd rfl rfl (sw_trueD rfl rfl rfl (by decide +kernel)) (pi_any (pv 1))
          (blkOk_by (N := ["schedule", "missed", "found", "at", "left", "gate", "row"]) (sc := defScope sCap) (by decide +kernel)) (fun _ _ _ _ _ => pg_name (i := 3) scCap.nd rfl (Or.inl rfl)) (fun _ _ _ _ _ => pts_nil) (fun _ _ _ _ _ => pv 3) (fun _ _ _ _ _ => pe_bl))
      (pss_cons (ps_for PassesOwn.never rfl (pi_enum (by rfl) me (pa_cons (pe_meth0 (pv 0) S.c.cl GM GF (hr.mono (by decide)) GB .nil pass0) pa_nil))
          (pg_tup rfl (pgs_cons (pg_name (i := 3) scCap.nd rfl (.inl rfl)) (pgs_cons (pg_name (i := 5) scCap.nd rfl (.inl rfl)) pgs_nil)))
          (pss_one (ps_if (pt_cmp (pc_dnotin hu (pv 3) (pv 4)))
            (pss_one (ps_for PassesOwn.never rfl (pi_list (pv 2)) (pg_name (i := 6) scCap.nd rfl (.inl rfl))
              (pss_one (ps_asg (pe_cl cP (hr.mono (by decide)) (pa_cons (pv 6) (pa_cons (pv 5) pa_nil))) (pg_sub (pv 6) (pv 5) set_list))))) pss_nil)))
      (pss_one (ps_ret (pv 2)))))), ?_⟩
    -- found = free_table(schedule.places)
    obtain ⟨sdx, sr, srs, s1, s2, s3⟩ := id hS
    refine ⟨_, rfl, a, sdx, _, rfl, s1, a, n, gs, rfl, hS, n, rfl, hn, fun H1 p as sm1 np e1 el R1 => ?_⟩
    -- left = {at: True for at in missed}
    refine any_walk rfl (MissAt.same sm1 hM) fun J hJ D nD => ?_
    refine seq_turns hJ (fun i H' => Same H1 H' ∧ ∃ kvs : List (Key × V), H' D = some (.dK kvs) ∧ kvs.length ≤ i ∧ ∀ j : Nat, (valV kvs (.inl (j : Int))).isSome = decide (j ∈ gone.take i))
      ⟨same_new nD, [], upd_same, Nat.le_refl _, fun j => by simp [valV_nil]⟩ (fun i H' h => h.1) ?_ ?_
    · rintro i v H' hi ⟨sm, kvs, eD, kl, kj⟩
      obtain ⟨z, ez, rfl⟩ := nV_get hi
      have hi1 : i < gone.length := (List.getElem?_eq_some_iff.mp ez).1
      refine ⟨rfl, _, rfl, kvs, .inl (z : Int), rfl, eD, small1000 (by omega), fun b u hb => ?_, _, upd_same, Nat.le_trans (length_putK _ _ _) (by omega), fun j => ?_⟩
      · rw [upd_ne (ne_of_none hb nD)]
        exact sm b u hb
      · rw [valV_put, List.take_add_one, ez]
        by_cases hj : j = z
        · subst hj
          simp
        · have hj' : ¬ (Sum.inl (j : Int) : Key) = Sum.inl (z : Int) := fun y => hj (by have := Sum.inl.inj y; omega)
          rw [if_neg hj', kj j]
          simp [hj]
    rintro H2 ⟨sm2, kvs, eD, _, kj0⟩
    have kj : ∀ j : Nat, (valV kvs (.inl (j : Int))).isSome = decide (j ∈ gone) := fun j => by
      rw [kj0 j, nV_len, List.take_length]
    clear kj0
    -- for at, gate in enumerate(schedule.gates())
    have sm12 : Same H H2 := sm1.trans sm2
    have hS2 := hS.same sm12
    obtain ⟨dx2, r2, rs2, t1, t2, t3⟩ := id hS2
    refine ⟨_, rfl, a, dx2, _, rfl, t1, rfl, a, n, gs, rfl, hS2, hl, fun H3 G sm3 nG eG => ?_⟩
    have hG3 : SqL K H3 G (nV gs) := SqL.of eG
    have eD3 : H3 D = some (.dK kvs) := sm3 _ _ eD
    have e3 : H3 p = some (.lst (as.map V.ref)) := sm3 _ _ (sm2 _ _ e1)
    have R3 : Rows H H3 as (rowL n free) := R1.mono fun b _ o e => sm3 _ _ (sm2 _ _ e)
    have G_as : G ∉ as := (R1.mono (fun b _ o e => sm2 _ _ e) : Rows H H2 as (rowL n free)).notin nG
    refine ⟨G, _, rfl, hG3, ?_⟩
    have p_as : ∀ {H' : Hp} {rs : Nat → List Nat}, H' p = some (.lst (as.map V.ref)) → Rows H H' as rs → p ∉ as := fun {H' rs} e R z => by
      obtain ⟨k, _, ek⟩ := R.there z
      rw [e] at ek
      exact refs_ints el (Option.some.inj ek)
    have D_as : ∀ {H' : Hp} {rs : Nat → List Nat}, H' D = some (.dK kvs) → Rows H H' as rs → D ∉ as := fun {H' rs} e R z => by
      obtain ⟨k, _, ek⟩ := R.there z
      rw [e] at ek
      cases ek
    refine for_enu (xs := nV gs) (fun i σ H' => ∃ y3 y5 y6, σ = [some (.ref a), some (.ref m), some (.ref p), y3, some (.ref D), y5, y6] ∧ Same H H' ∧ H' p = some (.lst (as.map V.ref)) ∧ H' D = some (.dK kvs) ∧ H' G = some (.lst (nV gs)) ∧
        ∃ c : Tab, Rows H H' as (rowL n c) ∧ capL gone i (gs.drop i) c = capL gone 0 gs free) ⟨none, none, none, rfl, sm12.trans sm3, e3, eD3, eG, free, R3, rfl⟩ ?_ ?_ ?_
    · rintro i σ H' _ ⟨y3, y5, y6, rfl, _, _, _, eG', _⟩
      exact SqL.of eG'
    · rintro i v σ H' U hi ⟨y3, y5, y6, rfl, sm, ep, eD', eG', c, R, hc⟩ nU
      obtain ⟨g, eg, rfl⟩ := nV_get hi
      have hgi : i < gs.length := (List.getElem?_eq_some_iff.mp eg).1
      have hgn := hG g (List.mem_of_getElem? eg)
      have dr : gs.drop i = g :: gs.drop (i + 1) := by
        rw [List.drop_eq_getElem_cons hgi, (List.getElem?_eq_some_iff.mp eg).2]
      rw [dr] at hc
      have smU : Same H' (upd H' U (.tup [.int (i : Int), .int (g : Int)])) := same_new nU
      refine ⟨U, _, rfl, .inl (.inl upd_same), rfl, _, _, rfl, _, _, rfl, rfl, ?_⟩
      refine ⟨_, rfl, _, rfl, D, _, rfl, DGet.k (k := Sum.inl (i : Int)) (smU _ _ eD'), _, rfl, ?_⟩
      rw [kj i]
      by_cases hmem : i ∈ gone
      · rw [capL_in hmem] at hc
        rw [decide_eq_true hmem]
        exact iteF ⟨_, _, _, rfl, sm.trans smU, smU _ _ ep, smU _ _ eD', smU _ _ eG', c, R.mono (fun b _ o e => smU _ _ e), hc⟩
      · rw [capL_out hmem] at hc
        rw [decide_eq_false hmem]
        show if true = true then _ else _
        refine iteT ?_
        -- for row in found
        refine ⟨_, rfl, p, rfl, ⟨_, SqL.of (smU _ _ ep)⟩, ?_⟩
        refine for_list (K := K) (a := p) (xs := as.map V.ref) (fun j σ H4 => ∃ y6, σ = [some (.ref a), some (.ref m), some (.ref p), some (.int (i : Int)), some (.ref D), some (.int (g : Int)), y6] ∧ Same H H4 ∧ H4 p = some (.lst (as.map V.ref)) ∧ H4 D = some (.dK kvs) ∧ H4 G = some (.lst (nV gs)) ∧
            Rows H H4 as (fun k => rowL n (if k < j then col g c else c) k)) ⟨_, rfl, sm.trans smU, smU _ _ ep, smU _ _ eD', smU _ _ eG', R.mono fun b _ o e => smU _ _ e⟩ ?_ ?_ ?_
        · rintro j σ H4 _ ⟨_, _, _, ep4, _⟩
          exact SqL.of ep4
        · rintro j v σ H4 hj ⟨y6, rfl, sm4, ep4, eD4, eG4, R4⟩
          obtain ⟨b, eb, rfl⟩ := rV_get hj
          have hb := R4.2.2 j b eb
          have hbm : b ∈ as := List.mem_of_getElem? eb
          have hjn : j < n + 1 := by
            rw [← el]
            exact (List.getElem?_eq_some_iff.mp eb).1
          have hb' : H4 b = some (.lst (nV (rowL n c j))) := by
            have hb2 := hb
            simp only [Nat.lt_irrefl, if_false] at hb2
            exact hb2
          refine ⟨_, rfl, _, rfl, b, g, rowL n c j, rfl, SqL.of hb', hgn.1, by rw [rowL_len]; omega, ?_⟩
          rw [rowL_at (by omega), rowL_at (by omega)]
          refine ⟨_, rfl, _, rfl, b, _, _, g, rfl, rfl, hb', ixN_nat (by rw [nV_len, rowL_len]; omega), ?_⟩
          rw [nV_set, rowL_set]
          refine ⟨_, rfl, fun d o e => ?_, ?_, ?_, ?_, ?_⟩
          · have hd : d ≠ b := ne_of_none e (R4.2.1 b hbm)
            rw [upd_ne hd]
            exact sm4 d o e
          · rw [upd_ne (fun z => p_as ep4 R4 (by rw [z]; exact hbm))]
            exact ep4
          · rw [upd_ne (fun z => D_as eD4 R4 (by rw [z]; exact hbm))]
            exact eD4
          · rw [upd_ne (fun z => G_as (by rw [z]; exact hbm))]
            exact eG4
          · refine ⟨R4.1, R4.2.1, fun k d ed => ?_⟩
            by_cases hk : k = j
            · subst hk
              have edb : d = b := Option.some.inj (ed.symm.trans eb)
              subst edb
              rw [upd_same]
              show some (HO.lst (nV (rowL n (col g c) k))) = some (HO.lst (nV (rowL n (if k < k + 1 then col g c else c) k)))
              rw [if_pos (Nat.lt_succ_self k)]
            · have hdb : d ≠ b := fun z => hk (by rw [z] at ed; exact nd_ix R4.1 ed eb)
              rw [upd_ne hdb, R4.2.2 k d ed]
              show some (HO.lst (nV (rowL n (if k < j then col g c else c) k))) = some (HO.lst (nV (rowL n (if k < j + 1 then col g c else c) k)))
              by_cases hkj : k < j
              · rw [if_pos hkj, if_pos (by omega)]
              · rw [if_neg hkj, if_neg (by omega)]
        · rintro σ H4 ⟨y6, rfl, sm4, ep4, eD4, eG4, R4⟩
          refine ⟨_, _, _, rfl, sm4, ep4, eD4, eG4, col g c, ⟨R4.1, R4.2.1, fun k d ed => ?_⟩, hc⟩
          have hk : k < (as.map V.ref).length := by
            rw [List.length_map]
            exact (List.getElem?_eq_some_iff.mp ed).1
          rw [R4.2.2 k d ed]
          show some (HO.lst (nV (rowL n (if k < (as.map V.ref).length then col g c else c) k))) = _
          rw [if_pos hk]
    · rintro σ H' ⟨y3, y5, y6, rfl, sm, ep, eD', eG', c, R, hc⟩
      rw [nV_len, List.drop_length] at hc
      have hc' : c = capL gone 0 gs free := hc
      refine ⟨_, rfl, q H' p sm np ⟨as, ep, el, fun k b e => ?_⟩⟩
      rw [← hc']
      exact R.2.2 k b e
end
end BM
namespace BM
open PySem PySem.Spec PyProof.Rows L2 BR
abbrev sWp : Stmt := topS 18
abbrev sDem : Stmt := topS 19
abbrev sMoved : Stmt := topS 30
abbrev sNew : Stmt := topS 31
abbrev sCells : Stmt := topS 32
theorem scWp : FnScope ["order", "places", "many", "low", "high"] ["order"] (defScope sWp) := ⟨rfl, rfl, rfl, by decide +kernel, rfl, by decide +kernel, by decide +kernel⟩
theorem scDem : FnScope ["order", "found", "rank", "t", "many"] ["order"] (defScope sDem) := ⟨rfl, rfl, rfl, by decide +kernel, rfl, by decide +kernel, by decide +kernel⟩
theorem scMoved : FnScope ["start", "end", "places", "rank"] ["start", "end"] (defScope sMoved) := ⟨rfl, rfl, rfl, by decide +kernel, rfl, by decide +kernel, by decide +kernel⟩
theorem scNew : FnScope ["start", "end", "elder", "pair"] ["start", "end"] (defScope sNew) := ⟨rfl, rfl, rfl, by decide +kernel, rfl, by decide +kernel, by decide +kernel⟩
theorem scCells : FnScope ["counts", "table", "many", "k", "t"] ["counts", "table"] (defScope sCells) := ⟨rfl, rfl, rfl, by decide +kernel, rfl, by decide +kernel, by decide +kernel⟩
/-! ### lists of pairs -/
abbrev PrAt (H : Hp) (b : Addr) (q : Nat × Nat) : Prop := H b = some (.tup [.int (q.1 : Int), .int (q.2 : Int)])
def PrsAt (H : Hp) (p : Addr) (ps : List (Nat × Nat)) : Prop := ∃ as : List Addr, H p = some (.lst (as.map V.ref)) ∧ Paired (PrAt H) as ps
theorem PrsAt.same {H H' : Hp} {p : Addr} {ps : List (Nat × Nat)} (h : PrsAt H p ps) (s : Same H H') : PrsAt H' p ps := by
  obtain ⟨as, h1, h2⟩ := h
  exact ⟨as, s _ _ h1, Paired.mapP h2 fun b q e => s _ _ e⟩
/-- a new list of pairs -/
def NewP (H : Hp) (ps : List (Nat × Nat)) (Q : VK) : Prop := ∀ (H' : Hp) (p : Addr), Same H H' → H p = none → PrsAt H' p ps → Q (.ref p) H'
/-- a pair more -/
theorem PrsAt.snoc {H H' : Hp} {D T : Addr} {ps : List (Nat × Nat)} {q : Nat × Nat} {as : List Addr} (h2 : Paired (PrAt H) as ps) (sm : Same H H') (eT : H' T = some (.tup [.int (q.1 : Int), .int (q.2 : Int)])) (eD : H' D = some (.lst (as.map V.ref))) :
    PrsAt (upd H' D (.lst (as.map V.ref ++ [.ref T]))) D (ps ++ [q]) := by
  refine ⟨as ++ [T], by rw [upd_same, rV_app], ?_⟩
  have key : ∀ (b : Addr) (r : Nat × Nat), PrAt H' b r → PrAt (upd H' D (.lst (as.map V.ref ++ [.ref T]))) b r := fun b r e => by
    have e' : H' b = some (.tup [.int (r.1 : Int), .int (r.2 : Int)]) := e
    show upd H' D _ b = _
    rw [upd_ne (ne_of e' eD (by intro z; cases z))]
    exact e'
  exact prd_snoc (key T q eT) (Paired.mapP h2 fun b r e => key b r (sm _ _ e))
theorem same_but {H0 H' : Hp} {D : Addr} {o : HO} (nD : H0 D = none) (s : Same H0 H') : Same H0 (upd H' D o) := fun b u hb => by
  rw [upd_ne (ne_of_none hb nD)]
  exact s b u hb
def spWp (K : PySem.W.Frag) : Sp := fun vs H Q _ => ∃ (a : Addr) (n : Nat) (x : List Nat), vs = [.ref a] ∧ SqL K H a (nV x) ∧ IsOrd n x ∧ n ≤ 12 ∧ NewP H (wpL n x) Q
def spCells : Sp := fun vs H Q _ => ∃ (a b : Addr) (n : Nat) (c d : Tab), vs = [.ref a, .ref b] ∧ TabAt H a n c ∧ TabAt H b n d ∧ n ≤ 12 ∧ NewP H (cellL n c d) Q
def spDem (K : PySem.W.Frag) : Sp := fun vs H Q _ => ∃ (a : Addr) (x : List Nat), vs = [.ref a] ∧ SqL K H a (nV x) ∧ x.length ≤ 12 ∧ ∀ (H' : Hp) (p : Addr), Same H H' → H p = none → TabAt H' p x.length (dem x) → Q (.ref p) H'
def spMoved (K : PySem.W.Frag) : Sp := fun vs H Q _ => ∃ (a b : Addr) (n : Nat) (x y : List Nat), vs = [.ref a, .ref b] ∧ SqL K H a (nV x) ∧ SqL K H b (nV y) ∧ IsOrd n x ∧ IsOrd n y ∧ n ≤ 12 ∧
  ∀ (H' : Hp) (p : Addr), Same H H' → H p = none → TabAt H' p n (mv y x) → Q (.ref p) H'
def spNew (K : PySem.W.Frag) : Sp := fun vs H Q _ => ∃ (a b : Addr) (n : Nat) (x y : List Nat), vs = [.ref a, .ref b] ∧ SqL K H a (nV x) ∧ SqL K H b (nV y) ∧ IsOrd n x ∧ IsOrd n y ∧ n ≤ 12 ∧ NewP H (newL n x y) Q
theorem n13 {n : Nat} (h : n ≤ 12) : n * 12 ≤ 144 := by omega
section
variable {P : Program} {w : World} {K : PySem.W.Frag} {mg : Str → Option Value} {base : Heap}
theorem ok_wp (D : Gd K mg "wrong_pairs" sWp ["order"]) (cI : Cl P w K mg base 1 "inverse" (spInverse K)) (ml : mg "len" = none) (mr : mg "range" = none) : Cl P w K mg base 2 "wrong_pairs" (spWp K) := by
  refine cl_of D scWp (fun vs H Q E h => ?_) (fun f cdv A outer s H vs Q E hr h => ?_)
  · obtain ⟨a, n, x, rfl, _⟩ := h
    rfl
  · obtain ⟨a, n, x, rfl, hS, hx, hn, q⟩ := h
    refine ⟨_, pss_cons (ps_set (i := 1) scWp.nd rfl (.inr rfl) (pe_cl cI hr (pa_cons (pv 0) pa_nil)))
      (pss_cons (ps_set (i := 2) scWp.nd rfl (.inr rfl) (pe_callB call_len_seq (by rfl) ml PySem.boot_len (pa_cons (pv 0) pa_nil)))
      (pss_one (ps_ret (pe_lc2 (own := [("low", 3), ("high", 4)]) (vs1 := [4]) (g := gName 3) (g1 := gName 4) (tt := tYes) rfl scWp.nd (pi_range1 (by rfl) mr (pa_cons (pv 2) pa_nil)) (blkOk_by (N := ["order", "places", "many", "low", "high"]) (sc := defScope sWp) (by decide +kernel)) (by decide)
        (fun _ _ _ _ _ => pg_name (i := 3) scWp.nd rfl (Or.inl rfl)) (fun _ _ _ _ _ => pts_nil)
        (fun _ _ _ _ _ => pi_range2 (by rfl) mr (pa_cons (pe_op op_add (pv 3) pe_int) (pa_cons (pv 2) pa_nil))) (fun _ _ _ _ _ => pg_name (i := 4) scWp.nd rfl (Or.inl rfl))
        (fun _ _ _ _ _ => pts_one (pt_cmpR op_lt (pe_ix (r := rIxL K) ix_list (pv 1) (pv 4) (fun _ _ => rfl)) (pe_ix (r := rIxL K) ix_list (pv 1) (pv 3) (fun _ _ => rfl)) (nomark _)))
        (fun _ _ _ _ _ => pe_tup (pa_cons (pv 3) (pa_cons (pv 4) pa_nil))))))), ?_⟩
    refine ⟨_, rfl, a, n, x, rfl, hS, hx, hn, fun H1 I sm1 nI eI => ?_⟩
    refine ⟨_, rfl, a, _, rfl, .inl (sm1.seq hS), ?_⟩
    rw [nV_len, hx.len]
    refine ⟨_, rfl, (n : Int), rfl, by omega, by omega, ?_⟩
    refine fun L nL => rng_turns (n := n) (fun i H' => Same H1 H' ∧ PrsAt H' L (dbl i (fun k => k + 1) (fun k => n - (k + 1)) fun low high => decide (x.idxOf high < x.idxOf low))) ⟨same_new nL, [], upd_same, .nil⟩ ?_ ?_
    · rintro i H2 hi ⟨sm2, pr⟩
      refine ⟨rfl, _, rfl, _, _, rfl, rfl, _, rfl, _, _, rfl, ⟨by omega, by omega, by omega, by omega⟩, ?_⟩
      have et : ((n : Int) - (0 + (i : Int) + 1)).toNat = n - (i + 1) := by omega
      rw [et]
      refine rng_turns (fun j H' => Same H1 H' ∧ PrsAt H' L (dbl i (fun k => k + 1) (fun k => n - (k + 1)) (fun low high => decide (x.idxOf high < x.idxOf low)) ++ inn i (i + 1) (fun high => decide (x.idxOf high < x.idxOf i)) j)) ?_ ?_ ?_
      · rw [inn_zero, List.append_nil]
        exact ⟨sm2, pr⟩
      · rintro j H3 hj ⟨sm3, pr3⟩
        have hI : SqL K H3 I (nV (invL n x)) := SqL.of (sm3 _ _ eI)
        refine ⟨rfl, _, rfl, _, rfl, I, _, _, _, rfl, rfl, hI, nV_ix (i := i + 1 + j) (by omega) (by rw [invL_len]; omega), _, rfl, _, rfl, I, _, _, _, rfl, rfl, hI, nV_ix (i := i) (by omega) (by rw [invL_len]; omega), _, _, rfl, rfl, _, rfl, ?_⟩
        rw [invL_at (by omega), invL_at hi]
        have ec : decide (((x.idxOf (i + 1 + j) : Nat) : Int) < ((x.idxOf i : Nat) : Int)) = decide (x.idxOf (i + 1 + j) < x.idxOf i) := by
          rw [decide_eq_decide]
          omega
        rw [ec]
        by_cases c : x.idxOf (i + 1 + j) < x.idxOf i
        · rw [decide_eq_true c]
          refine iteT ⟨_, rfl, _, rfl, (by show 2 ≤ sizeLine; decide), fun T nT => ?_⟩
          obtain ⟨as, e1, e2⟩ := pr3
          have smT : Same H3 (upd H3 T (.tup [.int (0 + (i : Int)), .int (0 + (i : Int) + 1 + (j : Int))])) := same_new nT
          have hl : as.length ≤ 1000 := by
            have a1 := Paired.length e2
            rw [List.length_append] at a1
            have a2 := dbl_len (b := 12) (fun k => k + 1) (m := fun k => n - (k + 1)) (fun k => by omega) (fun low high => decide (x.idxOf high < x.idxOf low)) i
            have a3 := inn_len i (i + 1) (fun high => decide (x.idxOf high < x.idxOf i)) j
            omega
          refine ⟨_, smT _ _ e1, by rw [List.length_map]; exact small1000 hl, same_but nL (sm3.trans smT), ?_⟩
          rw [inn_yes (decide_eq_true c), ← List.append_assoc]
          refine PrsAt.snoc e2 smT ?_ (smT _ _ e1)
          rw [upd_same]
          have q1 : (0 + (i : Int)) = ((i : Nat) : Int) := by omega
          have q2 : (0 + (i : Int) + 1 + (j : Int)) = ((i + 1 + j : Nat) : Int) := by omega
          rw [q2, q1]
        · rw [decide_eq_false c]
          refine iteF ⟨sm3, ?_⟩
          rw [inn_no (decide_eq_false c)]
          exact pr3
      · rintro H3 ⟨sm3, pr3⟩
        refine ⟨sm3, ?_⟩
        rw [dbl_step]
        exact pr3
    · rintro H2 ⟨sm2, pr⟩
      exact q H2 L (sm1.trans sm2) (sm1.free nL) pr
theorem ok_cells (D : Gd K mg "cells_above" sCells ["counts", "table"]) (ml : mg "len" = none) (mr : mg "range" = none) : Cl P w K mg base 1 "cells_above" spCells := by
  refine cl_of D scCells (fun vs H Q E h => ?_) (fun f cdv A outer s H vs Q E hr h => ?_)
  · obtain ⟨a, b, n, c, d, rfl, _⟩ := h
    rfl
  · obtain ⟨a, b, n, c, d, rfl, hc, hd, hn, q⟩ := h
    refine ⟨_, pss_cons (ps_set (i := 2) scCells.nd rfl (.inr rfl) (pe_callB call_len_seq (by rfl) ml PySem.boot_len (pa_cons (pv 1) pa_nil)))
      (pss_one (ps_ret (pe_lc2 (own := [("k", 3), ("t", 4)]) (vs1 := [4]) (g := gName 3) (g1 := gName 4) (tt := tYes) rfl scCells.nd (pi_range1 (by rfl) mr (pa_cons (pv 2) pa_nil)) (blkOk_by (N := ["counts", "table", "many", "k", "t"]) (sc := defScope sCells) (by decide +kernel)) (by decide)
        (fun _ _ _ _ _ => pg_name (i := 3) scCells.nd rfl (Or.inl rfl)) (fun _ _ _ _ _ => pts_nil)
        (fun _ _ _ _ _ => pi_range1 (by rfl) mr (pa_cons (pv 2) pa_nil)) (fun _ _ _ _ _ => pg_name (i := 4) scCells.nd rfl (Or.inl rfl))
        (fun _ _ _ _ _ => pts_one (pt_cmpR op_gt (pe_ix (r := rIxL K) ix_list (pe_ix (r := rIxL K) ix_list (pv 0) (pv 3) (fun _ _ => rfl)) (pv 4) (fun _ _ => rfl)) (pe_ix (r := rIxL K) ix_list (pe_ix (r := rIxL K) ix_list (pv 1) (pv 3) (fun _ _ => rfl)) (pv 4) (fun _ _ => rfl)) (nomark _)))
        (fun _ _ _ _ _ => pe_tup (pa_cons (pv 3) (pa_cons (pv 4) pa_nil)))))), ?_⟩
    obtain ⟨bs, hb1, hb2, hb3⟩ := id hd
    refine ⟨_, rfl, b, _, rfl, .inl (SqL.of hb1), ?_⟩
    rw [List.length_map, hb2]
    refine ⟨_, rfl, ((n + 1 : Nat) : Int), rfl, by omega, by omega, ?_⟩
    rw [Int.toNat_natCast]
    refine fun L nL => rng_turns (n := n + 1) (fun i H' => Same H H' ∧ PrsAt H' L (dbl i (fun _ => 0) (fun _ => n + 1) fun k t => decide (d k t < c k t))) ⟨same_new nL, [], upd_same, .nil⟩ ?_ ?_
    · rintro i H2 hi ⟨sm2, pr⟩
      refine ⟨rfl, _, rfl, ((n + 1 : Nat) : Int), rfl, by omega, by omega, ?_⟩
      rw [Int.toNat_natCast]
      refine rng_turns (fun j H' => Same H H' ∧ PrsAt H' L (dbl i (fun _ => 0) (fun _ => n + 1) (fun k t => decide (d k t < c k t)) ++ inn i 0 (fun t => decide (d i t < c i t)) j)) ?_ ?_ ?_
      · rw [inn_zero, List.append_nil]
        exact ⟨sm2, pr⟩
      · rintro j H3 hj ⟨sm3, pr3⟩
        obtain ⟨as3, ra, u1, u2, u3⟩ := (hc.same sm3).row (k := i) (by omega)
        obtain ⟨bs3, rb, v1, v2, v3⟩ := (hd.same sm3).row (k := i) (by omega)
        refine ⟨rfl, _, rfl, _, rfl, a, _, _, .ref ra, rfl, rfl, SqL.of u1, at_of (j := i) (by omega) (by rw [List.getElem?_map, u2]; rfl), _, rfl, ra, _, _, _, rfl, rfl, SqL.of u3, nV_ix (i := j) (by omega) (by rw [rowL_len]; omega),
          _, rfl, _, rfl, b, _, _, .ref rb, rfl, rfl, SqL.of v1, at_of (j := i) (by omega) (by rw [List.getElem?_map, v2]; rfl), _, rfl, rb, _, _, _, rfl, rfl, SqL.of v3, nV_ix (i := j) (by omega) (by rw [rowL_len]; omega), _, _, rfl, rfl, _, rfl, ?_⟩
        rw [rowL_at (by omega), rowL_at (by omega)]
        have ec : decide (((d i j : Nat) : Int) < ((c i j : Nat) : Int)) = decide (d i j < c i j) := by
          rw [decide_eq_decide]
          omega
        rw [ec]
        by_cases cc : d i j < c i j
        · rw [decide_eq_true cc]
          refine iteT ⟨_, rfl, _, rfl, (by show 2 ≤ sizeLine; decide), fun T nT => ?_⟩
          obtain ⟨as, e1, e2⟩ := pr3
          have smT : Same H3 (upd H3 T (.tup [.int (0 + (i : Int)), .int (0 + (j : Int))])) := same_new nT
          have hl : as.length ≤ 1000 := by
            have a1 := Paired.length e2
            rw [List.length_append] at a1
            have a2 := dbl_len (b := 13) (fun _ => 0) (m := fun _ => n + 1) (fun k => by omega) (fun k t => decide (d k t < c k t)) i
            have a3 := inn_len i 0 (fun t => decide (d i t < c i t)) j
            omega
          refine ⟨_, smT _ _ e1, by rw [List.length_map]; exact small1000 hl, same_but nL (sm3.trans smT), ?_⟩
          have e0 : (decide (d i (0 + j) < c i (0 + j))) = true := by rw [Nat.zero_add]; exact decide_eq_true cc
          rw [inn_yes e0, ← List.append_assoc]
          refine PrsAt.snoc e2 smT ?_ (smT _ _ e1)
          rw [upd_same]
          have q1 : (0 + (i : Int)) = ((i : Nat) : Int) := by omega
          have q2 : (0 + (j : Int)) = ((0 + j : Nat) : Int) := by omega
          rw [q1, q2]
        · rw [decide_eq_false cc]
          refine iteF ⟨sm3, ?_⟩
          have e0 : (decide (d i (0 + j) < c i (0 + j))) = false := by rw [Nat.zero_add]; exact decide_eq_false cc
          rw [inn_no e0]
          exact pr3
      · rintro H3 ⟨sm3, pr3⟩
        refine ⟨sm3, ?_⟩
        rw [dbl_step]
        exact pr3
    · rintro H2 ⟨sm2, pr⟩
      exact q H2 L sm2 nL pr
end
end BM
namespace BM
open PySem PySem.Spec PyProof.Rows L2 BR
theorem prD_dp {K : PySem.W.Frag} {H : Hp} {b : Addr} {q : Nat × Nat} (h : PrAt H b q) : Dp K H (.ref b) (prD q) := .tup (SqT.of h) (.cons (.int _) (.cons (.int _) .nil))
theorem prD_all {K : PySem.W.Frag} {H : Hp} : ∀ {as : List Addr} {ps : List (Nat × Nat)}, Paired (PrAt H) as ps → DpAll K H (as.map V.ref) (ps.map prD)
  | _, _, .nil => .nil
  | _, _, .cons r t => .cons (prD_dp r) (prD_all t)
theorem PrsAt.dp {K : PySem.W.Frag} {H : Hp} {p : Addr} {ps : List (Nat × Nat)} (h : PrsAt H p ps) : Dp K H (.ref p) (.list (ps.map prD)) := by
  obtain ⟨as, h1, h2⟩ := h
  exact .lst (SqL.of h1) (prD_all h2)
section
variable {P : Program} {w : World} {K : PySem.W.Frag} {mg : Str → Option Value} {base : Heap}
theorem ok_dem (D : Gd K mg "demands" sDem ["order"]) (ml : mg "len" = none) (me : mg "enumerate" = none) (mt : mg "int" = none) : Cl P w K mg base 1 "demands" (spDem K) := by
  refine cl_of D scDem (fun vs H Q E h => ?_) (fun f cdv A outer s H vs Q E hr h => ?_)
  · obtain ⟨a, x, rfl, _⟩ := h
    rfl
  · obtain ⟨a, x, rfl, hS, hn, q⟩ := h
    refine ⟨_, pss_cons (ps_set (i := 1) scDem.nd rfl (.inl rfl) (pe_lst (pa_cons (pe_op op_rep (pe_lst (pa_cons pe_int pa_nil)) (pe_op op_add (pe_callB call_len_seq (by rfl) ml PySem.boot_len (pa_cons (pv 0) pa_nil)) pe_int)) pa_nil)))
      (pss_cons (ps_for PassesOwn.never rfl (pi_list (pv 0)) (pg_name (i := 2) scDem.nd rfl (.inr rfl))
        (pss_one (ps_expr (pe_bm PySem.F.plainAttrs_list PySem.F.slot_list_append PySem.F.type_list_append mt_append (pv 1) (pa_cons
          (pe_lc (own := [("t", 3), ("many", 4)]) (g := gTup K 2 (gCons (gName 3) (gCons (gName 4) gNil))) (tt := tYes) rfl scDem.nd (pi_enum (by rfl) me (pa_cons (pe_ix ix_list (pv 1) (pe_un un_neg pe_int) (fun _ _ => rfl)) pa_nil))
            (blkOk_by (N := ["order", "found", "rank", "t", "many"]) (sc := defScope sDem) (by decide +kernel)) (fun _ _ _ _ _ => pg_tup rfl (pgs_cons (pg_name (i := 3) scDem.nd rfl (Or.inl rfl)) (pgs_cons (pg_name (i := 4) scDem.nd rfl (Or.inl rfl)) pgs_nil))) (fun _ _ _ _ _ => pts_nil)
            (fun _ _ _ _ _ => pe_op op_add (pv 4) (pe_callTy call_int1 (by rfl) mt (by decide +kernel) (pa_cons (pe_cmpR op_ge (pv 2) (pv 3) (nomark _)) pa_nil)))) pa_nil)))))
      (pss_one (ps_ret (pv 1)))), ?_⟩
    refine ⟨(by show 1 ≤ sizeLine; decide), fun z nz => ?_⟩
    have s1 : Same H (upd H z (.lst [.int 0])) := same_new nz
    refine ⟨_, rfl, a, nV x, rfl, .inl (s1.seq hS), _, _, rfl, rfl, z, _, _, rfl, rfl, upd_same, ?_, ?_, ?_, fun o no => ?_⟩
    · omega
    · rw [nV_len]
      omega
    · rw [nV_len]
      exact Nat.le_trans (Nat.mul_le_mul_left _ (show ((x.length : Int) + 1).toNat ≤ 13 by omega)) (by show 13 ≤ sizeLine; decide)
    have e0 : (List.replicate (((nV x).length : Int) + 1).toNat [V.int 0]).flatten = nV (rowL x.length (dem x) 0) := by
      rw [nV_len, toN]
      have e : rowL x.length (dem x) 0 = List.replicate (x.length + 1) 0 := by
        unfold rowL
        refine List.ext_getElem (by simp) fun i h1 h2 => ?_
        simp [dem_zero]
      rw [e]
      generalize x.length + 1 = m
      induction m with
      | zero => rfl
      | succ m ih =>
        rw [List.replicate_succ, List.flatten_cons, ih, List.replicate_succ]
        rfl
    rw [e0]
    have s2 : Same H (upd (upd H z (.lst [.int 0])) o (.lst (nV (rowL x.length (dem x) 0)))) := s1.trans (same_new no)
    have noH : H o = none := s1.free no
    refine ⟨(by show 1 ≤ sizeLine; decide), fun p np => ?_⟩
    have hop : o ≠ p := fun e => by
      rw [← e, upd_same] at np
      cases np
    have s3 := s2.trans (same_new np (o := .lst [.ref o]))
    have npH : H p = none := s2.free np
    refine ⟨_, rfl, a, rfl, ⟨_, s3.seq hS⟩, for_list (K := K) (a := a) (xs := nV x) (fun i σ H' => ∃ y2, σ = [some (.ref a), some (.ref p), y2, none, none] ∧ Same H H' ∧ ∃ as : List Addr, H' p = some (.lst (as.map V.ref)) ∧ as.length = i + 1 ∧ p ∉ as ∧
      ∀ (k : Nat) (b : Addr), as[k]? = some b → H' b = some (.lst (nV (rowL x.length (dem x) k)))) ⟨none, rfl, s3, [o], upd_same, rfl, by simpa using Ne.symm hop, ?_⟩ ?_ ?_ ?_⟩
    · intro k b e
      cases k with
      | zero =>
        have : o = b := Option.some.inj e
        subst this
        rw [upd_ne hop, upd_same]
      | succ k => simp at e
    · rintro i σ H' _ ⟨y2, rfl, sm, _⟩
      exact sm.seq hS
    · rintro i v σ H' hi ⟨y2, rfl, sm, as, ep, el, pn, hk⟩
      obtain ⟨r, er, rfl⟩ := nV_get hi
      have hix : i < x.length := (List.getElem?_eq_some_iff.mp er).1
      have hlast : as[i]? = some (as[i]'(by omega)) := List.getElem?_eq_getElem (by omega)
      generalize hb : as[i]'(by omega) = b at hlast
      have hbr := hk i b hlast
      have hatl : atI (as.map V.ref) (-1) = some (.ref b) := by
        have e1 : as.map V.ref = (as.map V.ref).dropLast ++ [.ref b] := by
          have ne : as.map V.ref ≠ [] := fun z => by
            have := congrArg List.length z
            rw [List.length_map, el] at this
            cases this
          have e2 := List.dropLast_concat_getLast ne
          have e3 : (as.map V.ref).getLast ne = .ref b := by
            rw [List.getLast_eq_getElem]
            have : (as.map V.ref).length - 1 = i := by rw [List.length_map]; omega
            simp only [this, List.getElem_map, hb]
          rw [e3] at e2
          exact e2.symm
        rw [e1]
        exact atI_last _ _
      refine ⟨_, rfl, .inl ⟨rfl, _, SqL.of ep⟩, _, rfl, 1, rfl, p, _, _, _, rfl, rfl, SqL.of ep, hatl, b, _, rfl, SqL.of hbr, fun Z nZ => ?_⟩
      refine enu_turns (xs := nV (rowL x.length (dem x) i)) (fun j H2 => Same H' H2 ∧ H2 Z = some (.lst (nV ((List.range j).map (dem x (i + 1)))))) ⟨same_new nZ, upd_same⟩ (fun j H2 _ h => SqL.of (h.1 _ _ hbr)) ?_ ?_
      · rintro j u H2 T hj ⟨sm2, eZ⟩ nT
        obtain ⟨m, em, rfl⟩ := nV_get hj
        have hjn : j < x.length + 1 := by
          rw [← rowL_len x.length (dem x) i]
          exact (List.getElem?_eq_some_iff.mp em).1
        have em2 : m = dem x i j := by
          rw [← at0_of em, rowL_at (by omega)]
        have smT : Same H2 (upd H2 T (.tup [.int (j : Int), .int (m : Int)])) := same_new nT
        refine ⟨T, _, rfl, .inl (.inl upd_same), rfl, _, _, rfl, _, _, rfl, rfl, rfl, ?_⟩
        refine ⟨_, rfl, _, rfl, _, rfl, _, _, rfl, rfl, .inr ⟨_, rfl, _, _, rfl, rfl, _, smT _ _ eZ, ?_, same_but nZ (sm2.trans smT), ?_⟩⟩
        · rw [nV_len, List.length_map, List.length_range]
          exact small1000 (by omega)
        · rw [upd_same, range_snoc, ← nV_app]
          have e : (m : Int) + (if decide ((j : Int) ≤ (r : Int)) = true then (1 : Int) else 0) = ((dem x (i + 1) j : Nat) : Int) := by
            rw [dem_step er, em2]
            by_cases c : j ≤ r
            · rw [if_pos c, if_pos (decide_eq_true (by omega))]
              omega
            · rw [if_neg c, if_neg (by simp; omega)]
              omega
          show some (HO.lst (nV ((List.range j).map (dem x (i + 1))) ++ [V.int ((m : Int) + (if decide ((j : Int) ≤ (r : Int)) = true then (1 : Int) else 0))])) = _
          rw [e]
      · rintro H2 ⟨sm2, eZ⟩
        rw [nV_len, rowL_len] at eZ
        refine ⟨p, _, _, rfl, rfl, sm2 _ _ ep, by rw [List.length_map]; exact small1000 (by omega), ?_⟩
        have hZp : Z ≠ p := (ne_of_none ep nZ).symm
        refine ⟨_, rfl, fun d u hd => ?_, as ++ [Z], by rw [upd_same, rV_app], by rw [List.length_append, el]; rfl, ?_, fun k d e => ?_⟩
        · rw [upd_ne (ne_of_none hd npH)]
          exact sm2 _ _ (sm _ _ hd)
        · intro z
          rcases List.mem_append.mp z with z | z
          · exact pn z
          · exact hZp (List.mem_singleton.mp z).symm
        · rcases Nat.lt_or_ge k as.length with hkl | hkl
          · rw [List.getElem?_append_left hkl] at e
            have hdp : d ≠ p := fun z => pn (z ▸ List.mem_of_getElem? e)
            rw [upd_ne hdp]
            exact sm2 _ _ (hk k d e)
          · rw [List.getElem?_append_right hkl] at e
            have hk0 : k - as.length = 0 := by
              rcases Nat.eq_zero_or_pos (k - as.length) with y | y
              · exact y
              · rw [List.getElem?_eq_none (show ([Z] : List Addr).length ≤ k - as.length from y)] at e
                cases e
            rw [hk0] at e
            have e1 : Z = d := Option.some.inj e
            subst e1
            have e2 : k = i + 1 := by omega
            subst e2
            rw [upd_ne hZp]
            exact eZ
    · rintro σ H' ⟨y2, rfl, sm, as, ep, el, pn, hk⟩
      rw [nV_len] at el
      exact ⟨_, rfl, q H' p sm npH ⟨as, ep, el, hk⟩⟩
theorem ok_moved (D : Gd K mg "moved_counts" sMoved ["start", "end"]) (cI : Cl P w K mg base 1 "inverse" (spInverse K)) (cD : Cl P w K mg base 1 "demands" (spDem K)) : Cl P w K mg base 2 "moved_counts" (spMoved K) := by
  refine cl_of D scMoved (fun vs H Q E h => ?_) (fun f cdv A outer s H vs Q E hr h => ?_)
  · obtain ⟨a, b, n, x, y, rfl, _⟩ := h
    rfl
  · obtain ⟨a, b, n, x, y, rfl, ha, hb, hx, hy, hn, q⟩ := h
    refine ⟨_, pss_cons (ps_set (i := 2) scMoved.nd rfl (.inr rfl) (pe_cl cI hr (pa_cons (pv 1) pa_nil)))
      (pss_one (ps_ret (pe_cl cD hr (pa_cons (pe_lc (own := [("rank", 3)]) (g := gName 3) (tt := tYes) rfl scMoved.nd (pi_list (pv 0)) (blkOk_by (N := ["start", "end", "places", "rank"]) (sc := defScope sMoved) (by decide +kernel))
        (fun _ _ _ _ _ => pg_name (i := 3) scMoved.nd rfl (Or.inl rfl)) (fun _ _ _ _ _ => pts_nil) (fun _ _ _ _ _ => pe_ix (r := rIxL K) ix_list (pv 2) (pv 3) (fun _ _ => rfl))) pa_nil)))), ?_⟩
    refine ⟨_, rfl, b, n, y, rfl, hb, hy, hn, fun H1 I sm1 nI eI => ?_⟩
    refine ⟨_, rfl, a, rfl, ⟨_, sm1.seq ha⟩, fun L nL => ?_⟩
    refine lst_turns (xs := nV x) (fun i H' => Same H1 H' ∧ H' L = some (.lst (nV ((x.take i).map fun r => y.idxOf r)))) ⟨same_new nL, upd_same⟩ (fun i H' _ h => (sm1.trans h.1).seq ha) ?_ ?_
    · rintro i v H2 hi ⟨sm2, eL⟩
      obtain ⟨r, er, rfl⟩ := nV_get hi
      have hrn : r < n := hx.mem.mp (List.mem_of_getElem? er)
      refine ⟨rfl, _, rfl, _, rfl, I, _, _, _, rfl, rfl, SqL.of (sm2 _ _ eI), nV_ix rfl (by rw [invL_len]; exact hrn), _, eL, ?_, same_but nL sm2, ?_⟩
      · rw [nV_len, List.length_map, List.length_take, hx.len]
        exact small1000 (by omega)
      · rw [upd_same, invL_at hrn, nV_app, List.take_add_one, er, List.map_append]
        rfl
    · rintro H2 ⟨sm2, eL⟩
      rw [nV_len, List.take_length] at eL
      refine ⟨L, _, rfl, SqL.of eL, by rw [List.length_map, hx.len]; exact hn, fun H3 p sm3 np tp => ?_⟩
      rw [List.length_map, hx.len, dem_map] at tp
      exact q H3 p (sm1.trans (sm2.trans sm3)) ((sm1.trans sm2).free np) tp
theorem ok_new (D : Gd K mg "new_pairs" sNew ["start", "end"]) (cW : Cl P w K mg base 2 "wrong_pairs" (spWp K)) : Cl P w K mg base 3 "new_pairs" (spNew K) := by
  refine cl_of D scNew (fun vs H Q E h => ?_) (fun f cdv A outer s H vs Q E hr h => ?_)
  · obtain ⟨a, b, n, x, y, rfl, _⟩ := h
    rfl
  · obtain ⟨a, b, n, x, y, rfl, ha, hb, hx, hy, hn, q⟩ := h
    have hu : (A.deeper (envOfC "new_pairs" (defScope sNew) s.heap.objs.size f cdv)).units + 65 < cLine := by
      have := hr.un
      omega
    refine ⟨_, pss_cons (ps_set (i := 2) scNew.nd rfl (.inr rfl) (pe_cl cW hr (pa_cons (pv 0) pa_nil)))
      (pss_one (ps_ret (pe_lc (own := [("pair", 3)]) (g := gName 3) rfl scNew.nd (pi_list (pe_cl cW hr (pa_cons (pv 1) pa_nil))) (blkOk_by (N := ["start", "end", "elder", "pair"]) (sc := defScope sNew) (by decide +kernel))
        (fun _ _ _ _ _ => pg_name (i := 3) scNew.nd rfl (Or.inl rfl)) (fun _ _ _ _ _ => pts_one (pt_cmpR (r := rNotInD K) (op_notInD hu) (pv 3) (pv 2) (by rfl))) (fun _ _ _ _ _ => pv 3)))), ?_⟩
    refine ⟨_, rfl, a, n, x, rfl, ha, hx, hn, fun H1 W sm1 nW eW => ?_⟩
    refine ⟨_, rfl, b, n, y, rfl, sm1.seq hb, hy, hn, fun H2 U sm2 nU eU => ?_⟩
    obtain ⟨as, u1, u2⟩ := eU
    refine ⟨U, rfl, ⟨_, SqL.of u1⟩, fun L nL => ?_⟩
    refine lst_turns (xs := as.map V.ref) (fun i H' => Same H2 H' ∧ PrsAt H' L (((wpL n y).take i).filter fun q => !decide (q ∈ wpL n x))) ⟨same_new nL, [], upd_same, .nil⟩ (fun i H' _ h => SqL.of (h.1 _ _ u1)) ?_ ?_
    · rintro i v H3 hi ⟨sm3, pr⟩
      obtain ⟨T, eT, rfl⟩ := rV_get hi
      obtain ⟨r, er, hT⟩ := prd_get u2 eT
      have hT3 : PrAt H3 T r := sm3 _ _ hT
      refine ⟨rfl, _, rfl, _, rfl, prD r, (wpL n x).map prD, prD_dp hT3, (eW.same (sm2.trans sm3)).dp, prD_shaped r, prD_shapedAll _, _, rfl, ?_⟩
      rw [prD_any, List.take_add_one, er, List.filter_append]
      by_cases c : r ∈ wpL n x
      · rw [decide_eq_true c]
        refine iteF ⟨sm3, ?_⟩
        have e0 : ([r].filter fun q => !decide (q ∈ wpL n x)) = [] := by simp [c]
        show PrsAt H3 L (_ ++ [r].filter fun q => !decide (q ∈ wpL n x))
        rw [e0, List.append_nil]
        exact pr
      · rw [decide_eq_false c]
        refine iteT ?_
        obtain ⟨bs, b1, b2⟩ := pr
        have hl : bs.length ≤ 1000 := by
          have a1 := Paired.length b2
          have a2 := List.length_filter_le (fun q => !decide (q ∈ wpL n x)) ((wpL n y).take i)
          have a3 : ((wpL n y).take i).length ≤ (wpL n y).length := by rw [List.length_take]; omega
          have a4 := dbl_len (b := 12) (fun k => k + 1) (m := fun k => n - (k + 1)) (fun k => by omega) (fun low high => decide (y.idxOf high < y.idxOf low)) n
          have a5 : (wpL n y).length ≤ n * 12 := a4
          omega
        refine ⟨_, rfl, _, b1, by rw [List.length_map]; exact small1000 hl, same_but nL sm3, ?_⟩
        have e0 : ([r].filter fun q => !decide (q ∈ wpL n x)) = [r] := by simp [c]
        show PrsAt _ L (_ ++ [r].filter fun q => !decide (q ∈ wpL n x))
        rw [e0]
        exact PrsAt.snoc b2 (Same.refl H3) hT3 b1
    · rintro H3 ⟨sm3, pr⟩
      rw [List.length_map, Paired.length u2, List.take_length] at pr
      exact q H3 L ((sm1.trans sm2).trans sm3) ((sm1.trans sm2).free nL) pr
end
end BM
namespace BM
open PySem PySem.Spec PyProof.Rows L2 BR
abbrev sGreedy : Stmt := topS 33
abbrev sOut : Stmt := topS 34
theorem scGreedy : FnScope ["gates", "start", "end", "now", "places", "missed", "done", "at", "gate"] ["gates", "start", "end"] (defScope sGreedy) := ⟨rfl, rfl, rfl, by decide +kernel, rfl, by decide +kernel, by decide +kernel⟩
theorem scOut : FnScope ["schedule", "start", "end", "pairs", "cells"] ["schedule", "start", "end"] (defScope sOut) := ⟨rfl, rfl, rfl, by decide +kernel, rfl, by decide +kernel, by decide +kernel⟩
def spGreedy (K : PySem.W.Frag) : Sp := fun vs H Q _ => ∃ (a b c : Addr) (n : Nat) (gs x y : List Nat), vs = [.ref a, .ref b, .ref c] ∧ SqL K H a (nV gs) ∧ SqL K H b (nV x) ∧ SqL K H c (nV y) ∧ IsOrd n x ∧ IsOrd n y ∧ GOk n gs ∧ n ≤ 12 ∧ gs.length ≤ 400 ∧
  ∀ (H' : Hp) (T pm pd : Addr), Same H H' → H T = none → H pm = none → H pd = none → H' T = some (.tup [.ref pm, .ref pd]) → H' pm = some (.lst (nV (gms y 0 gs x))) → H' pd = some (.lst (nV (gdn y 0 gs x))) → Q (.ref T) H'
/-- what outcome tells -/
inductive Out where
  | pair (a b : Nat) | cell (k t : Nat) | miss (ms : List Nat)
def outc (n : Nat) (gs x y : List Nat) : Out := match newL n x y with
  | q :: _ => .pair q.1 q.2
  | [] => match cellL n (mv y x) (C gs) with
    | q :: _ => .cell q.1 q.2
    | [] => .miss (gms y 0 gs x)
def OutAt (H : Hp) (p : Addr) : Out → Prop
  | .pair a b => H p = some (.tup [.str "pair", .int (a : Int), .int (b : Int)])
  | .cell k t => H p = some (.tup [.str "cell", .int (k : Int), .int (t : Int)])
  | .miss ms => ∃ m, H p = some (.tup [.str "misses", .ref m]) ∧ H m = some (.lst (nV ms))
theorem OutAt.same {H H' : Hp} {p : Addr} : ∀ {o : Out}, OutAt H p o → Same H H' → OutAt H' p o
  | .pair _ _, h, s => s _ _ h
  | .cell _ _, h, s => s _ _ h
  | .miss _, ⟨m, h1, h2⟩, s => ⟨m, s _ _ h1, s _ _ h2⟩
def spOut (K : PySem.W.Frag) (C : Addr) : Sp := fun vs H Q _ => ∃ (a b c : Addr) (n : Nat) (gs x y : List Nat), vs = [.ref a, .ref b, .ref c] ∧ SchedAt H C a n gs ∧ SqL K H b (nV x) ∧ SqL K H c (nV y) ∧ IsOrd n x ∧ IsOrd n y ∧ GOk n gs ∧ n ≤ 12 ∧ gs.length ≤ 400 ∧
  ∀ (H' : Hp) (p : Addr), Same H H' → H p = none → OutAt H' p (outc n gs x y) → Q (.ref p) H'
/-- capacities, called with and without misses -/
structure CapC (P : Program) (w : World) (K : PySem.W.Frag) (mg : Str → Option Value) (base : Heap) (C : Addr) : Prop where
  ex : ∃ (f : Addr) (fd : FuncData) (T0 : Addr), FnOk P w K mg base CX0 3 f fd ["schedule", "missed"] (spCap K C) ∧ mg "capacities" = some (.ref f) ∧ PySem.W.keepIn K (.ref f) = true ∧ L2.Binds K fd ["schedule", "missed"] [.ref T0] ∧ (∀ H, SqT K H T0 []) ∧
    KBn K fd ["schedule", "missed"] 1 ["missed"] (fun us ws => us ++ ws) (fun vs zs => vs ++ zs)
section
variable {P : Program} {w : World} {K : PySem.W.Frag} {mg : Str → Option Value} {base : Heap} {C : Addr}
theorem ok_greedy (D : Gd K mg "greedy_misses" sGreedy ["gates", "start", "end"]) (cI : Cl P w K mg base 1 "inverse" (spInverse K)) (cX : Cl P w K mg base 1 "is_exchanged" (spIsExch K)) (cE : Cl P w K mg base 1 "exchange" spExch)
    (mt : mg "list" = none) (me : mg "enumerate" = none) : Cl P w K mg base 2 "greedy_misses" (spGreedy K) := by
  refine cl_of D scGreedy (fun vs H Q E h => ?_) (fun f cdv A outer s H vs Q E hr h => ?_)
  · obtain ⟨a, b, c, n, gs, x, y, rfl, _⟩ := h
    rfl
  · obtain ⟨a, b, c, n, gs, x, y, rfl, ha, hb, hc, hx, hy, hG, hn, hl, q⟩ := h
    refine ⟨_, pss_cons (ps_asg (pe_tup (pa_cons (pe_callTy call_list_of (by rfl) mt (by decide +kernel) (pa_cons (pv 1) pa_nil)) (pa_cons (pe_cl cI hr (pa_cons (pv 2) pa_nil)) (pa_cons (pe_lst pa_nil) (pa_cons (pe_lst pa_nil) pa_nil)))))
        (pg_tup rfl (pgs_cons (pg_name (i := 3) scGreedy.nd rfl (.inl rfl)) (pgs_cons (pg_name (i := 4) scGreedy.nd rfl (.inl rfl)) (pgs_cons (pg_name (i := 5) scGreedy.nd rfl (.inl rfl)) (pgs_cons (pg_name (i := 6) scGreedy.nd rfl (.inl rfl)) pgs_nil))))))
      (pss_cons (ps_for PassesOwn.never rfl (pi_enum (by rfl) me (pa_cons (pv 0) pa_nil))
          (pg_tup rfl (pgs_cons (pg_name (i := 7) scGreedy.nd rfl (.inl rfl)) (pgs_cons (pg_name (i := 8) scGreedy.nd rfl (.inl rfl)) pgs_nil)))
          (pss_one (ps_if (pt_val (pe_cl cX hr (pa_cons (pv 3) (pa_cons (pv 8) pa_nil))))
            (pss_one (ps_if (pt_cmpR op_lt (pe_ix ix_list (pv 4) (pe_ix ix_list (pv 3) (pe_op op_sub (pv 8) pe_int) (fun _ _ => rfl)) (fun _ _ => rfl)) (pe_ix ix_list (pv 4) (pe_ix ix_list (pv 3) (pv 8) (fun _ _ => rfl)) (fun _ _ => rfl)) (nomark _))
              (pss_one (ps_expr (pe_bm PySem.F.plainAttrs_list PySem.F.slot_list_append PySem.F.type_list_append mt_append (pv 5) (pa_cons (pv 7) pa_nil))))
              (pss_cons (ps_expr (pe_cl cE hr (pa_cons (pv 3) (pa_cons (pv 8) pa_nil))))
                (pss_one (ps_expr (pe_bm PySem.F.plainAttrs_list PySem.F.slot_list_append PySem.F.type_list_append mt_append (pv 6) (pa_cons (pv 7) pa_nil))))))) pss_nil)))
      (pss_one (ps_ret (pe_tup (pa_cons (pv 5) (pa_cons (pv 6) pa_nil)))))), ?_⟩
    refine ⟨_, rfl, b, _, rfl, .inl hb, fun N nN => ?_⟩
    have s1 : Same H (upd H N (.lst (nV x))) := same_new nN
    refine ⟨_, rfl, c, n, y, rfl, s1.seq hc, hy, hn, fun H2 I s2 nI eI => ?_⟩
    have eN2 : H2 N = some (.lst (nV x)) := s2 _ _ upd_same
    refine ⟨Nat.zero_le _, fun M nM => ⟨Nat.zero_le _, fun Dn nDn => ?_⟩⟩
    have s3 : Same H2 (upd H2 M (.lst [])) := same_new nM
    have s4 : Same (upd H2 M (.lst [])) (upd (upd H2 M (.lst [])) Dn (.lst [])) := same_new nDn
    refine ⟨(by show 4 ≤ sizeLine; decide), fun T nT => ?_⟩
    generalize hH3 : upd (upd H2 M (.lst [])) Dn (.lst []) = H3 at s4 nT
    have eN3 : H3 N = some (.lst (nV x)) := s4 _ _ (s3 _ _ eN2)
    have eI3 : H3 I = some (.lst (nV (invL n y))) := s4 _ _ (s3 _ _ eI)
    have eM3 : H3 M = some (.lst (nV [])) := s4 _ _ upd_same
    have eD3 : H3 Dn = some (.lst (nV [])) := by rw [← hH3]; exact upd_same
    have hNI : N ≠ I := ne_of_none upd_same nI
    have hNM : N ≠ M := ne_of_none eN2 nM
    have hIM : I ≠ M := ne_of_none eI nM
    have hND : N ≠ Dn := ne_of_none (s3 _ _ eN2) nDn
    have hID : I ≠ Dn := ne_of_none (s3 _ _ eI) nDn
    have hMD : M ≠ Dn := ne_of_none (upd_same (H := H2) (o := .lst [])) nDn
    have oM : H M = none := (s1.trans s2).free nM
    have oD : H Dn = none := ((s1.trans s2).trans s3).free nDn
    have oI : H I = none := s1.free nI
    have sT : Same H3 (upd H3 T (.tup [.ref N, .ref I, .ref M, .ref Dn])) := same_new nT
    have s03 : Same H H3 := (s1.trans s2).trans (s3.trans s4)
    refine ⟨T, _, rfl, .inl (.inl upd_same), rfl, _, _, rfl, _, _, rfl, _, _, rfl, _, _, rfl, rfl, ?_⟩
    refine ⟨_, rfl, a, nV gs, rfl, (s03.trans sT).seq ha, ?_⟩
    refine for_enu (xs := nV gs) (fun i σ H' => ∃ y7 y8, σ = [some (.ref a), some (.ref b), some (.ref c), some (.ref N), some (.ref I), some (.ref M), some (.ref Dn), y7, y8] ∧ Same H H' ∧ H' I = some (.lst (nV (invL n y))) ∧
        ∃ x' ms ds : List Nat, H' N = some (.lst (nV x')) ∧ H' M = some (.lst (nV ms)) ∧ H' Dn = some (.lst (nV ds)) ∧ IsOrd n x' ∧ ms ++ gms y i (gs.drop i) x' = gms y 0 gs x ∧ ds ++ gdn y i (gs.drop i) x' = gdn y 0 gs x ∧ ms.length ≤ i ∧ ds.length ≤ i)
      ⟨none, none, rfl, s03.trans sT, sT _ _ eI3, x, [], [], sT _ _ eN3, sT _ _ eM3, sT _ _ eD3, hx, rfl, rfl, Nat.le_refl _, Nat.le_refl _⟩ ?_ ?_ ?_
    · rintro i σ H' _ ⟨y7, y8, rfl, sm, _⟩
      exact sm.seq ha
    · rintro i v σ H' U hi ⟨y7, y8, rfl, sm, eI', x', ms, ds, eN', eM', eD', hx', hm, hd, lm, ld⟩ nU
      obtain ⟨g, eg, rfl⟩ := nV_get hi
      have hgi : i < gs.length := (List.getElem?_eq_some_iff.mp eg).1
      obtain ⟨g1, g2⟩ := hG g (List.mem_of_getElem? eg)
      have dr : gs.drop i = g :: gs.drop (i + 1) := by
        rw [List.drop_eq_getElem_cons hgi, (List.getElem?_eq_some_iff.mp eg).2]
      rw [dr] at hm hd
      have sU : Same H' (upd H' U (.tup [.int (i : Int), .int (g : Int)])) := same_new nU
      generalize hHU : upd H' U (.tup [.int (i : Int), .int (g : Int)]) = HU at sU
      have eN := sU _ _ eN'
      have eM := sU _ _ eM'
      have eD := sU _ _ eD'
      have eIU := sU _ _ eI'
      have smU := sm.trans sU
      have gx : g < x'.length := by rw [hx'.len]; exact g2
      refine ⟨U, _, rfl, .inl (.inl (by rw [← hHU]; exact upd_same)), rfl, _, _, rfl, _, _, rfl, rfl, ?_⟩
      refine ⟨_, rfl, _, rfl, N, g, x', rfl, SqL.of eN, g1, gx, _, rfl, ?_⟩
      by_cases c1 : at0 x' g < at0 x' (g - 1)
      · rw [decide_eq_true c1]
        have hi1 : at0 x' (g - 1) < n := hx'.at_lt (by omega)
        have hi2 : at0 x' g < n := hx'.at_lt g2
        refine iteT ⟨_, rfl, _, rfl, _, rfl, _, _, rfl, rfl, N, _, _, _, rfl, rfl, SqL.of eN, nV_ix (i := g - 1) (by omega) (by omega), I, _, _, _, rfl, rfl, SqL.of eIU, nV_ix rfl (by rw [invL_len]; exact hi1), ?_⟩
        refine ⟨_, rfl, _, rfl, _, rfl, N, _, _, _, rfl, rfl, SqL.of eN, nV_ix rfl gx, I, _, _, _, rfl, rfl, SqL.of eIU, nV_ix rfl (by rw [invL_len]; exact hi2), _, _, rfl, rfl, _, rfl, ?_⟩
        rw [invL_at hi1, invL_at hi2]
        have ec : decide (((y.idxOf (at0 x' (g - 1)) : Nat) : Int) < ((y.idxOf (at0 x' g) : Nat) : Int)) = decide (y.idxOf (at0 x' (g - 1)) < y.idxOf (at0 x' g)) := by
          rw [decide_eq_decide]
          omega
        rw [ec]
        by_cases c2 : y.idxOf (at0 x' (g - 1)) < y.idxOf (at0 x' g)
        · rw [decide_eq_true c2]
          refine iteT ⟨_, rfl, .inl ⟨rfl, _, SqL.of eM⟩, _, rfl, M, _, _, rfl, rfl, eM, by rw [nV_len]; exact small1000 (by omega), ?_⟩
          have e1 : gms y i (g :: gs.drop (i + 1)) x' = i :: gms y (i + 1) (gs.drop (i + 1)) x' := by
            show (if at0 x' g < at0 x' (g - 1) then _ else _) = _
            rw [if_pos c1, if_pos c2]
          have e2 : gdn y i (g :: gs.drop (i + 1)) x' = gdn y (i + 1) (gs.drop (i + 1)) x' := by
            show (if at0 x' g < at0 x' (g - 1) then _ else _) = _
            rw [if_pos c1, if_pos c2]
          refine ⟨_, _, rfl, same_but oM smU, ?_, x', ms ++ [i], ds, ?_, ?_, ?_, hx', ?_, ?_, ?_, by omega⟩
          · rw [upd_ne hIM]
            exact eIU
          · rw [upd_ne hNM]
            exact eN
          · rw [upd_same, nV_app]
          · rw [upd_ne (Ne.symm hMD)]
            exact eD
          · rw [← hm, e1, List.append_assoc]
            rfl
          · rw [← hd, e2]
          · rw [List.length_append, List.length_singleton]
            omega
        · rw [decide_eq_false c2]
          refine iteF ⟨_, rfl, _, rfl, N, g, x', rfl, eN, g1, gx, fun H5 b5 e5 => ?_⟩
          have eM5 := b5 M _ (Ne.symm hNM) eM
          have eD5 := b5 Dn _ (Ne.symm hND) eD
          have eI5 := b5 I _ (Ne.symm hNI) eIU
          have sm5 : Same H H5 := But.same nN smU b5
          refine ⟨_, rfl, .inl ⟨rfl, _, SqL.of eD5⟩, _, rfl, Dn, _, _, rfl, rfl, eD5, by rw [nV_len]; exact small1000 (by omega), ?_⟩
          have e1 : gms y i (g :: gs.drop (i + 1)) x' = gms y (i + 1) (gs.drop (i + 1)) (swp x' g) := by
            show (if at0 x' g < at0 x' (g - 1) then _ else _) = _
            rw [if_pos c1, if_neg c2]
          have e2 : gdn y i (g :: gs.drop (i + 1)) x' = i :: gdn y (i + 1) (gs.drop (i + 1)) (swp x' g) := by
            show (if at0 x' g < at0 x' (g - 1) then _ else _) = _
            rw [if_pos c1, if_neg c2]
          refine ⟨_, _, rfl, same_but oD sm5, ?_, swp x' g, ms, ds ++ [i], ?_, ?_, ?_, hx'.swp g1 g2, ?_, ?_, by omega, ?_⟩
          · rw [upd_ne hID]
            exact eI5
          · rw [upd_ne hND]
            exact e5
          · rw [upd_ne hMD]
            exact eM5
          · rw [upd_same, nV_app]
          · rw [← hm, e1]
          · rw [← hd, e2, List.append_assoc]
            rfl
          · rw [List.length_append, List.length_singleton]
            omega
      · rw [decide_eq_false c1]
        have e1 : gms y i (g :: gs.drop (i + 1)) x' = gms y (i + 1) (gs.drop (i + 1)) x' := if_neg c1
        have e2 : gdn y i (g :: gs.drop (i + 1)) x' = gdn y (i + 1) (gs.drop (i + 1)) x' := if_neg c1
        exact iteF ⟨_, _, rfl, smU, eIU, x', ms, ds, eN, eM, eD, hx', by rw [← hm, e1], by rw [← hd, e2], by omega, by omega⟩
    · rintro σ H' ⟨y7, y8, rfl, sm, eI', x', ms, ds, eN', eM', eD', hx', hm, hd, lm, ld⟩
      rw [nV_len, List.drop_length] at hm hd
      have hm' : ms = gms y 0 gs x := by rw [← hm]; exact (List.append_nil _).symm
      have hd' : ds = gdn y 0 gs x := by rw [← hd]; exact (List.append_nil _).symm
      subst hm' hd'
      refine ⟨_, rfl, _, rfl, (by show 2 ≤ sizeLine; decide), fun Z nZ => ?_⟩
      have sZ : Same H' (upd H' Z (.tup [.ref M, .ref Dn])) := same_new nZ
      exact q _ Z M Dn (sm.trans sZ) (sm.free nZ) oM oD upd_same (sZ _ _ eM') (sZ _ _ eD')
end
end BM
namespace BM
open PySem PySem.Spec PyProof.Rows L2 BR
abbrev sCert : Stmt := topS 35
theorem scCert : FnScope ["schedule", "start", "end", "counts", "found", "at"] ["schedule", "start", "end"] (defScope sCert) := ⟨rfl, rfl, rfl, by decide +kernel, rfl, by decide +kernel, by decide +kernel⟩
theorem prs_dp_nil {K : PySem.W.Frag} {H : Hp} {p : Addr} {ps : List (Nat × Nat)} (h : PrsAt H p ps) : (!PyData.eqv (.list (ps.map prD)) (.list [])) = !ps.isEmpty := by rw [nil_eqv, isEmpty_map]
/-- the first pair of a list that is not empty -/
theorem PrsAt.head {H : Hp} {p : Addr} {q : Nat × Nat} {ps : List (Nat × Nat)} (h : PrsAt H p (q :: ps)) : ∃ (as : List Addr) (b : Addr), H p = some (.lst (as.map V.ref)) ∧ as[0]? = some b ∧ PrAt H b q := by
  obtain ⟨as, h1, h2⟩ := h
  cases h2 with
  | cons r t => exact ⟨_, _, h1, rfl, r⟩
/-- the certain ones -/
def cerL (n : Nat) (gs x y : List Nat) : List Nat := (gdn y 0 gs x).filter fun k => !(cellL n (mv y x) (C (gs.eraseIdx k))).isEmpty
def isMiss : Out → Bool
  | .miss _ => true
  | _ => false
/-- E: refused -/
def spCert (K : PySem.W.Frag) (C N : Addr) : Sp := fun vs H Q E => ∃ (a b c : Addr) (n : Nat) (gs x y : List Nat), vs = [.ref a, .ref b, .ref c] ∧ SchedAt H C a n gs ∧ SqL K H b (nV x) ∧ SqL K H c (nV y) ∧ IsOrd n x ∧ IsOrd n y ∧ GOk n gs ∧ n ≤ 12 ∧ gs.length ≤ 400 ∧
  (isMiss (outc n gs x y) = true → NewL H (cerL n gs x y) Q) ∧ (isMiss (outc n gs x y) = false → ∀ H' : Hp, Same H H' → E (.ref N) none H')
section
variable {P : Program} {w : World} {K : PySem.W.Frag} {mg : Str → Option Value} {base : Heap} {C : Addr}
theorem ok_out (D : Gd K mg "outcome" sOut ["schedule", "start", "end"]) (S : SchM P w K mg base C) (cN : Cl P w K mg base 3 "new_pairs" (spNew K)) (cM : Cl P w K mg base 2 "moved_counts" (spMoved K)) (cC : Cl P w K mg base 1 "cells_above" spCells)
    (cap : CapC P w K mg base C) (cG : Cl P w K mg base 2 "greedy_misses" (spGreedy K)) : Cl P w K mg base 4 "outcome" (spOut K C) := by
  obtain ⟨gg, gfd, GM, GF, GB⟩ := S.ga
  obtain ⟨cf, cfd, T0, CF, cg, ck, cb, cT, ckb⟩ := cap.ex
  refine cl_of D scOut (fun vs H Q E h => ?_) (fun f cdv A outer s H vs Q E hr h => ?_)
  · obtain ⟨a, b, c, n, gs, x, y, rfl, _⟩ := h
    rfl
  · obtain ⟨a, b, c, n, gs, x, y, rfl, hS, hb, hc, hx, hy, hG, hn, hl, q⟩ := h
    have hu : (A.deeper (envOfC "outcome" (defScope sOut) s.heap.objs.size f cdv)).units + 64 < cLine := by
      have := hr.un
      omega
    refine ⟨_, pss_cons (ps_set (i := 3) scOut.nd rfl (.inl rfl) (pe_cl cN hr (pa_cons (pv 1) (pa_cons (pv 2) pa_nil))))
      (pss_cons (ps_if (pt_cmpR (op_neD hu) (pv 3) (pe_lst pa_nil) (nomark _)) (pss_one (ps_ret (pe_op op_catT (pe_tup (pa_cons pe_str pa_nil)) (pe_ix ix_list (pv 3) pe_int (fun _ _ => rfl))))) pss_nil)
      (pss_cons (ps_set (i := 4) scOut.nd rfl (.inl rfl) (pe_cl cC (hr.mono (by decide)) (pa_cons (pe_cl cM (hr.mono (by decide)) (pa_cons (pv 1) (pa_cons (pv 2) pa_nil))) (pa_cons (pe_call CF hr (by rfl) cg ck cb (.cons (a := V.ref T0) rfl .nil) pass0 (pa_cons (pv 0) pa_nil)) pa_nil))))
      (pss_cons (ps_if (pt_cmpR (op_neD hu) (pv 4) (pe_lst pa_nil) (nomark _)) (pss_one (ps_ret (pe_op op_catT (pe_tup (pa_cons pe_str pa_nil)) (pe_ix ix_list (pv 4) pe_int (fun _ _ => rfl))))) pss_nil)
      (pss_one (ps_ret (pe_tup (pa_cons pe_str (pa_cons (pe_ix ix_tup (pe_cl cG (hr.mono (by decide)) (pa_cons (pe_meth0 (pv 0) S.c.cl GM GF (hr.mono (by decide)) GB .nil pass0) (pa_cons (pv 1) (pa_cons (pv 2) pa_nil)))) pe_int (fun _ _ => rfl)) pa_nil)))))))), ?_⟩
    -- pairs
    refine ⟨_, rfl, _, rfl, b, c, n, x, y, rfl, hb, hc, hx, hy, hn, fun H1 p1 s1 n1 e1 => ?_⟩
    refine ⟨_, rfl, Nat.zero_le _, fun z nz => ?_⟩
    have sz : Same H1 (upd H1 z (.lst [])) := same_new nz
    refine ⟨.list ((newL n x y).map prD), .list [], (e1.same sz).dp, nil_dp upd_same, prD_shapedAll _, nil_shaped, _, rfl, ?_⟩
    rw [nil_eqv, isEmpty_map]
    generalize hH2 : upd H1 z (.lst []) = H2 at sz
    have s2 : Same H H2 := s1.trans sz
    cases hnp : newL n x y with
    | cons p0 ps0 =>
      rw [hnp] at e1
      obtain ⟨as, d, d1, d2, d3⟩ := (e1.same sz).head
      refine iteT ⟨(by show 1 ≤ sizeLine; decide), fun t nt => ?_⟩
      have st : Same H2 (upd H2 t (.tup [.str "pair"])) := same_new nt
      refine ⟨_, rfl, p1, _, 0, .ref d, rfl, rfl, SqL.of (st _ _ d1), atI_nat (j := 0) (by rw [List.getElem?_map, d2]; rfl), t, d, _, _, rfl, rfl, SqT.of upd_same, SqT.of (st _ _ d3), by simp, (by show 3 ≤ sizeLine; decide), (fun e => by cases e), fun _ u nu => ?_⟩
      refine q _ u ((s2.trans st).trans (same_new nu)) ((s2.trans st).free nu) ?_
      unfold outc
      rw [hnp]
      exact upd_same
    | nil =>
      refine iteF ?_
      refine ⟨_, rfl, _, rfl, b, c, n, x, y, rfl, s2.seq hb, s2.seq hc, hx, hy, hn, fun H3 pm s3 npm em => ?_⟩
      have s03 := s2.trans s3
      refine ⟨_, rfl, a, T0, n, gs, [], rfl, hS.same s03, hn, hG, hl, .inr (cT _), Nat.zero_le _, fun H4 pc s4 npc ec => ?_⟩
      rw [capL_all hG.pos] at ec
      refine ⟨pm, pc, n, _, _, rfl, em.same s4, ec, hn, fun H5 p5 s5 n5 e5 => ?_⟩
      have s05 := (s03.trans s4).trans s5
      refine ⟨_, rfl, Nat.zero_le _, fun z2 nz2 => ?_⟩
      have sz2 : Same H5 (upd H5 z2 (.lst [])) := same_new nz2
      refine ⟨.list ((cellL n (mv y x) (BM.C gs)).map prD), .list [], (e5.same sz2).dp, nil_dp upd_same, prD_shapedAll _, nil_shaped, _, rfl, ?_⟩
      rw [nil_eqv, isEmpty_map]
      generalize hH6 : upd H5 z2 (.lst []) = H6 at sz2
      have s06 := s05.trans sz2
      cases hcl : cellL n (mv y x) (BM.C gs) with
      | cons p0 ps0 =>
        rw [hcl] at e5
        obtain ⟨as, d, d1, d2, d3⟩ := (e5.same sz2).head
        refine iteT ⟨(by show 1 ≤ sizeLine; decide), fun t nt => ?_⟩
        have st : Same H6 (upd H6 t (.tup [.str "cell"])) := same_new nt
        refine ⟨_, rfl, p5, _, 0, .ref d, rfl, rfl, SqL.of (st _ _ d1), atI_nat (j := 0) (by rw [List.getElem?_map, d2]; rfl), t, d, _, _, rfl, rfl, SqT.of upd_same, SqT.of (st _ _ d3), by simp, (by show 3 ≤ sizeLine; decide), (fun e => by cases e), fun _ u nu => ?_⟩
        refine q _ u ((s06.trans st).trans (same_new nu)) ((s06.trans st).free nu) ?_
        unfold outc
        rw [hnp, hcl]
        exact upd_same
      | nil =>
        refine iteF ?_
        have hS6 := hS.same s06
        obtain ⟨dx, r, rs, t1, t2, t3⟩ := id hS6
        refine ⟨_, rfl, a, dx, _, rfl, t1, rfl, a, n, gs, rfl, hS6, hl, fun H7 G s7 nG eG => ?_⟩
        have s07 := s06.trans s7
        refine ⟨_, rfl, _, rfl, G, b, c, n, gs, x, y, rfl, SqL.of eG, s07.seq hb, s07.seq hc, hx, hy, hG, hn, hl, fun H8 T m1 m2 s8 nT nm1 nm2 eT em1 em2 => ?_⟩
        refine ⟨T, _, 0, .ref m1, rfl, rfl, SqT.of eT, atI_nat (j := 0) rfl, (by show 2 ≤ sizeLine; decide), fun u nu => ?_⟩
        have su : Same H8 (upd H8 u (.tup [.str "misses", .ref m1])) := same_new nu
        refine q _ u ((s07.trans s8).trans su) ((s07.trans s8).free nu) ?_
        unfold outc
        rw [hnp, hcl]
        exact ⟨m1, upd_same, su _ _ em1⟩
end
end BM
namespace BM
open PySem PySem.Spec PyProof.Rows L2 BR
abbrev sNpI : Stmt := inClass (topS 7) 0
theorem scNpI : FnScope ["self"] ["self"] (defScope sNpI) := ⟨rfl, rfl, rfl, by decide +kernel, rfl, by decide +kernel, by decide +kernel⟩
/-- what the written part says of NotPossible, at N -/
structure NpC (P : Program) (w : World) (K : PySem.W.Frag) (mg : Str → Option Value) (base : Heap) (N : Addr) : Prop where
  g : mg "NotPossible" = some (.ref N)
  o : OexC K N
  i : ∃ (fI : Addr) (fd : FuncData), PySem.W.findIn K (.ref N) "__init__" = some (some (.ref fI)) ∧ PySem.W.typeIn K (.ref fI) = some (.type "function") ∧ FnOk P w K mg base CX0 1 fI fd ["self"] (spNp K) ∧ L2.Binds K fd ["self"] []
/-- certain, as it is called -/
structure CerC (P : Program) (w : World) (K : PySem.W.Frag) (mg : Str → Option Value) (base : Heap) (C N : Addr) : Prop where
  ex : ∃ (f : Addr) (fd : FuncData), FnOk P w K mg base (L2.CX P w) 5 f fd ["schedule", "start", "end"] (spCert K C N) ∧ mg "certain" = some (.ref f) ∧ PySem.W.keepIn K (.ref f) = true ∧ L2.Binds K fd ["schedule", "start", "end"] []
/-- a table by its rows' addresses -/
def TabE (H : Hp) (p : Addr) (as : List Addr) (n : Nat) (c : Tab) : Prop := H p = some (.lst (as.map V.ref)) ∧ as.length = n + 1 ∧ ∀ (k : Nat) (a : Addr), as[k]? = some a → H a = some (.lst (nV (rowL n c k)))
theorem TabE.tab {H : Hp} {p : Addr} {as : List Addr} {n : Nat} {c : Tab} (t : TabE H p as n c) : TabAt H p n c := ⟨as, t⟩
theorem TabE.same {H H' : Hp} {p : Addr} {as : List Addr} {n : Nat} {c : Tab} (t : TabE H p as n c) (s : Same H H') : TabE H' p as n c := ⟨s _ _ t.1, t.2.1, fun k a e => s _ _ (t.2.2 k a e)⟩
theorem TabE.upd {H : Hp} {p L : Addr} {as : List Addr} {n : Nat} {c : Tab} {o : HO} (t : TabE H p as n c) (h1 : p ≠ L) (h2 : L ∉ as) : TabE (upd H L o) p as n c :=
  ⟨(upd_ne h1).trans t.1, t.2.1, fun k a e => (upd_ne (fun z => h2 (by rw [← z]; exact List.mem_of_getElem? e))).trans (t.2.2 k a e)⟩
theorem TabE.new {H : Hp} {p L : Addr} {as : List Addr} {n : Nat} {c : Tab} (t : TabE H p as n c) (h : H L = none) : p ≠ L ∧ L ∉ as := by
  refine ⟨ne_of_none t.1 h, fun z => ?_⟩
  obtain ⟨k, hk, e⟩ := List.mem_iff_getElem.mp z
  have := t.2.2 k L (List.getElem?_eq_some_iff.mpr ⟨hk, e⟩)
  rw [h] at this
  cases this
section
variable {P : Program} {w : World} {K : PySem.W.Frag} {mg : Str → Option Value} {base : Heap} {C N : Addr}
theorem ok_np {f B : Addr} {fd : FuncData} (F : Fun K "__init__" "NotPossible.__init__" sNpI f fd) (T : BaseC K mg B) : FnOk P w K mg base CX0 1 f fd ["self"] (spNp K) := by
  refine F.ok scNpI (fun vs H Q E h => ?_) (fun cdv A outer s H vs Q E hr h => ?_)
  · obtain ⟨a, D, rfl, _⟩ := h
    rfl
  · obtain ⟨a, D, rfl, hD, ha, q⟩ := h
    refine ⟨_, pss_one (ps_expr (pe_binit T (by rfl) (pa_cons (pv 0) pa_nil))), ?_⟩
    exact ⟨_, rfl, a, D, [], rfl, Nat.zero_le _, hD, ha, q⟩
theorem ok_cert (D : Gd K mg "certain" sCert ["schedule", "start", "end"]) (NP : NpC P w K mg base N) (S : SchM P w K mg base C) (cO : Cl P w K mg base 4 "outcome" (spOut K C)) (cM : Cl P w K mg base 2 "moved_counts" (spMoved K)) (cC : Cl P w K mg base 1 "cells_above" spCells)
    (cap : CapC P w K mg base C) (cG : Cl P w K mg base 2 "greedy_misses" (spGreedy K)) : CerC P w K mg base C N := by
  obtain ⟨gg, gfd, GM, GF, GB⟩ := S.ga
  obtain ⟨cf, cfd, T0, CF, cg, ck, cb, cT, ckb⟩ := cap.ex
  obtain ⟨fI, fdI, iN, tN, FN, bN⟩ := NP.i
  obtain ⟨f, fd, F, g0, b0⟩ := D.ex
  refine ⟨f, fd, F.okX scCert (fun vs H Q E h => ?_) (fun cdv A outer s H vs Q E hr h => ?_), g0, F.kp, b0⟩
  · obtain ⟨a, b, c, n, gs, x, y, rfl, _⟩ := h
    rfl
  · obtain ⟨a, b, c, n, gs, x, y, rfl, hS, hb, hc, hx, hy, hG, hn, hl, q, qE⟩ := h
    have hu : (A.deeper (envOfC "certain" (defScope sCert) s.heap.objs.size f cdv)).units + 64 < cLine := by
      have := hr.un
      omega
    refine ⟨_, pss_cons (ps_if (pt_cmpR op_ne (pe_ix ix_tup (pe_cl cO hr (pa_cons (pv 0) (pa_cons (pv 1) (pa_cons (pv 2) pa_nil)))) pe_int (fun _ _ => rfl)) pe_str (nomark _))
        (pss_one (ps_raise rfl (takes_of rfl rfl rfl rfl) (pmk_np NP.o iN tN FN (hr.mono (by decide)) bN (by rfl) NP.g))) pss_nil)
      (PSs.nox (pss_cons (ps_par (i := 3) (j := 4) rfl scCert.nd rfl rfl (by decide) rfl rfl (pa_cons (pe_cl cM (hr.mono (by decide)) (pa_cons (pv 1) (pa_cons (pv 2) pa_nil))) (pa_cons (pe_lst pa_nil) pa_nil)) (by rfl))
      (pss_cons (ps_for PassesOwn.never rfl (pi_list (pe_ix ix_tup (pe_cl cG (hr.mono (by decide)) (pa_cons (pe_meth0 (pv 0) S.c.cl GM GF (hr.mono (by decide)) GB .nil pass0) (pa_cons (pv 1) (pa_cons (pv 2) pa_nil)))) pe_int (fun _ _ => rfl)))
          (pg_name (i := 5) scCert.nd rfl (.inl rfl))
          (pss_one (ps_if (pt_cmpR (op_neD hu) (pe_cl cC (hr.mono (by decide)) (pa_cons (pv 3) (pa_cons (pe_callN CF (hr.mono (by decide)) (by rfl) cg ck ckb pass0 (pa_cons (pv 0) pa_nil) (pk_cons (pe_lst (pa_cons (pv 5) pa_nil)) pk_nil)) pa_nil))) (pe_lst pa_nil) (nomark _))
            (pss_one (ps_expr (pe_bm PySem.F.plainAttrs_list PySem.F.slot_list_append PySem.F.type_list_append mt_append (pv 4) (pa_cons (pv 5) pa_nil)))) pss_nil)))
      (pss_one (ps_ret (pv 4)))))), ?_⟩
    refine ⟨_, rfl, _, rfl, _, rfl, a, b, c, n, gs, x, y, rfl, hS, hb, hc, hx, hy, hG, hn, hl, fun H1 p s1 np e1 => ?_⟩
    cases ho : outc n gs x y with
    | pair k t =>
      rw [ho] at e1 qE
      refine ⟨p, _, 0, _, rfl, rfl, SqT.of e1, atI_nat (j := 0) rfl, rfl, _, rfl, ?_⟩
      rw [decide_eq_false (by decide)]
      exact qE rfl H1 s1
    | cell k t =>
      rw [ho] at e1 qE
      refine ⟨p, _, 0, _, rfl, rfl, SqT.of e1, atI_nat (j := 0) rfl, rfl, _, rfl, ?_⟩
      rw [decide_eq_false (by decide)]
      exact qE rfl H1 s1
    | miss ms =>
      rw [ho] at e1 q
      obtain ⟨m0, e1, _⟩ := e1
      refine ⟨p, _, 0, _, rfl, rfl, SqT.of e1, atI_nat (j := 0) rfl, rfl, _, rfl, ?_⟩
      rw [decide_eq_true rfl]
      refine iteF ⟨_, rfl, _, rfl, b, c, n, x, y, rfl, s1.seq hb, s1.seq hc, hx, hy, hn, fun H2 pm s2 npm em => ?_⟩
      refine ⟨Nat.zero_le _, fun L nL => ⟨_, _, rfl, ?_⟩⟩
      have sL : Same H2 (upd H2 L (.lst [])) := same_new nL
      generalize hH3 : upd H2 L (.lst []) = H3 at sL
      have eL3 : H3 L = some (.lst (nV [])) := by rw [← hH3]; exact upd_same
      have s03 : Same H H3 := (s1.trans s2).trans sL
      have oL : H L = none := (s1.trans s2).free nL
      obtain ⟨as, em⟩ := em
      have em : TabE H2 pm as n (mv y x) := em
      obtain ⟨pL, Las⟩ := em.new nL
      have em3 := em.same sL
      have hS3 := hS.same s03
      obtain ⟨dx, r, rs, t1, t2, t3⟩ := id hS3
      refine ⟨_, rfl, a, dx, _, rfl, t1, rfl, a, n, gs, rfl, hS3, hl, fun H4 G s4 nG eG => ?_⟩
      have s04 := s03.trans s4
      refine ⟨_, rfl, _, rfl, G, b, c, n, gs, x, y, rfl, SqL.of eG, s04.seq hb, s04.seq hc, hx, hy, hG, hn, hl, fun H5 T m1 m2 s5 nT nm1 nm2 eT em1 em2 => ?_⟩
      have s05 := s04.trans s5
      have s35 := s4.trans s5
      refine ⟨T, _, 1, .ref m2, rfl, rfl, SqT.of eT, atI_nat (j := 1) rfl, m2, rfl, ⟨_, SqL.of em2⟩, ?_⟩
      have hm2L : m2 ≠ L := (ne_of_none (s4 _ _ eL3) nm2).symm
      have bd := gdn_bounds y gs x 0
      refine for_list (K := K) (a := m2) (xs := nV (gdn y 0 gs x)) (fun i σ H' => ∃ y5, σ = [some (.ref a), some (.ref b), some (.ref c), some (.ref pm), some (.ref L), y5] ∧ Same H H' ∧ TabE H' pm as n (mv y x) ∧ H' m2 = some (.lst (nV (gdn y 0 gs x))) ∧
          H' L = some (.lst (nV (((gdn y 0 gs x).take i).filter fun k => !(cellL n (mv y x) (BM.C (gs.eraseIdx k))).isEmpty)))) ⟨none, rfl, s05, em3.same s35, em2, s35 _ _ eL3⟩ ?_ ?_ ?_
      · rintro i σ H' _ ⟨y5, rfl, _, _, e2, _⟩
        exact SqL.of e2
      · rintro i v σ H' hi ⟨y5, rfl, sm, tp, e2, eL⟩
        obtain ⟨k, ek, rfl⟩ := nV_get hi
        have hk : k < gs.length := by
          have := (bd.1 k (List.mem_of_getElem? ek)).2
          omega
        refine ⟨_, rfl, _, rfl, _, rfl, (by show 1 ≤ sizeLine; decide), fun z nz => ?_⟩
        have sz : Same H' (upd H' z (.lst [.int (k : Int)])) := same_new nz
        generalize hHz : upd H' z (.lst [.int (k : Int)]) = Hz at sz
        have ez : Hz z = some (.lst (nV [k])) := by rw [← hHz]; exact upd_same
        refine ⟨rfl, rfl, a, z, n, gs, [k], rfl, hS.same (sm.trans sz), hn, hG, hl, .inl (SqL.of ez), Nat.le_refl _, fun H6 pc s6 npc ec => ?_⟩
        rw [capL_but hG.pos] at ec
        have s'6 := sz.trans s6
        refine ⟨pm, pc, n, _, _, rfl, (tp.same s'6).tab, ec, hn, fun H7 p7 s7 n7 e7 => ?_⟩
        refine ⟨Nat.zero_le _, fun z2 nz2 => ?_⟩
        have sz2 : Same H7 (upd H7 z2 (.lst [])) := same_new nz2
        refine ⟨.list ((cellL n (mv y x) (BM.C (gs.eraseIdx k))).map prD), .list [], (e7.same sz2).dp, nil_dp upd_same, prD_shapedAll _, nil_shaped, _, rfl, ?_⟩
        rw [nil_eqv, isEmpty_map]
        generalize hH8 : upd H7 z2 (.lst []) = H8 at sz2
        have s'8 : Same H' H8 := (s'6.trans s7).trans sz2
        have smm := sm.trans s'8
        rw [List.take_add_one, ek, List.filter_append]
        by_cases ce : (cellL n (mv y x) (BM.C (gs.eraseIdx k))).isEmpty = true
        · rw [ce]
          refine iteF ⟨_, rfl, smm, tp.same s'8, s'8 _ _ e2, ?_⟩
          have e0 : ((some k : Option Nat).toList.filter fun k => !(cellL n (mv y x) (BM.C (gs.eraseIdx k))).isEmpty) = [] := by simp [ce]
          rw [e0, List.append_nil]
          exact s'8 _ _ eL
        · have ce' : (cellL n (mv y x) (BM.C (gs.eraseIdx k))).isEmpty = false := by simpa using ce
          rw [ce']
          have eL8 := s'8 _ _ eL
          refine iteT ⟨_, rfl, .inl ⟨rfl, _, SqL.of eL8⟩, _, rfl, L, _, _, rfl, rfl, eL8, ?_, ?_⟩
          · rw [nV_len]
            have a1 := List.length_filter_le (fun k => !(cellL n (mv y x) (BM.C (gs.eraseIdx k))).isEmpty) ((gdn y 0 gs x).take i)
            have a2 : ((gdn y 0 gs x).take i).length ≤ i := by rw [List.length_take]; omega
            have a3 : i < (gdn y 0 gs x).length := (List.getElem?_eq_some_iff.mp ek).1
            have a4 := gdn_len y gs x 0
            exact small1000 (by omega)
          have e0 : ((some k : Option Nat).toList.filter fun k => !(cellL n (mv y x) (BM.C (gs.eraseIdx k))).isEmpty) = [k] := by simp [ce']
          refine ⟨_, rfl, same_but oL smm, (tp.same s'8).upd pL Las, ?_, ?_⟩
          · rw [upd_ne hm2L]
            exact s'8 _ _ e2
          · rw [upd_same, e0, nV_app]
      · rintro σ H' ⟨y5, rfl, sm, tp, e2, eL⟩
        rw [nV_len, List.take_length] at eL
        exact ⟨_, rfl, q rfl H' L sm oL eL⟩
end
end BM
namespace BM
open PySem PySem.Spec PyProof.Rows L2 BR
abbrev sBag : Stmt := topS 37
abbrev sTake : Stmt := topS 38
abbrev sLcells : Stmt := topS 39
abbrev sLplaces : Stmt := topS 40
abbrev sMost : Stmt := topS 51
theorem scBag : FnScope ["_law_script", "_law_cell"] ["_law_script"] (defScope sBag) := ⟨rfl, rfl, rfl, by decide +kernel, rfl, by decide +kernel, by decide +kernel⟩
theorem scTake : FnScope ["_law_bag_here", "_law_many", "_law_cell", "_law_value", "_law_first", "_law_second"] ["_law_bag_here", "_law_many"] (defScope sTake) := ⟨rfl, rfl, rfl, by decide +kernel, rfl, by decide +kernel, by decide +kernel⟩
theorem scLplaces : FnScope ["_law_bag_here", "_law_least", "_law_most_here"] ["_law_bag_here", "_law_least", "_law_most_here"] (defScope sLplaces) := ⟨rfl, rfl, rfl, by decide +kernel, rfl, by decide +kernel, by decide +kernel⟩
theorem scMost : FnScope ["_law_bag_here", "_law_most_here", "_law_greatest"] ["_law_bag_here", "_law_most_here", "_law_greatest"] (defScope sMost) := ⟨rfl, rfl, rfl, by decide +kernel, rfl, by decide +kernel, by decide +kernel⟩
/-! ### the bag of draws -/
def BagAt (H : Hp) (b L : Addr) : Prop := ∃ (v0 v1 : Int) (v2 : Nat) (cs : List Int), H b = some (.lst [.int v0, .int v1, .int (v2 : Int), .ref L]) ∧ H L = some (.lst (cs.map V.int))
theorem bag_ne {H : Hp} {b L : Addr} {x y z : V} {cs : List Int} (h1 : H b = some (.lst [x, y, z, .ref L])) (h2 : H L = some (.lst (cs.map V.int))) : L ≠ b := fun e => by
  rw [e, h1] at h2
  have q := HO.lst.inj (Option.some.inj h2)
  have q3 : ([x, y, z, V.ref b] : List V)[3]? = some (V.ref b) := rfl
  rw [← e, q, List.getElem?_map] at q3
  cases e2 : cs[3]? with
  | none =>
    rw [e2] at q3
    cases q3
  | some v =>
    rw [e2] at q3
    cases q3
theorem BagAt.same {H H' : Hp} {b L : Addr} (h : BagAt H b L) (s : Same H H') : BagAt H' b L := by
  obtain ⟨v0, v1, v2, cs, h1, h2⟩ := h
  exact ⟨v0, v1, v2, cs, s _ _ h1, s _ _ h2⟩
theorem BagAt.upd {H : Hp} {b L p : Addr} {o : HO} (h : BagAt H b L) (n : H p = none) : BagAt (upd H p o) b L := h.same (same_new n)
theorem BagAt.isB {H : Hp} {b L : Addr} (h : BagAt H b L) : ∃ o, H b = some o := by
  obtain ⟨v0, v1, v2, cs, h1, h2⟩ := h
  exact ⟨_, h1⟩
theorem BagAt.isL {H : Hp} {b L : Addr} (h : BagAt H b L) : ∃ o, H L = some o := by
  obtain ⟨v0, v1, v2, cs, h1, h2⟩ := h
  exact ⟨_, h2⟩
/-- another object than the bag's two is changed -/
theorem BagAt.own {H : Hp} {b L p : Addr} {o : HO} (h : BagAt H b L) (h1 : b ≠ p) (h2 : L ≠ p) : BagAt (L2.upd H p o) b L := by
  obtain ⟨v0, v1, v2, cs, e1, e2⟩ := h
  exact ⟨v0, v1, v2, cs, by rw [upd_ne h1]; exact e1, by rw [upd_ne h2]; exact e2⟩
theorem cutV_ints (ns : List Int) (lo hi : Option Int) : ∃ cs : List Int, cutV (ns.map V.int) lo hi = cs.map V.int ∧ cs.length ≤ ns.length := by
  unfold cutV
  refine ⟨(ns.drop (HT.sIx (ns.map V.int).length 0 lo)).take (HT.sIx (ns.map V.int).length (ns.map V.int).length hi - HT.sIx (ns.map V.int).length 0 lo), ?_, ?_⟩
  · rw [List.map_take, List.map_drop]
  · rw [List.length_take, List.length_drop]
    omega
def spBag (K : PySem.W.Frag) : Sp := fun vs H Q _ => ∃ (a : Addr) (ns : List Int), vs = [.ref a] ∧ SqL K H a (ns.map V.int) ∧ ns.length ≤ 63 ∧ ∀ (H' : Hp) (b L : Addr), Same H H' → H b = none → BagAt H' b L → Q (.ref b) H'
def spTake : Sp := fun vs H Q _ => ∃ (b L : Addr) (m : Nat), vs = [.ref b, .int (m : Int)] ∧ 1 ≤ m ∧ m ≤ 1000 ∧ BagAt H b L ∧ ∀ (H' : Hp) (v : Nat), But b H H' → BagAt H' b L → v < m → Q (.int (v : Int)) H'
def spLplaces : Sp := fun vs H Q _ => ∃ (b L : Addr) (l m : Nat), vs = [.ref b, .int (l : Int), .int (m : Int)] ∧ l ≤ m ∧ m ≤ 900 ∧ BagAt H b L ∧ ∀ (H' : Hp) (v : Nat), But b H H' → BagAt H' b L → l ≤ v → v ≤ m → Q (.int (v : Int)) H'
def spMost : Sp := fun vs H Q _ => ∃ (b L : Addr) (l m : Nat), vs = [.ref b, .int (l : Int), .int (m : Int)] ∧ BagAt H b L ∧ ∀ (H' : Hp) (v : Nat), But b H H' → BagAt H' b L → (v = l ∨ v = m) → Q (.int (v : Int)) H'
section
variable {P : Program} {w : World} {K : PySem.W.Frag} {mg : Str → Option Value} {base : Heap}
theorem ok_bag (D : Gd K mg "_law_bag" sBag ["_law_script"]) (ma : mg "abs" = none) : Cl P w K mg base 1 "_law_bag" (spBag K) := by
  refine cl_of D scBag (fun vs H Q E h => ?_) (fun f cdv A outer s H vs Q E hr h => ?_)
  · obtain ⟨a, ns, rfl, _⟩ := h
    rfl
  · obtain ⟨a, ns, rfl, hS, hn, q⟩ := h
    refine ⟨_, pss_one (ps_ret (pe_lst (pa_cons pe_int (pa_cons pe_int (pa_cons pe_int (pa_cons
      (pe_lc (own := [("_law_cell", 1)]) (g := gName 1) (tt := tYes) rfl scBag.nd (pi_list (pe_slice sl_list (pv 0) po_none (po_some pe_int))) (blkOk_by (N := ["_law_script", "_law_cell"]) (sc := defScope sBag) (by decide +kernel)) (fun _ _ _ _ _ => pg_name (i := 1) scBag.nd rfl (Or.inl rfl)) (fun _ _ _ _ _ => pts_nil)
        (fun _ _ _ _ _ => pe_callB call_abs (by rfl) ma (by decide +kernel) (pa_cons (pv 1) pa_nil))) pa_nil)))))), ?_⟩
    obtain ⟨cs, ec, hc⟩ := cutV_ints ns none (some 63)
    refine ⟨_, rfl, 63, rfl, a, _, rfl, hS, fun z nz => ?_⟩
    rw [ec]
    have s1 : Same H (upd H z (.lst (cs.map V.int))) := same_new nz
    generalize hH1 : upd H z (.lst (cs.map V.int)) = H1 at s1
    have ez : H1 z = some (.lst (cs.map V.int)) := by rw [← hH1]; exact upd_same
    refine ⟨z, rfl, ⟨_, SqL.of ez⟩, fun L nL => ?_⟩
    refine lst_turns (xs := cs.map V.int) (fun i H' => Same H1 H' ∧ ∃ ds : List Int, H' L = some (.lst (ds.map V.int)) ∧ ds.length ≤ i) ⟨same_new nL, [], upd_same, Nat.le_refl _⟩ (fun i H' _ h => SqL.of (h.1 _ _ ez)) ?_ ?_
    · rintro i v H' hi ⟨sm, ds, eL, ld⟩
      obtain ⟨c, rfl⟩ : ∃ c : Int, v = .int c := by
        rw [List.getElem?_map] at hi
        cases e : cs[i]? with
        | none =>
          rw [e] at hi
          cases hi
        | some c =>
          rw [e] at hi
          exact ⟨c, (Option.some.inj hi).symm⟩
      have hi' : i < cs.length := by
        have := (List.getElem?_eq_some_iff.mp hi).1
        rwa [List.length_map] at this
      refine ⟨rfl, _, rfl, c, rfl, _, eL, by rw [List.length_map]; exact small1000 (by omega), fun b u hb => ?_, ds ++ [if c < 0 then -c else c], ?_, by rw [List.length_append, List.length_singleton]; omega⟩
      · rw [upd_ne (ne_of_none hb nL)]
        exact sm b u hb
      · rw [upd_same, List.map_append]
        rfl
    · rintro H2 ⟨sm, ds, eL, _⟩
      refine ⟨(by show 4 ≤ sizeLine; decide), fun b nb => ?_⟩
      have sb : Same H2 (upd H2 b (.lst [.int 0, .int 1234567891, .int 0, .ref L])) := same_new nb
      exact q _ b L ((s1.trans sm).trans sb) ((s1.trans sm).free nb) ⟨0, 1234567891, 0, ds, upd_same, sb _ _ eL⟩
theorem ok_take (D : Gd K mg "_law_take" sTake ["_law_bag_here", "_law_many"]) (ml : mg "len" = none) : Cl P w K mg base 1 "_law_take" spTake := by
  refine cl_of D scTake (fun vs H Q E h => ?_) (fun f cdv A outer s H vs Q E hr h => ?_)
  · obtain ⟨a, L, m, rfl, _⟩ := h
    rfl
  · obtain ⟨b, L, m, rfl, m1, m2, hB, q⟩ := h
    have ix (j : Int) {pos : Pos} {k : Nat} {p2 : Pos} {X : Cx} (hN : X.N[0]? = some ("_law_bag_here" : Str)) (hv : Vis X.env.scope ("_law_bag_here" : Str)) {p1 : Pos} : PE X (.Subscript (.Name "_law_bag_here" p1) (.Constant (.int j) k p2) pos) (tOp (rIxL X.K) (tVar 0) (tC (.int j))) :=
      pe_ix ix_list (pv 0 hN hv) pe_int (fun _ _ => rfl)
    refine ⟨_, C8.pss_cut (ps_if (pt_cmpR op_eq (pe_ix ix_list (pv 0) pe_int (fun _ _ => rfl)) pe_int (nomark _))
        (pss_cons (ps_set (i := 2) scTake.nd rfl (.inl rfl) pe_int)
        (C8.pss_cut (ps_if (pt_cmpR op_lt (pe_ix ix_list (pv 0) pe_int (fun _ _ => rfl)) (pe_callB call_len_seq (by rfl) ml PySem.boot_len (pa_cons (pe_ix ix_list (pv 0) pe_int (fun _ _ => rfl)) pa_nil)) (nomark _))
          (pss_one (ps_set (i := 2) scTake.nd rfl (.inl rfl) (pe_ix ix_list (pe_ix ix_list (pv 0) pe_int (fun _ _ => rfl)) (pe_ix ix_list (pv 0) pe_int (fun _ _ => rfl)) (fun _ _ => rfl)))) pss_nil)
        (pss_cons (ps_augS (pv 0) pe_int get_list pe_int ip_add set_list)
        (C8.pss_cut (ps_if (pt_cmpR op_ge (pv 2) pe_int (nomark _)) (pss_one (ps_asg (pv 2) (pg_sub (pv 0) pe_int set_list))) pss_nil)
        (pss_one (ps_asg (pe_op op_mod (pe_op op_add (pe_op op_add (pe_op op_mul (pe_ix ix_list (pv 0) pe_int (fun _ _ => rfl)) pe_int) (pe_op op_mod (pv 2) pe_int)) (pe_op op_mul pe_int (pe_ix ix_list (pv 0) pe_int (fun _ _ => rfl)))) pe_int) (pg_sub (pv 0) pe_int set_list))))))) pss_nil)
      (pss_cons (ps_if (pt_cmpR op_gt (pe_ix ix_list (pv 0) pe_int (fun _ _ => rfl)) pe_int (nomark _))
        (pss_cons (ps_set (i := 3) scTake.nd rfl (.inl rfl) (pe_op op_mod (pe_ix ix_list (pv 0) pe_int (fun _ _ => rfl)) (pv 1)))
        (pss_cons (ps_asg (pe_op op_fdiv (pe_ix ix_list (pv 0) pe_int (fun _ _ => rfl)) (pv 1)) (pg_sub (pv 0) pe_int set_list))
        (pss_one (ps_ret (pv 3))))) pss_nil)
      (pss_cons (ps_set (i := 4) scTake.nd rfl (.inl rfl) (pe_op op_mod (pe_op op_mul (pe_op op_add (pe_ix ix_list (pv 0) pe_int (fun _ _ => rfl)) pe_int) pe_int) pe_int))
      (pss_cons (ps_set (i := 5) scTake.nd rfl (.inl rfl) (pe_op op_mod (pe_op op_mul (pe_op op_mod (pe_op op_mul (pv 4) (pv 4)) pe_int) pe_int) pe_int))
      (pss_cons (ps_if (pt_cmpR op_gt (pv 1) pe_int (nomark _)) (pss_one ps_never) pss_nil)
      (pss_one (ps_ret (pe_op op_mod (pe_op op_fdiv (pv 5) pe_int) (pv 1)))))))), ?_⟩
    -- what follows the first if
    refine ⟨fun σ H' => ∃ y2, σ = [some (.ref b), some (.int (m : Int)), y2, none, none, none] ∧ But b H H' ∧ BagAt H' b L, ?_, ?_⟩
    · obtain ⟨v0, v1, v2, cs, h1, h2⟩ := id hB
      refine ⟨_, rfl, b, _, 0, _, rfl, rfl, SqL.of h1, atI_nat (j := 0) rfl, rfl, _, rfl, ?_⟩
      refine ite2 (fun _ => ?_) (fun _ => ⟨_, rfl, But.of (Same.refl H), hB⟩)
      refine ⟨fun σ H' => ∃ c : Int, σ = [some (.ref b), some (.int (m : Int)), some (.int c), none, none, none] ∧ H' = H, ?_, ?_⟩
      · refine ⟨_, rfl, b, _, 2, _, rfl, rfl, SqL.of h1, atI_nat (j := 2) rfl, _, rfl, b, _, 3, .ref L, rfl, rfl, SqL.of h1, atI_nat (j := 3) rfl, L, _, rfl, .inl (SqL.of h2), _, _, rfl, rfl, _, rfl, ?_⟩
        refine ite2 (fun e => ?_) (fun _ => ⟨0, rfl, rfl⟩)
        have lt : v2 < cs.length := by
          have e' := of_decide_eq_true e
          rw [List.length_map] at e'
          omega
        refine ⟨_, rfl, b, _, 3, .ref L, rfl, rfl, SqL.of h1, atI_nat (j := 3) rfl, _, rfl, b, _, 2, .int (v2 : Int), rfl, rfl, SqL.of h1, atI_nat (j := 2) rfl, L, _, (v2 : Int), .int cs[v2], rfl, rfl, SqL.of h2, ?_, ⟨_, rfl, rfl⟩⟩
        refine atI_nat (j := v2) ?_
        rw [List.getElem?_map, List.getElem?_eq_getElem lt]
        rfl
      · rintro σ H' ⟨c, rfl, rfl⟩
        refine ⟨_, rfl, b, _, 2, .int (v2 : Int), rfl, rfl, SqL.of h1, atI_nat (j := 2) rfl, (v2 : Int), 1, rfl, rfl, b, _, 2, 2, rfl, rfl, h1, rfl, ?_⟩
        have nL := bag_ne h1 h2
        generalize hHa : upd H' b (.lst ([V.int v0, V.int v1, V.int (v2 : Int), V.ref L].set 2 (.int ((v2 : Int) + 1)))) = Ha
        have a1 : Ha b = some (.lst [.int v0, .int v1, .int ((v2 + 1 : Nat) : Int), .ref L]) := by
          rw [← hHa]
          exact upd_same
        have a2 : Ha L = some (.lst (cs.map V.int)) := by
          rw [← hHa, upd_ne nL]
          exact h2
        have a3 : But b H' Ha := by
          rw [← hHa]
          exact but_upd
        refine ⟨fun σ H2 => σ = [some (.ref b), some (.int (m : Int)), some (.int c), none, none, none] ∧ But b H' H2 ∧ ∃ w0 : Int, H2 b = some (.lst [.int w0, .int v1, .int ((v2 + 1 : Nat) : Int), .ref L]) ∧ H2 L = some (.lst (cs.map V.int)), ?_, ?_⟩
        · refine ⟨_, rfl, _, _, rfl, rfl, _, rfl, ?_⟩
          refine ite2 (fun _ => ?_) (fun _ => ⟨rfl, a3, v0, a1, a2⟩)
          refine ⟨_, rfl, _, rfl, b, _, 0, 0, rfl, rfl, a1, rfl, rfl, a3.trans but_upd, c, upd_same, ?_⟩
          rw [upd_ne nL]
          exact a2
        · rintro σ H2 ⟨rfl, b2, w0, c1, c2⟩
          refine ⟨_, rfl, b, _, 1, _, rfl, rfl, SqL.of c1, atI_nat (j := 1) rfl, v1, 48271, rfl, rfl, .inr ⟨by decide, by decide⟩, _, rfl, c, 2147483647, rfl, rfl, (by show (0 : Int) < 2147483647; decide), _, _, rfl, rfl, ?_⟩
          refine ⟨_, rfl, b, _, 2, .int ((v2 + 1 : Nat) : Int), rfl, rfl, SqL.of c1, atI_nat (j := 2) rfl, 7919, _, rfl, rfl, .inl ⟨by decide, by decide⟩, _, _, rfl, rfl, _, 2147483647, rfl, rfl, (by show (0 : Int) < 2147483647; decide), ?_⟩
          refine ⟨_, rfl, b, _, 1, 1, rfl, rfl, c1, rfl, _, rfl, b2.trans but_upd, w0, _, v2 + 1, cs, upd_same, ?_⟩
          rw [upd_ne nL]
          exact c2
    · rintro σ H2 ⟨y2, rfl, b2, hB2⟩
      obtain ⟨v0, v1, v2, cs, h1, h2⟩ := id hB2
      have nL := bag_ne h1 h2
      have hm : (0 : Int) < (m : Int) := by omega
      refine ⟨_, rfl, b, _, 0, _, rfl, rfl, SqL.of h1, atI_nat (j := 0) rfl, _, _, rfl, rfl, _, rfl, ?_⟩
      refine ite2 (fun _ => ?_) (fun _ => ?_)
      · refine ⟨_, rfl, b, _, 0, _, rfl, rfl, SqL.of h1, atI_nat (j := 0) rfl, _, rfl, v0, (m : Int), rfl, rfl, hm, ?_⟩
        refine ⟨_, rfl, b, _, 0, _, rfl, rfl, SqL.of h1, atI_nat (j := 0) rfl, _, rfl, v0, (m : Int), rfl, rfl, ⟨hm, by omega⟩, _, rfl, b, _, 0, 0, rfl, rfl, h1, rfl, _, rfl, ?_⟩
        have e1 : 0 ≤ v0 % (m : Int) := Int.emod_nonneg _ (by omega)
        have e2 : v0 % (m : Int) < (m : Int) := Int.emod_lt_of_pos _ hm
        have e3 : v0 % (m : Int) = (((v0 % (m : Int)).toNat : Nat) : Int) := by omega
        show Q (.int (v0 % (m : Int))) _
        rw [e3]
        refine q _ _ (b2.trans but_upd) ⟨_, v1, v2, cs, upd_same, ?_⟩ (by omega)
        rw [upd_ne nL]
        exact h2
      · refine ⟨_, rfl, b, _, 1, _, rfl, rfl, SqL.of h1, atI_nat (j := 1) rfl, v1, 1, rfl, rfl, _, 39373, rfl, rfl, .inr ⟨by decide, by decide⟩, _, 1000000007, rfl, rfl, (by show (0 : Int) < 1000000007; decide), ?_⟩
        have f1 : 0 ≤ (v1 + 1) * 39373 % 1000000007 := Int.emod_nonneg _ (by decide)
        have f2 : (v1 + 1) * 39373 % 1000000007 < 1000000007 := Int.emod_lt_of_pos _ (by decide)
        show tSeq _ _ _ ([some (.ref b), some (.int (m : Int)), y2, none, some (.int ((v1 + 1) * 39373 % 1000000007)), none]) H2
        generalize (v1 + 1) * 39373 % 1000000007 = fi at f1 f2
        refine ⟨_, rfl, _, rfl, fi, fi, rfl, rfl, .inl ⟨by omega, by omega⟩, _, 998244353, rfl, rfl, (by show (0 : Int) < 998244353; decide), _, 30011, rfl, rfl, .inr ⟨by decide, by decide⟩, _, 998244353, rfl, rfl, (by show (0 : Int) < 998244353; decide), ?_⟩
        obtain ⟨se, hse⟩ : ∃ se : Int, fi * fi % 998244353 * 30011 % 998244353 = se := ⟨_, rfl⟩
        refine ⟨_, rfl, (m : Int), 1000000, rfl, rfl, _, rfl, ?_⟩
        rw [decide_eq_false (show ¬ (1000000 : Int) < (m : Int) by omega)]
        refine iteF ⟨_, rfl, se, 7, congrArg V.int hse, rfl, ⟨by decide, by decide⟩, _, rfl, se / 7, (m : Int), rfl, rfl, hm, ?_⟩
        have e1 : 0 ≤ se / 7 % (m : Int) := Int.emod_nonneg _ (by omega)
        have e2 : se / 7 % (m : Int) < (m : Int) := Int.emod_lt_of_pos _ hm
        have e3 : se / 7 % (m : Int) = (((se / 7 % (m : Int)).toNat : Nat) : Int) := by omega
        show Q (.int (se / 7 % (m : Int))) _
        rw [e3]
        exact q _ _ b2 hB2 (by omega)
theorem ok_lplaces (D : Gd K mg "_law_places" sLplaces ["_law_bag_here", "_law_least", "_law_most_here"]) (cT : Cl P w K mg base 1 "_law_take" spTake) : Cl P w K mg base 2 "_law_places" spLplaces := by
  refine cl_of D scLplaces (fun vs H Q E h => ?_) (fun f cdv A outer s H vs Q E hr h => ?_)
  · obtain ⟨a, L, l, m, rfl, _⟩ := h
    rfl
  · obtain ⟨b, L, l, m, rfl, h1, h2, hB, q⟩ := h
    refine ⟨_, pss_one (ps_ret (pe_op op_add (pv 1) (pe_cl cT hr (pa_cons (pv 0) (pa_cons (pe_op op_add (pe_op op_sub (pv 2) (pv 1)) pe_int) pa_nil))))), ?_⟩
    refine ⟨_, rfl, _, rfl, _, rfl, _, rfl, (m : Int), (l : Int), rfl, rfl, _, _, rfl, rfl, b, L, m - l + 1, ?_, by omega, by omega, hB, fun H' v hb hB' hv => ?_⟩
    · have e : (m : Int) - (l : Int) + 1 = ((m - l + 1 : Nat) : Int) := by omega
      show [V.ref b, V.int ((m : Int) - (l : Int) + 1)] ++ [] = _
      rw [e]
      rfl
    · refine ⟨_, _, rfl, rfl, ?_⟩
      have e : (l : Int) + (v : Int) = ((l + v : Nat) : Int) := by omega
      show Q (.int ((l : Int) + (v : Int))) _
      rw [e]
      exact q H' (l + v) hb hB' (by omega) (by omega)
theorem ok_most (D : Gd K mg "_law_most" sMost ["_law_bag_here", "_law_most_here", "_law_greatest"]) (cT : Cl P w K mg base 1 "_law_take" spTake) (mt : mg "int" = none) : Cl P w K mg base 2 "_law_most" spMost := by
  refine cl_of D scMost (fun vs H Q E h => ?_) (fun f cdv A outer s H vs Q E hr h => ?_)
  · obtain ⟨a, L, l, m, rfl, _⟩ := h
    rfl
  · obtain ⟨b, L, l, m, rfl, hB, q⟩ := h
    refine ⟨_, pss_one (ps_ret (pe_ix ix_list (pe_lst (pa_cons (pv 1) (pa_cons (pv 2) pa_nil))) (pe_callTy call_int1 (by rfl) mt (by decide +kernel) (pa_cons (pe_cmpR op_eq (pe_cl cT hr (pa_cons (pv 0) (pa_cons pe_int pa_nil))) pe_int (nomark _)) pa_nil)) (fun _ _ => rfl))), ?_⟩
    refine ⟨_, rfl, _, rfl, (by show 2 ≤ sizeLine; decide), fun z nz => ?_⟩
    have sz : Same H (upd H z (.lst [.int (l : Int), .int (m : Int)])) := same_new nz
    refine ⟨_, rfl, b, L, 8, rfl, by decide, by decide, hB.same sz, fun H' v hb hB' hv => ?_⟩
    obtain ⟨ob, hob⟩ := hB.isB
    have ez : H' z = some (.lst [.int (l : Int), .int (m : Int)]) := hb z _ (ne_of_none hob nz).symm upd_same
    have bH : But b H H' := (But.of sz).trans hb
    refine ⟨rfl, .inr ⟨_, rfl, ?_⟩⟩
    by_cases e : (V.int (v : Int)) = V.int 0
    · rw [decide_eq_true e]
      exact ⟨z, _, 1, .int (m : Int), rfl, rfl, SqL.of ez, atI_nat (j := 1) rfl, q H' m bH hB' (.inr rfl)⟩
    · rw [decide_eq_false e]
      exact ⟨z, _, 0, .int (l : Int), rfl, rfl, SqL.of ez, atI_nat (j := 0) rfl, q H' l bH hB' (.inl rfl)⟩
end
end BM
namespace BM
open PySem PySem.Spec PyProof.Rows L2 BR
abbrev sLgates : Stmt := topS 41
abbrev sLorder : Stmt := topS 42
abbrev sLmisses : Stmt := topS 43
theorem scLgates : FnScope ["_law_bag_here", "_law_places_here", "_law_most_here", "_law_way", "_law_at", "_law_found", "_law_k", "_law_gate"] ["_law_bag_here", "_law_places_here", "_law_most_here"] (defScope sLgates) := ⟨rfl, rfl, rfl, by decide +kernel, rfl, by decide +kernel, by decide +kernel⟩
theorem scLorder : FnScope ["_law_bag_here", "_law_places_here", "_law_left", "_law_found", "_law_way", "_law_k", "_law_one", "_law_other"] ["_law_bag_here", "_law_places_here"] (defScope sLorder) := ⟨rfl, rfl, rfl, by decide +kernel, rfl, by decide +kernel, by decide +kernel⟩
theorem scLmisses : FnScope ["_law_bag_here", "_law_many", "_law_most_here", "_law_found", "_law_left", "_law_k"] ["_law_bag_here", "_law_many", "_law_most_here"] (defScope sLmisses) := ⟨rfl, rfl, rfl, by decide +kernel, rfl, by decide +kernel, by decide +kernel⟩
/-! ### plain lists -/
theorem erase_perm : ∀ {l : List Nat} {k y : Nat}, l[k]? = some y → (y :: l.eraseIdx k).Perm l
  | [], k, y, h => by simp at h
  | a :: l, 0, y, h => by
    have e : a = y := Option.some.inj h
    subst e
    exact List.Perm.refl _
  | a :: l, k + 1, y, h => by
    have ih := erase_perm (l := l) (k := k) (y := y) h
    show (y :: a :: l.eraseIdx k).Perm (a :: l)
    exact (List.Perm.swap a y _).trans (ih.cons a)
theorem erase_len : ∀ {l : List Nat} {k : Nat}, k < l.length → (l.eraseIdx k).length + 1 = l.length
  | [], k, h => by cases h
  | a :: l, 0, h => rfl
  | a :: l, k + 1, h => by
    have h' : k < l.length := by
      rw [List.length_cons] at h
      omega
    have ih := erase_len (l := l) (k := k) h'
    show (l.eraseIdx k).length + 1 + 1 = l.length + 1
    omega
theorem nV_erase (l : List Nat) (k : Nat) : (nV l).eraseIdx k = nV (l.eraseIdx k) := by
  unfold nV
  induction l generalizing k with
  | nil => rfl
  | cons a l ih =>
    cases k with
    | zero => rfl
    | succ k =>
      show _ :: (List.map _ l).eraseIdx k = _
      rw [ih]
      rfl
theorem rg_nV {n : Nat} : rgV 0 (n : Int) = nV (List.range n) := by
  unfold rgV
  have e : ((n : Int) - 0).toNat = n := by omega
  rw [e]
  refine List.map_congr_left fun i _ => ?_
  rw [Int.zero_add]
theorem rg_ok {n : Nat} (h : n ≤ 400) : RgOk 0 (n : Int) := RgOk.of_le (by omega) (by omega) (by omega) (by omega)
def spLgates : Sp := fun vs H Q _ => ∃ (b L : Addr) (n m : Nat), vs = [.ref b, .int (n : Int), .int (m : Int)] ∧ 2 ≤ n ∧ n ≤ 12 ∧ m ≤ 400 ∧ BagAt H b L ∧
  ∀ (H' : Hp) (p : Addr) (gs : List Nat), But b H H' → BagAt H' b L → H p = none → H' p = some (.lst (nV gs)) → GOk n gs → gs.length ≤ m → Q (.ref p) H'
def spLorder : Sp := fun vs H Q _ => ∃ (b L : Addr) (n : Nat), vs = [.ref b, .int (n : Int)] ∧ 1 ≤ n ∧ n ≤ 12 ∧ BagAt H b L ∧
  ∀ (H' : Hp) (p : Addr) (x : List Nat), But b H H' → BagAt H' b L → H p = none → H' p = some (.lst (nV x)) → IsOrd n x → Q (.ref p) H'
def spLmisses : Sp := fun vs H Q _ => ∃ (b L : Addr) (n m : Nat), vs = [.ref b, .int (n : Int), .int (m : Int)] ∧ n ≤ 400 ∧ m ≤ 400 ∧ BagAt H b L ∧
  ∀ (H' : Hp) (p : Addr) (ns : List Nat), But b H H' → BagAt H' b L → H p = none → H' p = some (.lst (nV ns)) → Q (.ref p) H'
theorem but_new {b p : Addr} {H0 H : Hp} {o : HO} (h : But b H0 H) (n : H p = none) : But b H0 (upd H p o) := h.trans (But.of (same_new n))
/-- an object that is ours is changed -/
theorem but_own {b p : Addr} {H0 H : Hp} {o : HO} (h : But b H0 H) (n : H0 p = none) : But b H0 (upd H p o) := fun c u hc e => by
  rw [upd_ne (ne_of_none e n)]
  exact h c u hc e
theorem bag_ne1 {H : Hp} {b L p : Addr} (h : BagAt H b L) (n : H p = none) : b ≠ p ∧ L ≠ p := by
  obtain ⟨o, e⟩ := h.isB
  obtain ⟨u, e2⟩ := h.isL
  exact ⟨ne_of_none e n, ne_of_none e2 n⟩
section
variable {P : Program} {w : World} {K : PySem.W.Frag} {mg : Str → Option Value} {base : Heap}
theorem ok_lgates (D : Gd K mg "_law_gates" sLgates ["_law_bag_here", "_law_places_here", "_law_most_here"]) (cT : Cl P w K mg base 1 "_law_take" spTake) (mr : mg "range" = none) (mt : mg "int" = none) : Cl P w K mg base 2 "_law_gates" spLgates := by
  refine cl_of D scLgates (fun vs H Q E h => ?_) (fun f cdv A outer s H vs Q E hr h => ?_)
  · obtain ⟨b, L, n, m, rfl, _⟩ := h
    rfl
  · obtain ⟨b, L, n, m, rfl, n2, n12, m4, hB, q⟩ := h
    refine ⟨_, pss_cons (ps_par (i := 3) (j := 4) rfl scLgates.nd rfl rfl (by decide) rfl rfl (pa_cons (pe_cl cT hr (pa_cons (pv 0) (pa_cons pe_int pa_nil))) (pa_cons (pe_cl cT hr (pa_cons (pv 0) (pa_cons pe_int pa_nil))) pa_nil)) (by rfl))
      (pss_cons (ps_set (i := 5) scLgates.nd rfl (.inl rfl) (pe_lst pa_nil))
      (pss_cons (ps_for PassesOwn.never rfl (pi_range1 (by rfl) mr (pa_cons (pe_op op_mul (pe_cl cT hr (pa_cons (pv 0) (pa_cons (pe_op op_add (pv 2) pe_int) pa_nil))) (pe_callTy call_int1 (by rfl) mt (by decide +kernel) (pa_cons (pe_cmpR op_gt (pv 1) pe_int (nomark _)) pa_nil))) pa_nil)) (pg_name (i := 6) scLgates.nd rfl (.inl rfl))
        (pss_cons (ps_set (i := 7) scLgates.nd rfl (.inl rfl) (pe_op op_add pe_int (pe_cl cT hr (pa_cons (pv 0) (pa_cons (pe_op op_sub (pv 1) pe_int) pa_nil)))))
        (C8.pss_cut (ps_if (pt_cmpR op_eq (pv 3) pe_int (nomark _)) (pss_one (ps_set (i := 7) scLgates.nd rfl (.inl rfl) (pe_op op_add pe_int (pe_op op_mod (pe_op op_add (pv 4) (pv 6)) (pe_op op_sub (pv 1) pe_int))))) pss_nil)
        (C8.pss_cut (ps_if (pt_cmpR op_eq (pv 3) pe_int (nomark _)) (pss_one (ps_set (i := 7) scLgates.nd rfl (.inl rfl) (pe_op op_sub (pe_op op_sub (pv 1) pe_int) (pe_op op_mod (pe_op op_add (pv 4) (pv 6)) (pe_op op_sub (pv 1) pe_int))))) pss_nil)
        (C8.pss_cut (ps_if (PW.pt (pw_and (pt_cmpR op_eq (pv 3) pe_int (nomark _)) (pw_and1 (pt_cmpR op_gt (pe_op op_mod (pv 7) pe_int) pe_int (nomark _))))) (pss_one (ps_set (i := 7) scLgates.nd rfl (.inl rfl) (pe_op op_add pe_int (pe_op op_mod (pe_op op_add (pv 4) (pe_op op_mod (pv 6) pe_int)) (pe_op op_sub (pv 1) pe_int))))) pss_nil)
        (pss_one (ps_expr (pe_bm PySem.F.plainAttrs_list PySem.F.slot_list_append PySem.F.type_list_append mt_append (pv 5) (pa_cons (pv 7) pa_nil)))))))))
      (pss_one (ps_ret (pv 5))))), ?_⟩
    refine ⟨_, rfl, b, L, 4, rfl, by decide, by decide, hB, fun H1 way b1 hB1 w4 => ?_⟩
    refine ⟨_, rfl, b, L, 12, rfl, by decide, by decide, hB1, fun H2 atv b2 hB2 _ => ⟨_, _, rfl, ?_⟩⟩
    have b02 := b1.trans b2
    refine ⟨Nat.zero_le _, fun p np => ?_⟩
    obtain ⟨nbp, nLp⟩ := bag_ne1 hB2 np
    have npH : H p = none := b02.free np (Ne.symm nbp)
    have b03 : But b H (upd H2 p (.lst [])) := but_new b02 np
    refine ⟨_, rfl, _, rfl, _, _, rfl, rfl, b, L, m + 1, rfl, by omega, by omega, hB2.upd np, fun H4 v b4 hB4 hv => ?_⟩
    have e4 : H4 p = some (.lst (nV [])) := b4 p _ (Ne.symm nbp) upd_same
    have b04 := b03.trans b4
    have gt1 : decide ((1 : Int) < (n : Int)) = true := decide_eq_true (by omega)
    refine ⟨_, rfl, _, _, rfl, rfl, .inr ⟨_, rfl, _, _, rfl, rfl, .inl ⟨by omega, by omega⟩, ?_⟩⟩
    have ev : (v : Int) * (if decide ((1 : Int) < (n : Int)) = true then 1 else 0) = (v : Int) := by
      rw [gt1]
      simp
    refine ⟨_, rfl, ?_⟩
    rw [ev]
    refine ⟨by omega, by omega, ?_⟩
    rw [Int.toNat_natCast]
    refine for_range (lo := 0) (n := v) (fun i σ H' => ∃ y6 y7, σ = [some (.ref b), some (.int (n : Int)), some (.int (m : Int)), some (.int (way : Int)), some (.int (atv : Int)), some (.ref p), y6, y7] ∧ But b H H' ∧ BagAt H' b L ∧
        ∃ gs : List Nat, H' p = some (.lst (nV gs)) ∧ GOk n gs ∧ gs.length = i) ⟨none, none, rfl, b04, hB4, [], e4, (fun g hg => by cases hg), rfl⟩ ?_ ?_
    · rintro i σ H5 hi ⟨y6, y7, rfl, b5, hB5, gs, e5, hG, hl⟩
      refine ⟨_, rfl, _, rfl, _, _, rfl, rfl, b, L, n - 1, ?_, by omega, by omega, hB5, fun H6 z b6 hB6 hz => ?_⟩
      · have e : (n : Int) - 1 = ((n - 1 : Nat) : Int) := by omega
        show [V.ref b, V.int ((n : Int) - 1)] ++ [] = _
        rw [e]
        rfl
      have b06 := b5.trans b6
      have e6 : H6 p = some (.lst (nV gs)) := b6 p _ (Ne.symm nbp) e5
      have n1 : (0 : Int) < (n : Int) - 1 := by omega
      refine ⟨_, _, rfl, rfl, ?_⟩
      have mid : ∀ (a : Int), 0 ≤ a % ((n : Int) - 1) ∧ a % ((n : Int) - 1) < (n : Int) - 1 := fun a => ⟨Int.emod_nonneg _ (by omega), Int.emod_lt_of_pos _ n1⟩
      refine ⟨fun σ H' => H6 = H' ∧ ∃ g : Int, σ = [some (.ref b), some (.int (n : Int)), some (.int (m : Int)), some (.int (way : Int)), some (.int (atv : Int)), some (.ref p), some (.int (0 + (i : Int))), some (.int g)] ∧ 1 ≤ g ∧ g ≤ (n : Int) - 1, ?_, ?_⟩
      · refine ⟨_, rfl, rfl, _, rfl, ite2 (fun _ => ?_) (fun _ => ⟨rfl, _, rfl, by omega, by omega⟩)⟩
        obtain ⟨q1, q2⟩ := mid ((atv : Int) + (0 + (i : Int)))
        exact ⟨_, rfl, _, rfl, _, _, rfl, rfl, _, rfl, _, _, rfl, rfl, _, _, rfl, rfl, n1, _, _, rfl, rfl, rfl, _, rfl, by omega, by omega⟩
      rintro σ H' ⟨rfl, g, rfl, g1, g2⟩
      refine ⟨fun σ H' => H6 = H' ∧ ∃ g : Int, σ = [some (.ref b), some (.int (n : Int)), some (.int (m : Int)), some (.int (way : Int)), some (.int (atv : Int)), some (.ref p), some (.int (0 + (i : Int))), some (.int g)] ∧ 1 ≤ g ∧ g ≤ (n : Int) - 1, ?_, ?_⟩
      · refine ⟨_, rfl, rfl, _, rfl, ite2 (fun _ => ?_) (fun _ => ⟨rfl, _, rfl, g1, g2⟩)⟩
        obtain ⟨q1, q2⟩ := mid ((atv : Int) + (0 + (i : Int)))
        exact ⟨_, rfl, _, _, rfl, rfl, _, rfl, _, rfl, _, _, rfl, rfl, _, rfl, _, _, rfl, rfl, _, _, rfl, rfl, n1, _, _, rfl, rfl, rfl, _, rfl, by omega, by omega⟩
      rintro σ H' ⟨rfl, g, rfl, g1, g2⟩
      refine ⟨fun σ H' => H6 = H' ∧ ∃ g : Int, σ = [some (.ref b), some (.int (n : Int)), some (.int (m : Int)), some (.int (way : Int)), some (.int (atv : Int)), some (.ref p), some (.int (0 + (i : Int))), some (.int g)] ∧ 1 ≤ g ∧ g ≤ (n : Int) - 1, ?_, ?_⟩
      · refine ⟨_, rfl, rfl, _, rfl, ite2 (fun _ => ?_) (fun _ => ?_)⟩
        · refine ⟨_, rfl, _, 3, rfl, rfl, (by show (0 : Int) < 3; decide), _, _, rfl, rfl, _, rfl, ite2 (fun _ => ?_) (fun _ => ⟨rfl, _, rfl, g1, g2⟩)⟩
          obtain ⟨q1, q2⟩ := mid ((atv : Int) + (0 + (i : Int)) % 2)
          exact ⟨_, rfl, _, rfl, _, 2, rfl, rfl, (by show (0 : Int) < 2; decide), _, _, rfl, rfl, _, rfl, _, _, rfl, rfl, _, _, rfl, rfl, n1, _, _, rfl, rfl, rfl, _, rfl, by omega, by omega⟩
        · exact iteF ⟨rfl, _, rfl, g1, g2⟩
      rintro σ H' ⟨rfl, g, rfl, g1, g2⟩
      refine ⟨_, rfl, .inl ⟨rfl, _, SqL.of e6⟩, _, rfl, p, _, _, rfl, rfl, e6, by rw [nV_len]; exact small1000 (by omega), ?_⟩
      have eg : g = ((g.toNat : Nat) : Int) := by omega
      rw [eg]
      refine ⟨_, _, rfl, but_own b06 npH, hB6.own nbp nLp, gs ++ [g.toNat], by rw [upd_same, nV_app], fun a ha => ?_, by rw [List.length_append, hl]; rfl⟩
      rcases List.mem_append.mp ha with ha | ha
      · exact hG a ha
      · have ea : a = g.toNat := List.mem_singleton.mp ha
        omega
    · rintro σ H5 ⟨y6, y7, rfl, b5, hB5, gs, e5, hG, hl⟩
      exact ⟨_, rfl, q H5 p gs b5 hB5 npH e5 hG (by omega)⟩
end
end BM
namespace BM
open PySem PySem.Spec PyProof.Rows L2 BR
theorem nV_app2 (xs : List Nat) (v : V) (r : Nat) (e : v = .int (r : Int)) : nV xs ++ [v] = nV (xs ++ [r]) := by rw [e, nV_app]
theorem take_at {xs : List Nat} {k : Nat} (h : k < xs.length) : xs[k]? = some (at0 xs k) := by
  rw [at0_eq h]
  exact List.getElem?_eq_getElem h
theorem swap_ord {n i j : Nat} {x : List Nat} (hx : IsOrd n x) (hi : i < n) (hj : j < n) : IsOrd n ((x.set i (at0 x j)).set j (at0 x i)) := by
  have h1 : i < x.length := by rw [hx.len]; exact hi
  have h2 : j < x.length := by rw [hx.len]; exact hj
  rw [at0_eq h1, at0_eq h2]
  exact (List.set_set_perm h1 h2).trans hx
theorem ints_nat : ∀ {ns : List Int}, (∀ z ∈ ns, 0 ≤ z) → ns.map V.int = nV (ns.map Int.toNat)
  | [], _ => rfl
  | z :: ns, h => by
    have h1 := h z List.mem_cons_self
    have ih := ints_nat (ns := ns) fun y hy => h y (List.mem_cons_of_mem _ hy)
    show V.int z :: ns.map V.int = V.int ((z.toNat : Nat) : Int) :: nV (ns.map Int.toNat)
    rw [ih]
    have e : ((z.toNat : Nat) : Int) = z := by omega
    rw [e]
section
variable {P : Program} {w : World} {K : PySem.W.Frag} {mg : Str → Option Value} {base : Heap}
theorem ok_lorder (D : Gd K mg "_law_order" sLorder ["_law_bag_here", "_law_places_here"]) (cT : Cl P w K mg base 1 "_law_take" spTake) (mr : mg "range" = none) (ml : mg "list" = none) (mn : mg "len" = none) : Cl P w K mg base 2 "_law_order" spLorder := by
  refine cl_of D scLorder (fun vs H Q E h => ?_) (fun f cdv A outer s H vs Q E hr h => ?_)
  · obtain ⟨b, L, n, rfl, _⟩ := h
    rfl
  · obtain ⟨b, L, n, rfl, n1, n12, hB, q⟩ := h
    refine ⟨_, pss_cons (ps_par3 (i := 2) (j := 3) (l := 4) rfl scLorder.nd rfl rfl rfl (by decide) (by decide) (by decide) rfl rfl rfl (pa_cons (pe_listRg rfl (by rfl) ml (prg_1 (by rfl) mr (pv 1))) (pa_cons (pe_lst pa_nil) (pa_cons (pe_cl cT hr (pa_cons (pv 0) (pa_cons pe_int pa_nil))) pa_nil))) (by rfl))
      (pss_cons (ps_for PassesOwn.never rfl (pi_range1 (by rfl) mr (pa_cons (pv 1) pa_nil)) (pg_name (i := 5) scLorder.nd rfl (.inl rfl))
        (pss_one (ps_expr (pe_bm PySem.F.plainAttrs_list PySem.F.slot_list_append PySem.F.type_list_append mt_append (pv 3) (pa_cons
          (pe_bm PySem.F.plainAttrs_list PySem.F.slot_list_pop PySem.F.type_list_pop mt_popAt (pv 2) (pa_cons (pe_cl cT hr (pa_cons (pv 0) (pa_cons (pe_callB call_len_seq (by rfl) mn PySem.boot_len (pa_cons (pv 2) pa_nil)) pa_nil))) pa_nil)) pa_nil)))))
      (pss_cons (ps_if (pt_cmpR op_eq (pv 4) pe_int (nomark _)) (pss_one (ps_ret (pe_revL (pe_listRg rfl (by rfl) ml (prg_1 (by rfl) mr (pv 1)))))) pss_nil)
      (C8.pss_cut (ps_if (pt_cmpR op_eq (pv 4) pe_int (nomark _))
        (pss_cons (ps_set (i := 3) scLorder.nd rfl (.inl rfl) (pe_listRg rfl (by rfl) ml (prg_1 (by rfl) mr (pv 1))))
        (pss_one (ps_for PassesOwn.never rfl (pi_range1 (by rfl) mr (pa_cons (pe_cl cT hr (pa_cons (pv 0) (pa_cons pe_int pa_nil))) pa_nil)) (pg_name (i := 5) scLorder.nd rfl (.inl rfl))
          (pss_cons (ps_par (i := 6) (j := 7) rfl scLorder.nd rfl rfl (by decide) rfl rfl (pa_cons (pe_cl cT hr (pa_cons (pv 0) (pa_cons (pv 1) pa_nil))) (pa_cons (pe_cl cT hr (pa_cons (pv 0) (pa_cons (pv 1) pa_nil))) pa_nil)) (by rfl))
          (pss_one (ps_asg (pe_tup (pa_cons (pe_ix ix_list (pv 3) (pv 7) (fun _ _ => rfl)) (pa_cons (pe_ix ix_list (pv 3) (pv 6) (fun _ _ => rfl)) pa_nil)))
            (pg_tup rfl (pgs_cons (pg_sub (pv 3) (pv 6) set_list) (pgs_cons (pg_sub (pv 3) (pv 7) set_list) pgs_nil))))))))) pss_nil)
      (pss_one (ps_ret (pv 3)))))), ?_⟩
    refine ⟨_, rfl, _, rfl, rg_ok (by omega), fun l nl => ?_⟩
    rw [rg_nV]
    refine ⟨Nat.zero_le _, fun p np => ?_⟩
    have s1 : Same H (upd H l (.lst (nV (List.range n)))) := same_new nl
    have s2 := s1.trans (same_new np (o := .lst []))
    have hlp : l ≠ p := ne_of_none upd_same np
    have npH : H p = none := s1.free np
    have B2 := hB.same s2
    obtain ⟨nbl, nLl⟩ := bag_ne1 hB nl
    obtain ⟨nbp, nLp⟩ := bag_ne1 hB npH
    refine ⟨_, rfl, b, L, 6, rfl, by decide, by decide, B2, fun H3 way b3 hB3 _ => ⟨_, _, _, rfl, ?_⟩⟩
    have b03 : But b H H3 := (But.of s2).trans b3
    have el3 : H3 l = some (.lst (nV (List.range n))) := b3 l _ (Ne.symm nbl) (by rw [upd_ne hlp, upd_same])
    have ep3 : H3 p = some (.lst (nV [])) := b3 p _ (Ne.symm nbp) upd_same
    refine ⟨_, rfl, (n : Int), rfl, by omega, by omega, ?_⟩
    rw [Int.toNat_natCast]
    refine for_range (lo := 0) (n := n) (fun i σ H' => ∃ y5, σ = [some (.ref b), some (.int (n : Int)), some (.ref l), some (.ref p), some (.int (way : Int)), y5, none, none] ∧ But b H H' ∧ BagAt H' b L ∧
        ∃ ls fs : List Nat, H' l = some (.lst (nV ls)) ∧ H' p = some (.lst (nV fs)) ∧ (fs ++ ls).Perm (List.range n) ∧ fs.length = i ∧ ls.length + i = n) ⟨none, rfl, b03, hB3, List.range n, [], el3, ep3, List.Perm.refl _, rfl, by rw [List.length_range]; rfl⟩ ?_ ?_
    · rintro i σ H4 hi ⟨y5, rfl, b4, hB4, ls, fs, el, ep, pm, fl, ll⟩
      refine ⟨_, rfl, .inl ⟨rfl, _, SqL.of ep⟩, _, rfl, .inl ⟨rfl, _, SqL.of el⟩, _, rfl, _, rfl, l, _, rfl, .inl (SqL.of el), b, L, ls.length, ?_, by omega, by omega, hB4, fun H5 k b5 hB5 hk => ?_⟩
      · rw [nV_len]
        rfl
      have el5 := b5 l _ (Ne.symm nbl) el
      have ep5 := b5 p _ (Ne.symm nbp) ep
      refine ⟨l, _, _, k, .int ((at0 ls k : Nat) : Int), rfl, rfl, el5, by omega, by omega, ?_, nV_at hk, ?_⟩
      · have e := seqIndex_of (n := (nV ls).length) (k := (k : Int)) (by omega) (by rw [nV_len]; omega)
        rw [e]
        rfl
      rw [nV_erase]
      refine ⟨p, _, _, rfl, rfl, by rw [upd_ne (Ne.symm hlp)]; exact ep5, by rw [nV_len]; exact small1000 (by omega), ?_⟩
      have eraseL := erase_len hk
      refine ⟨_, rfl, but_own (but_own (b4.trans b5) nl) npH, (hB5.own nbl nLl).own nbp nLp, ls.eraseIdx k, fs ++ [at0 ls k], ?_, by rw [upd_same, nV_app], ?_, by rw [List.length_append, fl]; rfl, by omega⟩
      · rw [upd_ne hlp, upd_same]
      · rw [List.append_assoc]
        exact (List.Perm.append_left fs (erase_perm (take_at hk))).trans pm
    · rintro σ H4 ⟨y5, rfl, b4, hB4, ls, fs, el, ep, pm, fl, ll⟩
      have l0 : ls = [] := List.eq_nil_of_length_eq_zero (by omega)
      subst l0
      rw [List.append_nil] at pm
      refine ⟨_, rfl, rfl, _, rfl, ite2 (fun _ => ?_) (fun _ => ?_)⟩
      · refine ⟨_, rfl, _, rfl, rg_ok (by omega), fun z nz => ?_⟩
        rw [rg_nV]
        have bz : But b H (upd H4 z (.lst (nV (List.range n)))) := but_new b4 nz
        refine ⟨z, _, rfl, SqL.of upd_same, fun u nu => ?_⟩
        obtain ⟨nbu, nLu⟩ := bag_ne1 (hB4.upd nz) nu
        refine q _ u (List.range n).reverse (but_new bz nu) ((hB4.upd nz).upd nu) (bz.free nu (Ne.symm nbu)) ?_ (List.reverse_perm _)
        rw [upd_same]
        unfold nV
        rw [List.map_reverse]
      · refine ⟨fun σ H' => But b H H' ∧ BagAt H' b L ∧ ∃ (u : Addr) (x : List Nat), σ[3]? = some (some (.ref u)) ∧ H u = none ∧ H' u = some (.lst (nV x)) ∧ IsOrd n x, ?_, ?_⟩
        · refine ⟨_, rfl, rfl, _, rfl, ite2 (fun _ => ?_) (fun _ => ⟨b4, hB4, p, fs, rfl, npH, ep, pm⟩)⟩
          refine ⟨_, rfl, _, rfl, rg_ok (by omega), fun z nz => ?_⟩
          rw [rg_nV]
          obtain ⟨nbz, nLz⟩ := bag_ne1 hB4 nz
          have nzH : H z = none := b4.free nz (Ne.symm nbz)
          refine ⟨_, rfl, b, L, 4, rfl, by decide, by decide, hB4.upd nz, fun H5 t b5 hB5 ht => ?_⟩
          have b05 := (but_new b4 nz).trans b5
          have ez5 : H5 z = some (.lst (nV (List.range n))) := b5 z _ (Ne.symm nbz) upd_same
          refine ⟨(t : Int), rfl, by omega, by omega, ?_⟩
          rw [Int.toNat_natCast]
          refine for_range (lo := 0) (n := t) (fun i σ H' => ∃ y2 y4 y5 y6 y7, σ = [some (.ref b), some (.int (n : Int)), y2, some (.ref z), y4, y5, y6, y7] ∧ But b H H' ∧ BagAt H' b L ∧ ∃ x : List Nat, H' z = some (.lst (nV x)) ∧ IsOrd n x) ⟨_, _, _, _, _, rfl, b05, hB5, List.range n, ez5, List.Perm.refl _⟩ ?_ ?_
          · rintro i σ H6 hi ⟨y2, y4, y5, y6, y7, rfl, b6, hB6, x, ez, hx⟩
            refine ⟨_, rfl, _, rfl, b, L, n, rfl, n1, by omega, hB6, fun H7 o1 b7 hB7 h1 => ?_⟩
            refine ⟨_, rfl, _, rfl, b, L, n, rfl, n1, by omega, hB7, fun H8 o2 b8 hB8 h2 => ⟨_, _, rfl, ?_⟩⟩
            have b08 := (b6.trans b7).trans b8
            have ez8 : H8 z = some (.lst (nV x)) := b8 z _ (Ne.symm nbz) (b7 z _ (Ne.symm nbz) ez)
            have x1 : o1 < x.length := by rw [hx.len]; exact h1
            have x2 : o2 < x.length := by rw [hx.len]; exact h2
            refine ⟨_, rfl, _, rfl, z, _, _, _, rfl, rfl, SqL.of ez8, nV_ix rfl x2, _, rfl, _, rfl, z, _, _, _, rfl, rfl, SqL.of ez8, nV_ix rfl x1, (by show 2 ≤ sizeLine; decide), fun T nT => ?_⟩
            obtain ⟨nbT, nLT⟩ := bag_ne1 hB8 nT
            have hzT : z ≠ T := ne_of_none ez8 nT
            have sT : Same H8 (upd H8 T (.tup [.int ((at0 x o2 : Nat) : Int), .int ((at0 x o1 : Nat) : Int)])) := same_new nT
            have bT : But b H (upd H8 T (.tup [.int ((at0 x o2 : Nat) : Int), .int ((at0 x o1 : Nat) : Int)])) := but_new b08 nT
            refine ⟨T, _, rfl, .inl (.inl upd_same), rfl, _, _, rfl, ?_⟩
            refine ⟨_, rfl, _, rfl, z, _, _, o1, rfl, rfl, sT _ _ ez8, ixN_of rfl (by rw [nV_len]; exact x1), ?_⟩
            refine ⟨_, _, rfl, _, rfl, _, rfl, z, _, _, o2, rfl, rfl, upd_same, ixN_of rfl (by rw [List.length_set, nV_len]; exact x2), rfl, ?_⟩
            refine ⟨_, _, _, _, _, rfl, but_own (but_own bT nzH) nzH, ((hB8.same sT).own nbz nLz).own nbz nLz, (x.set o1 (at0 x o2)).set o2 (at0 x o1), ?_, swap_ord hx h1 h2⟩
            rw [upd_same, nV_set, nV_set]
          · rintro σ H6 ⟨y2, y4, y5, y6, y7, rfl, b6, hB6, x, ez, hx⟩
            exact ⟨b6, hB6, z, x, rfl, nzH, ez, hx⟩
        · rintro σ H5 ⟨b5, hB5, u, x, es, nu, eu, hx⟩
          exact ⟨_, es, q H5 u x b5 hB5 nu eu hx⟩
theorem ok_lmisses (D : Gd K mg "_law_misses" sLmisses ["_law_bag_here", "_law_many", "_law_most_here"]) (cT : Cl P w K mg base 1 "_law_take" spTake) (mr : mg "range" = none) (ml : mg "list" = none) (mn : mg "len" = none) (mm : mg "min" = none) (ms : mg "sorted" = none) :
    Cl P w K mg base 2 "_law_misses" spLmisses := by
  refine cl_of D scLmisses (fun vs H Q E h => ?_) (fun f cdv A outer s H vs Q E hr h => ?_)
  · obtain ⟨b, L, n, m, rfl, _⟩ := h
    rfl
  · obtain ⟨b, L, n, m, rfl, n4, m4, hB, q⟩ := h
    refine ⟨_, pss_cons (ps_par (i := 3) (j := 4) rfl scLmisses.nd rfl rfl (by decide) rfl rfl (pa_cons (pe_lst pa_nil) (pa_cons (pe_listRg rfl (by rfl) ml (prg_1 (by rfl) mr (pv 1))) pa_nil)) (by rfl))
      (pss_cons (ps_for PassesOwn.never rfl (pi_range1 (by rfl) mr (pa_cons (pe_callB (call_min2 rfl) (by rfl) mm (by decide +kernel) (pa_cons (pv 1) (pa_cons (pe_cl cT hr (pa_cons (pv 0) (pa_cons (pe_op op_add (pv 2) pe_int) pa_nil))) pa_nil))) pa_nil)) (pg_name (i := 5) scLmisses.nd rfl (.inl rfl))
        (pss_one (ps_expr (pe_bm PySem.F.plainAttrs_list PySem.F.slot_list_append PySem.F.type_list_append mt_append (pv 3) (pa_cons
          (pe_bm PySem.F.plainAttrs_list PySem.F.slot_list_pop PySem.F.type_list_pop mt_popAt (pv 4) (pa_cons (pe_cl cT hr (pa_cons (pv 0) (pa_cons (pe_callB call_len_seq (by rfl) mn PySem.boot_len (pa_cons (pv 4) pa_nil)) pa_nil))) pa_nil)) pa_nil)))))
      (pss_one (ps_ret (pe_callB cr_sortedI (by rfl) ms (by decide +kernel) (pa_cons (pv 3) pa_nil))))), ?_⟩
    refine ⟨Nat.zero_le _, fun p np => ?_⟩
    refine ⟨_, rfl, _, rfl, rg_ok n4, fun l nl => ⟨_, _, rfl, ?_⟩⟩
    rw [rg_nV]
    have s1 : Same H (upd H p (.lst [])) := same_new np
    have s2 := s1.trans (same_new nl (o := .lst (nV (List.range n))))
    have hpl : p ≠ l := ne_of_none upd_same nl
    have nlH : H l = none := s1.free nl
    obtain ⟨nbl, nLl⟩ := bag_ne1 hB nlH
    obtain ⟨nbp, nLp⟩ := bag_ne1 hB np
    refine ⟨_, rfl, _, rfl, _, rfl, _, _, rfl, rfl, b, L, m + 1, rfl, by omega, by omega, hB.same s2, fun H3 v b3 hB3 hv => ?_⟩
    have b03 : But b H H3 := (But.of s2).trans b3
    have el3 : H3 l = some (.lst (nV (List.range n))) := b3 l _ (Ne.symm nbl) upd_same
    have ep3 : H3 p = some (.lst (nV [])) := b3 p _ (Ne.symm nbp) (by rw [upd_ne hpl, upd_same]; rfl)
    have emin : (if (v : Int) < (n : Int) then (v : Int) else (n : Int)) = ((min n v : Nat) : Int) := by
      split <;> omega
    refine ⟨(n : Int), (v : Int), rfl, ?_⟩
    refine ⟨_, rfl, ?_⟩
    rw [emin]
    refine ⟨by omega, by omega, ?_⟩
    rw [Int.toNat_natCast]
    refine for_range (lo := 0) (n := min n v) (fun i σ H' => ∃ y5, σ = [some (.ref b), some (.int (n : Int)), some (.int (m : Int)), some (.ref p), some (.ref l), y5] ∧ But b H H' ∧ BagAt H' b L ∧
        ∃ ls fs : List Nat, H' l = some (.lst (nV ls)) ∧ H' p = some (.lst (nV fs)) ∧ fs.length = i ∧ ls.length + i = n) ⟨none, rfl, b03, hB3, List.range n, [], el3, ep3, rfl, by rw [List.length_range]; rfl⟩ ?_ ?_
    · rintro i σ H4 hi ⟨y5, rfl, b4, hB4, ls, fs, el, ep, fl, ll⟩
      refine ⟨_, rfl, .inl ⟨rfl, _, SqL.of ep⟩, _, rfl, .inl ⟨rfl, _, SqL.of el⟩, _, rfl, _, rfl, l, _, rfl, .inl (SqL.of el), b, L, ls.length, ?_, by omega, by omega, hB4, fun H5 k b5 hB5 hk => ?_⟩
      · rw [nV_len]
        rfl
      have el5 := b5 l _ (Ne.symm nbl) el
      have ep5 := b5 p _ (Ne.symm nbp) ep
      refine ⟨l, _, _, k, .int ((at0 ls k : Nat) : Int), rfl, rfl, el5, by omega, by omega, ?_, nV_at hk, ?_⟩
      · have e := seqIndex_of (n := (nV ls).length) (k := (k : Int)) (by omega) (by rw [nV_len]; omega)
        rw [e]
        rfl
      rw [nV_erase]
      refine ⟨p, _, _, rfl, rfl, by rw [upd_ne hpl]; exact ep5, by rw [nV_len]; exact small1000 (by omega), ?_⟩
      have eraseL := erase_len hk
      refine ⟨_, rfl, but_own (but_own (b4.trans b5) nlH) np, (hB5.own nbl nLl).own nbp nLp, ls.eraseIdx k, fs ++ [at0 ls k], ?_, by rw [upd_same, nV_app], by rw [List.length_append, fl]; rfl, by omega⟩
      rw [upd_ne (Ne.symm hpl), upd_same]
    · rintro σ H4 ⟨y5, rfl, b4, hB4, ls, fs, el, ep, fl, ll⟩
      have ei : nV fs = (fs.map fun (i : Nat) => (i : Int)).map V.int := by
        rw [List.map_map]
        rfl
      refine ⟨_, rfl, p, _, rfl, SqL.of (by rw [← ei]; exact ep), fun ns z pm _ nz => ?_⟩
      obtain ⟨nbz, nLz⟩ := bag_ne1 hB4 nz
      refine q _ z (ns.map Int.toNat) (but_new b4 nz) (hB4.upd nz) (b4.free nz (Ne.symm nbz)) ?_
      rw [upd_same, ints_nat]
      intro y hy
      have hy2 := pm.mem_iff.mp hy
      obtain ⟨r, _, e⟩ := List.mem_map.mp hy2
      omega
end
end BM
namespace BM
open PySem PySem.Spec PyProof.Rows L2 BR
abbrev sLplay : Stmt := topS 44
abbrev sLheld : Stmt := topS 45
abbrev sLare : Stmt := topS 46
abbrev sLmoved : Stmt := topS 48
abbrev sLdone : Stmt := topS 52
theorem scLplay : FnScope ["_law_gates_here", "_law_order_here", "_law_gone", "_law_now", "_law_at", "_law_gate"] ["_law_gates_here", "_law_order_here", "_law_gone"] (defScope sLplay) := ⟨rfl, rfl, rfl, by decide +kernel, rfl, by decide +kernel, by decide +kernel⟩
theorem scLdone : FnScope ["_law_gates_here", "_law_start", "_law_missed", "_law_now", "_law_found", "_law_at", "_law_gate"] ["_law_gates_here", "_law_start", "_law_missed"] (defScope sLdone) := ⟨rfl, rfl, rfl, by decide +kernel, rfl, by decide +kernel, by decide +kernel⟩
theorem scLheld : FnScope ["_law_gates_here", "_law_places_here", "_law_gone", "_law_last", "_law_size", "_law_k", "_law_t", "_law_rank"] ["_law_gates_here", "_law_places_here", "_law_gone"] (defScope sLheld) := ⟨rfl, rfl, rfl, by decide +kernel, rfl, by decide +kernel, by decide +kernel⟩
theorem scLmoved : FnScope ["_law_start", "_law_end", "_law_size", "_law_k", "_law_t", "_law_rank"] ["_law_start", "_law_end"] (defScope sLmoved) := ⟨rfl, rfl, rfl, by decide +kernel, rfl, by decide +kernel, by decide +kernel⟩
theorem scLare : FnScope ["_law_thing", "_law_many", "_law_at", "_law_one"] ["_law_thing", "_law_many"] (defScope sLare) := ⟨rfl, rfl, rfl, by decide +kernel, rfl, by decide +kernel, by decide +kernel⟩
def spLplay (K : PySem.W.Frag) : Sp := fun vs H Q _ => ∃ (a b c : Addr) (n : Nat) (gs x gone : List Nat), vs = [.ref a, .ref b, .ref c] ∧ SqL K H a (nV gs) ∧ SqL K H b (nV x) ∧ SqL K H c (nV gone) ∧ IsOrd n x ∧ GOk n gs ∧ n ≤ 12 ∧ NewL H (ply gone 0 gs x) Q
def spLdone (K : PySem.W.Frag) : Sp := fun vs H Q _ => ∃ (a b c : Addr) (n : Nat) (gs x gone : List Nat), vs = [.ref a, .ref b, .ref c] ∧ SqL K H a (nV gs) ∧ SqL K H b (nV x) ∧ SqL K H c (nV gone) ∧ IsOrd n x ∧ GOk n gs ∧ n ≤ 12 ∧ gs.length ≤ 400 ∧ NewL H (dne gone 0 gs x) Q
def spLare : Sp := fun vs H Q _ => ∃ (a : Addr) (m : Nat) (ns : List Nat), vs = [.ref a, .int (m : Int)] ∧ H a = some (.lst (nV ns)) ∧ ns.Pairwise (· < ·) ∧ (∀ r ∈ ns, r < m) ∧ ∀ H' : Hp, Same H H' → Q (.bl true) H'
theorem ply_yes {gone : List Nat} {i g : Nat} {gs x : List Nat} (h1 : i ∉ gone) (h2 : at0 x g < at0 x (g - 1)) : ply gone i (g :: gs) x = ply gone (i + 1) gs (swp x g) := if_pos ⟨h1, h2⟩
theorem ply_no {gone : List Nat} {i g : Nat} {gs x : List Nat} (h : ¬ (i ∉ gone ∧ at0 x g < at0 x (g - 1))) : ply gone i (g :: gs) x = ply gone (i + 1) gs x := if_neg h
theorem dne_yes {gone : List Nat} {i g : Nat} {gs x : List Nat} (h1 : i ∉ gone) (h2 : at0 x g < at0 x (g - 1)) : dne gone i (g :: gs) x = i :: dne gone (i + 1) gs (swp x g) := if_pos ⟨h1, h2⟩
theorem dne_no {gone : List Nat} {i g : Nat} {gs x : List Nat} (h : ¬ (i ∉ gone ∧ at0 x g < at0 x (g - 1))) : dne gone i (g :: gs) x = dne gone (i + 1) gs x := if_neg h
theorem swp_eq (x : List Nat) (g : Nat) : ((nV x).set (g - 1) (.int ((at0 x g : Nat) : Int))).set g (.int ((at0 x (g - 1) : Nat) : Int)) = nV (swp x g) := by
  rw [nV_set, nV_set]
  rfl
theorem dec_nat (a b : Nat) : decide ((a : Int) < (b : Int)) = decide (a < b) := by
  rw [decide_eq_decide]
  omega
theorem drop_at {gs : List Nat} {i g : Nat} (h : gs[i]? = some g) : gs.drop i = g :: gs.drop (i + 1) := by
  obtain ⟨h1, h2⟩ := List.getElem?_eq_some_iff.mp h
  rw [List.drop_eq_getElem_cons h1, h2]
theorem cut_drop (xs : List Nat) (t : Nat) : cutV (nV xs) (some (t : Int)) none = nV (xs.drop t) := by
  unfold cutV
  rw [HT.sIx_nat, HT.sIx_none, nV_len]
  have e : xs.drop (min t xs.length) = xs.drop t := by
    rcases Nat.le_total t xs.length with h | h
    · rw [Nat.min_eq_left h]
    · rw [Nat.min_eq_right h, List.drop_length, List.drop_eq_nil_of_le h]
  unfold nV
  rw [← List.map_drop, e, List.take_of_length_le]
  rw [List.length_map, List.length_drop]
  omega
theorem cut_take (xs : List Nat) (t : Nat) : cutV (nV xs) none (some (t : Int)) = nV (xs.take t) := by
  unfold cutV
  rw [HT.sIx_nat, HT.sIx_none, nV_len, Nat.sub_zero, List.drop_zero]
  unfold nV
  rw [← List.map_take]
  congr 1
  rcases Nat.le_total t xs.length with h | h
  · rw [Nat.min_eq_left h]
  · rw [Nat.min_eq_right h, List.take_length, List.take_of_length_le h]
section
variable {P : Program} {w : World} {K : PySem.W.Frag} {mg : Str → Option Value} {base : Heap}
theorem ok_lplay (D : Gd K mg "_law_play" sLplay ["_law_gates_here", "_law_order_here", "_law_gone"]) (mt : mg "list" = none) (me : mg "enumerate" = none) : Cl P w K mg base 1 "_law_play" (spLplay K) := by
  refine cl_of D scLplay (fun vs H Q E h => ?_) (fun f cdv A outer s H vs Q E hr h => ?_)
  · obtain ⟨a, b, c, n, gs, x, gone, rfl, _⟩ := h
    rfl
  · obtain ⟨a, b, c, n, gs, x, gone, rfl, ha, hb, hc, hx, hG, hn, q⟩ := h
    refine ⟨_, pss_cons (ps_set (i := 3) scLplay.nd rfl (.inl rfl) (pe_callTy call_list_of (by rfl) mt (by decide +kernel) (pa_cons (pv 1) pa_nil)))
      (pss_cons (ps_for PassesOwn.never rfl (pi_enum (by rfl) me (pa_cons (pv 0) pa_nil))
          (pg_tup rfl (pgs_cons (pg_name (i := 4) scLplay.nd rfl (.inl rfl)) (pgs_cons (pg_name (i := 5) scLplay.nd rfl (.inl rfl)) pgs_nil)))
          (pss_one (ps_if (PW.pt (pw_and (pt_cmpR op_notIn_seq (pv 4) (pv 2) (by rfl)) (pw_and1 (pt_cmpR op_gt (pe_ix ix_list (pv 3) (pe_op op_sub (pv 5) pe_int) (fun _ _ => rfl)) (pe_ix ix_list (pv 3) (pv 5) (fun _ _ => rfl)) (nomark _)))))
            (pss_one (ps_asg (pe_tup (pa_cons (pe_ix ix_list (pv 3) (pv 5) (fun _ _ => rfl)) (pa_cons (pe_ix ix_list (pv 3) (pe_op op_sub (pv 5) pe_int) (fun _ _ => rfl)) pa_nil)))
              (pg_tup rfl (pgs_cons (pg_sub (pv 3) (pe_op op_sub (pv 5) pe_int) set_list) (pgs_cons (pg_sub (pv 3) (pv 5) set_list) pgs_nil))))) pss_nil)))
      (pss_one (ps_ret (pv 3)))), ?_⟩
    refine ⟨_, rfl, b, _, rfl, .inl hb, fun N nN => ?_⟩
    have s1 : Same H (upd H N (.lst (nV x))) := same_new nN
    refine ⟨_, rfl, a, nV gs, rfl, s1.seq ha, ?_⟩
    refine for_enu (xs := nV gs) (fun i σ H' => ∃ y4 y5, σ = [some (.ref a), some (.ref b), some (.ref c), some (.ref N), y4, y5] ∧ Same H H' ∧ ∃ x' : List Nat, H' N = some (.lst (nV x')) ∧ IsOrd n x' ∧ ply gone i (gs.drop i) x' = ply gone 0 gs x)
      ⟨none, none, rfl, s1, x, upd_same, hx, rfl⟩ ?_ ?_ ?_
    · rintro i σ H' _ ⟨y4, y5, rfl, sm, _⟩
      exact sm.seq ha
    · rintro i v σ H' U hi ⟨y4, y5, rfl, sm, x', eN', hx', hp⟩ nU
      obtain ⟨g, eg, rfl⟩ := nV_get hi
      obtain ⟨g1, g2⟩ := hG g (List.mem_of_getElem? eg)
      rw [drop_at eg] at hp
      have gx : g < x'.length := by rw [hx'.len]; exact g2
      have sU : Same H' (upd H' U (.tup [.int (i : Int), .int (g : Int)])) := same_new nU
      have smU := sm.trans sU
      have eN := sU _ _ eN'
      refine ⟨U, _, rfl, .inl (.inl upd_same), rfl, _, _, rfl, _, _, rfl, rfl, ?_⟩
      refine ⟨_, rfl, _, rfl, c, _, rfl, .inl (smU.seq hc), rfl, nV_flat _, _, rfl, ?_⟩
      rw [nV_in]
      by_cases c0 : i ∈ gone
      · rw [decide_eq_true c0]
        refine iteF (iteF ⟨_, _, rfl, smU, x', eN, hx', ?_⟩)
        rw [← hp, ply_no (fun z => z.1 c0)]
      · rw [decide_eq_false c0]
        show if true = true then _ else _
        refine iteT ⟨_, rfl, _, rfl, _, _, rfl, rfl, N, _, _, _, rfl, rfl, SqL.of eN, nV_ix (i := g - 1) (by omega) (by omega), _, rfl, _, rfl, N, _, _, _, rfl, rfl, SqL.of eN, nV_ix rfl gx, _, _, rfl, rfl, _, rfl, ?_⟩
        rw [dec_nat]
        by_cases c1 : at0 x' g < at0 x' (g - 1)
        · rw [decide_eq_true c1]
          refine iteT ⟨_, rfl, _, rfl, N, _, _, _, rfl, rfl, SqL.of eN, nV_ix rfl gx, _, rfl, _, rfl, _, _, rfl, rfl, N, _, _, _, rfl, rfl, SqL.of eN, nV_ix (i := g - 1) (by omega) (by omega), (by show 2 ≤ sizeLine; decide), fun T nT => ?_⟩
          have sT : Same (upd H' U (.tup [.int (i : Int), .int (g : Int)])) (upd (upd H' U (.tup [.int (i : Int), .int (g : Int)])) T (.tup [.int ((at0 x' g : Nat) : Int), .int ((at0 x' (g - 1) : Nat) : Int)])) := same_new nT
          refine ⟨T, _, rfl, .inl (.inl upd_same), rfl, _, _, rfl, ?_⟩
          refine ⟨_, rfl, _, rfl, _, _, rfl, rfl, N, _, _, g - 1, rfl, rfl, sT _ _ eN, ixN_of (by omega) (by rw [nV_len]; omega), ?_⟩
          refine ⟨_, _, rfl, _, rfl, _, rfl, N, _, _, g, rfl, rfl, upd_same, ixN_of rfl (by rw [List.length_set, nV_len]; omega), rfl, ?_⟩
          refine ⟨_, _, rfl, same_but nN (same_but nN (smU.trans sT)), swp x' g, ?_, hx'.swp g1 g2, ?_⟩
          · rw [upd_same, swp_eq]
          · rw [← hp, ply_yes c0 c1]
        · rw [decide_eq_false c1]
          refine iteF ⟨_, _, rfl, smU, x', eN, hx', ?_⟩
          rw [← hp, ply_no (fun z => c1 z.2)]
    · rintro σ H' ⟨y4, y5, rfl, sm, x', eN, hx', hp⟩
      rw [nV_len, List.drop_length] at hp
      have hp' : x' = ply gone 0 gs x := hp
      subst hp'
      exact ⟨_, rfl, q H' N sm nN eN⟩
theorem ok_ldone (D : Gd K mg "_law_done" sLdone ["_law_gates_here", "_law_start", "_law_missed"]) (mt : mg "list" = none) (me : mg "enumerate" = none) : Cl P w K mg base 1 "_law_done" (spLdone K) := by
  refine cl_of D scLdone (fun vs H Q E h => ?_) (fun f cdv A outer s H vs Q E hr h => ?_)
  · obtain ⟨a, b, c, n, gs, x, gone, rfl, _⟩ := h
    rfl
  · obtain ⟨a, b, c, n, gs, x, gone, rfl, ha, hb, hc, hx, hG, hn, hl, q⟩ := h
    refine ⟨_, pss_cons (ps_par (i := 3) (j := 4) rfl scLdone.nd rfl rfl (by decide) rfl rfl (pa_cons (pe_callTy call_list_of (by rfl) mt (by decide +kernel) (pa_cons (pv 1) pa_nil)) (pa_cons (pe_lst pa_nil) pa_nil)) (by rfl))
      (pss_cons (ps_for PassesOwn.never rfl (pi_enum (by rfl) me (pa_cons (pv 0) pa_nil))
          (pg_tup rfl (pgs_cons (pg_name (i := 5) scLdone.nd rfl (.inl rfl)) (pgs_cons (pg_name (i := 6) scLdone.nd rfl (.inl rfl)) pgs_nil)))
          (pss_one (ps_if (PW.pt (pw_and (pt_cmpR op_notIn_seq (pv 5) (pv 2) (by rfl)) (pw_and1 (pt_cmpR op_gt (pe_ix ix_list (pv 3) (pe_op op_sub (pv 6) pe_int) (fun _ _ => rfl)) (pe_ix ix_list (pv 3) (pv 6) (fun _ _ => rfl)) (nomark _)))))
            (pss_cons (ps_asg (pe_tup (pa_cons (pe_ix ix_list (pv 3) (pv 6) (fun _ _ => rfl)) (pa_cons (pe_ix ix_list (pv 3) (pe_op op_sub (pv 6) pe_int) (fun _ _ => rfl)) pa_nil)))
              (pg_tup rfl (pgs_cons (pg_sub (pv 3) (pe_op op_sub (pv 6) pe_int) set_list) (pgs_cons (pg_sub (pv 3) (pv 6) set_list) pgs_nil))))
              (pss_one (ps_expr (pe_bm PySem.F.plainAttrs_list PySem.F.slot_list_append PySem.F.type_list_append mt_append (pv 4) (pa_cons (pv 5) pa_nil))))) pss_nil)))
      (pss_one (ps_ret (pv 4)))), ?_⟩
    refine ⟨_, rfl, b, _, rfl, .inl hb, fun N nN => ⟨Nat.zero_le _, fun M nM => ⟨_, _, rfl, ?_⟩⟩⟩
    have s1 : Same H (upd H N (.lst (nV x))) := same_new nN
    have s2 := s1.trans (same_new nM (o := .lst []))
    have hNM : N ≠ M := ne_of_none upd_same nM
    have oM : H M = none := s1.free nM
    refine ⟨_, rfl, a, nV gs, rfl, s2.seq ha, ?_⟩
    refine for_enu (xs := nV gs) (fun i σ H' => ∃ y4 y5, σ = [some (.ref a), some (.ref b), some (.ref c), some (.ref N), some (.ref M), y4, y5] ∧ Same H H' ∧ ∃ x' ds : List Nat, H' N = some (.lst (nV x')) ∧ H' M = some (.lst (nV ds)) ∧ IsOrd n x' ∧ ds ++ dne gone i (gs.drop i) x' = dne gone 0 gs x ∧ ds.length ≤ i)
      ⟨none, none, rfl, s2, x, [], by rw [upd_ne hNM, upd_same], upd_same, hx, rfl, Nat.le_refl _⟩ ?_ ?_ ?_
    · rintro i σ H' _ ⟨y4, y5, rfl, sm, _⟩
      exact sm.seq ha
    · rintro i v σ H' U hi ⟨y4, y5, rfl, sm, x', ds, eN', eM', hx', hp, ld⟩ nU
      obtain ⟨g, eg, rfl⟩ := nV_get hi
      have hgi : i < gs.length := (List.getElem?_eq_some_iff.mp eg).1
      obtain ⟨g1, g2⟩ := hG g (List.mem_of_getElem? eg)
      rw [drop_at eg] at hp
      have gx : g < x'.length := by rw [hx'.len]; exact g2
      have sU : Same H' (upd H' U (.tup [.int (i : Int), .int (g : Int)])) := same_new nU
      have smU := sm.trans sU
      have eN := sU _ _ eN'
      have eM := sU _ _ eM'
      refine ⟨U, _, rfl, .inl (.inl upd_same), rfl, _, _, rfl, _, _, rfl, rfl, ?_⟩
      refine ⟨_, rfl, _, rfl, c, _, rfl, .inl (smU.seq hc), rfl, nV_flat _, _, rfl, ?_⟩
      rw [nV_in]
      by_cases c0 : i ∈ gone
      · rw [decide_eq_true c0]
        refine iteF (iteF ⟨_, _, rfl, smU, x', ds, eN, eM, hx', ?_, by omega⟩)
        rw [← hp, dne_no (fun z => z.1 c0)]
      · rw [decide_eq_false c0]
        show if true = true then _ else _
        refine iteT ⟨_, rfl, _, rfl, _, _, rfl, rfl, N, _, _, _, rfl, rfl, SqL.of eN, nV_ix (i := g - 1) (by omega) (by omega), _, rfl, _, rfl, N, _, _, _, rfl, rfl, SqL.of eN, nV_ix rfl gx, _, _, rfl, rfl, _, rfl, ?_⟩
        rw [dec_nat]
        by_cases c1 : at0 x' g < at0 x' (g - 1)
        · rw [decide_eq_true c1]
          refine iteT ⟨_, rfl, _, rfl, N, _, _, _, rfl, rfl, SqL.of eN, nV_ix rfl gx, _, rfl, _, rfl, _, _, rfl, rfl, N, _, _, _, rfl, rfl, SqL.of eN, nV_ix (i := g - 1) (by omega) (by omega), (by show 2 ≤ sizeLine; decide), fun T nT => ?_⟩
          have sT : Same (upd H' U (.tup [.int (i : Int), .int (g : Int)])) (upd (upd H' U (.tup [.int (i : Int), .int (g : Int)])) T (.tup [.int ((at0 x' g : Nat) : Int), .int ((at0 x' (g - 1) : Nat) : Int)])) := same_new nT
          refine ⟨T, _, rfl, .inl (.inl upd_same), rfl, _, _, rfl, ?_⟩
          refine ⟨_, rfl, _, rfl, _, _, rfl, rfl, N, _, _, g - 1, rfl, rfl, sT _ _ eN, ixN_of (by omega) (by rw [nV_len]; omega), ?_⟩
          refine ⟨_, _, rfl, _, rfl, _, rfl, N, _, _, g, rfl, rfl, upd_same, ixN_of rfl (by rw [List.length_set, nV_len]; omega), rfl, ?_⟩
          have eM2 := sT _ _ eM
          refine ⟨_, rfl, .inl ⟨rfl, _, SqL.of (by rw [upd_ne (Ne.symm hNM), upd_ne (Ne.symm hNM)]; exact eM2)⟩, _, rfl, M, _, _, rfl, rfl, by rw [upd_ne (Ne.symm hNM), upd_ne (Ne.symm hNM)]; exact eM2, by rw [nV_len]; exact small1000 (by omega), ?_⟩
          refine ⟨_, _, rfl, same_but oM (same_but nN (same_but nN (smU.trans sT))), swp x' g, ds ++ [i], ?_, by rw [upd_same, nV_app], hx'.swp g1 g2, ?_, by rw [List.length_append, List.length_singleton]; omega⟩
          · rw [upd_ne hNM, upd_same, swp_eq]
          · rw [← hp, dne_yes c0 c1, List.append_assoc]
            rfl
        · rw [decide_eq_false c1]
          refine iteF ⟨_, _, rfl, smU, x', ds, eN, eM, hx', ?_, by omega⟩
          rw [← hp, dne_no (fun z => c1 z.2)]
    · rintro σ H' ⟨y4, y5, rfl, sm, x', ds, eN, eM, hx', hp, _⟩
      rw [nV_len, List.drop_length] at hp
      have hp' : ds = dne gone 0 gs x := by rw [← hp]; exact (List.append_nil _).symm
      subst hp'
      exact ⟨_, rfl, q H' M sm oM eM⟩
end
end BM
namespace BM
open PySem PySem.Spec PyProof.Rows L2 BR
abbrev rLenL (K : PySem.W.Frag) : List V → Hp → VK → Prop := fun xs H Q => ∃ p ys, xs = [.ref p] ∧ (SqL K H p ys ∨ SqT K H p ys) ∧ Q (.int ys.length) H
def argOf : Expr → Expr
  | .Call _ (a :: _) _ _ => a
  | e => e
def spLheld (K : PySem.W.Frag) : Sp := fun vs H Q _ => ∃ (a c : Addr) (n : Nat) (gs gone : List Nat), vs = [.ref a, .int (n : Int), .ref c] ∧ SqL K H a (nV gs) ∧ SqL K H c (nV gone) ∧ GOk n gs ∧ n ≤ 12 ∧ NewTab H n (held n (ply gone 0 gs (falling n))) Q
def spLmoved (K : PySem.W.Frag) : Sp := fun vs H Q _ => ∃ (a b : Addr) (n : Nat) (x y : List Nat), vs = [.ref a, .ref b] ∧ SqL K H a (nV x) ∧ SqL K H b (nV y) ∧ IsOrd n x ∧ IsOrd n y ∧ n ≤ 12 ∧ NewTab H n (mv y x) Q
theorem Rows.put {H0 H1 H2 : Hp} {D D2 : Addr} {as : List Addr} {rs : Nat → List Nat} (R : Rows H0 H1 as rs) (eD : H1 D = some (.lst (as.map V.ref))) (s2 : Same H1 H2) (nD2 : H1 D2 = none) (h0 : H0 D2 = none) (e2 : H2 D2 = some (.lst (nV (rs as.length)))) :
    Rows H0 (upd H2 D (.lst (as.map V.ref ++ [.ref D2]))) (as ++ [D2]) rs := by
  have hD2 : D2 ≠ D := (ne_of_none eD nD2).symm
  have R2 : Rows H0 (upd H2 D (.lst (as.map V.ref ++ [.ref D2]))) as rs := R.mono fun b hb o ho => by
    have hbD : b ≠ D := fun z => by
      obtain ⟨k, _, e⟩ := R.there hb
      rw [z, eD] at e
      have e' := HO.lst.inj (Option.some.inj e)
      cases as with
      | nil => cases hb
      | cons c cs =>
        have q1 : V.ref c = (nV (rs k)).headD .non := by
          rw [← e']
          rfl
        cases hk : rs k with
        | nil =>
          rw [hk] at q1
          cases q1
        | cons y ys =>
          rw [hk] at q1
          cases q1
    rw [upd_ne hbD]
    exact s2 b o ho
  refine R2.snoc (R.notin nD2) h0 ?_
  rw [upd_ne hD2]
  exact e2
theorem countP_take {p : Nat → Bool} {xs : List Nat} {i r : Nat} (h : xs[i]? = some r) : (xs.take (i + 1)).filter p = (xs.take i).filter p ++ (if p r then [r] else []) := by
  rw [List.take_add_one, h, List.filter_append]
  congr 1
  cases hp : p r <;> simp [hp]
section
variable {P : Program} {w : World} {K : PySem.W.Frag} {mg : Str → Option Value} {base : Heap}
abbrev eHeld : Expr := retOf (stAt (defBody sLheld) 2)
abbrev nHeld : List Str := ["_law_gates_here", "_law_places_here", "_law_gone", "_law_last", "_law_size", "_law_k", "_law_t", "_law_rank"]
theorem ok_lheld (D : Gd K mg "_law_held" sLheld ["_law_gates_here", "_law_places_here", "_law_gone"]) (cP : Cl P w K mg base 1 "_law_play" (spLplay K)) (mr : mg "range" = none) (mt : mg "list" = none) (ml : mg "len" = none) : Cl P w K mg base 2 "_law_held" (spLheld K) := by
  refine cl_of D scLheld (fun vs H Q E h => ?_) (fun f cdv A outer s H vs Q E hr h => ?_)
  · obtain ⟨a, c, n, gs, gone, rfl, _⟩ := h
    rfl
  · obtain ⟨a, c, n, gs, gone, rfl, ha, hc, hG, hn, q⟩ := h
    refine ⟨_, pss_cons (ps_set (i := 3) scLheld.nd rfl (.inr rfl) (pe_cl cP hr (pa_cons (pv 0) (pa_cons (pe_revL (pe_listRg rfl (by rfl) mt (prg_1 (by rfl) mr (pv 1)))) (pa_cons (pv 2) pa_nil)))))
      (pss_cons (ps_set (i := 4) scLheld.nd rfl (.inr rfl) (pe_op op_add (pv 1) pe_int))
      (pss_one (ps_ret (pe_lc (own := [("_law_k", 5)]) (g := gName 5) (tt := tYes) rfl scLheld.nd (pi_range1 (by rfl) mr (pa_cons (pv 4) pa_nil))
        (blkOk_by (N := nHeld) (sc := defScope sLheld) (by decide +kernel)) (fun _ _ _ _ _ => pg_name (i := 5) scLheld.nd rfl (Or.inr rfl)) (fun _ _ _ _ _ => pts_nil)
        (fun _ _ _ _ _ => pe_lc (own := [("_law_t", 6)]) (g := gName 6) (tt := tYes) rfl scLheld.nd (pi_range1 (by rfl) mr (pa_cons (pv 4) pa_nil))
          (blkOk_by (N := nHeld) (sc := relS (lcScope eHeld) (defScope sLheld)) (by decide +kernel)) (fun _ _ _ _ _ => pg_name (i := 6) scLheld.nd rfl (Or.inl rfl)) (fun _ _ _ _ _ => pts_nil)
          (fun _ _ _ _ _ => pe_callB (r := rLenL K) (call_len_seq) (by rfl) ml PySem.boot_len (pa_cons
            (pe_lc (own := [("_law_rank", 7)]) (wi := iList K _) (g := gName 7) rfl scLheld.nd (pi_list (pe_slice (r := rSlL K) sl_list (pv 3) (po_some (pv 6)) po_none))
              (blkOk_by (N := nHeld) (sc := relS (lcScope (lcElt eHeld)) (relS (lcScope eHeld) (defScope sLheld))) (by decide +kernel)) (fun _ _ _ _ _ => pg_name (i := 7) scLheld.nd rfl (Or.inl rfl))
              (fun _ _ _ _ _ => pts_one (pt_cmpR op_ge (pv 7) (pe_op op_sub (pv 1) (pv 5)) (nomark _))) (fun _ _ _ _ _ => pv 7)) pa_nil))))))), ?_⟩
    refine ⟨_, rfl, _, rfl, _, rfl, rg_ok (by omega), fun z nz => ?_⟩
    rw [rg_nV]
    have sz : Same H (upd H z (.lst (nV (List.range n)))) := same_new nz
    refine ⟨z, _, rfl, SqL.of upd_same, fun u nu => ?_⟩
    have su := sz.trans (same_new nu (o := .lst (nV (List.range n)).reverse))
    have eu : (upd (upd H z (.lst (nV (List.range n)))) u (.lst (nV (List.range n)).reverse)) u = some (.lst (nV (falling n))) := by
      rw [upd_same]
      unfold nV falling
      rw [List.map_reverse]
    refine ⟨_, rfl, a, u, c, n, gs, falling n, gone, rfl, su.seq ha, SqL.of eu, su.seq hc, falling_ord n, hG, hn, fun H1 L s1 nL eL => ?_⟩
    have s01 := su.trans s1
    have nLH : H L = none := su.free nL
    generalize hy : ply gone 0 gs (falling n) = y at eL q
    have oy : IsOrd n y := by
      rw [← hy]
      exact reach_ord (falling_ord n) hG (ply_reach gone gs (falling n) 0)
    refine ⟨_, rfl, _, _, rfl, rfl, ?_⟩
    refine ⟨_, rfl, _, rfl, by omega, by omega, ?_⟩
    rw [toN]
    refine fun D nD => rng_turns (n := n + 1) (fun i H' => Same H1 H' ∧ ∃ as : List Addr, H' D = some (.lst (as.map V.ref)) ∧ as.length = i ∧ Rows H1 H' as (rowL n (held n y))) ⟨same_new nD, [], upd_same, rfl, .nil⟩ ?_ ?_
    · rintro i H2 hi ⟨sm, as, eD, el, R⟩
      refine ⟨rfl, ?_⟩
      refine ⟨_, rfl, _, rfl, by omega, by omega, ?_⟩
      rw [toN]
      refine fun D2 nD2 => rng_turns (n := n + 1) (fun j H' => Same H2 H' ∧ H' D2 = some (.lst (nV ((List.range j).map (held n y i))))) ⟨same_new nD2, upd_same⟩ ?_ ?_
      · rintro j H3 hj ⟨sm2, e2⟩
        have eL3 : H3 L = some (.lst (nV y)) := sm2 _ _ (sm _ _ eL)
        refine ⟨rfl, ?_⟩
        refine ⟨_, rfl, _, rfl, (0 + (j : Int)), rfl, L, _, rfl, SqL.of eL3, fun z3 nz3 => ?_⟩
        have ej : (0 + (j : Int)) = ((j : Nat) : Int) := by omega
        rw [ej, cut_drop]
        have s4 : Same H3 (upd H3 z3 (.lst (nV (y.drop j)))) := same_new nz3
        generalize hH4 : upd H3 z3 (.lst (nV (y.drop j))) = H4 at s4
        have ez4 : H4 z3 = some (.lst (nV (y.drop j))) := by rw [← hH4]; exact upd_same
        refine ⟨z3, rfl, ⟨_, SqL.of ez4⟩, fun Z nZ => ?_⟩
        refine lst_turns (xs := nV (y.drop j)) (fun m H' => Same H4 H' ∧ H' Z = some (.lst (nV (((y.drop j).take m).filter fun r => decide (n - i ≤ r))))) ⟨same_new nZ, upd_same⟩ (fun m H' _ h => SqL.of (h.1 _ _ ez4)) ?_ ?_
        · rintro m v H5 hm ⟨sm5, eZ⟩
          obtain ⟨r, er, rfl⟩ := nV_get hm
          refine ⟨rfl, _, rfl, _, rfl, _, rfl, _, _, rfl, rfl, _, _, rfl, rfl, _, rfl, ?_⟩
          rw [countP_take er]
          have ec : decide ((n : Int) - (0 + (i : Int)) ≤ (r : Int)) = decide (n - i ≤ r) := by
            rw [decide_eq_decide]
            omega
          rw [ec]
          have hl5 : (((y.drop j).take m).filter fun r => decide (n - i ≤ r)).length ≤ 1000 := by
            have a1 := List.length_filter_le (fun r => decide (n - i ≤ r)) ((y.drop j).take m)
            rw [List.length_take, List.length_drop, oy.len] at a1
            omega
          by_cases c : n - i ≤ r
          · rw [decide_eq_true c]
            refine iteT ⟨_, rfl, _, eZ, by rw [nV_len]; exact small1000 hl5, same_but nZ sm5, ?_⟩
            rw [upd_same, nV_app]
            rfl
          · rw [decide_eq_false c]
            refine iteF ⟨sm5, ?_⟩
            rw [eZ]
            show _ = some (HO.lst (nV (_ ++ [])))
            rw [List.append_nil]
        · rintro H5 ⟨sm5, eZ⟩
          rw [nV_len, List.take_length] at eZ
          have s35 := s4.trans sm5
          refine ⟨Z, _, rfl, .inl (SqL.of eZ), _, s35 _ _ e2, by rw [nV_len, List.length_map, List.length_range]; exact small1000 (by omega), same_but nD2 (sm2.trans s35), ?_⟩
          rw [upd_same, nV_len, range_snoc, ← List.countP_eq_length_filter, nV_app]
          rfl
      · rintro H3 ⟨sm2, e2⟩
        refine ⟨_, sm2 _ _ eD, by rw [List.length_map, el]; exact small1000 (by omega), same_but nD (sm.trans sm2), as ++ [D2], by rw [upd_same, rV_app], by rw [List.length_append, el]; rfl, ?_⟩
        exact R.put eD sm2 nD2 (sm.free nD2) (by rw [el]; exact e2)
    · rintro H2 ⟨sm, as, eD, el, R⟩
      refine q H2 D as (s01.trans sm) (s01.free nD) eD el ⟨R.1, fun b hb => s01.free (R.2.1 b hb), R.2.2⟩
abbrev eMoved : Expr := retOf (stAt (defBody sLmoved) 1)
abbrev nMoved : List Str := ["_law_start", "_law_end", "_law_size", "_law_k", "_law_t", "_law_rank"]
theorem ok_lmoved (D : Gd K mg "_law_moved" sLmoved ["_law_start", "_law_end"]) (mr : mg "range" = none) (ml : mg "len" = none) : Cl P w K mg base 1 "_law_moved" (spLmoved K) := by
  refine cl_of D scLmoved (fun vs H Q E h => ?_) (fun f cdv A outer s H vs Q E hr h => ?_)
  · obtain ⟨a, b, n, x, y, rfl, _⟩ := h
    rfl
  · obtain ⟨a, b, n, x, y, rfl, ha, hb, hx, hy, hn, q⟩ := h
    refine ⟨_, pss_cons (ps_set (i := 2) scLmoved.nd rfl (.inr rfl) (pe_op op_add (pe_callB call_len_seq (by rfl) ml PySem.boot_len (pa_cons (pv 0) pa_nil)) pe_int))
      (pss_one (ps_ret (pe_lc (own := [("_law_k", 3)]) (g := gName 3) (tt := tYes) rfl scLmoved.nd (pi_range1 (by rfl) mr (pa_cons (pv 2) pa_nil))
        (blkOk_by (N := nMoved) (sc := defScope sLmoved) (by decide +kernel)) (fun _ _ _ _ _ => pg_name (i := 3) scLmoved.nd rfl (Or.inr rfl)) (fun _ _ _ _ _ => pts_nil)
        (fun _ _ _ _ _ => pe_lc (own := [("_law_t", 4)]) (g := gName 4) (tt := tYes) rfl scLmoved.nd (pi_range1 (by rfl) mr (pa_cons (pv 2) pa_nil))
          (blkOk_by (N := nMoved) (sc := relS (lcScope eMoved) (defScope sLmoved)) (by decide +kernel)) (fun _ _ _ _ _ => pg_name (i := 4) scLmoved.nd rfl (Or.inl rfl)) (fun _ _ _ _ _ => pts_nil)
          (fun _ _ _ _ _ => pe_callB (r := rLenL K) (call_len_seq) (by rfl) ml PySem.boot_len (pa_cons
            (pe_lc (own := [("_law_rank", 5)]) (wi := iList K _) (g := gName 5) rfl scLmoved.nd (pi_list (pe_slice (r := rSlL K) sl_list (pv 1) (po_some (pv 4)) po_none))
              (blkOk_by (N := nMoved) (sc := relS (lcScope (lcElt eMoved)) (relS (lcScope eMoved) (defScope sLmoved))) (by decide +kernel)) (fun _ _ _ _ _ => pg_name (i := 5) scLmoved.nd rfl (Or.inl rfl))
              (fun _ _ _ _ _ => pts_one (pt_cmpR (r := rIn K false) op_in_seq (pv 5) (pe_slice (r := rSlL K) sl_list (pv 0) po_none (po_some (pv 3))) (by rfl))) (fun _ _ _ _ _ => pv 5)) pa_nil)))))), ?_⟩
    refine ⟨_, rfl, a, _, rfl, .inl ha, _, _, rfl, rfl, ?_⟩
    refine ⟨_, rfl, _, rfl, by rw [nV_len, hx.len]; omega, by rw [nV_len, hx.len]; omega, ?_⟩
    rw [nV_len, hx.len, toN]
    refine fun D nD => rng_turns (n := n + 1) (fun i H' => Same H H' ∧ ∃ as : List Addr, H' D = some (.lst (as.map V.ref)) ∧ as.length = i ∧ Rows H H' as (rowL n (mv y x))) ⟨same_new nD, [], upd_same, rfl, .nil⟩ ?_ ?_
    · rintro i H2 hi ⟨sm, as, eD, el, R⟩
      refine ⟨rfl, ?_⟩
      refine ⟨_, rfl, _, rfl, by omega, by omega, ?_⟩
      rw [toN]
      refine fun D2 nD2 => rng_turns (n := n + 1) (fun j H' => Same H2 H' ∧ H' D2 = some (.lst (nV ((List.range j).map (mv y x i))))) ⟨same_new nD2, upd_same⟩ ?_ ?_
      · rintro j H3 hj ⟨sm2, e2⟩
        have sm3 := sm.trans sm2
        refine ⟨rfl, ?_⟩
        refine ⟨_, rfl, _, rfl, (0 + (j : Int)), rfl, b, _, rfl, sm3.seq hb, fun z3 nz3 => ?_⟩
        have ej : (0 + (j : Int)) = ((j : Nat) : Int) := by omega
        rw [ej, cut_drop]
        have s4 : Same H3 (upd H3 z3 (.lst (nV (y.drop j)))) := same_new nz3
        generalize hH4 : upd H3 z3 (.lst (nV (y.drop j))) = H4 at s4
        have ez4 : H4 z3 = some (.lst (nV (y.drop j))) := by rw [← hH4]; exact upd_same
        refine ⟨z3, rfl, ⟨_, SqL.of ez4⟩, fun Z nZ => ?_⟩
        refine lst_turns (xs := nV (y.drop j)) (fun m H' => Same H4 H' ∧ H' Z = some (.lst (nV (((y.drop j).take m).filter fun r => decide (r ∈ x.take i))))) ⟨same_new nZ, upd_same⟩ (fun m H' _ h => SqL.of (h.1 _ _ ez4)) ?_ ?_
        · rintro m v H5 hm ⟨sm5, eZ⟩
          obtain ⟨r, er, rfl⟩ := nV_get hm
          refine ⟨rfl, _, rfl, _, rfl, _, rfl, (0 + (i : Int)), rfl, a, _, rfl, (sm3.trans (s4.trans sm5)).seq ha, fun z6 nz6 => ?_⟩
          have ei : (0 + (i : Int)) = ((i : Nat) : Int) := by omega
          rw [ei, cut_take]
          have s6 : Same H5 (upd H5 z6 (.lst (nV (x.take i)))) := same_new nz6
          refine ⟨z6, _, rfl, .inl (SqL.of upd_same), rfl, nV_flat _, _, rfl, ?_⟩
          generalize hH6 : upd H5 z6 (.lst (nV (x.take i))) = H6 at s6
          show (if (inV (.int (r : Int)) (nV (x.take i))) = true then _ else _)
          rw [nV_in, countP_take er]
          have eZ6 := s6 _ _ eZ
          have sm6 := sm5.trans s6
          have hl5 : (((y.drop j).take m).filter fun r => decide (r ∈ x.take i)).length ≤ 1000 := by
            have a1 := List.length_filter_le (fun r => decide (r ∈ x.take i)) ((y.drop j).take m)
            rw [List.length_take, List.length_drop, hy.len] at a1
            omega
          by_cases c : r ∈ x.take i
          · rw [decide_eq_true c]
            refine iteT ⟨_, rfl, _, eZ6, by rw [nV_len]; exact small1000 hl5, same_but nZ sm6, ?_⟩
            rw [upd_same, nV_app]
            rfl
          · rw [decide_eq_false c]
            refine iteF ⟨sm6, ?_⟩
            rw [eZ6]
            show _ = some (HO.lst (nV (_ ++ [])))
            rw [List.append_nil]
        · rintro H5 ⟨sm5, eZ⟩
          rw [nV_len, List.take_length] at eZ
          have s35 := s4.trans sm5
          refine ⟨Z, _, rfl, .inl (SqL.of eZ), _, s35 _ _ e2, by rw [nV_len, List.length_map, List.length_range]; exact small1000 (by omega), same_but nD2 (sm2.trans s35), ?_⟩
          rw [upd_same, nV_len, range_snoc, ← List.countP_eq_length_filter, moved_eq hx hy, nV_app]
      · rintro H3 ⟨sm2, e2⟩
        refine ⟨_, sm2 _ _ eD, by rw [List.length_map, el]; exact small1000 (by omega), same_but nD (sm.trans sm2), as ++ [D2], by rw [upd_same, rV_app], by rw [List.length_append, el]; rfl, ?_⟩
        exact R.put eD sm2 nD2 (sm.free nD2) (by rw [el]; exact e2)
    · rintro H2 ⟨sm, as, eD, el, R⟩
      exact q H2 D as sm nD eD el R
end
end BM
namespace BM
open PySem PySem.Spec PyProof.Rows L2 BR
section
variable {P : Program} {w : World} {K : PySem.W.Frag} {mg : Str → Option Value} {base : Heap}
theorem ok_lare (D : Gd K mg "_law_are_misses" sLare ["_law_thing", "_law_many"]) (mi : mg "isinstance" = none) (mt : mg "list" = none) (me : mg "enumerate" = none) (mn : mg "int" = none) (mb : mg "bool" = none) : Cl P w K mg base 1 "_law_are_misses" spLare := by
  refine cl_of D scLare (fun vs H Q E h => ?_) (fun f cdv A outer s H vs Q E hr h => ?_)
  · obtain ⟨a, m, ns, rfl, _⟩ := h
    rfl
  · obtain ⟨a, m, ns, rfl, ha, hp, hb, q⟩ := h
    refine ⟨_, pss_cons (ps_if (pt_not (pt_val (pe_callB call_isi (by rfl) mi (by decide +kernel) (pa_cons (pv 0) (pa_cons (pe_bltn (v := .ty "list") (by rfl) mt (by decide +kernel) rfl) pa_nil))))) (pss_one (ps_ret pe_bl)) pss_nil)
      (pss_cons (ps_for PassesOwn.never rfl (pi_enum (by rfl) me (pa_cons (pv 0) pa_nil))
          (pg_tup rfl (pgs_cons (pg_name (i := 2) scLare.nd rfl (.inl rfl)) (pgs_cons (pg_name (i := 3) scLare.nd rfl (.inl rfl)) pgs_nil)))
          (pss_cons (ps_if (PW.pt (pw_or (pt_not (pt_val (pe_callB call_isi (by rfl) mi (by decide +kernel) (pa_cons (pv 3) (pa_cons (pe_bltn (v := .ty "int") (by rfl) mn (by decide +kernel) rfl) pa_nil)))))
              (pw_or (pt_val (pe_callB call_isi (by rfl) mi (by decide +kernel) (pa_cons (pv 3) (pa_cons (pe_bltn (v := .ty "bool") (by rfl) mb (by decide +kernel) rfl) pa_nil))))
                (pw_or1 (pt_not (pt_chain op_le op_lt pe_int (pv 3) (pv 1))))))) (pss_one (ps_ret pe_bl)) pss_nil)
          (pss_one (ps_if (PW.pt (pw_and (pt_cmpR op_gt (pv 2) pe_int (nomark _)) (pw_and1 (pt_cmpR op_ge (pe_ix ix_list (pv 0) (pe_op op_sub (pv 2) pe_int) (fun _ _ => rfl)) (pv 3) (nomark _))))) (pss_one (ps_ret pe_bl)) pss_nil))))
      (pss_one (ps_ret pe_bl))), ?_⟩
    refine ⟨_, rfl, _, _, _, _, true, rfl, .ty "list", .base (.lst ha), kit_ty (by decide +kernel), true, rfl, iteF ?_⟩
    refine ⟨_, rfl, a, nV ns, rfl, SqL.of ha, ?_⟩
    refine for_enu (xs := nV ns) (fun i σ H' => ∃ y2 y3, σ = [some (.ref a), some (.int (m : Int)), y2, y3] ∧ Same H H') ⟨none, none, rfl, fun _ _ h => h⟩ ?_ ?_ ?_
    · rintro i σ H' _ ⟨y2, y3, rfl, sm⟩
      exact SqL.of (sm _ _ ha)
    · rintro i v σ H' U hi ⟨y2, y3, rfl, sm⟩ nU
      obtain ⟨r, er, rfl⟩ := nV_get hi
      have hrm := hb r (List.mem_of_getElem? er)
      have sU : Same H' (upd H' U (.tup [.int (i : Int), .int (r : Int)])) := same_new nU
      have smU := sm.trans sU
      refine ⟨U, _, rfl, .inl (.inl upd_same), rfl, _, _, rfl, _, _, rfl, rfl, ?_⟩
      refine ⟨_, rfl, _, _, _, _, true, rfl, .ty "int", .base (.int _), kit_ty (by decide +kernel), true, rfl, iteF ?_⟩
      refine ⟨_, rfl, _, _, _, _, false, rfl, .ty "bool", .base (.int _), kit_ty (by decide +kernel), false, rfl, iteF ?_⟩
      refine ⟨_, rfl, _, _, rfl, rfl, _, rfl, ?_⟩
      rw [decide_eq_true (by omega : (0 : Int) ≤ (r : Int))]
      refine iteT ⟨_, rfl, _, _, rfl, rfl, _, rfl, ?_⟩
      rw [decide_eq_true (by omega : (r : Int) < (m : Int))]
      refine iteF ⟨_, rfl, _, _, rfl, rfl, _, rfl, ?_⟩
      by_cases c : (0 : Int) < (i : Int)
      · rw [decide_eq_true c]
        have hil : i < ns.length := (List.getElem?_eq_some_iff.mp er).1
        refine iteT ⟨_, rfl, _, rfl, _, _, rfl, rfl, a, _, _, _, rfl, rfl, SqL.of (smU _ _ ha), nV_ix (i := i - 1) (by omega) (by omega), _, rfl, _, _, rfl, rfl, _, rfl, ?_⟩
        have e : at0 ns (i - 1) < r := by
          have e1 : ns[i - 1]'(by omega) < ns[i] := List.pairwise_iff_getElem.mp hp (i - 1) i (by omega) hil (by omega)
          rw [at0_eq (by omega)]
          have e2 : ns[i] = r := (List.getElem?_eq_some_iff.mp er).2
          omega
        rw [decide_eq_false (by omega : ¬ (r : Int) ≤ ((at0 ns (i - 1) : Nat) : Int))]
        exact iteF ⟨_, _, rfl, smU⟩
      · rw [decide_eq_false c]
        exact iteF (iteF ⟨_, _, rfl, smU⟩)
    · rintro σ H' ⟨y2, y3, rfl, sm⟩
      exact q H' sm
end
end BM
namespace BM
open PySem PySem.Spec PyProof.Rows L2 BR
abbrev sLwrong : Stmt := topS 47
theorem scLcells : FnScope ["_law_size", "_law_found", "_law_k", "_law_t"] ["_law_size"] (defScope sLcells) := ⟨rfl, rfl, rfl, by decide +kernel, rfl, by decide +kernel, by decide +kernel⟩
theorem scLwrong : FnScope ["_law_order_here", "_law_found", "_law_p", "_law_high", "_law_low"] ["_law_order_here"] (defScope sLwrong) := ⟨rfl, rfl, rfl, by decide +kernel, rfl, by decide +kernel, by decide +kernel⟩
def allL (m : Nat) (i : Nat) : List (Nat × Nat) := dbl i (fun _ => 0) (fun _ => m) fun _ _ => true
theorem allL_mem {m k t : Nat} : (k, t) ∈ allL m m ↔ k < m ∧ t < m := by
  unfold allL
  rw [dbl_mem]
  simp
theorem allL_len {m : Nat} (h : m ≤ 13) (i : Nat) : (allL m i).length ≤ i * 13 := dbl_len (b := 13) (fun _ => 0) (m := fun _ => m) (fun _ => h) (fun _ _ => true) i
def spLcells : Sp := fun vs H Q _ => ∃ m : Nat, vs = [.int (m : Int)] ∧ m ≤ 13 ∧ NewP H (allL m m) Q
/-- the pairs of the law, before they are sorted -/
def wrI (x : List Nat) (p : Nat) (m : Nat) : List (Nat × Nat) := (((x.drop (p + 1)).take m).filter fun l => decide (l < at0 x p)).map fun l => (l, at0 x p)
def wrg (x : List Nat) (i : Nat) : List (Nat × Nat) := (List.range i).flatMap fun p => wrI x p x.length
theorem wrg_step (x : List Nat) (i : Nat) : wrg x (i + 1) = wrg x i ++ wrI x i x.length := by
  unfold wrg
  rw [List.range_succ, List.flatMap_append, List.flatMap_singleton]
theorem wrI_len (x : List Nat) (p m : Nat) : (wrI x p m).length ≤ m := by
  unfold wrI
  rw [List.length_map]
  refine Nat.le_trans (List.length_filter_le _ _) ?_
  rw [List.length_take]
  omega
theorem wrg_len {x : List Nat} (h : x.length ≤ 12) : ∀ i, (wrg x i).length ≤ i * 12
  | 0 => by simp [wrg]
  | i + 1 => by
    rw [wrg_step, List.length_append]
    have h1 := wrg_len h i
    have h2 := wrI_len x i x.length
    omega
theorem wrg_mem {n : Nat} {x : List Nat} (hx : IsOrd n x) {a b : Nat} : (a, b) ∈ wrg x n ↔ wrong x a b := by
  unfold wrg wrong
  rw [List.mem_flatMap]
  constructor
  · rintro ⟨p, hp, h⟩
    rw [List.mem_range] at hp
    unfold wrI at h
    obtain ⟨l, hl, e⟩ := List.mem_map.mp h
    injection e with e1 e2
    subst e1
    rw [List.mem_filter] at hl
    obtain ⟨h1, h2⟩ := hl
    have h2 : l < at0 x p := by simpa using h2
    have h1 := List.mem_of_mem_take h1
    obtain ⟨j, hj, ej⟩ := List.mem_iff_getElem.mp h1
    rw [List.length_drop, hx.len] at hj
    rw [List.getElem_drop] at ej
    have ix : x.idxOf l = p + 1 + j := by
      have := hx.idx_at (i := p + 1 + j) (by omega)
      rw [at0_eq (by rw [hx.len]; omega), ej] at this
      exact this
    have ip : x.idxOf (at0 x p) = p := hx.idx_at hp
    subst e2
    refine ⟨h2, List.mem_of_mem_drop h1, hx.mem.mpr (hx.at_lt hp), ?_⟩
    omega
  · rintro ⟨h1, h2, h3, h4⟩
    have hb := hx.mem.mp h3
    have ha := hx.mem.mp h2
    have eb := hx.at_idx hb
    have lb := hx.idx_lt hb
    have la := hx.idx_lt ha
    refine ⟨x.idxOf b, List.mem_range.mpr lb, ?_⟩
    unfold wrI
    refine List.mem_map.mpr ⟨a, ?_, by rw [eb]⟩
    rw [List.mem_filter, eb]
    refine ⟨?_, by simpa using h1⟩
    rw [List.take_of_length_le (by rw [List.length_drop]; omega)]
    refine List.mem_iff_getElem.mpr ⟨x.idxOf a - (x.idxOf b + 1), by rw [List.length_drop, hx.len]; omega, ?_⟩
    rw [List.getElem_drop]
    have : x.idxOf b + 1 + (x.idxOf a - (x.idxOf b + 1)) = x.idxOf a := by omega
    simp only [this]
    exact List.getElem_idxOf _
def spLwrong (K : PySem.W.Frag) : Sp := fun vs H Q _ => ∃ (a : Addr) (n : Nat) (x : List Nat), vs = [.ref a] ∧ SqL K H a (nV x) ∧ IsOrd n x ∧ n ≤ 12 ∧
  ∀ (H' : Hp) (p : Addr) (ps : List (Nat × Nat)), Same H H' → H p = none → PrsAt H' p ps → ps.length ≤ 144 → (∀ a b, (a, b) ∈ ps ↔ wrong x a b) → Q (.ref p) H'
theorem prd_app {α β : Type} {F : α → β → Prop} : ∀ {l1 : List α} {l2 : List β} {m1 : List α} {m2 : List β}, Paired F l1 l2 → Paired F m1 m2 → Paired F (l1 ++ m1) (l2 ++ m2)
  | _, _, _, _, .nil, q => q
  | _, _, _, _, .cons r t, q => .cons r (prd_app t q)
/-- two lists of pairs put together, anew -/
theorem prs_cat {H : Hp} {F B N : Addr} {as bs : List Addr} {ps qs : List (Nat × Nat)} (h1 : Paired (PrAt H) as ps) (h2 : Paired (PrAt H) bs qs) (nN : H N = none) : PrsAt (upd H N (.lst (as.map V.ref ++ bs.map V.ref))) N (ps ++ qs) := by
  refine ⟨as ++ bs, by rw [upd_same, List.map_append], prd_app ?_ ?_⟩
  · exact Paired.mapP h1 fun b q e => same_new nN _ _ e
  · exact Paired.mapP h2 fun b q e => same_new nN _ _ e
/-- what a pair's address says -/
def prOf (H : Hp) (a : Addr) : Nat × Nat := match H a with
  | some (.tup [.int x, .int y]) => (x.toNat, y.toNat)
  | _ => (0, 0)
theorem prOf_eq {H : Hp} {a : Addr} {q : Nat × Nat} (h : PrAt H a q) : prOf H a = q := by
  have h' : H a = some (.tup [.int (q.1 : Int), .int (q.2 : Int)]) := h
  unfold prOf
  rw [h']
  rfl
theorem prs_map {H : Hp} : ∀ {as : List Addr} {ps : List (Nat × Nat)}, Paired (PrAt H) as ps → ps = as.map (prOf H) ∧ ∀ a ∈ as, PrAt H a (prOf H a)
  | _, _, .nil => ⟨rfl, fun a h => by cases h⟩
  | a :: as, q :: ps, .cons r t => by
    obtain ⟨h1, h2⟩ := prs_map t
    have e := prOf_eq r
    refine ⟨by rw [List.map_cons, e, ← h1], fun b hb => ?_⟩
    rcases List.mem_cons.mp hb with rfl | hb
    · rw [e]
      exact r
    · exact h2 b hb
theorem prs_of {H : Hp} : ∀ {as : List Addr}, (∀ a ∈ as, PrAt H a (prOf H a)) → Paired (PrAt H) as (as.map (prOf H))
  | [], _ => .nil
  | a :: as, h => .cons (h a List.mem_cons_self) (prs_of fun b hb => h b (List.mem_cons_of_mem _ hb))
/-- sorted pairs -/
def keyV (H : Hp) : V → Int × Int
  | .ref a => (((prOf H a).1 : Int), ((prOf H a).2 : Int))
  | _ => (0, 0)
def unref : V → Addr
  | .ref a => a
  | _ => 0
theorem unref_map : ∀ (as : List Addr), (as.map V.ref).map unref = as
  | [] => rfl
  | a :: as => by
    show a :: (as.map V.ref).map unref = a :: as
    rw [unref_map as]
theorem perm_refs {as : List Addr} {ys : List V} (h : ys.Perm (as.map V.ref)) : ∃ bs : List Addr, ys = bs.map V.ref ∧ bs.Perm as := by
  refine ⟨ys.map unref, ?_, by have e := h.map unref; rw [unref_map] at e; exact e⟩
  rw [List.map_map]
  refine (List.map_id ys).symm.trans (List.map_congr_left fun v hv => ?_)
  obtain ⟨a, _, rfl⟩ := List.mem_map.mp (h.mem_iff.mp hv)
  rfl
section
variable {P : Program} {w : World} {K : PySem.W.Frag} {mg : Str → Option Value} {base : Heap}
theorem ok_lcells (D : Gd K mg "_law_cells" sLcells ["_law_size"]) (mr : mg "range" = none) : Cl P w K mg base 1 "_law_cells" spLcells := by
  refine cl_of D scLcells (fun vs H Q E h => ?_) (fun f cdv A outer s H vs Q E hr h => ?_)
  · obtain ⟨m, rfl, _⟩ := h
    rfl
  · obtain ⟨m, rfl, hm, q⟩ := h
    refine ⟨_, pss_cons (ps_set (i := 1) scLcells.nd rfl (.inl rfl) (pe_lst pa_nil))
      (pss_cons (ps_for PassesOwn.never rfl (pi_range1 (by rfl) mr (pa_cons (pv 0) pa_nil)) (pg_name (i := 2) scLcells.nd rfl (.inr rfl))
        (pss_one (ps_set (i := 1) scLcells.nd rfl (.inl rfl) (pe_op op_cat (pv 1)
          (pe_lc (own := [("_law_t", 3)]) (g := gName 3) (tt := tYes) rfl scLcells.nd (pi_range1 (by rfl) mr (pa_cons (pv 0) pa_nil))
            (blkOk_by (N := ["_law_size", "_law_found", "_law_k", "_law_t"]) (sc := defScope sLcells) (by decide +kernel)) (fun _ _ _ _ _ => pg_name (i := 3) scLcells.nd rfl (Or.inl rfl)) (fun _ _ _ _ _ => pts_nil)
            (fun _ _ _ _ _ => pe_tup (pa_cons (pv 2) (pa_cons (pv 3) pa_nil))))))))
      (pss_one (ps_ret (pv 1)))), ?_⟩
    refine ⟨Nat.zero_le _, fun F nF => ?_⟩
    refine ⟨_, rfl, (m : Int), rfl, by omega, by omega, ?_⟩
    rw [Int.toNat_natCast]
    refine for_range (lo := 0) (n := m) (fun i σ H' => ∃ (F : Addr) (y2 : Option V), σ = [some (.int (m : Int)), some (.ref F), y2, none] ∧ Same H H' ∧ H F = none ∧ PrsAt H' F (allL m i)) ⟨F, none, rfl, same_new nF, nF, [], upd_same, .nil⟩ ?_ ?_
    · rintro i σ H' hi ⟨F, y2, rfl, sm, oF, pr⟩
      refine ⟨_, rfl, _, rfl, (m : Int), rfl, by omega, by omega, ?_⟩
      rw [Int.toNat_natCast]
      refine fun L nL => rng_turns (n := m) (fun j H2 => Same H' H2 ∧ PrsAt H2 L (inn i 0 (fun _ => true) j)) ⟨same_new nL, [], upd_same, .nil⟩ ?_ ?_
      · rintro j H2 hj ⟨sm2, pr2⟩
        refine ⟨rfl, _, rfl, _, rfl, (by show 2 ≤ sizeLine; decide), fun T nT => ?_⟩
        obtain ⟨as, e1, e2⟩ := pr2
        have smT : Same H2 (upd H2 T (.tup [.int (0 + (i : Int)), .int (0 + (j : Int))])) := same_new nT
        have hl : as.length ≤ 1000 := by
          have a1 := Paired.length e2
          have a3 := inn_len i 0 (fun _ => true) j
          omega
        refine ⟨_, smT _ _ e1, by rw [List.length_map]; exact small1000 hl, same_but nL (sm2.trans smT), ?_⟩
        rw [inn_yes rfl]
        refine PrsAt.snoc e2 smT ?_ (smT _ _ e1)
        rw [upd_same]
        have q1 : (0 + (i : Int)) = ((i : Nat) : Int) := by omega
        have q2 : (0 + (j : Int)) = ((0 + j : Nat) : Int) := by omega
        rw [q1, q2]
      · rintro H2 ⟨sm2, pr2⟩
        obtain ⟨as, e1, e2⟩ := pr.same sm2
        obtain ⟨bs, f1, f2⟩ := pr2
        have l1 := Paired.length e2
        have l2 := Paired.length f2
        have l3 := allL_len hm i
        have l4 := inn_len i 0 (fun _ => true) m
        refine ⟨F, L, _, _, rfl, rfl, e1, f1, ?_, fun N nN => ?_⟩
        · rw [List.length_map, List.length_map]
          exact Nat.le_trans (show as.length + bs.length ≤ 1000 by omega) (by decide)
        · refine ⟨N, _, rfl, (sm.trans sm2).trans (same_new nN), (sm.trans sm2).free nN, ?_⟩
          have e : allL m (i + 1) = allL m i ++ inn i 0 (fun _ => true) m := dbl_step i (fun _ => 0) (fun _ => m) fun _ _ => true
          rw [e]
          exact prs_cat (F := F) (B := L) e2 f2 nN
    · rintro σ H' ⟨F, y2, rfl, sm, oF, pr⟩
      exact ⟨_, rfl, q H' F sm oF pr⟩
theorem ok_lwrong (D : Gd K mg "_law_wrong" sLwrong ["_law_order_here"]) (me : mg "enumerate" = none) (ms : mg "sorted" = none) : Cl P w K mg base 1 "_law_wrong" (spLwrong K) := by
  refine cl_of D scLwrong (fun vs H Q E h => ?_) (fun f cdv A outer s H vs Q E hr h => ?_)
  · obtain ⟨a, n, x, rfl, _⟩ := h
    rfl
  · obtain ⟨a, n, x, rfl, ha, hx, hn, q⟩ := h
    refine ⟨_, pss_cons (ps_set (i := 1) scLwrong.nd rfl (.inl rfl) (pe_lst pa_nil))
      (pss_cons (ps_for PassesOwn.never rfl (pi_enum (by rfl) me (pa_cons (pv 0) pa_nil)) (pg_tup rfl (pgs_cons (pg_name (i := 2) scLwrong.nd rfl (.inl rfl)) (pgs_cons (pg_name (i := 3) scLwrong.nd rfl (.inr rfl)) pgs_nil)))
        (pss_one (ps_set (i := 1) scLwrong.nd rfl (.inl rfl) (pe_op op_cat (pv 1)
          (pe_lc (own := [("_law_low", 4)]) (g := gName 4) rfl scLwrong.nd (pi_list (pe_slice sl_list (pv 0) (po_some (pe_op op_add (pv 2) pe_int)) po_none))
            (blkOk_by (N := ["_law_order_here", "_law_found", "_law_p", "_law_high", "_law_low"]) (sc := defScope sLwrong) (by decide +kernel)) (fun _ _ _ _ _ => pg_name (i := 4) scLwrong.nd rfl (Or.inl rfl))
            (fun _ _ _ _ _ => pts_one (pt_cmpR op_lt (pv 4) (pv 3) (nomark _)))
            (fun _ _ _ _ _ => pe_tup (pa_cons (pv 4) (pa_cons (pv 3) pa_nil))))))))
      (pss_one (ps_ret (pe_callB cr_sortedPO (by rfl) ms (by decide +kernel) (pa_cons (pv 1) pa_nil))))), ?_⟩
    refine ⟨Nat.zero_le _, fun F nF => ?_⟩
    have s1 : Same H (upd H F (.lst [])) := same_new nF
    refine ⟨_, rfl, a, nV x, rfl, s1.seq ha, ?_⟩
    refine for_enu (xs := nV x) (fun i σ H' => ∃ (F : Addr) (y2 y3 : Option V), σ = [some (.ref a), some (.ref F), y2, y3, none] ∧ Same H H' ∧ H F = none ∧ PrsAt H' F (wrg x i)) ⟨F, none, none, rfl, s1, nF, [], upd_same, .nil⟩ ?_ ?_ ?_
    · rintro i σ H' _ ⟨F, y2, y3, rfl, sm, _⟩
      exact sm.seq ha
    · rintro i v σ H' U hi ⟨F, y2, y3, rfl, sm, oF, pr⟩ nU
      obtain ⟨r, er, rfl⟩ := nV_get hi
      have hix : i < x.length := (List.getElem?_eq_some_iff.mp er).1
      have er0 : at0 x i = r := at0_of er
      have sU : Same H' (upd H' U (.tup [.int (i : Int), .int (r : Int)])) := same_new nU
      have smU := sm.trans sU
      refine ⟨U, _, rfl, .inl (.inl upd_same), rfl, _, _, rfl, _, _, rfl, rfl, ?_⟩
      refine ⟨_, rfl, _, rfl, _, rfl, _, _, rfl, rfl, (i : Int) + 1, rfl, a, _, rfl, smU.seq ha, fun z nz => ?_⟩
      generalize hH2 : upd H' U (.tup [.int (i : Int), .int (r : Int)]) = H2 at nz sU smU
      have ei : (i : Int) + 1 = ((i + 1 : Nat) : Int) := by omega
      rw [ei, cut_drop]
      have s4 : Same H2 (upd H2 z (.lst (nV (x.drop (i + 1))))) := same_new nz
      generalize hH4 : upd H2 z (.lst (nV (x.drop (i + 1)))) = H4 at s4
      have ez4 : H4 z = some (.lst (nV (x.drop (i + 1)))) := by rw [← hH4]; exact upd_same
      refine ⟨z, rfl, ⟨_, SqL.of ez4⟩, fun L nL => ?_⟩
      refine lst_turns (xs := nV (x.drop (i + 1))) (fun m H5 => Same H4 H5 ∧ PrsAt H5 L (wrI x i m)) ⟨same_new nL, [], upd_same, .nil⟩ (fun m H5 _ h => SqL.of (h.1 _ _ ez4)) ?_ ?_
      · rintro m v H5 hm ⟨sm5, pr5⟩
        obtain ⟨l, el, rfl⟩ := nV_get hm
        refine ⟨rfl, _, rfl, _, rfl, _, _, rfl, rfl, _, rfl, ?_⟩
        rw [dec_nat]
        have hstep : wrI x i (m + 1) = wrI x i m ++ (if decide (l < r) then [(l, r)] else []) := by
          unfold wrI
          rw [countP_take el, List.map_append, er0]
          cases hc : decide (l < r) <;> simp
        rw [hstep]
        by_cases c : l < r
        · rw [decide_eq_true c]
          refine iteT ⟨_, rfl, _, rfl, (by show 2 ≤ sizeLine; decide), fun T nT => ?_⟩
          obtain ⟨as, e1, e2⟩ := pr5
          have smT : Same H5 (upd H5 T (.tup [.int (l : Int), .int (r : Int)])) := same_new nT
          have hl : as.length ≤ 1000 := by
            have a1 := Paired.length e2
            have a3 := wrI_len x i m
            have a4 := (List.getElem?_eq_some_iff.mp el).1
            rw [List.length_drop, hx.len] at a4
            omega
          refine ⟨_, smT _ _ e1, by rw [List.length_map]; exact small1000 hl, same_but nL (sm5.trans smT), ?_⟩
          exact PrsAt.snoc (q := (l, r)) e2 smT upd_same (smT _ _ e1)
        · rw [decide_eq_false c]
          refine iteF ⟨sm5, ?_⟩
          show PrsAt H5 L (wrI x i m ++ [])
          rw [List.append_nil]
          exact pr5
      · rintro H5 ⟨sm5, pr5⟩
        have s15 : Same H' H5 := (sU.trans s4).trans sm5
        obtain ⟨as, e1, e2⟩ := pr.same s15
        obtain ⟨bs, f1, f2⟩ := pr5
        have l1 := Paired.length e2
        have l2 := Paired.length f2
        have l3 := wrg_len (x := x) (by rw [hx.len]; exact hn) i
        have l4 := wrI_len x i (nV (x.drop (i + 1))).length
        rw [nV_len, List.length_drop, hx.len] at l4
        rw [hx.len] at hix
        refine ⟨F, L, _, _, rfl, rfl, e1, f1, ?_, fun N nN => ?_⟩
        · rw [List.length_map, List.length_map]
          rw [nV_len, List.length_drop, hx.len] at l2
          exact Nat.le_trans (show as.length + bs.length ≤ 1000 by omega) (by decide)
        · refine ⟨N, _, _, rfl, (sm.trans s15).trans (same_new nN), (sm.trans s15).free nN, ?_⟩
          rw [wrg_step]
          have e0 : wrI x i (nV (x.drop (i + 1))).length = wrI x i x.length := by
            unfold wrI
            rw [nV_len, List.take_length, List.take_of_length_le (by rw [List.length_drop]; omega)]
          rw [e0] at f2
          exact prs_cat (F := F) (B := L) e2 f2 nN
    · rintro σ H' ⟨F, y2, y3, rfl, sm, oF, pr⟩
      rw [nV_len, hx.len] at pr
      obtain ⟨as, e1, e2⟩ := pr
      obtain ⟨m1, m2⟩ := prs_map e2
      refine ⟨_, rfl, F, as.map V.ref, keyV H', rfl, SqL.of e1, fun v hv => ?_, fun ys p _ st np => ?_⟩
      · obtain ⟨t, ht, rfl⟩ := List.mem_map.mp hv
        exact ⟨t, rfl, m2 t ht⟩
      · obtain ⟨bs, rfl, pm⟩ := perm_refs st.perm
        have sp : Same H' (upd H' p (.lst (bs.map V.ref))) := same_new np
        have pm2 := pm.map (prOf H')
        rw [← m1] at pm2
        refine q _ p (bs.map (prOf H')) (sm.trans sp) (sm.free np) ⟨bs, upd_same, ?_⟩ ?_ fun a b => ?_
        · exact Paired.mapP (prs_of fun b hb => m2 b (pm.mem_iff.mp hb)) fun b r e => sp _ _ e
        · rw [pm2.length_eq]
          have := wrg_len (x := x) (by rw [hx.len]; exact hn) n
          omega
        · rw [pm2.mem_iff, wrg_mem hx]
end
end BM
namespace BM
open PySem PySem.Spec PyProof.Rows L2 BR
abbrev sLbars : Stmt := topS 49
abbrev nBars : List Str := ["_law_places_here", "_law_gates_here", "_law_start", "_law_end", "_law_elder", "_law_held_here", "_law_moved_here", "_law_found", "_law_a", "_law_b", "_law_k", "_law_t"]
theorem scLbars : FnScope nBars ["_law_places_here", "_law_gates_here", "_law_start", "_law_end"] (defScope sLbars) := ⟨rfl, rfl, rfl, by decide +kernel, rfl, by decide +kernel, by decide +kernel⟩
/-! ### bars as the law tells them -/
abbrev Bar := Bool × Nat × Nat
def brS : Bool → Str
  | true => "pair"
  | false => "cell"
abbrev BrAt (H : Hp) (p : Addr) (q : Bar) : Prop := H p = some (.tup [.str (brS q.1), .int (q.2.1 : Int), .int (q.2.2 : Int)])
def BarsAt (H : Hp) (p : Addr) (bs : List Bar) : Prop := ∃ as : List Addr, H p = some (.lst (as.map V.ref)) ∧ Paired (BrAt H) as bs
theorem BarsAt.same {H H' : Hp} {p : Addr} {bs : List Bar} (h : BarsAt H p bs) (s : Same H H') : BarsAt H' p bs := by
  obtain ⟨as, h1, h2⟩ := h
  exact ⟨as, s _ _ h1, Paired.mapP h2 fun b q e => s _ _ e⟩
theorem BarsAt.snoc {H H' : Hp} {D T : Addr} {bs : List Bar} {q : Bar} {as : List Addr} (h2 : Paired (BrAt H) as bs) (sm : Same H H') (eT : BrAt H' T q) (eD : H' D = some (.lst (as.map V.ref))) :
    BarsAt (upd H' D (.lst (as.map V.ref ++ [.ref T]))) D (bs ++ [q]) := by
  refine ⟨as ++ [T], by rw [upd_same, rV_app], ?_⟩
  have key : ∀ (b : Addr) (r : Bar), BrAt H' b r → BrAt (upd H' D (.lst (as.map V.ref ++ [.ref T]))) b r := fun b r e => by
    have e' : H' b = some (.tup [.str (brS r.1), .int (r.2.1 : Int), .int (r.2.2 : Int)]) := e
    show upd H' D _ b = _
    rw [upd_ne (ne_of e' eD (by intro z; cases z))]
    exact e'
  exact prd_snoc (key T q eT) (Paired.mapP h2 fun b r e => key b r (sm _ _ e))
theorem bars_cat {H : Hp} {N : Addr} {as bs : List Addr} {ps qs : List Bar} (h1 : Paired (BrAt H) as ps) (h2 : Paired (BrAt H) bs qs) (nN : H N = none) : BarsAt (upd H N (.lst (as.map V.ref ++ bs.map V.ref))) N (ps ++ qs) := by
  refine ⟨as ++ bs, by rw [upd_same, List.map_append], prd_app ?_ ?_⟩
  · exact Paired.mapP h1 fun b q e => same_new nN _ _ e
  · exact Paired.mapP h2 fun b q e => same_new nN _ _ e
/-- a bar against y, from x by gs -/
def isBar (n : Nat) (gs x y : List Nat) : Bar → Prop
  | (true, a, b) => wrong y a b ∧ ¬ wrong x a b
  | (false, k, t) => k ≤ n ∧ t ≤ n ∧ C gs k t < mv y x k t
def IsBars (n : Nat) (gs x y : List Nat) (bs : List Bar) : Prop := ∀ q, q ∈ bs ↔ isBar n gs x y q
theorem IsBars.nil {n : Nat} {gs x y : List Nat} {bs : List Bar} (h : IsBars n gs x y bs) : bs = [] ↔ NoBar n gs x y := by
  constructor
  · rintro rfl
    refine ⟨fun a b w => Classical.byContradiction fun z => ?_, fun k t hk ht => Nat.le_of_not_lt fun z => ?_⟩
    · exact absurd ((h (true, a, b)).mpr ⟨w, z⟩) (by simp)
    · exact absurd ((h (false, k, t)).mpr ⟨hk, ht, z⟩) (by simp)
  · rintro ⟨h1, h2⟩
    rw [List.eq_nil_iff_forall_not_mem]
    rintro ⟨c, a, b⟩ hm
    have hb := (h _).mp hm
    cases c with
    | true => exact hb.2 (h1 a b hb.1)
    | false =>
      have := h2 a b hb.1 hb.2.1
      have h3 : C gs a b < mv y x a b := hb.2.2
      omega
def spLbars (K : PySem.W.Frag) : Sp := fun vs H Q _ => ∃ (a b c : Addr) (n : Nat) (gs x y : List Nat), vs = [.int (n : Int), .ref a, .ref b, .ref c] ∧ SqL K H a (nV gs) ∧ SqL K H b (nV x) ∧ SqL K H c (nV y) ∧ IsOrd n x ∧ IsOrd n y ∧ GOk n gs ∧ n ≤ 12 ∧
  ∀ (H' : Hp) (p : Addr) (bs : List Bar), Same H H' → H p = none → BarsAt H' p bs → bs.length ≤ 1000 → IsBars n gs x y bs → Q (.ref p) H'
theorem filt_snoc {α β : Type} {p : α → Bool} {f : α → β} {xs : List α} {i : Nat} {r : α} (h : xs[i]? = some r) : ((xs.take (i + 1)).filter p).map f = ((xs.take i).filter p).map f ++ (if p r then [f r] else []) := by
  rw [List.take_add_one, h, List.filter_append, List.map_append]
  congr 1
  cases hp : p r <;> simp [hp]
section
variable {P : Program} {w : World} {K : PySem.W.Frag} {mg : Str → Option Value} {base : Heap}
theorem ok_lbars (D : Gd K mg "_law_bars" sLbars ["_law_places_here", "_law_gates_here", "_law_start", "_law_end"]) (cW : Cl P w K mg base 1 "_law_wrong" (spLwrong K)) (cH : Cl P w K mg base 2 "_law_held" (spLheld K)) (cM : Cl P w K mg base 1 "_law_moved" (spLmoved K)) (cC : Cl P w K mg base 1 "_law_cells" spLcells) :
    Cl P w K mg base 3 "_law_bars" (spLbars K) := by
  refine cl_of D scLbars (fun vs H Q E h => ?_) (fun f cdv A outer s H vs Q E hr h => ?_)
  · obtain ⟨a, b, c, n, gs, x, y, rfl, _⟩ := h
    rfl
  · obtain ⟨a, b, c, n, gs, x, y, rfl, ha, hb, hc, hx, hy, hG, hn, q⟩ := h
    have hu : (A.deeper (envOfC "_law_bars" (defScope sLbars) s.heap.objs.size f cdv)).units + 65 < cLine := by
      have := hr.un
      omega
    refine ⟨_, pss_cons (ps_asg (pe_tup (pa_cons (pe_cl cW (hr.mono (by decide)) (pa_cons (pv 2) pa_nil)) (pa_cons (pe_cl cH hr (pa_cons (pv 1) (pa_cons (pv 0) (pa_cons (pe_lst pa_nil) pa_nil)))) (pa_cons (pe_cl cM (hr.mono (by decide)) (pa_cons (pv 2) (pa_cons (pv 3) pa_nil))) pa_nil))))
        (pg_tup rfl (pgs_cons (pg_name (i := 4) scLbars.nd rfl (.inr rfl)) (pgs_cons (pg_name (i := 5) scLbars.nd rfl (.inr rfl)) (pgs_cons (pg_name (i := 6) scLbars.nd rfl (.inr rfl)) pgs_nil)))))
      (pss_cons (ps_setLc (i := 7) (own := [("_law_a", 8), ("_law_b", 9)]) (g := gTup K 2 (gCons (gName 8) (gCons (gName 9) gNil))) rfl scLbars.nd rfl rfl (sw_true rfl rfl rfl (by decide +kernel)) (pi_list (pe_cl cW (hr.mono (by decide)) (pa_cons (pv 3) pa_nil)))
          (blkOk_by (N := nBars) (sc := defScope sLbars) (by decide +kernel)) (fun _ _ _ _ _ => pg_tup rfl (pgs_cons (pg_name (i := 8) scLbars.nd rfl (Or.inl rfl)) (pgs_cons (pg_name (i := 9) scLbars.nd rfl (Or.inl rfl)) pgs_nil)))
          (fun _ _ _ _ _ => pts_one (pt_cmpR (r := rNotInD K) (op_notInD hu) (pe_tup (pa_cons (pv 8) (pa_cons (pv 9) pa_nil))) (pv 4) (by rfl)))
          (fun _ _ _ _ _ => pe_tup (pa_cons pe_str (pa_cons (pv 8) (pa_cons (pv 9) pa_nil)))))
      (pss_one (ps_ret (pe_op op_cat (pv 7) (pe_lc (own := [("_law_k", 10), ("_law_t", 11)]) (g := gTup K 2 (gCons (gName 10) (gCons (gName 11) gNil))) rfl scLbars.nd (pi_list (pe_cl cC (hr.mono (by decide)) (pa_cons (pe_op op_add (pv 0) pe_int) pa_nil)))
          (blkOk_by (N := nBars) (sc := defScope sLbars) (by decide +kernel)) (fun _ _ _ _ _ => pg_tup rfl (pgs_cons (pg_name (i := 10) scLbars.nd rfl (Or.inl rfl)) (pgs_cons (pg_name (i := 11) scLbars.nd rfl (Or.inl rfl)) pgs_nil)))
          (fun _ _ _ _ _ => pts_one (pt_cmpR op_gt (pe_ix (r := rIxL K) ix_list (pe_ix (r := rIxL K) ix_list (pv 6) (pv 10) (fun _ _ => rfl)) (pv 11) (fun _ _ => rfl)) (pe_ix (r := rIxL K) ix_list (pe_ix (r := rIxL K) ix_list (pv 5) (pv 10) (fun _ _ => rfl)) (pv 11) (fun _ _ => rfl)) (nomark _)))
          (fun _ _ _ _ _ => pe_tup (pa_cons pe_str (pa_cons (pv 10) (pa_cons (pv 11) pa_nil))))))))), ?_⟩
    refine ⟨_, rfl, b, n, x, rfl, hb, hx, hn, fun H1 W es s1 nW eW lW mW => ?_⟩
    refine ⟨_, rfl, _, rfl, Nat.zero_le _, fun z nz => ?_⟩
    have sz := s1.trans (same_new nz (o := .lst []))
    have ez : (upd H1 z (.lst [])) z = some (.lst (nV [])) := upd_same
    refine ⟨a, z, n, gs, [], rfl, sz.seq ha, SqL.of ez, hG, hn, fun H2 hd as s2 nhd ehd elh Rh => ?_⟩
    have s02 := sz.trans s2
    refine ⟨_, rfl, _, rfl, b, c, n, x, y, rfl, s02.seq hb, s02.seq hc, hx, hy, hn, fun H3 md bs s3 nmd emd elm Rm => ?_⟩
    have tm : TabAt H3 md n (mv y x) := ⟨bs, emd, elm, Rm.2.2⟩
    have th : TabAt H3 hd n (held n (ply [] 0 gs (falling n))) := TabAt.same ⟨as, ehd, elh, Rh.2.2⟩ s3
    refine ⟨(by show 3 ≤ sizeLine; decide), fun T nT => ?_⟩
    have sT : Same H3 (upd H3 T (.tup [.ref W, .ref hd, .ref md])) := same_new nT
    refine ⟨T, _, rfl, .inl (.inl upd_same), rfl, _, _, rfl, _, _, rfl, _, _, rfl, rfl, ?_⟩
    have s04 := (s02.trans s3).trans sT
    have eW4 := eW.same (((same_new nz).trans s2).trans (s3.trans sT))
    have tm := tm.same sT
    have th := th.same sT
    generalize hH4 : upd H3 T (.tup [.ref W, .ref hd, .ref md]) = H4 at sT s04 eW4 tm th
    clear hH4 sT
    refine ⟨_, rfl, c, n, y, rfl, s04.seq hc, hy, hn, fun H5 U fs s5 nU eU lU mU => ?_⟩
    obtain ⟨us, u1, u2⟩ := eU
    refine ⟨U, rfl, ⟨_, SqL.of u1⟩, fun L nL => ?_⟩
    refine lst_turns (xs := us.map V.ref) (fun i H' => Same H5 H' ∧ BarsAt H' L (((fs.take i).filter fun q => !decide (q ∈ es)).map fun q => (true, q.1, q.2))) ⟨same_new nL, [], upd_same, .nil⟩ (fun i H' _ h => SqL.of (h.1 _ _ u1)) ?_ ?_
    · rintro i v H6 hi ⟨sm6, pr⟩
      obtain ⟨t, et, rfl⟩ := rV_get hi
      obtain ⟨r, er, ht⟩ := prd_get u2 et
      have ht6 : H6 t = some (.tup [.int (r.1 : Int), .int (r.2 : Int)]) := sm6 _ _ ht
      refine ⟨t, _, rfl, .inl (.inl ht6), rfl, _, _, rfl, _, _, rfl, rfl, rfl, ?_⟩
      refine ⟨_, rfl, _, rfl, (by show 2 ≤ sizeLine; decide), fun Z nZ => ?_⟩
      have s7 : Same H6 (upd H6 Z (.tup [.int (r.1 : Int), .int (r.2 : Int)])) := same_new nZ
      generalize hH7 : upd H6 Z (.tup [.int (r.1 : Int), .int (r.2 : Int)]) = H7 at s7
      have eZ : PrAt H7 Z r := by rw [← hH7]; exact upd_same
      refine ⟨_, rfl, prD r, es.map prD, prD_dp eZ, (eW4.same (s5.trans (sm6.trans s7))).dp, prD_shaped r, prD_shapedAll _, _, rfl, ?_⟩
      rw [prD_any, filt_snoc er]
      have pr7 := pr.same s7
      have sm7 := sm6.trans s7
      by_cases cc : r ∈ es
      · rw [decide_eq_true cc]
        refine iteF ⟨sm7, ?_⟩
        show BarsAt H7 L (_ ++ [])
        rw [List.append_nil]
        exact pr7
      · rw [decide_eq_false cc]
        refine iteT ⟨_, rfl, _, rfl, (by show 3 ≤ sizeLine; decide), fun Y nY => ?_⟩
        obtain ⟨ks, k1, k2⟩ := pr7
        have s8 : Same H7 (upd H7 Y (.tup [.str "pair", .int (r.1 : Int), .int (r.2 : Int)])) := same_new nY
        have hl : ks.length ≤ 1000 := by
          have a1 := Paired.length k2
          have a2 := List.length_filter_le (fun q => !decide (q ∈ es)) (fs.take i)
          rw [List.length_take] at a2
          rw [List.length_map] at a1
          omega
        refine ⟨_, s8 _ _ k1, by rw [List.length_map]; exact small1000 hl, same_but nL (sm7.trans s8), ?_⟩
        exact BarsAt.snoc (q := (true, r.1, r.2)) k2 s8 upd_same (s8 _ _ k1)
    · rintro H6 ⟨sm6, pr⟩
      rw [List.length_map, Paired.length u2, List.take_length] at pr
      have s06 := (s04.trans s5).trans sm6
      have s46 := s5.trans sm6
      have oL : H L = none := (s04.trans s5).free nL
      refine ⟨_, rfl, _, rfl, _, _, rfl, rfl, n + 1, rfl, by omega, fun H7 V7 s7 n7 e7 => ?_⟩
      obtain ⟨vs7, v1, v2⟩ := e7
      refine ⟨V7, rfl, ⟨_, SqL.of v1⟩, fun M nM => ?_⟩
      refine lst_turns (xs := vs7.map V.ref) (fun i H' => Same H7 H' ∧ BarsAt H' M ((((allL (n + 1) (n + 1)).take i).filter fun q => decide (held n (ply [] 0 gs (falling n)) q.1 q.2 < mv y x q.1 q.2)).map fun q => (false, q.1, q.2))) ⟨same_new nM, [], upd_same, .nil⟩ (fun i H' _ h => SqL.of (h.1 _ _ v1)) ?_ ?_
      · rintro i v H8 hi ⟨sm8, pr8⟩
        obtain ⟨t, et, rfl⟩ := rV_get hi
        obtain ⟨r, er, ht⟩ := prd_get v2 et
        have hm := allL_mem.mp (List.mem_of_getElem? er)
        have ht8 : H8 t = some (.tup [.int (r.1 : Int), .int (r.2 : Int)]) := sm8 _ _ ht
        obtain ⟨as3, ra, a1, a2, a3⟩ := (tm.same (s46.trans (s7.trans sm8))).row (k := r.1) (by omega)
        obtain ⟨bs3, rb, b1, b2, b3⟩ := (th.same (s46.trans (s7.trans sm8))).row (k := r.1) (by omega)
        refine ⟨t, _, rfl, .inl (.inl ht8), rfl, _, _, rfl, _, _, rfl, rfl, rfl, ?_⟩
        refine ⟨_, rfl, _, rfl, md, _, _, .ref ra, rfl, rfl, SqL.of a1, at_of (j := r.1) rfl (by rw [List.getElem?_map, a2]; rfl), _, rfl, ra, _, _, _, rfl, rfl, SqL.of a3, nV_ix (i := r.2) rfl (by rw [rowL_len]; omega),
          _, rfl, _, rfl, hd, _, _, .ref rb, rfl, rfl, SqL.of b1, at_of (j := r.1) rfl (by rw [List.getElem?_map, b2]; rfl), _, rfl, rb, _, _, _, rfl, rfl, SqL.of b3, nV_ix (i := r.2) rfl (by rw [rowL_len]; omega), _, _, rfl, rfl, _, rfl, ?_⟩
        rw [rowL_at (by omega), rowL_at (by omega), dec_nat, filt_snoc er]
        by_cases cc : held n (ply [] 0 gs (falling n)) r.1 r.2 < mv y x r.1 r.2
        · rw [decide_eq_true cc]
          refine iteT ⟨_, rfl, _, rfl, (by show 3 ≤ sizeLine; decide), fun Y nY => ?_⟩
          obtain ⟨ks, k1, k2⟩ := pr8
          have s9 : Same H8 (upd H8 Y (.tup [.str "cell", .int (r.1 : Int), .int (r.2 : Int)])) := same_new nY
          have hl : ks.length ≤ 1000 := by
            have a1 := Paired.length k2
            have a2 := List.length_filter_le (fun q => decide (held n (ply [] 0 gs (falling n)) q.1 q.2 < mv y x q.1 q.2)) ((allL (n + 1) (n + 1)).take i)
            rw [List.length_take] at a2
            rw [List.length_map] at a1
            have a3 := allL_len (m := n + 1) (by omega) (n + 1)
            omega
          refine ⟨_, s9 _ _ k1, by rw [List.length_map]; exact small1000 hl, same_but nM (sm8.trans s9), ?_⟩
          exact BarsAt.snoc (q := (false, r.1, r.2)) k2 s9 upd_same (s9 _ _ k1)
        · rw [decide_eq_false cc]
          refine iteF ⟨sm8, ?_⟩
          show BarsAt H8 M (_ ++ [])
          rw [List.append_nil]
          exact pr8
      · rintro H8 ⟨sm8, pr8⟩
        rw [List.length_map, Paired.length v2, List.take_length] at pr8
        obtain ⟨as1, e1, e2⟩ := pr.same (s7.trans sm8)
        obtain ⟨bs1, f1, f2⟩ := pr8
        have l1 := Paired.length e2
        have l2 := Paired.length f2
        have a2 := List.length_filter_le (fun q => !decide (q ∈ es)) fs
        have a3 := List.length_filter_le (fun q => decide (held n (ply [] 0 gs (falling n)) q.1 q.2 < mv y x q.1 q.2)) (allL (n + 1) (n + 1))
        have a4 := allL_len (m := n + 1) (by omega) (n + 1)
        rw [List.length_map] at l1 l2
        refine ⟨L, M, _, _, rfl, rfl, e1, f1, ?_, fun N nN => ?_⟩
        · rw [List.length_map, List.length_map]
          exact Nat.le_trans (show as1.length + bs1.length ≤ 1000 by omega) (by decide)
        · have s08 := s06.trans (s7.trans sm8)
          refine q _ N _ (s08.trans (same_new nN)) (s08.free nN) (bars_cat e2 f2 nN) ?_ ?_
          · rw [List.length_append, List.length_map, List.length_map]
            omega
          · rintro ⟨k, u, v⟩
            rw [List.mem_append, List.mem_map, List.mem_map]
            cases k with
            | true =>
              show _ ↔ wrong y u v ∧ ¬ wrong x u v
              constructor
              · rintro (⟨r, hr, e⟩ | ⟨r, hr, e⟩)
                · injection e with e0 e1
                  injection e1 with e1 e2
                  subst e1 e2
                  rw [List.mem_filter] at hr
                  refine ⟨(mU _ _).mp hr.1, fun z => ?_⟩
                  have := (mW _ _).mpr z
                  have h2 := hr.2
                  simp [this] at h2
                · injection e with e0 e1
                  cases e0
              · rintro ⟨w1, w2⟩
                refine .inl ⟨(u, v), ?_, rfl⟩
                rw [List.mem_filter]
                refine ⟨(mU _ _).mpr w1, ?_⟩
                have : (u, v) ∉ es := fun z => w2 ((mW _ _).mp z)
                simp [this]
            | false =>
              show _ ↔ u ≤ n ∧ v ≤ n ∧ BM.C gs u v < mv y x u v
              constructor
              · rintro (⟨r, hr, e⟩ | ⟨r, hr, e⟩)
                · injection e with e0 e1
                  cases e0
                · injection e with e0 e1
                  injection e1 with e1 e2
                  subst e1 e2
                  rw [List.mem_filter] at hr
                  have h1 := allL_mem.mp hr.1
                  have h2 := of_decide_eq_true hr.2
                  rw [held_C hG (by omega)] at h2
                  exact ⟨by omega, by omega, h2⟩
              · rintro ⟨w1, w2, w3⟩
                refine .inr ⟨(u, v), ?_, rfl⟩
                rw [List.mem_filter]
                refine ⟨allL_mem.mpr ⟨by omega, by omega⟩, decide_eq_true ?_⟩
                show held n (ply [] 0 gs (falling n)) u v < mv y x u v
                rw [held_C hG w1]
                exact w3
end
end BM
namespace BM
open PySem PySem.Spec PyProof.Rows L2 BR
abbrev sLright : Stmt := topS 50
abbrev nRight : List Str := ["_law_places_here", "_law_gates_here", "_law_start", "_law_end", "_law_told", "_law_bars_here", "_law_bar"]
theorem scLright : FnScope nRight ["_law_places_here", "_law_gates_here", "_law_start", "_law_end", "_law_told"] (defScope sLright) := ⟨rfl, rfl, rfl, by decide +kernel, rfl, by decide +kernel, by decide +kernel⟩
def brD (q : Bar) : PyData := .tuple [.str (brS q.1), .int (q.2.1 : Int), .int (q.2.2 : Int)]
def brOk (q : Bar) : Bool := decide ((brD q).shown.length ≤ 1000) && (brD q).showable && PyData.canLay0 (.str (brD q).shown)
theorem brD_small : ∀ k, k < 13 → ∀ t, t < 13 → brOk (true, k, t) = true ∧ brOk (false, k, t) = true := by decide +kernel
theorem brD_dict (q : Bar) : (brD q).hasDict = false := by simp only [brD, PyData.hasDict, PyData.hasDictAll, Bool.or_false]
theorem brD_depth (q : Bar) : (brD q).depth ≤ 60 := by simp only [brD, PyData.depth, PyData.depthAll]; decide
theorem isBar_small {n : Nat} {gs x y : List Nat} {q : Bar} (hy : IsOrd n y) (hn : n ≤ 12) (h : isBar n gs x y q) : brOk q = true := by
  obtain ⟨c, k, t⟩ := q
  cases c with
  | true =>
    obtain ⟨⟨_, h1, h2, _⟩, _⟩ := h
    have a1 := hy.mem.mp h1
    have a2 := hy.mem.mp h2
    exact (brD_small k (by omega) t (by omega)).1
  | false =>
    obtain ⟨h1, h2, _⟩ := h
    exact (brD_small k (by omega) t (by omega)).2
abbrev rRepr (K : PySem.W.Frag) : List V → Hp → VK → Prop := fun xs H Q => ∃ (a : Addr) (d : PyData), xs = [.ref a] ∧ Dp K H (.ref a) d ∧ d.showable = true ∧ d.hasDict = false ∧ d.depth ≤ 60 ∧ d.shown.length ≤ sizeLine ∧ Q (.str d.shown) H
theorem brOk_out {q : Bar} (h : brOk q = true) : (brD q).shown.length ≤ 1000 ∧ (brD q).showable = true ∧ PyData.canLay0 (.str (brD q).shown) = true := by
  unfold brOk at h
  rw [Bool.and_eq_true, Bool.and_eq_true] at h
  exact ⟨of_decide_eq_true h.1.1, h.1.2, h.2⟩
theorem br_dp {K : PySem.W.Frag} {H : Hp} {p : Addr} {q : Bar} (h : BrAt H p q) : Dp K H (.ref p) (brD q) := .tup (SqT.of h) (.cons (.str _) (.cons (.int _) (.cons (.int _) .nil)))
abbrev tx (q : Bar) : V := .str (brD q).shown
abbrev txD (q : Bar) : PyData := .str (brD q).shown
theorem tx_all {K : PySem.W.Frag} {H : Hp} : ∀ bs : List Bar, DpAll K H (bs.map tx) (bs.map txD)
  | [] => .nil
  | q :: bs => .cons (.str _) (tx_all bs)
theorem tx_can : ∀ bs : List Bar, (∀ q ∈ bs, brOk q = true) → PyData.canLayAll0 (bs.map txD) = true
  | [], _ => by simp only [List.map_nil, PyData.canLayAll0]
  | q :: bs, h => by simp only [List.map_cons, PyData.canLayAll0, (brOk_out (h q List.mem_cons_self)).2.2, tx_can bs fun r hr => h r (List.mem_cons_of_mem _ hr), Bool.and_self]
theorem tx_shaped {bs : List Bar} (h : ∀ q ∈ bs, brOk q = true) : SeqAt.shaped (.list (bs.map txD)) = true := by
  unfold SeqAt.shaped
  have a1 := tx_can bs h
  have a2 : PyData.depthAll (bs.map txD) ≤ 0 := depth_map (fun q => by simp only [txD, PyData.depth]; exact Nat.le_refl _) bs
  simp only [PyData.canLay0, PyData.depth, a1, Bool.true_and]
  exact decide_eq_true (by omega)
theorem tx_flat : ∀ bs : List Bar, (bs.map tx).all flatV = true
  | [] => rfl
  | q :: bs => by
    show (flatV (tx q) && (bs.map tx).all flatV) = true
    rw [tx_flat bs]
    rfl
theorem tx_in {q : Bar} : ∀ {bs : List Bar}, q ∈ bs → inV (tx q) (bs.map tx) = true
  | r :: bs, h => by
    show (eqV (tx r) (tx q) || inV (tx q) (bs.map tx)) = true
    rcases List.mem_cons.mp h with rfl | h
    · have e : eqV (tx q) (tx q) = true := by
        simp [eqV, tx]
      rw [e]
      rfl
    · rw [tx_in h, Bool.or_true]
/-- what outcome tells is a bar, or all that is asked of misses -/
theorem outc_bar {n : Nat} {gs x y : List Nat} (hx : IsOrd n x) (hy : IsOrd n y) : (∃ q : Bar, isBar n gs x y q ∧ ∀ H p, OutAt H p (outc n gs x y) → BrAt H p q) ∨ (NoBar n gs x y ∧ outc n gs x y = .miss (gms y 0 gs x)) := by
  unfold outc
  cases e1 : newL n x y with
  | cons q qs =>
    refine .inl ⟨(true, q.1, q.2), ?_, fun H p h => h⟩
    exact (newL_mem hx hy).mp (by rw [e1]; exact List.mem_cons_self)
  | nil =>
    cases e2 : cellL n (mv y x) (C gs) with
    | cons q qs =>
      refine .inl ⟨(false, q.1, q.2), ?_, fun H p h => h⟩
      exact cellL_mem.mp (by rw [e2]; exact List.mem_cons_self)
    | nil => exact .inr ⟨(noBar_iff hx hy).mpr ⟨e1, e2⟩, rfl⟩
def spLright (K : PySem.W.Frag) : Sp := fun vs H Q _ => ∃ (a b c p : Addr) (n : Nat) (gs x y : List Nat), vs = [.int (n : Int), .ref a, .ref b, .ref c, .ref p] ∧ SqL K H a (nV gs) ∧ SqL K H b (nV x) ∧ SqL K H c (nV y) ∧ OutAt H p (outc n gs x y) ∧ IsOrd n x ∧ IsOrd n y ∧ GOk n gs ∧ n ≤ 12 ∧
  ∀ H' : Hp, Same H H' → Q (.bl true) H'
section
variable {P : Program} {w : World} {K : PySem.W.Frag} {mg : Str → Option Value} {base : Heap}
theorem ok_lright {f : Addr} {fd : FuncData} (F : Fun K "_law_outcome_right" "_law_outcome_right" sLright f fd) (cB : Cl P w K mg base 3 "_law_bars" (spLbars K)) (cP : Cl P w K mg base 1 "_law_play" (spLplay K)) (cA : Cl P w K mg base 1 "_law_are_misses" spLare)
    (mr : mg "repr" = none) (mi : mg "isinstance" = none) (mt : mg "tuple" = none) (ml : mg "len" = none) : FnG P w K mg base 4 f fd ["_law_places_here", "_law_gates_here", "_law_start", "_law_end", "_law_told"] (spLright K) := by
  refine fnG_of F scLright (fun vs H Q E h => ?_) (fun cdv A outer s H vs Q E hG hr h => ?_)
  · obtain ⟨a, b, c, p, n, gs, x, y, rfl, _⟩ := h
    rfl
  · obtain ⟨a, b, c, p, n, gs, x, y, rfl, ha, hb, hc, hp, hx, hy, hg, hn, q⟩ := h
    have hu : (A.deeper (envOfC "_law_outcome_right" (defScope sLright) s.heap.objs.size f cdv)).units + 64 < cLine := by
      have := hr.un
      omega
    refine ⟨_, pss_cons (ps_setLc (i := 5) (own := [("_law_bar", 6)]) (g := gName 6) (tt := tYes) rfl scLright.nd rfl rfl (sw_true rfl rfl rfl (by decide +kernel)) (pi_list (pe_cl cB hr (pa_cons (pv 0) (pa_cons (pv 1) (pa_cons (pv 2) (pa_cons (pv 3) pa_nil))))))
          (blkOk_by (N := nRight) (sc := defScope sLright) (by decide +kernel)) (fun _ _ _ _ _ => pg_name (i := 6) scLright.nd rfl (Or.inl rfl)) (fun _ _ _ _ _ => pts_nil)
          (fun _ _ _ _ _ => pe_callB (r := rRepr K) (call_reprD hG hu) (by rfl) mr (by decide +kernel) (pa_cons (pv 6) pa_nil)))
      (pss_cons (ps_if (pt_cmpR (op_neD hu) (pv 5) (pe_lst pa_nil) (nomark _)) (pss_one (ps_ret (pe_cmpR op_in_seq (pe_callB (r := rRepr K) (call_reprD hG hu) (by rfl) mr (by decide +kernel) (pa_cons (pv 4) pa_nil)) (pv 5) (by rfl)))) pss_nil)
      (pss_cons (ps_if (PW.pt (pw_or (pt_not (pt_val (pe_callB call_isi (by rfl) mi (by decide +kernel) (pa_cons (pv 4) (pa_cons (pe_bltn (v := .ty "tuple") (by rfl) mt (by decide +kernel) rfl) pa_nil)))))
          (pw_or (pt_cmpR op_ne (pe_callB call_len_seq (by rfl) ml PySem.boot_len (pa_cons (pv 4) pa_nil)) pe_int (nomark _))
            (pw_or1 (pt_cmpR op_ne (pe_ix ix_tup (pv 4) pe_int (fun _ _ => rfl)) pe_str (nomark _)))))) (pss_one (ps_ret pe_bl)) pss_nil)
      (pss_one (ps_ret (pe_and (pe_cl cA (hr.mono (by decide)) (pa_cons (pe_ix ix_tup (pv 4) pe_int (fun _ _ => rfl)) (pa_cons (pe_callB call_len_seq (by rfl) ml PySem.boot_len (pa_cons (pv 1) pa_nil)) pa_nil)))
        (pe_one (pe_cmpR (op_eqD hu) (pe_cl cP (hr.mono (by decide)) (pa_cons (pv 1) (pa_cons (pv 2) (pa_cons (pe_ix ix_tup (pv 4) pe_int (fun _ _ => rfl)) pa_nil)))) (pv 3) (nomark _)))))))), ?_⟩
    refine ⟨_, rfl, _, rfl, _, rfl, _, rfl, a, b, c, n, gs, x, y, rfl, ha, hb, hc, hx, hy, hg, hn, fun H1 B bs s1 nB eB lB IB => ?_⟩
    have small : ∀ q ∈ bs, brOk q = true := fun q hq => isBar_small hy hn ((IB q).mp hq)
    obtain ⟨as, b1, b2⟩ := eB
    refine ⟨B, rfl, ⟨_, SqL.of b1⟩, fun L nL => ?_⟩
    refine lst_turns (xs := as.map V.ref) (fun i H' => Same H1 H' ∧ H' L = some (.lst ((bs.take i).map tx))) ⟨same_new nL, upd_same⟩ (fun i H' _ h => SqL.of (h.1 _ _ b1)) ?_ ?_
    · rintro i v H2 hi ⟨sm, eL⟩
      obtain ⟨t, et, rfl⟩ := rV_get hi
      obtain ⟨r, er, ht⟩ := prd_get b2 et
      obtain ⟨k1, k2, k3⟩ := brOk_out (small r (List.mem_of_getElem? er))
      refine ⟨rfl, _, rfl, t, brD r, rfl, br_dp (sm _ _ ht), k2, brD_dict r, brD_depth r, Nat.le_trans k1 (by decide), _, eL, ?_, same_but nL sm, ?_⟩
      · rw [List.length_map, List.length_take]
        exact small1000 (by omega)
      · rw [upd_same, List.take_add_one, er, List.map_append]
        rfl
    · rintro H2 ⟨sm, eL⟩
      rw [List.length_map, Paired.length b2, List.take_length] at eL
      have s02 := s1.trans sm
      refine ⟨_, rfl, Nat.zero_le _, fun z nz => ?_⟩
      have sz : Same H2 (upd H2 z (.lst [])) := same_new nz
      have eL3 := sz _ _ eL
      refine ⟨.list (bs.map txD), .list [], .lst (SqL.of eL3) (tx_all bs), nil_dp upd_same, tx_shaped small, nil_shaped, _, rfl, ?_⟩
      rw [nil_eqv, isEmpty_map]
      have s03 := s02.trans sz
      generalize hH3 : upd H2 z (.lst []) = H3 at sz eL3 s03
      rcases outc_bar (gs := gs) hx hy with ⟨o, ho, hoa⟩ | ⟨nb, ho⟩
      · have hm : o ∈ bs := (IB o).mpr ho
        have hne : bs.isEmpty = false := by
          cases bs with
          | nil => cases hm
          | cons _ _ => rfl
        rw [hne]
        obtain ⟨k1, k2, k3⟩ := brOk_out (small o hm)
        refine iteT ⟨_, rfl, p, brD o, rfl, br_dp (hoa _ _ (hp.same s03)), k2, brD_dict o, brD_depth o, Nat.le_trans k1 (by decide), _, rfl, L, _, rfl, .inl (SqL.of eL3), rfl, tx_flat bs, ?_⟩
        show Q (.bl (inV (tx o) (bs.map tx))) H3
        rw [tx_in hm]
        exact q H3 s03
      · have hb0 : bs = [] := IB.nil.mpr nb
        rw [hb0]
        refine iteF ?_
        rw [ho] at hp
        obtain ⟨m, p1, p2⟩ := hp
        have p1 := s03 _ _ p1
        have p2 := s03 _ _ p2
        refine ⟨_, rfl, _, _, _, _, true, rfl, .ty "tuple", .base (.tup p1), kit_ty (by decide +kernel), true, rfl, iteF ?_⟩
        refine ⟨_, rfl, p, _, rfl, .inr (SqT.of p1), rfl, _, rfl, iteF ?_⟩
        refine ⟨_, rfl, p, _, 0, _, rfl, rfl, SqT.of p1, atI_nat (j := 0) rfl, rfl, _, rfl, ?_⟩
        rw [decide_eq_true rfl]
        refine iteF ?_
        have bd := gms_bounds y gs x 0
        refine ⟨_, rfl, p, _, 1, _, rfl, rfl, SqT.of p1, atI_nat (j := 1) rfl, _, rfl, a, _, rfl, .inl (s03.seq ha), ?_⟩
        rw [nV_len]
        refine ⟨m, gs.length, gms y 0 gs x, rfl, p2, bd.2, fun r hr => by have := (bd.1 r hr).2; omega, fun H4 s4 => ⟨true, rfl, iteT ?_⟩⟩
        have s04 := s03.trans s4
        refine ⟨_, rfl, _, rfl, _, rfl, p, _, 1, _, rfl, rfl, SqT.of (s4 _ _ p1), atI_nat (j := 1) rfl, a, b, m, n, gs, x, gms y 0 gs x, rfl, s04.seq ha, s04.seq hb, SqL.of (s4 _ _ p2), hx, hg, hn, fun H5 R s5 nR eR => ?_⟩
        have s05 := s04.trans s5
        have ep : ply (gms y 0 gs x) 0 gs x = y := by
          rw [(ply_gms y (gms y 0 gs x) gs x 0 fun j _ => Iff.rfl).1]
          exact gfin_eq hy hx hg nb
        rw [ep] at eR
        refine ⟨_, rfl, iL y, iL y, iL_dp (SqL.of eR), iL_dp (s05.seq hc), iL_shaped y, iL_shaped y, ?_⟩
        show Q (.bl (PyData.eqv (iL y) (iL y))) H5
        rw [iL_eqv, decide_eq_true rfl]
        exact q H5 s05
end
end BM
namespace BM
open PySem PySem.Spec PyProof.Rows L2 BR
abbrev sLwithout : Stmt := topS 53
abbrev nWithout : List Str := ["_law_places_here", "_law_gates_here", "_law_start", "_law_end", "_law_at", "_law_less", "_law_told"]
theorem scLwithout : FnScope nWithout ["_law_places_here", "_law_gates_here", "_law_start", "_law_end", "_law_at"] (defScope sLwithout) := ⟨rfl, rfl, rfl, by decide +kernel, rfl, by decide +kernel, by decide +kernel⟩
/-- a global name that may be called where no display is under way -/
structure ClG (P : Program) (w : World) (K : PySem.W.Frag) (mg : Str → Option Value) (base : Heap) (k : Nat) (x : Str) (sp : Sp) : Prop where
  ex : ∃ (f : Addr) (fd : FuncData) (ps : List Str), FnG P w K mg base k f fd ps sp ∧ mg x = some (.ref f) ∧ PySem.W.keepIn K (.ref f) = true ∧ L2.Binds K fd ps []
theorem pe_clG {X : Cx} {k : Nat} {sp : Sp} {x : Str} {p pos : Pos} {e : Expr} {es : List Expr} {t : TA} (c : ClG X.prog X.w X.K X.mg X.base k x sp) (hG : X.A.guards = some []) (hr : Room k X.A) (ha : PA X (e :: es) t) (hg : Gl X x := by rfl)
    (hdb : (x == ("__debug__" : Str)) = false := by decide) (he : starEach (e :: es) X.env = (false, eval e X.env) :: starEach es X.env := by rfl) (hpl : (backTo pos (starEach es X.env)).any (·.1) = false := by rfl) :
    PE X (.Call (.Name x p) (e :: es) [] pos) (tCall sp [] E0 t) := by
  obtain ⟨f, fd, ps, F, a, b, d⟩ := c.ex
  exact pe_callG F hG hr hg a b d ha hdb he hpl
/-- Schedule.of_gates, as the law calls it -/
structure SofC (P : Program) (w : World) (K : PySem.W.Frag) (mg : Str → Option Value) (base : Heap) (C : Addr) : Prop where
  g : mg "Schedule" = some (.ref C)
  ex : ∃ (p f : Addr) (mc : Value), ClX.CRead K C mc ∧ ClX.CMet K C mc "of_gates" p f ∧ FnR P w K mg base CX0 7 f (fun vs H Q E => spOf K C (vs ++ [.int 1]) H Q E)
/-- what is told first -/
def otN : Out → Str
  | .pair _ _ => "pair"
  | .cell _ _ => "cell"
  | .miss _ => "misses"
theorem OutAt.first {K : PySem.W.Frag} {H : Hp} {p : Addr} : ∀ {o : Out}, OutAt H p o → ∃ xs, SqT K H p (.str (otN o) :: xs)
  | .pair _ _, h => ⟨_, SqT.of h⟩
  | .cell _ _, h => ⟨_, SqT.of h⟩
  | .miss _, ⟨_, h, _⟩ => ⟨_, SqT.of h⟩
def spLwithout (K : PySem.W.Frag) : Sp := fun vs H Q _ => ∃ (a b c : Addr) (n k : Nat) (gs x y : List Nat), vs = [.int (n : Int), .ref a, .ref b, .ref c, .int (k : Int)] ∧ SqL K H a (nV gs) ∧ SqL K H b (nV x) ∧ SqL K H c (nV y) ∧ IsOrd n x ∧ IsOrd n y ∧ GOk n gs ∧ 1 ≤ n ∧ n ≤ 12 ∧ gs.length ≤ 400 ∧
  ∀ H' : Hp, Same H H' → Q (.str (otN (outc n (gs.eraseIdx k) x y))) H'
theorem nV_app3 (xs ys : List Nat) : nV xs ++ nV ys = nV (xs ++ ys) := by
  unfold nV
  rw [List.map_append]
section
variable {P : Program} {w : World} {K : PySem.W.Frag} {mg : Str → Option Value} {base : Heap} {C : Addr}
theorem clG_right (D : Gd K mg "_law_outcome_right" sLright ["_law_places_here", "_law_gates_here", "_law_start", "_law_end", "_law_told"]) (cB : Cl P w K mg base 3 "_law_bars" (spLbars K)) (cP : Cl P w K mg base 1 "_law_play" (spLplay K)) (cA : Cl P w K mg base 1 "_law_are_misses" spLare)
    (mr : mg "repr" = none) (mi : mg "isinstance" = none) (mt : mg "tuple" = none) (ml : mg "len" = none) : ClG P w K mg base 4 "_law_outcome_right" (spLright K) := by
  obtain ⟨f, fd, F, g, b⟩ := D.ex
  exact ⟨f, fd, _, ok_lright F cB cP cA mr mi mt ml, g, F.kp, b⟩
theorem ok_lwithout (D : Gd K mg "_law_without" sLwithout ["_law_places_here", "_law_gates_here", "_law_start", "_law_end", "_law_at"]) (cO : Cl P w K mg base 4 "outcome" (spOut K C)) (S : SofC P w K mg base C) (cR : ClG P w K mg base 4 "_law_outcome_right" (spLright K)) (mt : mg "list" = none) :
    ClG P w K mg base 8 "_law_without" (spLwithout K) := by
  obtain ⟨f, fd, F, g0, b0⟩ := D.ex
  obtain ⟨p0, f0, mc, CR, CM, FR⟩ := S.ex
  refine ⟨f, fd, _, fnG_of F scLwithout (fun vs H Q E h => ?_) (fun cdv A outer s H vs Q E hG hr h => ?_), g0, F.kp, b0⟩
  · obtain ⟨a, b, c, n, k, gs, x, y, rfl, _⟩ := h
    rfl
  · obtain ⟨a, b, c, n, k, gs, x, y, rfl, ha, hb, hc, hx, hy, hg, n1, hn, hl, q⟩ := h
    refine ⟨_, pss_cons (ps_set (i := 5) scLwithout.nd rfl (.inl rfl) (pe_op op_cat (pe_slice sl_list (pv 1) po_none (po_some (pv 4))) (pe_slice sl_list (pv 1) (po_some (pe_op op_add (pv 4) pe_int)) po_none)))
      (pss_cons (ps_set (i := 6) scLwithout.nd rfl (.inl rfl) (pe_cl cO (hr.mono (by decide)) (pa_cons (ClX.pe_cmeth (pe_glob (v := .ref C) (by rfl) S.g rfl) CR CM FR hr pass0 (pa_cons (pv 0) (pa_cons (pv 5) pa_nil)))
          (pa_cons (pe_callTy call_list_of (by rfl) mt (by decide +kernel) (pa_cons (pv 2) pa_nil)) (pa_cons (pe_callTy call_list_of (by rfl) mt (by decide +kernel) (pa_cons (pv 3) pa_nil)) pa_nil)))))
      (pss_one (ps_ret (pe_ifExp (pt_val (pe_clG cR hG (hr.mono (by decide)) (pa_cons (pv 0) (pa_cons (pv 5) (pa_cons (pv 2) (pa_cons (pv 3) (pa_cons (pv 6) pa_nil))))))) (pe_ix ix_tup (pv 6) pe_int (fun _ _ => rfl)) pe_non)))), ?_⟩
    refine ⟨_, rfl, _, rfl, (k : Int), rfl, a, _, rfl, ha, fun z1 nz1 => ?_⟩
    rw [cut_take]
    have s1 : Same H (upd H z1 (.lst (nV (gs.take k)))) := same_new nz1
    generalize hH1 : upd H z1 (.lst (nV (gs.take k))) = H1 at s1
    have e1 : H1 z1 = some (.lst (nV (gs.take k))) := by rw [← hH1]; exact upd_same
    refine ⟨_, rfl, _, rfl, _, _, rfl, rfl, (k : Int) + 1, rfl, a, _, rfl, s1.seq ha, fun z2 nz2 => ?_⟩
    have ek : (k : Int) + 1 = ((k + 1 : Nat) : Int) := by omega
    rw [ek, cut_drop]
    have s2 : Same H1 (upd H1 z2 (.lst (nV (gs.drop (k + 1))))) := same_new nz2
    have e2 : (upd H1 z2 (.lst (nV (gs.drop (k + 1))))) z2 = some (.lst (nV (gs.drop (k + 1)))) := upd_same
    have e1' := s2 _ _ e1
    generalize hH2 : upd H1 z2 (.lst (nV (gs.drop (k + 1)))) = H2 at s2 e2 e1'
    have s02 := s1.trans s2
    refine ⟨z1, z2, _, _, rfl, rfl, e1', e2, ?_, fun L nL => ?_⟩
    · rw [nV_len, nV_len, List.length_take, List.length_drop]
      exact Nat.le_trans (show min k gs.length + (gs.length - (k + 1)) ≤ 1000 by omega) (by decide)
    rw [nV_app3, ← List.eraseIdx_eq_take_drop_succ]
    have sL : Same H2 (upd H2 L (.lst (nV (gs.eraseIdx k)))) := same_new nL
    have eL : (upd H2 L (.lst (nV (gs.eraseIdx k)))) L = some (.lst (nV (gs.eraseIdx k))) := upd_same
    generalize hH3 : upd H2 L (.lst (nV (gs.eraseIdx k))) = H3 at sL eL
    have s03 := s02.trans sL
    have hl2 : (gs.eraseIdx k).length ≤ 400 := Nat.le_trans (List.length_eraseIdx_le ..) hl
    refine ⟨rfl, _, rfl, _, rfl, L, n, gs.eraseIdx k, rfl, SqL.of eL, n1, hn, hg.erase, hl2, fun H4 S4 s4 nS eS => ?_⟩
    have s04 := s03.trans s4
    refine ⟨_, rfl, b, _, rfl, .inl (s04.seq hb), fun u5 nu5 => ?_⟩
    have s5 : Same H4 (upd H4 u5 (.lst (nV x))) := same_new nu5
    have e5 : (upd H4 u5 (.lst (nV x))) u5 = some (.lst (nV x)) := upd_same
    generalize hH5 : upd H4 u5 (.lst (nV x)) = H5 at s5 e5
    have s05 := s04.trans s5
    refine ⟨_, rfl, c, _, rfl, .inl (s05.seq hc), fun u6 nu6 => ?_⟩
    have s6 : Same H5 (upd H5 u6 (.lst (nV y))) := same_new nu6
    have e6 : (upd H5 u6 (.lst (nV y))) u6 = some (.lst (nV y)) := upd_same
    have e56 := s6 _ _ e5
    generalize hH6 : upd H5 u6 (.lst (nV y)) = H6 at s6 e6 e56
    have s06 := s05.trans s6
    refine ⟨S4, u5, u6, n, gs.eraseIdx k, x, y, rfl, eS.same (s5.trans s6), SqL.of e56, SqL.of e6, hx, hy, hg.erase, hn, hl2, fun H7 T s7 nT eT => ?_⟩
    have s07 := s06.trans s7
    refine ⟨_, rfl, _, rfl, _, rfl, _, rfl, _, rfl, L, b, c, T, n, gs.eraseIdx k, x, y, rfl, SqL.of ((s4.trans (s5.trans (s6.trans s7))) _ _ eL), s07.seq hb, s07.seq hc, eT, hx, hy, hg.erase, hn, fun H8 s8 => ⟨true, rfl, iteT ?_⟩⟩
    obtain ⟨xs, ex⟩ := (eT.same s8).first (K := K)
    exact ⟨_, rfl, T, _, 0, _, rfl, rfl, ex, atI_nat (j := 0) rfl, q H8 (s07.trans s8)⟩
end
end BM
namespace BM
open PySem PySem.Spec PyProof.Rows L2 BR
abbrev sLref : Stmt := topS 54
theorem scLref : FnScope ["_law_schedule", "_law_start", "_law_end", "e"] ["_law_schedule", "_law_start", "_law_end"] (defScope sLref) := ⟨rfl, rfl, rfl, by decide +kernel, rfl, by decide +kernel, by decide +kernel⟩
theorem takesNone {X : Cx} : Takes X (fun _ _ _ _ => False) := fun _ _ x => by
  obtain ⟨_, _, _, _, _, _, _, _, _, _, _, _, _, _, _, _, z⟩ := x
  exact z.elim
/-- what the written part says of the two classes, as the law uses them -/
structure RefC (K : PySem.W.Frag) (mg : Str → Option Value) (N B : Addr) : Prop where
  gB : mg "LineError" = some (.ref B)
  gN : mg "NotPossible" = some (.ref N)
  te : PySem.W.exmOne K (.ref N) (.ref B) = some true
  ki : PySem.W.kitOne K (.ref N) (.ref N) = some true
  c : ExcC K N
abbrev rListOf (K : PySem.W.Frag) : List V → Hp → VK → Prop := fun xs H Q => ∃ p ys, xs = [.ref p] ∧ (SqL K H p ys ∨ SqT K H p ys) ∧ ∀ l, H l = none → Q (.ref l) (upd H l (.lst ys))
def spLref (K : PySem.W.Frag) (C : Addr) : Sp := fun vs H Q _ => ∃ (a b c : Addr) (n : Nat) (gs x y : List Nat), vs = [.ref a, .ref b, .ref c] ∧ SchedAt H C a n gs ∧ SqL K H b (nV x) ∧ SqL K H c (nV y) ∧ IsOrd n x ∧ IsOrd n y ∧ GOk n gs ∧ n ≤ 12 ∧ gs.length ≤ 400 ∧
  ∀ H' : Hp, Same H H' → Q (.bl (!isMiss (outc n gs x y))) H'
section
variable {P : Program} {w : World} {K : PySem.W.Frag} {mg : Str → Option Value} {base : Heap} {C N B : Addr}
theorem ok_lref (D : Gd K mg "_law_is_refused" sLref ["_law_schedule", "_law_start", "_law_end"]) (cc : CerC P w K mg base C N) (T : RefC K mg N B) (mt : mg "list" = none) (mi : mg "isinstance" = none) : Cl P w K mg base 6 "_law_is_refused" (spLref K C) := by
  obtain ⟨cf, cfd, CF, cg, ck, cb⟩ := cc.ex
  refine cl_of D scLref (fun vs H Q E h => ?_) (fun f cdv A outer s H vs Q E hr h => ?_)
  · obtain ⟨a, b, c, n, gs, x, y, rfl, _⟩ := h
    rfl
  · obtain ⟨a, b, c, n, gs, x, y, rfl, hS, hb, hc, hx, hy, hG, hn, hl, q⟩ := h
    refine ⟨_, pss_cons (ps_try_as (i := 3) (tb := fun W => tDrop (tCallS (spCert K C N) (WE W) (tCons (tVar 0) (tCons (tCB (rListOf K) (tCons (tVar 1) tNil)) (tCons (tCB (rListOf K) (tCons (tVar 2) tNil)) tNil)))))
        (ts := fun a cls d => tRet (fun σ H Q => cls = .ref N ∧ d = none ∧ σ[3]? = some (some (.ref a)) ∧ Q (.bl true) H)) (Wout := fun _ _ _ _ => False) rfl rfl scLref.nd rfl rfl ⟨rfl, by decide, .inl T.gB⟩ takesNone
        (fun W pn xe tk _ => pss_one (ps_expr (by exact (pe_callS CF hr (by rfl) cg ck cb (fun σ => passAt tk σ) (by exact (pa_cons (pv 0) (pa_cons (pe_callTy (r := rListOf K) call_list_of (by rfl) mt (by decide +kernel) (pa_cons (pv 1) pa_nil)) (pa_cons (pe_callTy (r := rListOf K) call_list_of (by rfl) mt (by decide +kernel) (pa_cons (pv 2) pa_nil)) pa_nil)))))))) 
        (fun a oe cls d pn hz hf => pss_one (ps_ret (by exact (pe_isD T.c hz hf T.ki (by rfl) mi (by rfl) T.gN rfl (Or.inl rfl))))))
      (pss_one (ps_ret pe_bl)), ?_⟩
    refine ⟨_, rfl, _, rfl, b, _, rfl, .inl hb, fun u1 nu1 => ?_⟩
    have s1 : Same H (upd H u1 (.lst (nV x))) := same_new nu1
    have e1 : (upd H u1 (.lst (nV x))) u1 = some (.lst (nV x)) := upd_same
    generalize hH1 : upd H u1 (.lst (nV x)) = H1 at s1 e1
    refine ⟨_, rfl, c, _, rfl, .inl (s1.seq hc), fun u2 nu2 => ?_⟩
    have s2 : Same H1 (upd H1 u2 (.lst (nV y))) := same_new nu2
    have e2 : (upd H1 u2 (.lst (nV y))) u2 = some (.lst (nV y)) := upd_same
    have e12 := s2 _ _ e1
    generalize hH2 : upd H1 u2 (.lst (nV y)) = H2 at s2 e2 e12
    have s02 := s1.trans s2
    refine ⟨a, u1, u2, n, gs, x, y, rfl, hS.same s02, SqL.of e12, SqL.of e2, hx, hy, hG, hn, hl, fun hm H3 L s3 nL eL => ?_, fun hm H3 s3 => ?_⟩
    · have q' := q H3 (s02.trans s3)
      rw [hm] at q'
      exact q'
    · refine ⟨true, T.te, fun _ a0 _ => ⟨rfl, rfl, rfl, ?_⟩, fun z => by cases z⟩
      have q' := q H3 (s02.trans s3)
      rw [hm] at q'
      exact q'
end
end BM
namespace BM
open PySem PySem.Spec PyProof.Rows L2 BR
abbrev sLaw : Stmt := topS 55
abbrev nLaw : List Str := ["_law_script", "_law_bag_here", "_law_turn", "_law_places_here", "_law_gates_here", "_law_start", "_law_schedule", "_law_end", "_law_handed", "_law_some", "_law_told", "_law_done_here", "_law_at", "_law_asked", "_law_found", "_law_other", "_law_barred", "_law_k", "_law_one"]
theorem scLaw : FnScope nLaw ["_law_script"] (defScope sLaw) := ⟨rfl, rfl, rfl, by decide +kernel, rfl, by decide +kernel, by decide +kernel⟩
/-! ### the plain end -/
theorem miss_iff {n : Nat} {gs x y : List Nat} (hx : IsOrd n x) (hy : IsOrd n y) : isMiss (outc n gs x y) = true ↔ NoBar n gs x y := by
  rw [noBar_iff hx hy]
  unfold outc
  cases e1 : newL n x y with
  | cons q qs => simp [isMiss]
  | nil =>
    cases e2 : cellL n (mv y x) (C gs) with
    | cons q qs => simp [isMiss]
    | nil => simp [isMiss]
theorem otN_eq (o : Out) : decide (V.str (otN o) = V.str "misses") = isMiss o := by
  cases o with
  | pair a b => exact decide_eq_false (show ¬ V.str "pair" = V.str "misses" by decide)
  | cell k t => exact decide_eq_false (show ¬ V.str "cell" = V.str "misses" by decide)
  | miss ms => exact decide_eq_true rfl
theorem cert_iff {n k : Nat} {gs x y : List Nat} (hx : IsOrd n x) (hy : IsOrd n y) (hG : GOk n gs) (hR : Reach gs x y) (hk : k < gs.length) : isMiss (outc n (gs.eraseIdx k) x y) = !decide (k ∈ cerL n gs x y) := by
  have nb := reach_noBar hx hG hR
  have e0 : newL n x y = [] := ((noBar_iff hx hy).mp nb).1
  have key : isMiss (outc n (gs.eraseIdx k) x y) = (cellL n (mv y x) (C (gs.eraseIdx k))).isEmpty := by
    unfold outc
    rw [e0]
    cases cellL n (mv y x) (C (gs.eraseIdx k)) <;> rfl
  by_cases hd : k ∈ gdn y 0 gs x
  · rw [key]
    unfold cerL
    by_cases he : (cellL n (mv y x) (C (gs.eraseIdx k))).isEmpty = true
    · rw [he, decide_eq_false]
      · rfl
      · rw [List.mem_filter]
        rintro ⟨_, z⟩
        rw [he] at z
        cases z
    · have he' : (cellL n (mv y x) (C (gs.eraseIdx k))).isEmpty = false := by simpa using he
      rw [he', decide_eq_true]
      · rfl
      · rw [List.mem_filter]
        exact ⟨hd, by rw [he']; rfl⟩
  · have h1 : Reach (gs.eraseIdx k) x (gfin y gs x) := gdn_erase y gs x 0 k hk (by rw [Nat.zero_add]; exact hd)
    rw [gfin_eq hy hx hG nb] at h1
    have h2 := (miss_iff hx hy).mpr (reach_noBar hx hG.erase h1)
    rw [h2, decide_eq_false]
    · rfl
    · unfold cerL
      rw [List.mem_filter]
      exact fun z => hd z.1
theorem cerL_bounds {n : Nat} {gs x y : List Nat} : (cerL n gs x y).Pairwise (· < ·) ∧ ∀ r ∈ cerL n gs x y, r < gs.length ∧ r ∈ gdn y 0 gs x := by
  have bd := gdn_bounds y gs x 0
  refine ⟨List.Pairwise.filter _ bd.2, fun r hr => ?_⟩
  unfold cerL at hr
  rw [List.mem_filter] at hr
  have := (bd.1 r hr.1).2
  exact ⟨by omega, hr.1⟩
/-! ### what stays when only the bag is changed -/
theorem bag_ints {H : Hp} {b L p : Addr} {xs : List Nat} (h : BagAt H b L) (e : H p = some (.lst (nV xs))) : p ≠ b := fun z => by
  obtain ⟨v0, v1, v2, cs, h1, h2⟩ := h
  rw [z, h1] at e
  have q := HO.lst.inj (Option.some.inj e)
  have q3 : ([V.int v0, V.int v1, V.int (v2 : Int), V.ref L] : List V)[3]? = some (V.ref L) := rfl
  rw [q, List.getElem?_map] at q3
  cases e2 : xs[3]? with
  | none =>
    rw [e2] at q3
    cases q3
  | some v =>
    rw [e2] at q3
    cases q3
theorem bag_keep {H H' : Hp} {b L p : Addr} {xs : List Nat} (h : BagAt H b L) (u : But b H H') (e : H p = some (.lst (nV xs))) : H' p = some (.lst (nV xs)) := u p _ (bag_ints h e) e
theorem bag_sched {H H' : Hp} {b L C s : Addr} {n : Nat} {gs : List Nat} (h : BagAt H b L) (u : But b H H') (e : SchedAt H C s n gs) : SchedAt H' C s n gs := by
  obtain ⟨v0, v1, v2, cs, h1, h2⟩ := h
  obtain ⟨dx, r, rs, e1, e2, e3⟩ := e
  refine ⟨dx, r, rs, u s _ (fun z => ?_) e1, u r _ (fun z => ?_) e2, Paired.mapP e3 fun c g ec => u c _ (fun z => ?_) ec⟩
  · rw [z, h1] at e1
    cases e1
  · rw [z, h1] at e2
    have q := HO.lst.inj (Option.some.inj e2)
    cases rs with
    | nil => cases q
    | cons c cs2 =>
      have q0 := (List.cons.inj q).1
      cases q0
  · have ec' : H c = some (.tup [.int (g : Int), .int 1]) := ec
    rw [z, h1] at ec'
    cases ec'
theorem bars_all {K : PySem.W.Frag} {H : Hp} : ∀ {as : List Addr} {bs : List Bar}, Paired (BrAt H) as bs → DpAll K H (as.map V.ref) (bs.map brD)
  | _, _, .nil => .nil
  | _, _, .cons r t => .cons (br_dp r) (bars_all t)
theorem bars_dp {K : PySem.W.Frag} {H : Hp} {p : Addr} {bs : List Bar} (h : BarsAt H p bs) : Dp K H (.ref p) (.list (bs.map brD)) := by
  obtain ⟨as, h1, h2⟩ := h
  exact .lst (SqL.of h1) (bars_all h2)
theorem brD_can (q : Bar) : PyData.canLay0 (brD q) = true := by
  obtain ⟨c, k, t⟩ := q
  have h : PyData.canLay0 (.str (brS c)) = true := by
    cases c <;> decide +kernel
  simp only [brD, PyData.canLay0, PyData.canLayAll0, Bool.and_true] at h ⊢
  exact h
theorem brD_depth1 (q : Bar) : PyData.depth (brD q) ≤ 1 := by simp only [brD, PyData.depth, PyData.depthAll]; decide
theorem bars_shaped (bs : List Bar) : SeqAt.shaped (.list (bs.map brD)) = true := shaped_map (by decide) brD_can brD_depth1 bs
def spLaw (K : PySem.W.Frag) : Sp := fun vs H Q _ => ∃ (a : Addr) (ns : List Int), vs = [.ref a] ∧ SqL K H a (ns.map V.int) ∧ ns.length ≤ 63 ∧ ∀ H' : Hp, Q (.bl true) H'
section
variable {P : Program} {w : World} {K : PySem.W.Frag} {mg : Str → Option Value} {base : Heap} {C N : Addr}
/-- all that the law calls -/
structure LawC (P : Program) (w : World) (K : PySem.W.Frag) (mg : Str → Option Value) (base : Heap) (C N : Addr) : Prop where
  bag : Cl P w K mg base 1 "_law_bag" (spBag K)
  take : Cl P w K mg base 1 "_law_take" spTake
  places : Cl P w K mg base 2 "_law_places" spLplaces
  most : Cl P w K mg base 2 "_law_most" spMost
  gates : Cl P w K mg base 2 "_law_gates" spLgates
  order : Cl P w K mg base 2 "_law_order" spLorder
  misses : Cl P w K mg base 2 "_law_misses" spLmisses
  play : Cl P w K mg base 1 "_law_play" (spLplay K)
  are : Cl P w K mg base 1 "_law_are_misses" spLare
  done : Cl P w K mg base 1 "_law_done" (spLdone K)
  bars : Cl P w K mg base 3 "_law_bars" (spLbars K)
  out : Cl P w K mg base 4 "outcome" (spOut K C)
  cert : CerC P w K mg base C N
  sof : SofC P w K mg base C
  wo : ClG P w K mg base 8 "_law_without" (spLwithout K)
  ref : Cl P w K mg base 6 "_law_is_refused" (spLref K C)
  mr : mg "range" = none
  ml : mg "list" = none
  mn : mg "len" = none
  mi : mg "int" = none
theorem ok_law {f : Addr} {fd : FuncData} (F : Fun K "law" "law" sLaw f fd) (T : LawC P w K mg base C N) : FnG P w K mg base 9 f fd ["_law_script"] (spLaw K) := by
  obtain ⟨cf, cfd, CF, cg, ck, cb⟩ := T.cert.ex
  obtain ⟨p0, f0, mc, CR, CM, FR⟩ := T.sof.ex
  have mr := T.mr
  have ml := T.ml
  have mn := T.mn
  refine fnG_of F scLaw (fun vs H Q E h => ?_) (fun cdv A outer s H vs Q E hG hr h => ?_)
  · obtain ⟨a, ns, rfl, _⟩ := h
    rfl
  · obtain ⟨a, ns, rfl, ha, hn63, q⟩ := h
    have hu : (A.deeper (envOfC "law" (defScope sLaw) s.heap.objs.size f cdv)).units + 64 < cLine := by
      have := hr.un
      omega
    refine ⟨_, pss_cons (ps_set (i := 1) scLaw.nd rfl (.inr rfl) (pe_cl T.bag (hr.mono (by decide)) (pa_cons (pv 0) pa_nil)))
      (pss_cons (ps_for PassesOwn.never rfl (pi_range1 (by rfl) mr (pa_cons pe_int pa_nil)) (pg_name (i := 2) scLaw.nd rfl (.inl rfl))
        (pss_cons (ps_set (i := 3) scLaw.nd rfl (.inl rfl) (pe_cl T.places (hr.mono (by decide)) (pa_cons (pv 1) (pa_cons pe_int (pa_cons pe_int pa_nil)))))
        (pss_cons (ps_asg (pe_tup (pa_cons (pe_cl T.gates (hr.mono (by decide)) (pa_cons (pv 1) (pa_cons (pv 3) (pa_cons (pe_ix ix_list (pe_lst (pa_cons (pe_cl T.most (hr.mono (by decide)) (pa_cons (pv 1) (pa_cons pe_int (pa_cons pe_int pa_nil)))) (pa_cons pe_int pa_nil))) (pv 2) (fun _ _ => rfl)) pa_nil))))
            (pa_cons (pe_cl T.order (hr.mono (by decide)) (pa_cons (pv 1) (pa_cons (pv 3) pa_nil))) pa_nil)))
          (pg_tup rfl (pgs_cons (pg_name (i := 4) scLaw.nd rfl (.inr rfl)) (pgs_cons (pg_name (i := 5) scLaw.nd rfl (.inl rfl)) pgs_nil))))
        (pss_cons (ps_set (i := 6) scLaw.nd rfl (.inl rfl) (ClX.pe_cmeth (pe_glob (v := .ref C) (by rfl) T.sof.g rfl) CR CM FR (hr.mono (by decide)) pass0 (pa_cons (pv 3) (pa_cons (pe_callTy call_list_of (by rfl) ml (by decide +kernel) (pa_cons (pv 4) pa_nil)) pa_nil))))
        (pss_cons (ps_set (i := 7) scLaw.nd rfl (.inl rfl) (pe_cl T.play (hr.mono (by decide)) (pa_cons (pv 4) (pa_cons (pv 5) (pa_cons (pe_cl T.misses (hr.mono (by decide)) (pa_cons (pv 1) (pa_cons (pe_callB call_len_seq (by rfl) mn PySem.boot_len (pa_cons (pv 4) pa_nil))
            (pa_cons (pe_ix ix_list (pe_lst (pa_cons pe_int (pa_cons pe_int pa_nil))) (pe_cl T.take (hr.mono (by decide)) (pa_cons (pv 1) (pa_cons pe_int pa_nil))) (fun _ _ => rfl)) pa_nil)))) pa_nil)))))
        (pss_cons (ps_par (i := 8) (j := 9) rfl scLaw.nd rfl rfl (by decide) rfl rfl (pa_cons (pe_lst (pa_cons (pe_callTy call_list_of (by rfl) ml (by decide +kernel) (pa_cons (pv 5) pa_nil)) (pa_cons (pe_callTy call_list_of (by rfl) ml (by decide +kernel) (pa_cons (pv 7) pa_nil)) pa_nil)))
            (pa_cons (pe_cl T.out (hr.mono (by decide)) (pa_cons (pv 6) (pa_cons (pe_callTy call_list_of (by rfl) ml (by decide +kernel) (pa_cons (pv 5) pa_nil)) (pa_cons (pe_callTy call_list_of (by rfl) ml (by decide +kernel) (pa_cons (pv 7) pa_nil)) pa_nil)))) pa_nil)) (by rfl))
        (pss_cons (ps_set (i := 10) scLaw.nd rfl (.inr rfl) (pe_call CF (hr.mono (by decide)) (by rfl) cg ck cb .nil passL (pa_cons (pv 6) (pa_cons (pe_ix ix_list (pv 8) pe_int (fun _ _ => rfl)) (pa_cons (pe_ix ix_list (pv 8) pe_int (fun _ _ => rfl)) pa_nil)))))
        (pss_cons (ps_if (PW.pt (pw_or (pt_not (pt_val (pe_cl T.are (hr.mono (by decide)) (pa_cons (pv 10) (pa_cons (pe_callB call_len_seq (by rfl) mn PySem.boot_len (pa_cons (pv 4) pa_nil)) pa_nil))))) (pw_or1 (pt_cmpR (op_neD hu) (pv 8) (pe_lst (pa_cons (pv 5) (pa_cons (pv 7) pa_nil))) (nomark _))))) (pss_one (ps_ret pe_bl)) pss_nil)
        (pss_cons (ps_set (i := 11) scLaw.nd rfl (.inr rfl) (pe_cl T.done (hr.mono (by decide)) (pa_cons (pv 4) (pa_cons (pv 5) (pa_cons (pe_ix ix_tup (pv 9) pe_int (fun _ _ => rfl)) pa_nil)))))
        (pss_cons (ps_if (pt_cmpR (op_neD hu) (pe_lc (own := [("_law_at", 12)]) (g := gName 12) rfl scLaw.nd (pi_list (pv 10)) (blkOk_by (N := nLaw) (sc := defScope sLaw) (by decide +kernel)) (fun _ _ _ _ _ => pg_name (i := 12) scLaw.nd rfl (Or.inl rfl))
            (fun _ _ _ _ _ => pts_one (pt_cmpR (r := rIn K true) op_notIn_seq (pv 12) (pv 11) (by rfl))) (fun _ _ _ _ _ => pv 12)) (pe_lst pa_nil) (nomark _)) (pss_one (ps_ret pe_bl)) pss_nil)
        (pss_cons (ps_set (i := 13) scLaw.nd rfl (.inl rfl) (pe_op op_cat (pe_slice sl_list (pv 10) po_none (po_some pe_int)) (pe_lc (own := [("_law_k", 17)]) (g := gName 17) (tt := tYes) rfl scLaw.nd
            (pi_range1 (by rfl) mr (pa_cons (pe_op op_mul pe_int (pe_callTy call_int1 (by rfl) T.mi (by decide +kernel) (pa_cons (pe_cmpR (op_neD hu) (pv 4) (pe_lst pa_nil) (nomark _)) pa_nil))) pa_nil))
            (blkOk_by (N := nLaw) (sc := defScope sLaw) (by decide +kernel)) (fun _ _ _ _ _ => pg_name (i := 17) scLaw.nd rfl (Or.inl rfl)) (fun _ _ _ _ _ => pts_nil)
            (fun _ _ _ _ _ => pe_cl T.take (hr.mono (by decide)) (pa_cons (pv 1) (pa_cons (pe_callB (r := rLenL K) call_len_seq (by rfl) mn PySem.boot_len (pa_cons (pv 4) pa_nil)) pa_nil))))))
        (pss_cons (ps_for PassesOwn.never rfl (pi_list (pe_op op_cat (pv 13) (pe_slice sl_list (pe_lc (own := [("_law_one", 18)]) (g := gName 18) rfl scLaw.nd (pi_list (pv 11)) (blkOk_by (N := nLaw) (sc := defScope sLaw) (by decide +kernel)) (fun _ _ _ _ _ => pg_name (i := 18) scLaw.nd rfl (Or.inl rfl))
              (fun _ _ _ _ _ => pts_one (pt_cmpR (r := rIn K true) op_notIn_seq (pv 18) (pv 10) (by rfl))) (fun _ _ _ _ _ => pv 18)) po_none (po_some pe_int)))) (pg_name (i := 12) scLaw.nd rfl (.inl rfl))
            (pss_cons (ps_set (i := 14) scLaw.nd rfl (.inl rfl) (pe_clG T.wo hG hr (pa_cons (pv 3) (pa_cons (pv 4) (pa_cons (pv 5) (pa_cons (pv 7) (pa_cons (pv 12) pa_nil)))))))
            (pss_one (ps_if (PW.pt (pw_or (pt_cmpR op_isN (pv 14) pe_non (nomark _)) (pw_or1 (pt_cmpR op_eq (pe_cmpR op_eq (pv 14) pe_str (nomark _)) (pe_cmpR op_in_seq (pv 12) (pv 10) (by rfl)) (by rfl))))) (pss_one (ps_ret pe_bl)) pss_nil))))
        (pss_cons (ps_set (i := 15) scLaw.nd rfl (.inl rfl) (pe_cl T.order (hr.mono (by decide)) (pa_cons (pv 1) (pa_cons (pv 3) pa_nil))))
        (pss_cons (ps_set (i := 16) scLaw.nd rfl (.inl rfl) (pe_cmpR (op_neD hu) (pe_cl T.bars (hr.mono (by decide)) (pa_cons (pv 3) (pa_cons (pv 4) (pa_cons (pv 5) (pa_cons (pv 15) pa_nil))))) (pe_lst pa_nil) (nomark _)))
        (pss_one (ps_if (pt_cmpR op_ne (pe_cl T.ref (hr.mono (by decide)) (pa_cons (pv 6) (pa_cons (pv 5) (pa_cons (pv 15) pa_nil)))) (pv 16) (nomark _)) (pss_one (ps_ret pe_bl)) pss_nil))))))))))))))))
      (pss_one (ps_ret pe_bl))), ?_⟩
    refine ⟨_, rfl, a, ns, rfl, ha, hn63, fun H1 b L _ nb hB1 => ?_⟩
    refine ⟨2, rfl, by omega, by omega, ?_⟩
    refine for_range (lo := 0) (n := 2) (fun i σ H' => ∃ y2 y3 y4 y5 y6 y7 y8 y9 y10 y11 y12 y13 y14 y15 y16, σ = [some (.ref a), some (.ref b), y2, y3, y4, y5, y6, y7, y8, y9, y10, y11, y12, y13, y14, y15, y16, none, none] ∧ BagAt H' b L)
      ⟨none, none, none, none, none, none, none, none, none, none, none, none, none, none, none, rfl, hB1⟩ ?_ ?_
    · rintro i0 σ H0 hi ⟨y2, y3, y4, y5, y6, y7, y8, y9, y10, y11, y12, y13, y14, y15, y16, rfl, hB0⟩
      -- the schedule
      refine ⟨_, rfl, b, L, 2, 12, rfl, by decide, by decide, hB0, fun H2 n b2 hB2 n1 n2 => ?_⟩
      refine ⟨_, rfl, _, rfl, _, rfl, b, L, 50, 400, rfl, hB2, fun H3 m b3 hB3 hm => ?_⟩
      refine ⟨(by show 2 ≤ sizeLine; decide), fun Z4 nZ4 => ?_⟩
      have hB4 := hB3.upd (o := .lst [.int (m : Int), .int 50]) nZ4
      obtain ⟨m', hm', em'⟩ : ∃ m' : Nat, m' ≤ 400 ∧ ([V.int (m : Int), V.int 50] : List V)[i0]? = some (.int (m' : Int)) := by
        match i0, hi with
        | 0, _ => exact ⟨m, by omega, rfl⟩
        | 1, _ => exact ⟨50, by omega, rfl⟩
      refine ⟨_, rfl, Z4, _, _, _, rfl, rfl, SqL.of upd_same, at_of (j := i0) (by omega) em', b, L, n, m', rfl, n1, n2, hm', hB4, fun H5 ga gs b5 hB5 nga ega hg hgl => ?_⟩
      have hl : gs.length ≤ 400 := by omega
      refine ⟨_, rfl, _, rfl, b, L, n, rfl, by omega, n2, hB5, fun H6 sa x b6 hB6 nsa esa hx => ?_⟩
      have ega6 := bag_keep hB5 b6 ega
      refine ⟨(by show 2 ≤ sizeLine; decide), fun T nT => ?_⟩
      have s7 : Same H6 (upd H6 T (.tup [.ref ga, .ref sa])) := same_new nT
      refine ⟨T, _, rfl, .inl (.inl upd_same), rfl, _, _, rfl, _, _, rfl, rfl, ?_⟩
      have hB7 := hB6.same s7
      have ega7 := s7 _ _ ega6
      have esa7 := s7 _ _ esa
      generalize upd H6 T (.tup [.ref ga, .ref sa]) = H7 at s7 hB7 ega7 esa7
      refine ⟨rfl, _, rfl, _, rfl, ga, _, rfl, .inl (SqL.of ega7), fun u nu => ?_⟩
      have s8 : Same H7 (upd H7 u (.lst (nV gs))) := same_new nu
      refine ⟨u, n, gs, rfl, SqL.of upd_same, by omega, n2, hg, hl, fun H9 S s9 nS eS => ?_⟩
      have s79 := s8.trans s9
      have hB9 := hB7.same s79
      have ega9 := s79 _ _ ega7
      have esa9 := s79 _ _ esa7
      -- the end
      refine ⟨_, rfl, _, rfl, _, rfl, _, rfl, ga, _, rfl, .inl (SqL.of ega9), ?_⟩
      rw [nV_len]
      refine ⟨(by show 2 ≤ sizeLine; decide), fun Z nZ => ?_⟩
      have hBZ := hB9.upd (o := .lst [.int 3, .int 50]) nZ
      have sZ : Same H9 (upd H9 Z (.lst [.int 3, .int 50])) := same_new nZ
      have nbZ := (bag_ne1 hB9 nZ).1
      refine ⟨_, rfl, b, L, 2, rfl, by decide, by decide, hBZ, fun H11 v b11 hB11 hv => ?_⟩
      obtain ⟨m2, hm2, em2⟩ : ∃ m2 : Nat, m2 ≤ 50 ∧ ([V.int 3, V.int 50] : List V)[v]? = some (.int (m2 : Int)) := by
        match v, hv with
        | 0, _ => exact ⟨3, by omega, rfl⟩
        | 1, _ => exact ⟨50, by omega, rfl⟩
      refine ⟨Z, _, _, _, rfl, rfl, SqL.of (b11 Z _ (Ne.symm nbZ) upd_same), at_of (j := v) rfl em2, b, L, gs.length, m2, rfl, hl, by omega, hB11, fun H12 ma ms b12 hB12 nma ema => ?_⟩
      have ega12 := bag_keep hB11 b12 (bag_keep hBZ b11 (sZ _ _ ega9))
      have esa12 := bag_keep hB11 b12 (bag_keep hBZ b11 (sZ _ _ esa9))
      have eS12 := bag_sched hB11 b12 (bag_sched hBZ b11 (eS.same sZ))
      refine ⟨ga, sa, ma, n, gs, x, ms, rfl, SqL.of ega12, SqL.of esa12, SqL.of ema, hx, hg, n2, fun H13 ea s13 nea eea => ?_⟩
      have hR : Reach gs x (ply ms 0 gs x) := ply_reach ms gs x 0
      have hy : IsOrd n (ply ms 0 gs x) := reach_ord hx hg hR
      generalize ply ms 0 gs x = y at eea hR hy
      have hB13 := hB12.same s13
      have ega13 := s13 _ _ ega12
      have esa13 := s13 _ _ esa12
      have eS13 := eS12.same s13
      -- handed, some
      refine ⟨_, rfl, sa, _, rfl, .inl (SqL.of esa13), fun h1 nh1 => ?_⟩
      have s14 : Same H13 (upd H13 h1 (.lst (nV x))) := same_new nh1
      have eh1 : (upd H13 h1 (.lst (nV x))) h1 = some (.lst (nV x)) := upd_same
      generalize upd H13 h1 (.lst (nV x)) = H14 at s14 eh1
      refine ⟨_, rfl, ea, _, rfl, .inl (SqL.of (s14 _ _ eea)), fun h2 nh2 => ?_⟩
      have s15 : Same H14 (upd H14 h2 (.lst (nV y))) := same_new nh2
      have eh2 : (upd H14 h2 (.lst (nV y))) h2 = some (.lst (nV y)) := upd_same
      have eh1 := s15 _ _ eh1
      generalize upd H14 h2 (.lst (nV y)) = H15 at s15 eh1 eh2
      refine ⟨(by show 2 ≤ sizeLine; decide), fun hd nhd => ?_⟩
      have s16 : Same H15 (upd H15 hd (.lst [.ref h1, .ref h2])) := same_new nhd
      have ehd : (upd H15 hd (.lst [.ref h1, .ref h2])) hd = some (.lst [.ref h1, .ref h2]) := upd_same
      have eh1 := s16 _ _ eh1
      have eh2 := s16 _ _ eh2
      generalize upd H15 hd (.lst [.ref h1, .ref h2]) = H16 at s16 eh1 eh2 ehd
      have s1316 := (s14.trans s15).trans s16
      have eea16 := s1316 _ _ eea
      have esa16 := s1316 _ _ esa13
      have eS16 := eS13.same s1316
      refine ⟨_, rfl, _, rfl, sa, _, rfl, .inl (SqL.of esa16), fun u1 nu1 => ?_⟩
      have s17 : Same H16 (upd H16 u1 (.lst (nV x))) := same_new nu1
      have eu1 : (upd H16 u1 (.lst (nV x))) u1 = some (.lst (nV x)) := upd_same
      generalize upd H16 u1 (.lst (nV x)) = H17 at s17 eu1
      refine ⟨_, rfl, ea, _, rfl, .inl (SqL.of (s17 _ _ eea16)), fun u2 nu2 => ?_⟩
      have s18 : Same H17 (upd H17 u2 (.lst (nV y))) := same_new nu2
      have eu2 : (upd H17 u2 (.lst (nV y))) u2 = some (.lst (nV y)) := upd_same
      have eu1 := s18 _ _ eu1
      generalize upd H17 u2 (.lst (nV y)) = H18 at s18 eu1 eu2
      refine ⟨S, u1, u2, n, gs, x, y, rfl, eS16.same (s17.trans s18), SqL.of eu1, SqL.of eu2, hx, hy, hg, n2, hl, fun H19 op s19 nop eop => ⟨_, _, rfl, ?_⟩⟩
      have nb := reach_noBar hx hg hR
      have ho : outc n gs x y = .miss (gms y 0 gs x) := by
        rcases outc_bar (gs := gs) hx hy with ⟨o, h1, h2⟩ | ⟨_, h⟩
        · have hm := (miss_iff (n := n) hx hy).mpr nb
          obtain ⟨c, k, t⟩ := o
          cases c with
          | true => exact absurd (nb.1 k t h1.1) h1.2
          | false =>
            have := nb.2 k t h1.1 h1.2.1
            have h3 : BM.C gs k t < mv y x k t := h1.2.2
            omega
        · exact h
      rw [ho] at eop
      obtain ⟨om, eop, eom⟩ := eop
      have s1619 := (s17.trans s18).trans s19
      have s1319 := s1316.trans s1619
      have hB19 := hB13.same s1319
      have ega19 := s1319 _ _ ega13
      have esa19 := s1319 _ _ esa13
      have eea19 := s1319 _ _ eea
      have eS19 := eS13.same s1319
      have ehd19 := s1619 _ _ ehd
      have eh119 := s1619 _ _ eh1
      have eh219 := s1619 _ _ eh2
      -- told
      refine ⟨_, rfl, _, rfl, hd, _, 0, _, rfl, rfl, SqL.of ehd19, atI_nat (j := 0) rfl, _, rfl, hd, _, 1, _, rfl, rfl, SqL.of ehd19, atI_nat (j := 1) rfl, S, h1, h2, n, gs, x, y, rfl, eS19, SqL.of eh119, SqL.of eh219, hx, hy, hg, n2, hl, fun _ H20 ta s20 nta eta => ?_, fun z => ?_⟩
      case' refine_2 =>
        rw [ho] at z
        cases z
      have cb := cerL_bounds (n := n) (gs := gs) (x := x) (y := y)
      generalize hcs : cerL n gs x y = cs at eta cb
      refine ⟨_, rfl, _, rfl, ga, _, rfl, .inl (SqL.of (s20 _ _ ega19)), ?_⟩
      rw [nV_len]
      refine ⟨ta, gs.length, cs, rfl, eta, cb.1, fun r hr => (cb.2 r hr).1, fun H21 s21 => ⟨true, rfl, iteF ?_⟩⟩
      have s1921 := s20.trans s21
      refine ⟨_, rfl, _, rfl, _, rfl, (by show 2 ≤ sizeLine; decide), fun Z22 nZ22 => ?_⟩
      have s22 : Same H21 (upd H21 Z22 (.lst [.ref sa, .ref ea])) := same_new nZ22
      have eZ22 : (upd H21 Z22 (.lst [.ref sa, .ref ea])) Z22 = some (.lst [.ref sa, .ref ea]) := upd_same
      generalize upd H21 Z22 (.lst [.ref sa, .ref ea]) = H22 at s22 eZ22
      have s1922 := s1921.trans s22
      refine ⟨iLL [x, y], iLL [x, y], .lst (SqL.of (s1922 _ _ ehd19)) (.cons (iL_dp (SqL.of (s1922 _ _ eh119))) (.cons (iL_dp (SqL.of (s1922 _ _ eh219))) .nil)),
        .lst (SqL.of eZ22) (.cons (iL_dp (SqL.of (s1922 _ _ esa19))) (.cons (iL_dp (SqL.of (s1922 _ _ eea19))) .nil)), iLL_shaped _, iLL_shaped _, _, rfl, ?_⟩
      rw [iLL_refl]
      refine iteF ?_
      -- done
      have eta22 := (s21.trans s22) _ _ eta
      refine ⟨_, rfl, _, rfl, _, rfl, op, _, 1, _, rfl, rfl, SqT.of (s1922 _ _ eop), atI_nat (j := 1) rfl, ga, sa, om, n, gs, x, gms y 0 gs x, rfl, SqL.of (s1922 _ _ ega19), SqL.of (s1922 _ _ esa19), SqL.of (s1922 _ _ eom), hx, hg, n2, hl, fun H23 da s23 nda eda => ?_⟩
      rw [(ply_gms y (gms y 0 gs x) gs x 0 fun j _ => Iff.rfl).2] at eda
      generalize hds : gdn y 0 gs x = ds at eda cb
      have hdsl : ds.length ≤ 400 := by
        rw [← hds]
        exact Nat.le_trans (gdn_len y gs x 0) hl
      have hdlt : ∀ r ∈ ds, r < gs.length := fun r hr => by
        rw [← hds] at hr
        have := ((gdn_bounds y gs x 0).1 r hr).2
        omega
      have hcsl : cs.length ≤ 400 := by
        rw [← hcs]
        unfold cerL
        have := List.length_filter_le (fun k => !(cellL n (mv y x) (BM.C (gs.eraseIdx k))).isEmpty) (gdn y 0 gs x)
        rw [hds] at this ⊢
        omega
      have s1923 := s1922.trans s23
      have eta23 := s23 _ _ eta22
      have hB23 := hB19.same s1923
      have ega23 := s1923 _ _ ega19
      have esa23 := s1923 _ _ esa19
      have eea23 := s1923 _ _ eea19
      have eS23 := eS19.same s1923
      -- each of told is done
      refine ⟨_, rfl, ta, rfl, ⟨_, SqL.of eta23⟩, fun L24 nL24 => ?_⟩
      refine lst_turns (xs := nV cs) (fun i H' => Same H23 H' ∧ H' L24 = some (.lst [])) ⟨same_new nL24, upd_same⟩ (fun i H' _ h => SqL.of (h.1 _ _ eta23)) ?_ ?_
      · rintro j w0 H' hj ⟨sm, eL⟩
        obtain ⟨r, er, rfl⟩ := nV_get hj
        refine ⟨rfl, _, rfl, _, rfl, da, _, rfl, .inl (SqL.of (sm _ _ eda)), rfl, nV_flat _, _, rfl, ?_⟩
        rw [nV_in, decide_eq_true (cb.2 r (List.mem_of_getElem? er)).2]
        exact iteF ⟨sm, eL⟩
      rintro H24 ⟨s24, eL24⟩
      refine ⟨Nat.zero_le _, fun Z25 nZ25 => ?_⟩
      have s25 : Same H24 (upd H24 Z25 (.lst [])) := same_new nZ25
      refine ⟨.list [], .list [], nil_dp (s25 _ _ eL24), nil_dp upd_same, nil_shaped, nil_shaped, _, rfl, ?_⟩
      rw [nil_eqv]
      refine iteF ?_
      generalize upd H24 Z25 (.lst []) = H25 at s25
      have s2325 := s24.trans s25
      have eta25 := s2325 _ _ eta23
      have eda25 := s2325 _ _ eda
      have hB25 := hB23.same s2325
      have ega25 := s2325 _ _ ega23
      have esa25 := s2325 _ _ esa23
      have eea25 := s2325 _ _ eea23
      have eS25 := eS23.same s2325
      clear eop eom ehd19 eh119 eh219
      -- asked
      refine ⟨_, rfl, 12, rfl, ta, _, rfl, SqL.of eta25, fun c1 nc1 => ?_⟩
      have e12 : cutV (nV cs) none (some 12) = nV (cs.take 12) := cut_take cs 12
      rw [e12]
      have s26 : Same H25 (upd H25 c1 (.lst (nV (cs.take 12)))) := same_new nc1
      have ec1 : (upd H25 c1 (.lst (nV (cs.take 12)))) c1 = some (.lst (nV (cs.take 12))) := upd_same
      generalize upd H25 c1 (.lst (nV (cs.take 12))) = H26 at s26 ec1
      refine ⟨_, rfl, Nat.zero_le _, fun Z27 nZ27 => ?_⟩
      have s27 : Same H26 (upd H26 Z27 (.lst [])) := same_new nZ27
      refine ⟨.list (gs.map iD), .list [], iL_dp (SqL.of ((s26.trans s27) _ _ ega25)), nil_dp upd_same, iL_shaped gs, nil_shaped, ?_⟩
      rw [nil_eqv, isEmpty_map]
      have ec127 := s27 _ _ ec1
      generalize upd H26 Z27 (.lst []) = H27 at s27 ec127
      have s2527 := s26.trans s27
      have hB27 := hB25.same s2527
      obtain ⟨cnt, ev, c6, c0⟩ : ∃ cnt : Nat, (6 : Int) * (if (!gs.isEmpty) = true then 1 else 0) = (cnt : Int) ∧ cnt ≤ 6 ∧ (0 < cnt → 1 ≤ gs.length) := by
        cases gs with
        | nil => exact ⟨0, rfl, by omega, by omega⟩
        | cons g gs => exact ⟨6, rfl, by omega, fun _ => by rw [List.length_cons]; omega⟩
      refine .inr ⟨_, rfl, _, _, rfl, rfl, .inl ⟨by omega, by omega⟩, ?_⟩
      refine ⟨_, rfl, ?_⟩
      rw [ev]
      refine ⟨by omega, by omega, ?_⟩
      rw [Int.toNat_natCast]
      have ega27 := s2527 _ _ ega25
      refine fun Dc nDc => ?_
      obtain ⟨nbD, nLD⟩ := bag_ne1 hB27 nDc
      refine rng_turns (n := cnt) (fun i H' => But b H27 H' ∧ BagAt H' b L ∧ ∃ as' : List Nat, H' Dc = some (.lst (nV as')) ∧ as'.length = i ∧ ∀ d ∈ as', d < gs.length)
        ⟨But.of (same_new nDc), hB27.upd nDc, [], upd_same, rfl, fun d hd => by cases hd⟩ ?_ ?_
      · rintro j H' hj ⟨bt, hB', as', eD, la, ba⟩
        have g1 := c0 (by omega)
        refine ⟨rfl, _, rfl, _, rfl, ga, _, rfl, .inl (SqL.of (bag_keep hB27 bt ega27)), b, L, gs.length, by rw [nV_len]; rfl, g1, by omega, hB', fun H'' v' bt' hB'' hv' => ?_⟩
        have eD' := bag_keep hB' bt' eD
        refine ⟨_, eD', by rw [nV_len]; exact small1000 (by omega), but_own (bt.trans bt') nDc, hB''.own nbD nLD, as' ++ [v'], by rw [upd_same, nV_app], by rw [List.length_append, la]; rfl, fun d hd => ?_⟩
        rcases List.mem_append.mp hd with hd | hd
        · exact ba d hd
        · rw [List.mem_singleton.mp hd]
          exact hv'
      rintro H28 ⟨bt, hB28, as', eD, la, ba⟩
      have ec128 := bag_keep hB27 bt ec127
      have hcl : (cs.take 12).length ≤ 12 := by rw [List.length_take]; omega
      refine ⟨c1, Dc, _, _, rfl, rfl, ec128, eD, ?_, fun N29 nN29 => ?_⟩
      · rw [nV_len, nV_len]
        exact Nat.le_trans (show (cs.take 12).length + as'.length ≤ 1000 by omega) (by decide)
      rw [nV_app3]
      have s29 : Same H28 (upd H28 N29 (.lst (nV (cs.take 12 ++ as')))) := same_new nN29
      have eN29 : (upd H28 N29 (.lst (nV (cs.take 12 ++ as')))) N29 = some (.lst (nV (cs.take 12 ++ as'))) := upd_same
      generalize upd H28 N29 (.lst (nV (cs.take 12 ++ as'))) = H29 at s29 eN29
      have hB29 := hB28.same s29
      have eta29 := s29 _ _ (bag_keep hB27 bt (s2527 _ _ eta25))
      have eda29 := s29 _ _ (bag_keep hB27 bt (s2527 _ _ eda25))
      have ega29 := s29 _ _ (bag_keep hB27 bt ega27)
      have esa29 := s29 _ _ (bag_keep hB27 bt (s2527 _ _ esa25))
      have eea29 := s29 _ _ (bag_keep hB27 bt (s2527 _ _ eea25))
      have eS29 := (bag_sched hB27 bt (eS25.same s2527)).same s29
      -- the loop
      refine ⟨_, rfl, _, rfl, da, rfl, ⟨_, SqL.of eda29⟩, fun L30 nL30 => ?_⟩
      refine lst_turns (xs := nV ds) (fun i H' => Same H29 H' ∧ ∃ es : List Nat, H' L30 = some (.lst (nV es)) ∧ es.length ≤ i ∧ ∀ e ∈ es, e < gs.length) ⟨same_new nL30, [], upd_same, Nat.le_refl _, fun e he => by cases he⟩ (fun i H' _ h => SqL.of (h.1 _ _ eda29)) ?_ ?_
      · rintro j w0 H' hj ⟨sm, es, eL, le, be⟩
        obtain ⟨r, er, rfl⟩ := nV_get hj
        have hj' := (List.getElem?_eq_some_iff.mp er).1
        refine ⟨rfl, _, rfl, _, rfl, ta, _, rfl, .inl (SqL.of (sm _ _ eta29)), rfl, nV_flat _, _, rfl, ?_⟩
        refine ite2 (fun _ => ?_) (fun _ => ⟨sm, es, eL, by omega, be⟩)
        refine ⟨_, rfl, _, eL, by rw [nV_len]; exact small1000 (by omega), same_but nL30 sm, es ++ [r], by rw [upd_same, nV_app], by rw [List.length_append, List.length_singleton]; omega, fun e he => ?_⟩
        rcases List.mem_append.mp he with he | he
        · exact be e he
        · rw [List.mem_singleton.mp he]
          exact hdlt r (List.mem_of_getElem? er)
      rintro H30 ⟨s30, es, eL30, _, be⟩
      refine ⟨8, rfl, L30, _, rfl, SqL.of eL30, fun c2 nc2 => ?_⟩
      have e8 : cutV (nV es) none (some 8) = nV (es.take 8) := cut_take es 8
      rw [e8]
      have s31 : Same H30 (upd H30 c2 (.lst (nV (es.take 8)))) := same_new nc2
      have ec2 : (upd H30 c2 (.lst (nV (es.take 8)))) c2 = some (.lst (nV (es.take 8))) := upd_same
      generalize upd H30 c2 (.lst (nV (es.take 8))) = H31 at s31 ec2
      have s2931 := s30.trans s31
      have hel : (es.take 8).length ≤ 8 := by rw [List.length_take]; omega
      refine ⟨N29, c2, _, _, rfl, rfl, s2931 _ _ eN29, ec2, ?_, fun N32 nN32 => ?_⟩
      · rw [nV_len, nV_len, List.length_append]
        exact Nat.le_trans (show (cs.take 12).length + as'.length + (es.take 8).length ≤ 1000 by omega) (by decide)
      rw [nV_app3]
      have hz : ∀ k ∈ (cs.take 12 ++ as') ++ es.take 8, k < gs.length := fun k hk => by
        rcases List.mem_append.mp hk with hk | hk
        · rcases List.mem_append.mp hk with hk | hk
          · exact (cb.2 k (List.mem_of_mem_take hk)).1
          · exact ba k hk
        · exact be k (List.mem_of_mem_take hk)
      generalize (cs.take 12 ++ as') ++ es.take 8 = zs at hz
      have s32 : Same H31 (upd H31 N32 (.lst (nV zs))) := same_new nN32
      have eN32 : (upd H31 N32 (.lst (nV zs))) N32 = some (.lst (nV zs)) := upd_same
      generalize upd H31 N32 (.lst (nV zs)) = H32 at s32 eN32
      have s2932 := s2931.trans s32
      have eta32 := s2932 _ _ eta29
      have hB32 := hB29.same s2932
      have ega32 := s2932 _ _ ega29
      have esa32 := s2932 _ _ esa29
      have eea32 := s2932 _ _ eea29
      have eS32 := eS29.same s2932
      refine ⟨N32, rfl, ⟨_, SqL.of eN32⟩, ?_⟩
      refine for_list (K := K) (a := N32) (xs := nV zs) (fun i σ H' => ∃ y12 y14, σ = [some (.ref a), some (.ref b), some (.int (0 + (i0 : Int))), some (.int (n : Int)), some (.ref ga), some (.ref sa), some (.ref S), some (.ref ea), some (.ref hd), some (.ref op), some (.ref ta), some (.ref da), y12, some (.ref N29), y14, y15, y16, none, none] ∧ Same H32 H')
        ⟨_, _, rfl, fun _ _ h => h⟩ ?_ ?_ ?_
      · rintro j σ H' _ ⟨y12, y14, rfl, sm⟩
        exact SqL.of (sm _ _ eN32)
      · rintro j w0 σ H' hj ⟨y12, y14, rfl, sm⟩
        obtain ⟨k, ek, rfl⟩ := nV_get hj
        have hk := hz k (List.mem_of_getElem? ek)
        refine ⟨_, rfl, _, rfl, _, rfl, _, rfl, _, rfl, ga, sa, ea, n, k, gs, x, y, rfl, SqL.of (sm _ _ ega32), SqL.of (sm _ _ esa32), SqL.of (sm _ _ eea32), hx, hy, hg, by omega, n2, hl, fun H'' s'' => ?_⟩
        have sm' := sm.trans s''
        refine ⟨_, rfl, rfl, _, rfl, ?_⟩
        rw [decide_eq_false (fun z => by cases z)]
        refine iteF ⟨_, rfl, rfl, _, rfl, _, rfl, ta, _, rfl, .inl (SqL.of (sm' _ _ eta32)), rfl, nV_flat _, rfl, _, rfl, ?_⟩
        rw [otN_eq]
        show (if decide (V.bl (isMiss (outc n (gs.eraseIdx k) x y)) = V.bl (inV (.int (k : Int)) (nV cs))) = true then _ else _)
        rw [nV_in, cert_iff hx hy hg hR hk, hcs, decide_eq_false (fun z => by
          have z2 := V.bl.inj z
          revert z2
          cases decide (k ∈ cs) <;> decide)]
        exact iteF ⟨_, _, rfl, sm'⟩
      · rintro σ H33 ⟨y12, y14, rfl, s33⟩
        have hB33 := hB32.same s33
        refine ⟨_, rfl, _, rfl, b, L, n, rfl, by omega, n2, hB33, fun H34 oa z b34 hB34 noa eoa hz => ?_⟩
        have ega34 := bag_keep hB33 b34 (s33 _ _ ega32)
        have esa34 := bag_keep hB33 b34 (s33 _ _ esa32)
        have eS34 := bag_sched hB33 b34 (eS32.same s33)
        refine ⟨_, rfl, _, rfl, _, rfl, _, rfl, ga, sa, oa, n, gs, x, z, rfl, SqL.of ega34, SqL.of esa34, SqL.of eoa, hx, hz, hg, n2, fun H35 B bs s35 nB eB lB IB => ?_⟩
        refine ⟨Nat.zero_le _, fun Z36 nZ36 => ?_⟩
        have s36 : Same H35 (upd H35 Z36 (.lst [])) := same_new nZ36
        refine ⟨.list (bs.map brD), .list [], bars_dp (eB.same s36), nil_dp upd_same, bars_shaped bs, nil_shaped, ?_⟩
        rw [nil_eqv, isEmpty_map]
        generalize upd H35 Z36 (.lst []) = H36 at s36
        have s3436 := s35.trans s36
        refine ⟨_, rfl, _, rfl, _, rfl, S, sa, oa, n, gs, x, z, rfl, eS34.same s3436, SqL.of (s3436 _ _ esa34), SqL.of (s3436 _ _ eoa), hx, hz, hg, n2, hl, fun H37 s37 => ⟨_, rfl, rfl, _, rfl, ?_⟩⟩
        have e : isMiss (outc n gs x z) = bs.isEmpty := by
          rw [Bool.eq_iff_iff, miss_iff hx hz, ← IB.nil, List.isEmpty_iff]
        rw [e, decide_eq_true rfl]
        exact iteF ⟨_, _, _, _, _, _, _, _, _, _, _, _, _, _, _, rfl, hB34.same (s3436.trans s37)⟩
    · rintro σ H' ⟨y2, y3, y4, y5, y6, y7, y8, y9, y10, y11, y12, y13, y14, y15, y16, rfl, hB⟩
      exact q H'
end
end BM
namespace BM
open PySem PySem.Spec PyProof.Rows L2 BR
/-! ### from the written part to what the rules ask -/
/-- a def as the top leaves it, at f -/
def DefK (K : PySem.W.Frag) (x q : Str) (st : Stmt) (f : Addr) : Prop := ∃ fd : FuncData, Fun K x q st f fd
theorem defk_mk {K : PySem.W.Frag} {x q : Str} {st : Stmt} {f : Addr} {oc : Value} {od an : Option Addr} {osl : Array (Option Value)} {kV doc pm cdv ct : Value}
    (l : K.lookup f = some ⟨oc, od, .func (PySem.W.fnOf x q (defArgs st) (defBody st) (defScope st) .none kV doc pm an cdv ct), osl⟩) (c : PySem.W.codeIn K cdv q = true) (k : PySem.W.keepIn K (.ref f) = true) : DefK K x q st f := ⟨_, fun_mk l c k⟩
/-- a def with keyword-only defaults, in the dict at D -/
def KwK (K : PySem.W.Frag) (x q : Str) (st : Stmt) (f D : Addr) : Prop := ∃ fd : FuncData, ∀ kws : List (Str × V), (∀ r ∈ kws, ∃ u, PySem.W.nsIn K D r.1 = some (some u) ∧ RelV r.2 u) → FunD K x q (defArgs st) (defBody st) (defScope st) [] kws f fd
theorem kwk_mk {K : PySem.W.Frag} {x q : Str} {st : Stmt} {f D : Addr} {oc : Value} {od an : Option Addr} {osl : Array (Option Value)} {doc pm cdv ct : Value}
    (l : K.lookup f = some ⟨oc, od, .func (PySem.W.fnOf x q (defArgs st) (defBody st) (defScope st) .none (.ref D) doc pm an cdv ct), osl⟩) (c : PySem.W.codeIn K cdv q = true) (k : PySem.W.keepIn K (.ref f) = true) : KwK K x q st f D :=
  ⟨_, fun kws hk => ⟨⟨oc, od, .none, .ref D, doc, pm, an, cdv, ct, osl, rfl, l, c, .inl ⟨rfl, rfl⟩, .inr ⟨D, rfl, hk⟩⟩, k⟩⟩
theorem gd_of {K : PySem.W.Frag} {h : Heap} {mg : Str → Option Value} {x : Str} {st : Stmt} {f : Addr} {ps : List Str} (X : K.In h) (G : h.Ns mainGlobals mg) (a : PySem.W.nsIn K mainGlobals x = some (some (.ref f))) (d : DefK K x x st f)
    (hb : ∀ (kV doc pm : Value) (an : Option Addr) (cdv ct : Value) (us : List Value), us.length = ps.length → bindArgs (PySem.W.fnOf x x (defArgs st) (defBody st) (defScope st) .none kV doc pm an cdv ct) ⟨us, []⟩ = pure (ps.zip us)) : Gd K mg x st ps := by
  obtain ⟨fd, F⟩ := d
  exact ⟨f, fd, F, PySem.W.mg_of X G a, F.binds hb⟩
theorem exm_of {K : PySem.W.Frag} {N B : Addr} (h1 : PySem.W.subIn K (.ref B) (.type "BaseException") = some true) (hd : PySem.W.hasDictIn K B = true) (ht : PySem.W.typeIn K (.ref B) = some (.type "type")) (h4 : PySem.W.subIn K (.ref N) (.ref B) = some true) : PySem.W.exmOne K (.ref N) (.ref B) = some true :=
  PySem.W.exm_ref h1 hd ht h4
theorem kit_self {K : PySem.W.Frag} {N : Addr} : PySem.W.kitOne K (.ref N) (.ref N) = some true := by
  unfold PySem.W.kitOne
  rw [if_pos (by simp)]
theorem all_mk {P : Program} {w : World} {K : PySem.W.Frag} {h : Heap} {mg : Str → Option Value} {fa : Addr} (X : K.In h) (G : h.Ns mainGlobals mg) (hfa : mg "law" = some (.ref fa))
    {f_isInt f_bet f_isPr f_isCm f_inv f_wp f_dem f_isEx f_exch f_free f_pas f_mov f_new f_cel f_gre f_out f_cert f_bag f_take f_lcel f_lpl f_lga f_lor f_lmi f_lpy f_lhe f_lar f_lwr f_lmo f_lba f_lri f_most f_ldo f_lwo f_lre C N B fI pp gp gg pof gof Dof fcap Dcap T0 fN f_law : Addr} {t0 t1 t2 t3 : Tok} {pr orr nbs nbm nsub : List Value} {td : Option Addr} {tn : Nat} {tsl : Array (Option Value)} {nnm nq : Str} {nN : Addr} {nsn : List Str} {nab : Bool} {ncol : Option Bool} {ndd : Option Addr} {nk0 nk1 nk2 nk3 nk5 : Option Value}
    (a_isInt : PySem.W.nsIn K mainGlobals "is_integer" = some (some (.ref f_isInt)))
    (d_isInt : DefK K "is_integer" "is_integer" sIsInt f_isInt)
    (a_bet : PySem.W.nsIn K mainGlobals "is_between" = some (some (.ref f_bet)))
    (d_bet : DefK K "is_between" "is_between" sBetween f_bet)
    (a_isPr : PySem.W.nsIn K mainGlobals "is_price" = some (some (.ref f_isPr)))
    (d_isPr : DefK K "is_price" "is_price" sIsPrice f_isPr)
    (a_isCm : PySem.W.nsIn K mainGlobals "is_comparison" = some (some (.ref f_isCm)))
    (d_isCm : DefK K "is_comparison" "is_comparison" sIsCmp f_isCm)
    (a_inv : PySem.W.nsIn K mainGlobals "inverse" = some (some (.ref f_inv)))
    (d_inv : DefK K "inverse" "inverse" sInverse f_inv)
    (a_wp : PySem.W.nsIn K mainGlobals "wrong_pairs" = some (some (.ref f_wp)))
    (d_wp : DefK K "wrong_pairs" "wrong_pairs" sWp f_wp)
    (a_dem : PySem.W.nsIn K mainGlobals "demands" = some (some (.ref f_dem)))
    (d_dem : DefK K "demands" "demands" sDem f_dem)
    (a_isEx : PySem.W.nsIn K mainGlobals "is_exchanged" = some (some (.ref f_isEx)))
    (d_isEx : DefK K "is_exchanged" "is_exchanged" sIsExch f_isEx)
    (a_exch : PySem.W.nsIn K mainGlobals "exchange" = some (some (.ref f_exch)))
    (d_exch : DefK K "exchange" "exchange" sExch f_exch)
    (a_free : PySem.W.nsIn K mainGlobals "free_table" = some (some (.ref f_free)))
    (d_free : DefK K "free_table" "free_table" sFree f_free)
    (a_pas : PySem.W.nsIn K mainGlobals "passed" = some (some (.ref f_pas)))
    (d_pas : DefK K "passed" "passed" sPassed f_pas)
    (a_mov : PySem.W.nsIn K mainGlobals "moved_counts" = some (some (.ref f_mov)))
    (d_mov : DefK K "moved_counts" "moved_counts" sMoved f_mov)
    (a_new : PySem.W.nsIn K mainGlobals "new_pairs" = some (some (.ref f_new)))
    (d_new : DefK K "new_pairs" "new_pairs" sNew f_new)
    (a_cel : PySem.W.nsIn K mainGlobals "cells_above" = some (some (.ref f_cel)))
    (d_cel : DefK K "cells_above" "cells_above" sCells f_cel)
    (a_gre : PySem.W.nsIn K mainGlobals "greedy_misses" = some (some (.ref f_gre)))
    (d_gre : DefK K "greedy_misses" "greedy_misses" sGreedy f_gre)
    (a_out : PySem.W.nsIn K mainGlobals "outcome" = some (some (.ref f_out)))
    (d_out : DefK K "outcome" "outcome" sOut f_out)
    (a_cert : PySem.W.nsIn K mainGlobals "certain" = some (some (.ref f_cert)))
    (d_cert : DefK K "certain" "certain" sCert f_cert)
    (a_bag : PySem.W.nsIn K mainGlobals "_law_bag" = some (some (.ref f_bag)))
    (d_bag : DefK K "_law_bag" "_law_bag" sBag f_bag)
    (a_take : PySem.W.nsIn K mainGlobals "_law_take" = some (some (.ref f_take)))
    (d_take : DefK K "_law_take" "_law_take" sTake f_take)
    (a_lcel : PySem.W.nsIn K mainGlobals "_law_cells" = some (some (.ref f_lcel)))
    (d_lcel : DefK K "_law_cells" "_law_cells" sLcells f_lcel)
    (a_lpl : PySem.W.nsIn K mainGlobals "_law_places" = some (some (.ref f_lpl)))
    (d_lpl : DefK K "_law_places" "_law_places" sLplaces f_lpl)
    (a_lga : PySem.W.nsIn K mainGlobals "_law_gates" = some (some (.ref f_lga)))
    (d_lga : DefK K "_law_gates" "_law_gates" sLgates f_lga)
    (a_lor : PySem.W.nsIn K mainGlobals "_law_order" = some (some (.ref f_lor)))
    (d_lor : DefK K "_law_order" "_law_order" sLorder f_lor)
    (a_lmi : PySem.W.nsIn K mainGlobals "_law_misses" = some (some (.ref f_lmi)))
    (d_lmi : DefK K "_law_misses" "_law_misses" sLmisses f_lmi)
    (a_lpy : PySem.W.nsIn K mainGlobals "_law_play" = some (some (.ref f_lpy)))
    (d_lpy : DefK K "_law_play" "_law_play" sLplay f_lpy)
    (a_lhe : PySem.W.nsIn K mainGlobals "_law_held" = some (some (.ref f_lhe)))
    (d_lhe : DefK K "_law_held" "_law_held" sLheld f_lhe)
    (a_lar : PySem.W.nsIn K mainGlobals "_law_are_misses" = some (some (.ref f_lar)))
    (d_lar : DefK K "_law_are_misses" "_law_are_misses" sLare f_lar)
    (a_lwr : PySem.W.nsIn K mainGlobals "_law_wrong" = some (some (.ref f_lwr)))
    (d_lwr : DefK K "_law_wrong" "_law_wrong" sLwrong f_lwr)
    (a_lmo : PySem.W.nsIn K mainGlobals "_law_moved" = some (some (.ref f_lmo)))
    (d_lmo : DefK K "_law_moved" "_law_moved" sLmoved f_lmo)
    (a_lba : PySem.W.nsIn K mainGlobals "_law_bars" = some (some (.ref f_lba)))
    (d_lba : DefK K "_law_bars" "_law_bars" sLbars f_lba)
    (a_lri : PySem.W.nsIn K mainGlobals "_law_outcome_right" = some (some (.ref f_lri)))
    (d_lri : DefK K "_law_outcome_right" "_law_outcome_right" sLright f_lri)
    (a_most : PySem.W.nsIn K mainGlobals "_law_most" = some (some (.ref f_most)))
    (d_most : DefK K "_law_most" "_law_most" sMost f_most)
    (a_ldo : PySem.W.nsIn K mainGlobals "_law_done" = some (some (.ref f_ldo)))
    (d_ldo : DefK K "_law_done" "_law_done" sLdone f_ldo)
    (a_lwo : PySem.W.nsIn K mainGlobals "_law_without" = some (some (.ref f_lwo)))
    (d_lwo : DefK K "_law_without" "_law_without" sLwithout f_lwo)
    (a_lre : PySem.W.nsIn K mainGlobals "_law_is_refused" = some (some (.ref f_lre)))
    (d_lre : DefK K "_law_is_refused" "_law_is_refused" sLref f_lre)
    (z_isinstance : PySem.W.nsIn K mainGlobals "isinstance" = some none)
    (z_int : PySem.W.nsIn K mainGlobals "int" = some none)
    (z_bool : PySem.W.nsIn K mainGlobals "bool" = some none)
    (z_tuple : PySem.W.nsIn K mainGlobals "tuple" = some none)
    (z_len : PySem.W.nsIn K mainGlobals "len" = some none)
    (z_enumerate : PySem.W.nsIn K mainGlobals "enumerate" = some none)
    (z_min : PySem.W.nsIn K mainGlobals "min" = some none)
    (z_range : PySem.W.nsIn K mainGlobals "range" = some none)
    (z_max : PySem.W.nsIn K mainGlobals "max" = some none)
    (z_list : PySem.W.nsIn K mainGlobals "list" = some none)
    (z_abs : PySem.W.nsIn K mainGlobals "abs" = some none)
    (z_sorted : PySem.W.nsIn K mainGlobals "sorted" = some none)
    (z_repr : PySem.W.nsIn K mainGlobals "repr" = some none)
    (m_pr : PySem.W.nsIn K mainGlobals "MAX_PRICE" = some (some (.int 1000000000000000000 t0)))
    (m_pl : PySem.W.nsIn K mainGlobals "MAX_PLACES" = some (some (.int 12 t1)))
    (m_co : PySem.W.nsIn K mainGlobals "MAX_COMPARISONS" = some (some (.int 400 t2)))
    (aC : PySem.W.nsIn K mainGlobals "Schedule" = some (some (.ref C)))
    (c_pg : PySem.W.plainGet K C Str.empty = true)
    (c_hd : PySem.W.hasDictIn K C = true)
    (c_po : PySem.W.plainOver K C = true)
    (c_sa : PySem.W.findIn K (.ref C) "__setattr__" = some (some (.builtin "object.__setattr__")))
    (c_mk : PySem.W.makesIn K C = true)
    (c_kc : PySem.W.keepIn K (.ref C) = true)
    (c_nP : PySem.W.findIn K (.ref C) "place_count" = some none)
    (c_nR : PySem.W.findIn K (.ref C) "rows" = some none)
    (i_at : PySem.W.findIn K (.ref C) "__init__" = some (some (.ref fI)))
    (i_fn : PySem.W.isFn K (.ref fI) = true)
    (i_d : DefK K "__init__" "Schedule.__init__" sInit fI)
    (p_at : PySem.W.findIn K (.ref C) "places" = some (some (.ref pp)))
    (p_get : PySem.W.specialIn K (.ref pp) "__get__" = some (some (.builtin "property.__get__")))
    (p_tak : PySem.W.takesIn K (.ref pp) = some true)
    (p_rec : PySem.W.recIn K pp "property" = some (.ref gp :: pr))
    (p_d : DefK K "places" "Schedule.places" sPlaces gp)
    (g_at : PySem.W.findIn K (.ref C) "gates" = some (some (.ref gg)))
    (g_fn : PySem.W.isFn K (.ref gg) = true)
    (g_d : DefK K "gates" "Schedule.gates" sGates gg)
    (o_rd : PySem.W.readsIn K C (.type "type") = true)
    (o_ga : PySem.W.specialIn K (.ref C) "__getattribute__" = some (some (.builtin "type.__getattribute__")))
    (o_at : PySem.W.findCls K (.ref C) (.type "type") "of_gates" = some (.get (.builtin "classmethod.__get__") (.ref pof) .none (.ref C)))
    (o_rc : PySem.W.recIn K pof "classmethod" = some (.ref gof :: orr))
    (o_fi : PySem.W.fnIn K gof = true)
    (o_d : KwK K "of_gates" "Schedule.of_gates" sOf gof Dof)
    (o_kw : PySem.W.nsIn K Dof "price" = some (some (.int 1 t3)))
    (k_a : PySem.W.nsIn K mainGlobals "capacities" = some (some (.ref fcap)))
    (k_d : KwK K "capacities" "capacities" sCap fcap Dcap)
    (k_kw : PySem.W.nsIn K Dcap "missed" = some (some (.ref T0)))
    (k_t0 : K.lookup T0 = some ⟨.type "tuple", td, .seq #[] tn, tsl⟩)
    (aN : PySem.W.nsIn K mainGlobals "NotPossible" = some (some (.ref N)))
    (n_x : K.lookup N = some (excClassObj nnm nq N nN nbs nbm true nsn nsub nab ncol ndd nk0 nk1 nk2 nk3 nk5 "ValueError.__new__"))
    (n_bm : PySem.HandSPX.refsVE nbm = true)
    (n_sa : PySem.W.findIn K (.ref N) "__setattr__" = some (some (.builtin "object.__setattr__")))
    (n_ex : PySem.W.subIn K (.ref N) (.type "BaseException") = some true)
    (n_ty : PySem.W.typeIn K (.ref N) = some (.type "type"))
    (n_kc : PySem.W.keepIn K (.ref N) = true)
    (n_hg : PySem.W.findIn K (.ref N) "__getattribute__" = some (some (.builtin "BaseException.__getattribute__")))
    (n_hk : PySem.W.findIn K (.ref N) "__getattr__" = some none)
    (n_hd : PySem.W.hasDictIn K N = true)
    (n_ha : PySem.W.findIn K (.ref N) "__class__" = some (some (.builtin "object.__class__")))
    (n_hn : PySem.W.specialIn K (.builtin "object.__class__") "__get__" = some (some (.builtin "getset_descriptor.__get__")))
    (n_ht : PySem.W.takesIn K (.builtin "object.__class__") = some true)
    (n_hm : PySem.W.mroIn K N (.type "object") = some true)
    (n_i : PySem.W.findIn K (.ref N) "__init__" = some (some (.ref fN)))
    (n_it : PySem.W.typeIn K (.ref fN) = some (.type "function"))
    (n_d : DefK K "__init__" "NotPossible.__init__" sNpI fN)
    (aB : PySem.W.nsIn K mainGlobals "LineError" = some (some (.ref B)))
    (b_rd : PySem.W.readsIn K B (.type "type") = true)
    (b_ga : PySem.W.specialIn K (.ref B) "__getattribute__" = some (some (.builtin "type.__getattribute__")))
    (b_at : PySem.W.findCls K (.ref B) (.type "type") "__init__" = some (.val (.builtin "ValueError.__init__")))
    (b_ex : PySem.W.subIn K (.ref B) (.type "BaseException") = some true)
    (b_hd : PySem.W.hasDictIn K B = true)
    (b_ty : PySem.W.typeIn K (.ref B) = some (.type "type"))
    (b_su : PySem.W.subIn K (.ref N) (.ref B) = some true)
    (a_law : PySem.W.nsIn K mainGlobals "law" = some (some (.ref f_law)))
    (d_law : DefK K "law" "law" sLaw f_law) :
    ∃ fd : FuncData, (∀ (s : Shared) (u : Value), BindsTo s fd ⟨[u], []⟩ [("_law_script", u)]) ∧ ∀ base : Heap, K.In base → base.Ns mainGlobals mg → FnG P w K mg base 9 fa fd ["_law_script"] (spLaw K) := by
  have ea := hfa.symm.trans (PySem.W.mg_of X G a_law)
  cases ea
  have D_isInt : Gd K mg "is_integer" sIsInt ["thing"] := gd_of X G a_isInt d_isInt fun _ _ _ _ _ _ us hl => match us, hl with | [_], _ => rfl
  have D_bet : Gd K mg "is_between" sBetween ["thing", "low", "high"] := gd_of X G a_bet d_bet fun _ _ _ _ _ _ us hl => match us, hl with | [_, _, _], _ => rfl
  have D_isPr : Gd K mg "is_price" sIsPrice ["thing"] := gd_of X G a_isPr d_isPr fun _ _ _ _ _ _ us hl => match us, hl with | [_], _ => rfl
  have D_isCm : Gd K mg "is_comparison" sIsCmp ["thing", "places"] := gd_of X G a_isCm d_isCm fun _ _ _ _ _ _ us hl => match us, hl with | [_, _], _ => rfl
  have D_inv : Gd K mg "inverse" sInverse ["order"] := gd_of X G a_inv d_inv fun _ _ _ _ _ _ us hl => match us, hl with | [_], _ => rfl
  have D_wp : Gd K mg "wrong_pairs" sWp ["order"] := gd_of X G a_wp d_wp fun _ _ _ _ _ _ us hl => match us, hl with | [_], _ => rfl
  have D_dem : Gd K mg "demands" sDem ["order"] := gd_of X G a_dem d_dem fun _ _ _ _ _ _ us hl => match us, hl with | [_], _ => rfl
  have D_isEx : Gd K mg "is_exchanged" sIsExch ["order", "gate"] := gd_of X G a_isEx d_isEx fun _ _ _ _ _ _ us hl => match us, hl with | [_, _], _ => rfl
  have D_exch : Gd K mg "exchange" sExch ["order", "gate"] := gd_of X G a_exch d_exch fun _ _ _ _ _ _ us hl => match us, hl with | [_, _], _ => rfl
  have D_free : Gd K mg "free_table" sFree ["places"] := gd_of X G a_free d_free fun _ _ _ _ _ _ us hl => match us, hl with | [_], _ => rfl
  have D_pas : Gd K mg "passed" sPassed ["row", "gate"] := gd_of X G a_pas d_pas fun _ _ _ _ _ _ us hl => match us, hl with | [_, _], _ => rfl
  have D_mov : Gd K mg "moved_counts" sMoved ["start", "end"] := gd_of X G a_mov d_mov fun _ _ _ _ _ _ us hl => match us, hl with | [_, _], _ => rfl
  have D_new : Gd K mg "new_pairs" sNew ["start", "end"] := gd_of X G a_new d_new fun _ _ _ _ _ _ us hl => match us, hl with | [_, _], _ => rfl
  have D_cel : Gd K mg "cells_above" sCells ["counts", "table"] := gd_of X G a_cel d_cel fun _ _ _ _ _ _ us hl => match us, hl with | [_, _], _ => rfl
  have D_gre : Gd K mg "greedy_misses" sGreedy ["gates", "start", "end"] := gd_of X G a_gre d_gre fun _ _ _ _ _ _ us hl => match us, hl with | [_, _, _], _ => rfl
  have D_out : Gd K mg "outcome" sOut ["schedule", "start", "end"] := gd_of X G a_out d_out fun _ _ _ _ _ _ us hl => match us, hl with | [_, _, _], _ => rfl
  have D_cert : Gd K mg "certain" sCert ["schedule", "start", "end"] := gd_of X G a_cert d_cert fun _ _ _ _ _ _ us hl => match us, hl with | [_, _, _], _ => rfl
  have D_bag : Gd K mg "_law_bag" sBag ["_law_script"] := gd_of X G a_bag d_bag fun _ _ _ _ _ _ us hl => match us, hl with | [_], _ => rfl
  have D_take : Gd K mg "_law_take" sTake ["_law_bag_here", "_law_many"] := gd_of X G a_take d_take fun _ _ _ _ _ _ us hl => match us, hl with | [_, _], _ => rfl
  have D_lcel : Gd K mg "_law_cells" sLcells ["_law_size"] := gd_of X G a_lcel d_lcel fun _ _ _ _ _ _ us hl => match us, hl with | [_], _ => rfl
  have D_lpl : Gd K mg "_law_places" sLplaces ["_law_bag_here", "_law_least", "_law_most_here"] := gd_of X G a_lpl d_lpl fun _ _ _ _ _ _ us hl => match us, hl with | [_, _, _], _ => rfl
  have D_lga : Gd K mg "_law_gates" sLgates ["_law_bag_here", "_law_places_here", "_law_most_here"] := gd_of X G a_lga d_lga fun _ _ _ _ _ _ us hl => match us, hl with | [_, _, _], _ => rfl
  have D_lor : Gd K mg "_law_order" sLorder ["_law_bag_here", "_law_places_here"] := gd_of X G a_lor d_lor fun _ _ _ _ _ _ us hl => match us, hl with | [_, _], _ => rfl
  have D_lmi : Gd K mg "_law_misses" sLmisses ["_law_bag_here", "_law_many", "_law_most_here"] := gd_of X G a_lmi d_lmi fun _ _ _ _ _ _ us hl => match us, hl with | [_, _, _], _ => rfl
  have D_lpy : Gd K mg "_law_play" sLplay ["_law_gates_here", "_law_order_here", "_law_gone"] := gd_of X G a_lpy d_lpy fun _ _ _ _ _ _ us hl => match us, hl with | [_, _, _], _ => rfl
  have D_lhe : Gd K mg "_law_held" sLheld ["_law_gates_here", "_law_places_here", "_law_gone"] := gd_of X G a_lhe d_lhe fun _ _ _ _ _ _ us hl => match us, hl with | [_, _, _], _ => rfl
  have D_lar : Gd K mg "_law_are_misses" sLare ["_law_thing", "_law_many"] := gd_of X G a_lar d_lar fun _ _ _ _ _ _ us hl => match us, hl with | [_, _], _ => rfl
  have D_lwr : Gd K mg "_law_wrong" sLwrong ["_law_order_here"] := gd_of X G a_lwr d_lwr fun _ _ _ _ _ _ us hl => match us, hl with | [_], _ => rfl
  have D_lmo : Gd K mg "_law_moved" sLmoved ["_law_start", "_law_end"] := gd_of X G a_lmo d_lmo fun _ _ _ _ _ _ us hl => match us, hl with | [_, _], _ => rfl
  have D_lba : Gd K mg "_law_bars" sLbars ["_law_places_here", "_law_gates_here", "_law_start", "_law_end"] := gd_of X G a_lba d_lba fun _ _ _ _ _ _ us hl => match us, hl with | [_, _, _, _], _ => rfl
  have D_lri : Gd K mg "_law_outcome_right" sLright ["_law_places_here", "_law_gates_here", "_law_start", "_law_end", "_law_told"] := gd_of X G a_lri d_lri fun _ _ _ _ _ _ us hl => match us, hl with | [_, _, _, _, _], _ => rfl
  have D_most : Gd K mg "_law_most" sMost ["_law_bag_here", "_law_most_here", "_law_greatest"] := gd_of X G a_most d_most fun _ _ _ _ _ _ us hl => match us, hl with | [_, _, _], _ => rfl
  have D_ldo : Gd K mg "_law_done" sLdone ["_law_gates_here", "_law_start", "_law_missed"] := gd_of X G a_ldo d_ldo fun _ _ _ _ _ _ us hl => match us, hl with | [_, _, _], _ => rfl
  have D_lwo : Gd K mg "_law_without" sLwithout ["_law_places_here", "_law_gates_here", "_law_start", "_law_end", "_law_at"] := gd_of X G a_lwo d_lwo fun _ _ _ _ _ _ us hl => match us, hl with | [_, _, _, _, _], _ => rfl
  have D_lre : Gd K mg "_law_is_refused" sLref ["_law_schedule", "_law_start", "_law_end"] := gd_of X G a_lre d_lre fun _ _ _ _ _ _ us hl => match us, hl with | [_, _, _], _ => rfl
  have y_isinstance := PySem.W.mg_none_of X G z_isinstance
  have y_int := PySem.W.mg_none_of X G z_int
  have y_bool := PySem.W.mg_none_of X G z_bool
  have y_tuple := PySem.W.mg_none_of X G z_tuple
  have y_len := PySem.W.mg_none_of X G z_len
  have y_enumerate := PySem.W.mg_none_of X G z_enumerate
  have y_min := PySem.W.mg_none_of X G z_min
  have y_range := PySem.W.mg_none_of X G z_range
  have y_max := PySem.W.mg_none_of X G z_max
  have y_list := PySem.W.mg_none_of X G z_list
  have y_abs := PySem.W.mg_none_of X G z_abs
  have y_sorted := PySem.W.mg_none_of X G z_sorted
  have y_repr := PySem.W.mg_none_of X G z_repr
  have T : SchC K C := ⟨⟨c_pg, c_hd, c_po, c_sa⟩, c_nP, c_nR⟩
  obtain ⟨fdI, FI⟩ := i_d
  obtain ⟨fdP, FP⟩ := p_d
  obtain ⟨fdG, FG⟩ := g_d
  obtain ⟨fdO, FO'⟩ := o_d
  obtain ⟨fdK, FK'⟩ := k_d
  obtain ⟨fdN, FN⟩ := n_d
  obtain ⟨fdL, FL⟩ := d_law
  have FO := FO' [("price", .int 1)] fun r hr => by
    rw [List.mem_singleton.mp hr]
    exact ⟨_, o_kw, _, rfl⟩
  have FK := FK' [("missed", .ref T0)] fun r hr => by
    rw [List.mem_singleton.mp hr]
    exact ⟨_, k_kw, rfl⟩
  have bI := FI.binds (ps := ["self", "places", "comparisons"]) fun _ _ _ _ _ _ us hl => match us, hl with | [_, _, _], _ => rfl
  have bP := FP.binds (ps := ["self"]) fun _ _ _ _ _ _ us hl => match us, hl with | [_], _ => rfl
  have bG := FG.binds (ps := ["self"]) fun _ _ _ _ _ _ us hl => match us, hl with | [_], _ => rfl
  have bN := FN.binds (ps := ["self"]) fun _ _ _ _ _ _ us hl => match us, hl with | [_], _ => rfl
  have bO := FO.binds0 (ps := ["cls", "places", "gates", "price"]) 3 (by simp) rfl fun D doc pm an cdv ct us ks h1 h2 => match us, ks, h1, h2 with
    | [_, _, _], [_], _, _ => ⟨_, _, _, _, _, _, rfl, rfl, rfl⟩
  have bK := FK.binds0 (ps := ["schedule", "missed"]) 1 (by simp) rfl fun D doc pm an cdv ct us ks h1 h2 => match us, ks, h1, h2 with
    | [_], [_], _, _ => ⟨_, _, _, _, _, _, rfl, rfl, rfl⟩
  have kK := FK.kbinds0 (ps := ["schedule", "missed"]) 1 ["missed"] [] (fun us _ ws => us ++ ws) (by simp) (fun q hq => by cases hq) (fun r1 _ r3 => r1.append r3) fun D doc pm an cdv ct us mv ws h1 h2 h3 => match us, mv, ws, h1, h2, h3 with
    | [_], [], [_], _, _, _ => rfl
  have tE : ∀ H : Hp, SqT K H T0 [] := fun H => .inr ⟨_, _, _, k_t0, rfl, rfl, Nat.zero_le _, .nil⟩
  obtain ⟨dsO, vO, bO⟩ := bO
  obtain ⟨dsK, vK, bK⟩ := bK
  obtain ⟨mvK, kK⟩ := kK
  have eK : dsK = [Value.ref T0] := by
    cases vK with
    | cons r t =>
      cases t
      cases r
      rfl
  subst eK
  have bL0 : ∀ (s : Shared) (u : Value), BindsTo s fdL ⟨[u], []⟩ [("_law_script", u)] := fun s u => by
    obtain ⟨oc, od, kV, doc, pm, an, cdv, ct, osl, e, l, c⟩ := FL.ex
    subst e
    exact .of_eq rfl
  refine ⟨fdL, bL0, fun base _ _ => ?_⟩
  have cI := ok_isInt (P := P) (w := w) (base := base) D_isInt y_isinstance y_int y_bool
  have cB := ok_between D_bet cI
  have cPr := ok_isPrice D_isPr cB (PySem.W.mg_of X G m_pr)
  have cCm := ok_isCmp D_isCm cB cPr y_isinstance y_tuple y_len
  have cInv := ok_inverse (P := P) (w := w) (base := base) D_inv y_len y_enumerate
  have cIx := ok_isExch (P := P) (w := w) (base := base) D_isEx
  have cEx := ok_exch (P := P) (w := w) (base := base) D_exch
  have cPas := ok_passed (P := P) (w := w) (base := base) D_pas y_min
  have cFree := ok_free (P := P) (w := w) (base := base) D_free y_range y_max
  have KP := ok_places (P := P) (w := w) (mg := mg) (base := base) FP T
  have KG := ok_gates (P := P) (w := w) (mg := mg) (base := base) FG T
  have KI := ok_init FI T cB cCm (PySem.W.mg_of X G m_pl) (PySem.W.mg_of X G m_co) y_isinstance y_list y_len y_enumerate
  have M : Mk K C fI := ⟨c_mk, i_at, i_fn, c_kc⟩
  have KO := ok_of FO M KI bI
  have S : SchM P w K mg base C := ⟨T, ⟨pp, gp, fdP, ⟨p_at, p_get, p_tak, _, p_rec⟩, KP, bP⟩, ⟨gg, fdG, ⟨g_at, g_fn, FG.kp⟩, KG, bG⟩⟩
  have KC := ok_cap FK S cFree cPas y_enumerate
  have cap : CapC P w K mg base C := ⟨fcap, fdK, T0, KC, PySem.W.mg_of X G k_a, FK.kp, bK, tE, kK⟩
  have SO : SofC P w K mg base C := ⟨PySem.W.mg_of X G aC, pof, gof, .type "type", ⟨o_rd, o_ga⟩, ⟨o_at, ⟨_, o_rc⟩, o_fi⟩, KO.raw bO vO⟩
  have cWp := ok_wp D_wp cInv y_len y_range
  have cCel := ok_cells (P := P) (w := w) (base := base) D_cel y_len y_range
  have cDem := ok_dem (P := P) (w := w) (base := base) D_dem y_len y_enumerate y_int
  have cMov := ok_moved D_mov cInv cDem
  have cNew := ok_new D_new cWp
  have cGre := ok_greedy D_gre cInv cIx cEx y_list y_enumerate
  have cOut := ok_out D_out S cNew cMov cCel cap cGre
  have TB : BaseC K mg B := ⟨PySem.W.mg_of X G aB, ⟨b_rd, b_ga⟩, b_at⟩
  have KN := ok_np (P := P) (w := w) (base := base) FN TB
  have oN : OexC K N := ⟨⟨nnm, nq, nN, nbs, nbm, nsn, nsub, nab, ncol, ndd, nk0, nk1, nk2, nk3, nk5, n_x, n_bm⟩, n_sa, n_ex, n_ty, n_kc⟩
  have NP : NpC P w K mg base N := ⟨PySem.W.mg_of X G aN, oN, ⟨fN, fdN, n_i, n_it, KN, bN⟩⟩
  have cCert := ok_cert D_cert NP S cOut cMov cCel cap cGre
  have RC : RefC K mg N B := ⟨PySem.W.mg_of X G aB, PySem.W.mg_of X G aN, exm_of b_ex b_hd b_ty b_su, kit_self, ⟨n_hg, n_hk, n_ex, n_hd, n_ha, n_hn, n_ht, n_hm⟩⟩
  have cBag := ok_bag (P := P) (w := w) (base := base) D_bag y_abs
  have cTake := ok_take (P := P) (w := w) (base := base) D_take y_len
  have cLpy := ok_lplay (P := P) (w := w) (base := base) D_lpy y_list y_enumerate
  have cLdo := ok_ldone (P := P) (w := w) (base := base) D_ldo y_list y_enumerate
  have cLhe := ok_lheld D_lhe cLpy y_range y_list y_len
  have cLmo := ok_lmoved (P := P) (w := w) (base := base) D_lmo y_range y_len
  have cLar := ok_lare (P := P) (w := w) (base := base) D_lar y_isinstance y_list y_enumerate y_int y_bool
  have cLce := ok_lcells (P := P) (w := w) (base := base) D_lcel y_range
  have cLwr := ok_lwrong (P := P) (w := w) (base := base) D_lwr y_enumerate y_sorted
  have cLba := ok_lbars D_lba cLwr cLhe cLmo cLce
  have gR := clG_right D_lri cLba cLpy cLar y_repr y_isinstance y_tuple y_len
  exact ok_law FL ⟨cBag, cTake, ok_lplaces D_lpl cTake, ok_most D_most cTake y_int, ok_lgates D_lga cTake y_range y_int, ok_lorder D_lor cTake y_range y_list y_len, ok_lmisses D_lmi cTake y_range y_list y_len y_min y_sorted, cLpy, cLar, cLdo, cLba, cOut, cCert, SO,
    ok_lwithout D_lwo cOut SO gR y_list, ok_lref D_lre cCert RC y_list y_isinstance, y_range, y_list, y_len, y_int⟩
end BM
open PySem PySem.W PyProof.Rows in
set_option maxHeartbeats 0 in
theorem PySem.Challenge.cw_bearsmisses_k64_whole_certain_shown_holds : PySem.Challenge.rw_bearsmisses_k64_whole_certain_shown.Holds := by
  w_on; o_law; k_head; (case hw => w_witness2)
  k_fill
  refine BR.walk_G (l := PySem.Challenge.rw_bearsmisses_k64_whole_certain_shown) (n := 63) (k := 9) (x := "_law_script") (sp := fun w => BM.spLaw _) rfl (by decide) rfl ⟨rfl, by decide, by decide⟩ (fun w h Y => PySem.W.kIn_of Y) ?F (fun w H a ns hl hS => ⟨a, ns, rfl, hS, hl, fun _ => rfl⟩)
  case F =>
    intro w mg fa h KX G hmg
    refine' BM.all_mk KX G hmg ?a_isInt ?d_isInt ?a_bet ?d_bet ?a_isPr ?d_isPr ?a_isCm ?d_isCm ?a_inv ?d_inv ?a_wp ?d_wp ?a_dem ?d_dem ?a_isEx ?d_isEx ?a_exch ?d_exch ?a_free ?d_free ?a_pas ?d_pas ?a_mov ?d_mov ?a_new ?d_new ?a_cel ?d_cel ?a_gre ?d_gre ?a_out ?d_out ?a_cert ?d_cert ?a_bag ?d_bag ?a_take ?d_take ?a_lcel ?d_lcel ?a_lpl ?d_lpl ?a_lga ?d_lga ?a_lor ?d_lor ?a_lmi ?d_lmi ?a_lpy ?d_lpy ?a_lhe ?d_lhe ?a_lar ?d_lar ?a_lwr ?d_lwr ?a_lmo ?d_lmo ?a_lba ?d_lba ?a_lri ?d_lri ?a_most ?d_most ?a_ldo ?d_ldo ?a_lwo ?d_lwo ?a_lre ?d_lre ?z_isinstance ?z_int ?z_bool ?z_tuple ?z_len ?z_enumerate ?z_min ?z_range ?z_max ?z_list ?z_abs ?z_sorted ?z_repr ?m_pr ?m_pl ?m_co ?aC ?c_pg ?c_hd ?c_po ?c_sa ?c_mk ?c_kc ?c_nP ?c_nR ?i_at ?i_fn ?i_d ?p_at ?p_get ?p_tak ?p_rec ?p_d ?g_at ?g_fn ?g_d ?o_rd ?o_ga ?o_at ?o_rc ?o_fi ?o_d ?o_kw ?k_a ?k_d ?k_kw ?k_t0 ?aN ?n_x ?n_bm ?n_sa ?n_ex ?n_ty ?n_kc ?n_hg ?n_hk ?n_hd ?n_ha ?n_hn ?n_ht ?n_hm ?n_i ?n_it ?n_d ?aB ?b_rd ?b_ga ?b_at ?b_ex ?b_hd ?b_ty ?b_su ?a_law ?d_law
    (case a_isInt => k_is)
    (case d_isInt => (refine' BM.defk_mk ?l ?c ?k; (case l => k_is); (case c => k_is); (case k => k_is)))
    (case a_bet => k_is)
    (case d_bet => (refine' BM.defk_mk ?l ?c ?k; (case l => k_is); (case c => k_is); (case k => k_is)))
    (case a_isPr => k_is)
    (case d_isPr => (refine' BM.defk_mk ?l ?c ?k; (case l => k_is); (case c => k_is); (case k => k_is)))
    (case a_isCm => k_is)
    (case d_isCm => (refine' BM.defk_mk ?l ?c ?k; (case l => k_is); (case c => k_is); (case k => k_is)))
    (case a_inv => k_is)
    (case d_inv => (refine' BM.defk_mk ?l ?c ?k; (case l => k_is); (case c => k_is); (case k => k_is)))
    (case a_wp => k_is)
    (case d_wp => (refine' BM.defk_mk ?l ?c ?k; (case l => k_is); (case c => k_is); (case k => k_is)))
    (case a_dem => k_is)
    (case d_dem => (refine' BM.defk_mk ?l ?c ?k; (case l => k_is); (case c => k_is); (case k => k_is)))
    (case a_isEx => k_is)
    (case d_isEx => (refine' BM.defk_mk ?l ?c ?k; (case l => k_is); (case c => k_is); (case k => k_is)))
    (case a_exch => k_is)
    (case d_exch => (refine' BM.defk_mk ?l ?c ?k; (case l => k_is); (case c => k_is); (case k => k_is)))
    (case a_free => k_is)
    (case d_free => (refine' BM.defk_mk ?l ?c ?k; (case l => k_is); (case c => k_is); (case k => k_is)))
    (case a_pas => k_is)
    (case d_pas => (refine' BM.defk_mk ?l ?c ?k; (case l => k_is); (case c => k_is); (case k => k_is)))
    (case a_mov => k_is)
    (case d_mov => (refine' BM.defk_mk ?l ?c ?k; (case l => k_is); (case c => k_is); (case k => k_is)))
    (case a_new => k_is)
    (case d_new => (refine' BM.defk_mk ?l ?c ?k; (case l => k_is); (case c => k_is); (case k => k_is)))
    (case a_cel => k_is)
    (case d_cel => (refine' BM.defk_mk ?l ?c ?k; (case l => k_is); (case c => k_is); (case k => k_is)))
    (case a_gre => k_is)
    (case d_gre => (refine' BM.defk_mk ?l ?c ?k; (case l => k_is); (case c => k_is); (case k => k_is)))
    (case a_out => k_is)
    (case d_out => (refine' BM.defk_mk ?l ?c ?k; (case l => k_is); (case c => k_is); (case k => k_is)))
    (case a_cert => k_is)
    (case d_cert => (refine' BM.defk_mk ?l ?c ?k; (case l => k_is); (case c => k_is); (case k => k_is)))
    (case a_bag => k_is)
    (case d_bag => (refine' BM.defk_mk ?l ?c ?k; (case l => k_is); (case c => k_is); (case k => k_is)))
    (case a_take => k_is)
    (case d_take => (refine' BM.defk_mk ?l ?c ?k; (case l => k_is); (case c => k_is); (case k => k_is)))
    (case a_lcel => k_is)
    (case d_lcel => (refine' BM.defk_mk ?l ?c ?k; (case l => k_is); (case c => k_is); (case k => k_is)))
    (case a_lpl => k_is)
    (case d_lpl => (refine' BM.defk_mk ?l ?c ?k; (case l => k_is); (case c => k_is); (case k => k_is)))
    (case a_lga => k_is)
    (case d_lga => (refine' BM.defk_mk ?l ?c ?k; (case l => k_is); (case c => k_is); (case k => k_is)))
    (case a_lor => k_is)
    (case d_lor => (refine' BM.defk_mk ?l ?c ?k; (case l => k_is); (case c => k_is); (case k => k_is)))
    (case a_lmi => k_is)
    (case d_lmi => (refine' BM.defk_mk ?l ?c ?k; (case l => k_is); (case c => k_is); (case k => k_is)))
    (case a_lpy => k_is)
    (case d_lpy => (refine' BM.defk_mk ?l ?c ?k; (case l => k_is); (case c => k_is); (case k => k_is)))
    (case a_lhe => k_is)
    (case d_lhe => (refine' BM.defk_mk ?l ?c ?k; (case l => k_is); (case c => k_is); (case k => k_is)))
    (case a_lar => k_is)
    (case d_lar => (refine' BM.defk_mk ?l ?c ?k; (case l => k_is); (case c => k_is); (case k => k_is)))
    (case a_lwr => k_is)
    (case d_lwr => (refine' BM.defk_mk ?l ?c ?k; (case l => k_is); (case c => k_is); (case k => k_is)))
    (case a_lmo => k_is)
    (case d_lmo => (refine' BM.defk_mk ?l ?c ?k; (case l => k_is); (case c => k_is); (case k => k_is)))
    (case a_lba => k_is)
    (case d_lba => (refine' BM.defk_mk ?l ?c ?k; (case l => k_is); (case c => k_is); (case k => k_is)))
    (case a_lri => k_is)
    (case d_lri => (refine' BM.defk_mk ?l ?c ?k; (case l => k_is); (case c => k_is); (case k => k_is)))
    (case a_most => k_is)
    (case d_most => (refine' BM.defk_mk ?l ?c ?k; (case l => k_is); (case c => k_is); (case k => k_is)))
    (case a_ldo => k_is)
    (case d_ldo => (refine' BM.defk_mk ?l ?c ?k; (case l => k_is); (case c => k_is); (case k => k_is)))
    (case a_lwo => k_is)
    (case d_lwo => (refine' BM.defk_mk ?l ?c ?k; (case l => k_is); (case c => k_is); (case k => k_is)))
    (case a_lre => k_is)
    (case d_lre => (refine' BM.defk_mk ?l ?c ?k; (case l => k_is); (case c => k_is); (case k => k_is)))
    (case z_isinstance => k_is)
    (case z_int => k_is)
    (case z_bool => k_is)
    (case z_tuple => k_is)
    (case z_len => k_is)
    (case z_enumerate => k_is)
    (case z_min => k_is)
    (case z_range => k_is)
    (case z_max => k_is)
    (case z_list => k_is)
    (case z_abs => k_is)
    (case z_sorted => k_is)
    (case z_repr => k_is)
    (case m_pr => k_is)
    (case m_pl => k_is)
    (case m_co => k_is)
    (case aC => k_is)
    (case c_pg => k_is)
    (case c_hd => k_is)
    (case c_po => k_is)
    (case c_sa => k_is)
    (case c_mk => k_is)
    (case c_kc => k_is)
    (case c_nP => k_is)
    (case c_nR => k_is)
    (case i_at => k_is)
    (case i_fn => k_is)
    (case i_d => (refine' BM.defk_mk ?l ?c ?k; (case l => k_is); (case c => k_is); (case k => k_is)))
    (case p_at => k_is)
    (case p_get => k_is)
    (case p_tak => k_is)
    (case p_rec => k_is)
    (case p_d => (refine' BM.defk_mk ?l ?c ?k; (case l => k_is); (case c => k_is); (case k => k_is)))
    (case g_at => k_is)
    (case g_fn => k_is)
    (case g_d => (refine' BM.defk_mk ?l ?c ?k; (case l => k_is); (case c => k_is); (case k => k_is)))
    (case o_rd => k_is)
    (case o_ga => k_is)
    (case o_at => k_is)
    (case o_rc => k_is)
    (case o_fi => k_is)
    (case o_d => (refine' BM.kwk_mk ?l ?c ?k; (case l => k_is); (case c => k_is); (case k => k_is)))
    (case o_kw => k_is)
    (case k_a => k_is)
    (case k_d => (refine' BM.kwk_mk ?l ?c ?k; (case l => k_is); (case c => k_is); (case k => k_is)))
    (case k_kw => k_is)
    (case k_t0 => k_is)
    (case aN => k_is)
    (case n_x => k_is)
    (case n_bm => rfl)
    (case n_sa => k_is)
    (case n_ex => k_is)
    (case n_ty => k_is)
    (case n_kc => k_is)
    (case n_hg => k_is)
    (case n_hk => k_is)
    (case n_hd => k_is)
    (case n_ha => k_is)
    (case n_hn => k_is)
    (case n_ht => k_is)
    (case n_hm => k_is)
    (case n_i => k_is)
    (case n_it => k_is)
    (case n_d => (refine' BM.defk_mk ?l ?c ?k; (case l => k_is); (case c => k_is); (case k => k_is)))
    (case aB => k_is)
    (case b_rd => k_is)
    (case b_ga => k_is)
    (case b_at => k_is)
    (case b_ex => k_is)
    (case b_hd => k_is)
    (case b_ty => k_is)
    (case b_su => k_is)
    (case a_law => k_is)
    (case d_law => (refine' BM.defk_mk ?l ?c ?k; (case l => k_is); (case c => k_is); (case k => k_is)))
