import PyProof.Rows.All
import Wide.All
import OpenK.AllK
import Wide.FinOn
import PyProof.EqAt
import PyProof.EqKinds
import PyProof.TupleCall
import Open.SpecLaws
import KE.OsGo
import HandS.ForSpec
import HandS.Comp
import HandS.Iter
import HandS.Walk
import HandS.Zip
import HandS.ExcInit
import HandS.ExcField
import PySu65
import PySem.Challenge.RW_biasplies_s01_answers
set_option Elab.async false
set_option linter.all false
set_option maxRecDepth 100000
set_option maxHeartbeats 4000000
namespace Bp
/-! # Rings: how near places are -/
/-- how far two places are apart, the shorter way -/
def gapR (r i j : Nat) : Nat := min ((i - j) + (j - i)) (r - ((i - j) + (j - i)))
/-- how near the nearest of ps is to i -/
def near1 (r : Nat) (ps : List Nat) (i : Nat) : Nat := (ps.map (gapR r i)).foldl min r
def fstep (r : Nat) (l : List Nat) (s : Nat) : List Nat := l.set (s % r) (min (l.getD (s % r) 0) (l.getD ((s % r + r - 1) % r) 0 + 1))
def bstep (r : Nat) (l : List Nat) (s : Nat) : List Nat := l.set (s % r) (min (l.getD (s % r) 0) (l.getD ((s % r + 1) % r) 0 + 1))
def mark (r : Nat) (ps : List Nat) : List Nat := ps.foldl (fun l p => l.set p 0) (List.replicate r r)
def fwd (r : Nat) (l : List Nat) : Nat → List Nat
  | 0 => l
  | n + 1 => fstep r (fwd r l n) n
def bwd (r : Nat) (l : List Nat) : Nat → List Nat
  | 0 => l
  | n + 1 => bstep r (bwd r l n) (2 * r - n)
def nearL (r : Nat) (ps : List Nat) : List Nat := bwd r (fwd r (mark r ps) (2 * r)) (2 * r)

theorem foldl_min_le {r : Nat} : ∀ {l : List Nat} {k : Nat}, k ≤ l.foldl min r ↔ k ≤ r ∧ ∀ x ∈ l, k ≤ x := by
  intro l
  induction l generalizing r with
  | nil => intro k; simp
  | cons a l ih =>
    intro k
    rw [List.foldl_cons, ih]
    constructor
    · rintro ⟨h1, h2⟩
      refine ⟨by omega, fun x hx => ?_⟩
      rcases List.mem_cons.mp hx with h | h
      · subst h; omega
      · exact h2 x h
    · rintro ⟨h1, h2⟩
      have := h2 a List.mem_cons_self
      exact ⟨by omega, fun x hx => h2 x (List.mem_cons_of_mem _ hx)⟩
theorem foldl_min_le_r {r : Nat} {l : List Nat} : l.foldl min r ≤ r := (foldl_min_le.mp (Nat.le_refl _)).1
theorem foldl_min_le_mem {r : Nat} {l : List Nat} {x : Nat} (h : x ∈ l) : l.foldl min r ≤ x := (foldl_min_le.mp (Nat.le_refl _)).2 x h
theorem foldl_min_eq {r : Nat} {l : List Nat} {m : Nat} (h1 : m ≤ r) (h2 : ∀ x ∈ l, m ≤ x) (h3 : l.foldl min r ≤ m) : l.foldl min r = m :=
  Nat.le_antisymm h3 (foldl_min_le.mpr ⟨h1, h2⟩)
theorem foldl_min_at {r : Nat} : ∀ {l : List Nat}, l.foldl min r = r ∨ l.foldl min r ∈ l := by
  intro l
  induction l generalizing r with
  | nil => exact .inl rfl
  | cons a l ih =>
    rw [List.foldl_cons]
    rcases ih (r := min r a) with h | h
    · rw [h]
      rcases Nat.le_total r a with g | g
      · left; omega
      · right; rw [Nat.min_eq_right g]; exact List.mem_cons_self
    · right; exact List.mem_cons_of_mem _ h

theorem gapR_self (r i : Nat) : gapR r i i = 0 := by unfold gapR; omega
theorem gapR_comm (r i j : Nat) : gapR r i j = gapR r j i := by unfold gapR; omega
theorem gapR_le {r i j : Nat} : gapR r i j ≤ r := by unfold gapR; omega

theorem near1_le {r : Nat} {ps : List Nat} {i : Nat} : near1 r ps i ≤ r := foldl_min_le_r
theorem near1_mem {r : Nat} {ps : List Nat} {i p : Nat} (h : p ∈ ps) : near1 r ps i ≤ gapR r i p := foldl_min_le_mem (List.mem_map_of_mem h)
/-- a step more, a step nearer at the most -/
theorem near1_next {r : Nat} {ps : List Nat} (hp : ∀ p ∈ ps, p < r) {i j : Nat} (hi : i < r) (hj : j < r) (hij : j = i + 1 ∨ i = j + 1 ∨ (i = 0 ∧ j + 1 = r) ∨ (j = 0 ∧ i + 1 = r)) : near1 r ps i ≤ near1 r ps j + 1 := by
  have h : near1 r ps i - 1 ≤ near1 r ps j := by
    unfold near1
    rw [foldl_min_le]
    refine ⟨?_, fun x hx => ?_⟩
    · have := near1_le (r := r) (ps := ps) (i := i); unfold near1 at this; omega
    · obtain ⟨p, hm, rfl⟩ := List.mem_map.mp hx
      have h1 := near1_mem (r := r) (i := i) hm
      have h2 := hp p hm
      unfold near1 at h1
      unfold gapR at h1 ⊢
      omega
  omega

theorem mark_len (ps : List Nat) : ∀ l : List Nat, (ps.foldl (fun l p => l.set p 0) l).length = l.length := by
  induction ps with
  | nil => intro l; rfl
  | cons p ps ih => intro l; rw [List.foldl_cons, ih, List.length_set]
theorem mark_length (r : Nat) (ps : List Nat) : (mark r ps).length = r := by unfold mark; rw [mark_len, List.length_replicate]
theorem mark_get (r : Nat) : ∀ (ps : List Nat) (l : List Nat), (∀ p ∈ ps, p < l.length) → ∀ i, (ps.foldl (fun l p => l.set p 0) l).getD i 0 = if i ∈ ps then 0 else l.getD i 0 := by
  intro ps
  induction ps with
  | nil => intro l _ i; simp
  | cons p ps ih =>
    intro l h i
    rw [List.foldl_cons, ih _ (fun q hq => by rw [List.length_set]; exact h q (List.mem_cons_of_mem _ hq))]
    by_cases hm : i ∈ ps
    · rw [if_pos hm, if_pos (List.mem_cons_of_mem _ hm)]
    · rw [if_neg hm]
      by_cases e : i = p
      · subst e
        rw [if_pos List.mem_cons_self]
        have := h i List.mem_cons_self
        simp [List.getD_eq_getElem?_getD, List.getElem?_set, this]
      · rw [if_neg (by simp [e, hm])]
        have e' : p ≠ i := fun z => e z.symm
        simp [List.getD_eq_getElem?_getD, List.getElem?_set, e']
theorem mark_at {r : Nat} {ps : List Nat} (hp : ∀ p ∈ ps, p < r) {i : Nat} (hi : i < r) : (mark r ps).getD i 0 = if i ∈ ps then 0 else r := by
  unfold mark
  rw [mark_get r ps _ (fun p h => by rw [List.length_replicate]; exact hp p h)]
  simp [List.getD_eq_getElem?_getD, hi]

theorem fstep_len (r : Nat) (l : List Nat) (s : Nat) : (fstep r l s).length = l.length := List.length_set
theorem bstep_len (r : Nat) (l : List Nat) (s : Nat) : (bstep r l s).length = l.length := List.length_set
theorem fwd_len (r : Nat) (l : List Nat) : ∀ n, (fwd r l n).length = l.length
  | 0 => rfl
  | n + 1 => by show (fstep r (fwd r l n) n).length = _; rw [fstep_len, fwd_len r l n]
theorem bwd_len (r : Nat) (l : List Nat) : ∀ n, (bwd r l n).length = l.length
  | 0 => rfl
  | n + 1 => by show (bstep r (bwd r l n) _).length = _; rw [bstep_len, bwd_len r l n]
theorem set_at {l : List Nat} {h v i : Nat} (hh : h < l.length) : (l.set h v).getD i 0 = if i = h then v else l.getD i 0 := by
  by_cases e : i = h
  · subst e; rw [if_pos rfl]; simp [List.getD_eq_getElem?_getD, List.getElem?_set, hh]
  · rw [if_neg e]
    have e' : h ≠ i := fun z => e z.symm
    simp [List.getD_eq_getElem?_getD, List.getElem?_set, e']

/-- never too near, never farther than round -/
structure Over (r : Nat) (ps l : List Nat) : Prop where
  len : l.length = r
  lo : ∀ i, i < r → near1 r ps i ≤ l.getD i 0
  hi : ∀ i, i < r → l.getD i 0 ≤ r
  at0 : ∀ p ∈ ps, l.getD p 0 = 0
theorem over_mark {r : Nat} {ps : List Nat} (hp : ∀ p ∈ ps, p < r) : Over r ps (mark r ps) := by
  refine ⟨mark_length r ps, fun i hi => ?_, fun i hi => ?_, fun p hm => ?_⟩
  · rw [mark_at hp hi]
    split
    · rename_i hm
      have := near1_mem (r := r) (i := i) hm
      rw [gapR_self] at this; exact this
    · exact near1_le
  · rw [mark_at hp hi]; split <;> omega
  · rw [mark_at hp (hp p hm), if_pos hm]
theorem over_step {r : Nat} {ps l : List Nat} (hr : 0 < r) (hp : ∀ p ∈ ps, p < r) (o : Over r ps l) {h g : Nat} (hh : h < r) (hg : g < r) (hgh : g = h + 1 ∨ h = g + 1 ∨ (h = 0 ∧ g + 1 = r) ∨ (g = 0 ∧ h + 1 = r)) :
    Over r ps (l.set h (min (l.getD h 0) (l.getD g 0 + 1))) := by
  have hl : h < l.length := by rw [o.len]; exact hh
  refine ⟨by rw [List.length_set]; exact o.len, fun i hi => ?_, fun i hi => ?_, fun p hm => ?_⟩
  · rw [set_at hl]
    split
    · rename_i e; subst e
      have h1 := o.lo i hi
      have h2 := o.lo g hg
      have h3 := near1_next hp (i := i) (j := g) hi hg hgh
      omega
    · exact o.lo i hi
  · rw [set_at hl]
    split
    · rename_i e; subst e
      have h1 := o.hi i hi
      omega
    · exact o.hi i hi
  · rw [set_at hl]
    split
    · rename_i e; subst e
      rw [o.at0 p hm]; omega
    · exact o.at0 p hm
theorem back_of {r h : Nat} (hh : h < r) : (h + r - 1) % r < r ∧ ((h + r - 1) % r + 1 = h ∨ (h = 0 ∧ (h + r - 1) % r + 1 = r)) := by
  by_cases e : h = 0
  · subst e
    have : (0 + r - 1) % r = r - 1 := by rw [Nat.mod_eq_of_lt] <;> omega
    rw [this]; omega
  · have : (h + r - 1) % r = h - 1 := by
      have e2 : h + r - 1 = (h - 1) + r := by omega
      rw [e2, Nat.add_mod_right, Nat.mod_eq_of_lt (by omega)]
    rw [this]; omega
theorem next_of {r h : Nat} (hh : h < r) : (h + 1) % r < r ∧ ((h + 1) % r = h + 1 ∨ ((h + 1) % r = 0 ∧ h + 1 = r)) := by
  by_cases e : h + 1 = r
  · rw [e, Nat.mod_self]; omega
  · rw [Nat.mod_eq_of_lt (by omega)]; omega
theorem over_f {r : Nat} {ps l : List Nat} (hr : 0 < r) (hp : ∀ p ∈ ps, p < r) (o : Over r ps l) (s : Nat) : Over r ps (fstep r l s) := by
  have hh : s % r < r := Nat.mod_lt _ hr
  have hb := back_of hh
  exact over_step hr hp o hh hb.1 (by omega)
theorem over_b {r : Nat} {ps l : List Nat} (hr : 0 < r) (hp : ∀ p ∈ ps, p < r) (o : Over r ps l) (s : Nat) : Over r ps (bstep r l s) := by
  have hh : s % r < r := Nat.mod_lt _ hr
  have hb := next_of hh
  exact over_step hr hp o hh hb.1 (by omega)
theorem over_fwd {r : Nat} {ps l : List Nat} (hr : 0 < r) (hp : ∀ p ∈ ps, p < r) (o : Over r ps l) : ∀ n, Over r ps (fwd r l n)
  | 0 => o
  | n + 1 => over_f hr hp (over_fwd hr hp o n) n
theorem over_bwd {r : Nat} {ps l : List Nat} (hr : 0 < r) (hp : ∀ p ∈ ps, p < r) (o : Over r ps l) : ∀ n, Over r ps (bwd r l n)
  | 0 => o
  | n + 1 => over_b hr hp (over_bwd hr hp o n) _
/-- forward: k places behind a place no farther than k -/
theorem fwd_hi {r : Nat} {ps l : List Nat} (hr : 0 < r) (hp : ∀ p ∈ ps, p < r) (o : Over r ps l) : ∀ n, ∀ p ∈ ps, ∀ k, (p + k < n ∨ k = 0) → (fwd r l n).getD ((p + k) % r) 0 ≤ k
  | 0, p, hm, k, h => by
    have e : k = 0 := by omega
    subst e
    show l.getD _ 0 ≤ 0
    rw [Nat.add_zero, Nat.mod_eq_of_lt (hp p hm), o.at0 p hm]
    exact Nat.le_refl _
  | n + 1, p, hm, k, h => by
    have ih := fwd_hi hr hp o n
    have on := over_fwd hr hp o n
    show (fstep r (fwd r l n) n).getD _ 0 ≤ k
    have hl : n % r < (fwd r l n).length := by rw [on.len]; exact Nat.mod_lt _ hr
    unfold fstep
    rw [set_at hl]
    by_cases hk : k = 0
    · subst hk
      have := ih p hm 0 (.inr rfl)
      split
      · rename_i e; rw [← e]; omega
      · exact this
    · by_cases hn : p + k < n
      · have := ih p hm k (.inl hn)
        split
        · rename_i e; rw [← e]; omega
        · exact this
      · have e : n = p + k := by omega
        subst e
        rw [if_pos rfl]
        have h1 := ih p hm (k - 1) (by omega)
        have hb : ((p + k) % r + r - 1) % r = (p + (k - 1)) % r := by
          have e2 : (p + k) % r + r - 1 = (p + k) % r + (r - 1) := by omega
          rw [e2, Nat.mod_add_mod]
          have e3 : p + k + (r - 1) = (p + (k - 1)) + r := by omega
          rw [e3, Nat.add_mod_right]
        rw [hb]
        omega
/-- backward: k places ahead of a place no farther than k -/
theorem bwd_hi {r : Nat} {ps l : List Nat} (hr : 0 < r) (hp : ∀ p ∈ ps, p < r) (o : Over r ps l) : ∀ n, n ≤ 2 * r → ∀ p ∈ ps, ∀ k, k ≤ r → (2 * r < p + r - k + n ∨ k = 0) → (bwd r l n).getD ((p + r - k) % r) 0 ≤ k
  | 0, _, p, hm, k, hk, h => by
    have := hp p hm
    have e : k = 0 := by omega
    subst e
    show l.getD _ 0 ≤ 0
    rw [Nat.sub_zero, Nat.add_mod_right, Nat.mod_eq_of_lt (hp p hm), o.at0 p hm]
    exact Nat.le_refl _
  | n + 1, hn, p, hm, k, hk, h => by
    have hpp := hp p hm
    have ih := bwd_hi hr hp o n (by omega)
    have on := over_bwd hr hp o n
    show (bstep r (bwd r l n) (2 * r - n)).getD _ 0 ≤ k
    have hl : (2 * r - n) % r < (bwd r l n).length := by rw [on.len]; exact Nat.mod_lt _ hr
    unfold bstep
    rw [set_at hl]
    by_cases hk0 : k = 0
    · subst hk0
      have := ih p hm 0 (by omega) (.inr rfl)
      split
      · rename_i e; rw [← e]; omega
      · exact this
    · by_cases hn2 : 2 * r < p + r - k + n
      · have := ih p hm k hk (.inl hn2)
        split
        · rename_i e; rw [← e]; omega
        · exact this
      · have e : 2 * r - n = p + r - k := by omega
        rw [e, if_pos rfl]
        have h1 := ih p hm (k - 1) (by omega) (by omega)
        have hb : ((p + r - k) % r + 1) % r = (p + r - (k - 1)) % r := by
          rw [Nat.mod_add_mod]
          congr 1
          omega
        rw [hb]
        omega
/-- what a walk twice round, there and back, leaves at each place: how near the nearest place is -/
theorem nearL_at {r : Nat} {ps : List Nat} (hr : 0 < r) (hp : ∀ p ∈ ps, p < r) {i : Nat} (hi : i < r) : (nearL r ps).getD i 0 = near1 r ps i := by
  have o1 := over_fwd hr hp (over_mark hp) (2 * r)
  have o2 := over_bwd hr hp o1 (2 * r)
  refine Nat.le_antisymm ?_ (o2.lo i hi)
  unfold near1
  rw [foldl_min_le]
  refine ⟨o2.hi i hi, fun x hx => ?_⟩
  obtain ⟨p, hm, rfl⟩ := List.mem_map.mp hx
  have hpp := hp p hm
  have mono : ∀ n j, j < r → (bwd r (fwd r (mark r ps) (2 * r)) n).getD j 0 ≤ (fwd r (mark r ps) (2 * r)).getD j 0 := by
    intro n
    induction n with
    | zero => intro j _; exact Nat.le_refl _
    | succ n ih =>
      intro j hj
      have on := over_bwd hr hp o1 n
      show (bstep r _ (2 * r - n)).getD j 0 ≤ _
      have hl : (2 * r - n) % r < (bwd r (fwd r (mark r ps) (2 * r)) n).length := by rw [on.len]; exact Nat.mod_lt _ hr
      unfold bstep
      rw [set_at hl]
      split
      · rename_i e; have := ih j hj; rw [← e]; omega
      · exact ih j hj
  have f1 : ∀ k, k < r → (nearL r ps).getD ((p + k) % r) 0 ≤ k := fun k hk =>
    Nat.le_trans (mono (2 * r) _ (Nat.mod_lt _ hr)) (fwd_hi hr hp (over_mark hp) (2 * r) p hm k (by omega))
  have b1 : ∀ k, k ≤ r → k < p + r → (nearL r ps).getD ((p + r - k) % r) 0 ≤ k := fun k hk h2 =>
    bwd_hi hr hp o1 (2 * r) (Nat.le_refl _) p hm k hk (by omega)
  unfold gapR
  rw [Nat.le_min]
  by_cases c : p ≤ i
  · have h1 := f1 (i - p) (by omega)
    have e1 : (p + (i - p)) % r = i := by rw [Nat.mod_eq_of_lt] <;> omega
    rw [e1] at h1
    refine ⟨by unfold nearL at h1 ⊢; omega, ?_⟩
    by_cases z : i = p
    · subst z; unfold nearL at h1 ⊢; omega
    · have h2 := b1 (p + r - i) (by omega) (by omega)
      have e2 : (p + r - (p + r - i)) % r = i := by rw [Nat.mod_eq_of_lt] <;> omega
      rw [e2] at h2
      unfold nearL at h2 ⊢; omega
  · have h1 := b1 (p - i) (by omega) (by omega)
    have e1 : (p + r - (p - i)) % r = i := by
      have : p + r - (p - i) = i + r := by omega
      rw [this, Nat.add_mod_right, Nat.mod_eq_of_lt hi]
    rw [e1] at h1
    refine ⟨by unfold nearL at h1 ⊢; omega, ?_⟩
    have h2 := f1 (r - (p - i)) (by omega)
    have e2 : (p + (r - (p - i))) % r = i := by
      have : p + (r - (p - i)) = i + r := by omega
      rw [this, Nat.add_mod_right, Nat.mod_eq_of_lt hi]
    rw [e2] at h2
    unfold nearL at h2 ⊢; omega
theorem nearL_len (r : Nat) (ps : List Nat) : (nearL r ps).length = r := by unfold nearL; rw [bwd_len, fwd_len, mark_length]
theorem nearL_eq {r : Nat} {ps : List Nat} (hr : 0 < r) (hp : ∀ p ∈ ps, p < r) : nearL r ps = (List.range r).map (near1 r ps) := by
  apply List.ext_getElem
  · rw [nearL_len, List.length_map, List.length_range]
  · intro i h1 h2
    rw [nearL_len] at h1
    have := nearL_at hr hp h1
    rw [List.getD_eq_getElem?_getD, List.getElem?_eq_getElem (by rw [nearL_len]; exact h1)] at this
    rw [List.getElem_map, List.getElem_range]
    exact this
end Bp

namespace Bp
open Su65 (Abs Ply Roll)
/-! # What the program reckons, against the specification -/
/-! ## least of a list -/
def minL : List Nat → Nat
  | [] => 0
  | a :: l => l.foldl min a
theorem minL_le : ∀ {l : List Nat} {x : Nat}, x ∈ l → minL l ≤ x
  | a :: l, x, h => by
    rcases List.mem_cons.mp h with h | h
    · subst h; exact foldl_min_le_r
    · exact foldl_min_le_mem h
theorem minL_mem : ∀ {l : List Nat}, l ≠ [] → minL l ∈ l
  | a :: l, _ => by
    rcases foldl_min_at (r := a) (l := l) with h | h
    · show l.foldl min a ∈ _
      rw [h]; exact List.mem_cons_self
    · exact List.mem_cons_of_mem _ h
theorem minL_is {l : List Nat} {m : Nat} (h1 : m ∈ l) (h2 : ∀ y ∈ l, m ≤ y) : m = minL l :=
  Nat.le_antisymm (h2 _ (minL_mem (List.ne_nil_of_mem h1))) (minL_le h1)
theorem minL_fold {l : List Nat} {r : Nat} (hl : l ≠ []) (h : ∀ x ∈ l, x ≤ r) : l.foldl min r = minL l := by
  refine foldl_min_eq (h _ (minL_mem hl)) (fun x hx => minL_le hx) (foldl_min_le_mem (minL_mem hl))
/-- as Python's min gives it -/
theorem minL_int {l : List Nat} {m : Int} (h1 : m ∈ l.map (fun (n : Nat) => (n : Int))) (h2 : ∀ y ∈ l.map (fun (n : Nat) => (n : Int)), m ≤ y) : m = (minL l : Nat) := by
  obtain ⟨n, hn, rfl⟩ := List.mem_map.mp h1
  exact congrArg _ (minL_is hn fun y hy => by have := h2 _ (List.mem_map_of_mem hy); omega)

/-! ## near -/
theorem gap_eq (x : Abs) (i j : Nat) : x.gap i j = gapR x.round_ i j := rfl
theorem nearest_eq (x : Abs) (l m : List Nat) : x.nearest l m = (l.map (near1 x.round_ m)).foldl min x.round_ := by
  unfold Abs.nearest
  apply Nat.le_antisymm
  · rw [foldl_min_le]
    refine ⟨foldl_min_le_r, fun y hy => ?_⟩
    obtain ⟨i, hi, rfl⟩ := List.mem_map.mp hy
    unfold near1
    rw [foldl_min_le]
    refine ⟨foldl_min_le_r, fun z hz => ?_⟩
    obtain ⟨j, hj, rfl⟩ := List.mem_map.mp hz
    exact foldl_min_le_mem (List.mem_flatMap.mpr ⟨i, hi, List.mem_map_of_mem hj⟩)
  · rw [foldl_min_le]
    refine ⟨foldl_min_le_r, fun y hy => ?_⟩
    obtain ⟨i, hi, h2⟩ := List.mem_flatMap.mp hy
    obtain ⟨j, hj, rfl⟩ := List.mem_map.mp h2
    exact Nat.le_trans (foldl_min_le_mem (List.mem_map_of_mem hi)) (near1_mem (r := x.round_) hj)
theorem nearest_le (x : Abs) (l m : List Nat) : x.nearest l m ≤ x.round_ := foldl_min_le_r
/-- nearest(splices, turn, near) -/
def nearN (spl : List Nat) (t : Nat) (nl : List Nat) : Nat := minL (spl.map fun s => nl.getD ((s + t) % nl.length) 0)
theorem getD_map_range {r : Nat} {f : Nat → Nat} {i : Nat} (hi : i < r) : ((List.range r).map f).getD i 0 = f i := by
  simp [List.getD_eq_getElem?_getD, hi]
theorem nearN_eq (x : Abs) (spl ot : List Nat) (t : Nat) (hr : 0 < x.round_) (hs : spl ≠ []) (ho : ∀ p ∈ ot, p < x.round_) :
    nearN spl t (nearL x.round_ ot) = x.nearest (spl.map fun s => (s + t) % x.round_) ot := by
  rw [nearest_eq, List.map_map, minL_fold]
  · unfold nearN
    rw [nearL_len]
    congr 1
    apply List.map_congr_left
    intro s _
    exact nearL_at hr ho (Nat.mod_lt _ hr)
  · simpa using hs
  · intro y hy
    obtain ⟨s, _, rfl⟩ := List.mem_map.mp hy
    exact near1_le

/-! ## the least turn, the best turn -/
theorem find_range {f : Nat → Bool} : ∀ {n t : Nat}, t < n → f t = true → (∀ j, j < t → f j = false) → (List.range n).find? f = some t
  | n + 1, t, h, ht, hj => by
    rw [List.range_succ, List.find?_append]
    by_cases c : t < n
    · rw [find_range c ht hj]; rfl
    · have e : t = n := by omega
      subst e
      have : (List.range t).find? f = none := by
        rw [List.find?_eq_none]
        intro y hy
        rw [hj y (List.mem_range.mp hy)]; simp
      rw [this]
      simp [ht]
theorem find_none {f : Nat → Bool} {n : Nat} (h : ∀ j, j < n → f j = false) : (List.range n).find? f = none := by
  rw [List.find?_eq_none]
  intro y hy
  rw [h y (List.mem_range.mp hy)]; simp
/-- the best of the turns below i -/
def bestT (f : Nat → Nat) (i : Nat) : Nat × Nat := (List.range i).foldl (fun b t => if b.2 < f t then (t, f t) else b) (0, f 0)
theorem bestT_one (f : Nat → Nat) : bestT f 1 = (0, f 0) := by
  show (if f 0 < f 0 then (0, f 0) else (0, f 0)) = _
  split <;> rfl
theorem bestT_succ (f : Nat → Nat) (i : Nat) : bestT f (i + 1) = if (bestT f i).2 < f i then (i, f i) else bestT f i := by
  unfold bestT
  rw [List.range_succ, List.foldl_append]; rfl
theorem best_eq (x : Abs) (p : Nat) : x.best p = bestT (fun t => x.nearest (x.places p t) (x.others p)) x.round_ := rfl

/-! ## pieces -/
/-- the pieces of a ply of fabric that covers s -/
def piecesL (x : Abs) (s : Nat) : Option (List Nat) :=
  let n := x.many s
  if n = 1 then some [x.round_]
  else
    let last := x.round_ - (n - 1) * s
    if last < x.short then
      if s + last < 2 * x.short then none else some (List.replicate (n - 2) s ++ [s - (x.short - last), x.short])
    else some (List.replicate (n - 2) s ++ [s, last])
def beginsL : Nat → List Nat → List Nat
  | _, [] => []
  | a, p :: ps => a :: beginsL (a + p) ps
theorem beginsL_len : ∀ (l : List Nat) (a : Nat), (beginsL a l).length = l.length
  | [], _ => rfl
  | p :: l, a => by show (beginsL (a + p) l).length + 1 = l.length + 1; rw [beginsL_len l]
theorem beginsL_rep (s : Nat) (t : List Nat) : ∀ (k a : Nat), beginsL a (List.replicate k s ++ t) = (List.range k).map (fun i => a + i * s) ++ beginsL (a + k * s) t
  | 0, a => by simp
  | k + 1, a => by
    rw [List.replicate_succ, List.cons_append]
    show a :: beginsL (a + s) (List.replicate k s ++ t) = _
    rw [beginsL_rep s t k (a + s), List.range_succ_eq_map, List.map_cons, List.map_map, List.cons_append]
    congr 1
    · omega
    · congr 1
      · apply List.map_congr_left
        intro i _
        show a + s + i * s = a + (i + 1) * s
        rw [Nat.add_mul]; omega
      · congr 1
        rw [Nat.add_mul]; omega
theorem beginsL_take (l : List Nat) : ∀ (i a : Nat), beginsL a (l.take i) = (beginsL a l).take i := by
  induction l with
  | nil => intro i a; simp [beginsL]
  | cons p l ih =>
    intro i a
    cases i with
    | zero => rfl
    | succ i => show a :: beginsL (a + p) (l.take i) = a :: (beginsL (a + p) l).take i; rw [ih]
theorem beginsL_snoc : ∀ (l : List Nat) (p a : Nat), beginsL a (l ++ [p]) = beginsL a l ++ [a + l.sum]
  | [], p, a => by simp [beginsL]
  | q :: l, p, a => by
    show a :: beginsL (a + q) (l ++ [p]) = (a :: beginsL (a + q) l) ++ [_]
    rw [beginsL_snoc l p (a + q), List.sum_cons, List.cons_append, Nat.add_assoc]
theorem many_pos {x : Abs} {s : Nat} (hs : 0 < s) (hr : 0 < x.round_) : 1 ≤ x.many s := by
  unfold Abs.many
  rw [Nat.le_div_iff_mul_le hs]; omega
theorem many_lt {x : Abs} {s : Nat} (hs : 0 < s) (hr : 0 < x.round_) : (x.many s - 1) * s < x.round_ := by
  have h1 : x.many s * s ≤ x.round_ + s - 1 := by unfold Abs.many; exact Nat.div_mul_le_self _ _
  have h2 := many_pos (x := x) hs hr
  obtain ⟨k, hk⟩ : ∃ k, x.many s = k + 1 := ⟨x.many s - 1, by omega⟩
  rw [hk] at h1 ⊢
  rw [Nat.add_mul] at h1
  show k * s < _
  omega
theorem range_two (f : Nat → Nat) (k : Nat) : (List.range (k + 2)).map f = (List.range k).map f ++ [f k, f (k + 1)] := by
  rw [List.range_succ, List.range_succ]; simp
/-- the specification's splices are where these pieces begin -/
theorem cut_eq (x : Abs) {s : Nat} (hs : 0 < s) (hr : 0 < x.round_) : x.cut s = (piecesL x s).map (beginsL 0) := by
  have h1 := many_pos (x := x) hs hr
  have h2 := many_lt (x := x) hs hr
  unfold Abs.cut piecesL
  by_cases e : x.many s = 1
  · rw [if_pos e]
    show (if x.many s ≤ 1 then _ else _) = _
    rw [if_pos (by omega)]; rfl
  · rw [if_neg e]
    show (if x.many s ≤ 1 then _ else _) = _
    rw [if_neg (by omega)]
    obtain ⟨k, hk⟩ : ∃ k, x.many s = k + 2 := ⟨x.many s - 2, by omega⟩
    rw [hk] at h2 ⊢
    have e1 : (k + 2 - 1) * s = k * s + s := by show (k + 1) * s = _; rw [Nat.add_mul, Nat.one_mul]
    rw [e1] at h2
    show (if x.short ≤ x.round_ - (k + 2 - 1) * s then some ((List.range (k + 2)).map fun i => i * s) else if x.round_ - x.short < (k + 2 - 2) * s + x.short then none else some (((List.range (k + 2)).map fun i => i * s).dropLast ++ [x.round_ - x.short])) =
      (if x.round_ - (k + 2 - 1) * s < x.short then (if s + (x.round_ - (k + 2 - 1) * s) < 2 * x.short then none else some (List.replicate (k + 2 - 2) s ++ [s - (x.short - (x.round_ - (k + 2 - 1) * s)), x.short])) else some (List.replicate (k + 2 - 2) s ++ [s, x.round_ - (k + 2 - 1) * s])).map (beginsL 0)
    rw [e1]
    have e2 : k + 2 - 2 = k := rfl
    rw [e2, range_two]
    clear e1 e2
    have z : (List.range k).map (fun i => 0 + i * s) = (List.range k).map fun i => i * s := by
      apply List.map_congr_left; intro i _; rw [Nat.zero_add]
    by_cases c : x.short ≤ x.round_ - (k * s + s)
    · rw [if_pos c, if_neg (by omega)]
      show some _ = some (beginsL 0 _)
      rw [beginsL_rep, z]
      show some (_ ++ [k * s, (k + 1) * s]) = some (_ ++ [0 + k * s, 0 + k * s + s])
      rw [Nat.zero_add, Nat.add_mul, Nat.one_mul]
    · rw [if_neg c]
      have c2 : x.round_ - (k * s + s) < x.short := by omega
      rw [if_pos c2]
      by_cases d : x.round_ - x.short < k * s + x.short
      · rw [if_pos d, if_pos (by omega)]; rfl
      · rw [if_neg d, if_neg (by omega)]
        show some _ = some (beginsL 0 _)
        rw [beginsL_rep, z]
        have dl : ((List.range k).map (fun i => i * s) ++ [k * s, (k + 1) * s]).dropLast = (List.range k).map (fun i => i * s) ++ [k * s] := by
          rw [List.dropLast_append_of_ne_nil (by simp)]; rfl
        rw [dl, List.append_assoc]
        show some (_ ++ [k * s, x.round_ - x.short]) = some (_ ++ [0 + k * s, 0 + k * s + (s - (x.short - (x.round_ - (k * s + s))))])
        congr 3
        · omega
        · congr 1; omega
/-- facts of the pieces -/
structure Cutted (x : Abs) (s : Nat) (ps : List Nat) : Prop where
  ne : ps ≠ []
  len : ps.length = x.many s
  last : ∃ q v, ps = q ++ [v] ∧ v = x.round_ - (beginsL 0 ps).getLastD 0
  lt : ∀ b ∈ beginsL 0 ps, b < x.round_
  le : ∀ v ∈ ps, v ≤ x.round_ + s
theorem cutted {x : Abs} {s : Nat} (hs : 0 < s) (hr : 0 < x.round_) (hsh : 0 < x.short) {ps : List Nat} (h : piecesL x s = some ps) : Cutted x s ps := by
  have h1 := many_pos (x := x) hs hr
  have h2 := many_lt (x := x) hs hr
  unfold piecesL at h
  by_cases e : x.many s = 1
  · rw [if_pos e] at h
    cases h
    refine ⟨by simp, by rw [e]; rfl, ⟨[], x.round_, rfl, rfl⟩, fun b hb => ?_, fun v hv => ?_⟩
    · have : b = 0 := by simpa [beginsL] using hb
      omega
    · have : v = x.round_ := by simpa using hv
      omega
  · rw [if_neg e] at h
    obtain ⟨k, hk⟩ : ∃ k, x.many s = k + 2 := ⟨x.many s - 2, by omega⟩
    have e1 : (k + 2 - 1) * s = k * s + s := by show (k + 1) * s = _; rw [Nat.add_mul, Nat.one_mul]
    rw [hk] at h h2
    rw [e1] at h2
    replace h : (if x.round_ - (k + 2 - 1) * s < x.short then (if s + (x.round_ - (k + 2 - 1) * s) < 2 * x.short then none else some (List.replicate (k + 2 - 2) s ++ [s - (x.short - (x.round_ - (k + 2 - 1) * s)), x.short])) else some (List.replicate (k + 2 - 2) s ++ [s, x.round_ - (k + 2 - 1) * s])) = some ps := h
    rw [e1, show k + 2 - 2 = k from rfl] at h
    have key : ∀ v w : Nat, v + w = s + (x.round_ - (k * s + s)) → 0 < w → v ≤ x.round_ + s → w ≤ x.round_ + s → ps = List.replicate k s ++ [v, w] → Cutted x s ps := by
      intro v w hvw hw hv1 hw1 hps
      have hb : beginsL 0 ps = ((List.range k).map fun i => 0 + i * s) ++ [0 + k * s, 0 + k * s + v] := by rw [hps, beginsL_rep]; rfl
      refine ⟨by rw [hps]; simp, by rw [hps, hk]; simp, ⟨List.replicate k s ++ [v], w, by rw [hps]; simp, ?_⟩, fun b hb' => ?_, fun u hu => ?_⟩
      · rw [hb]
        have : (((List.range k).map fun i => 0 + i * s) ++ [0 + k * s, 0 + k * s + v]).getLastD 0 = 0 + k * s + v := by
          simp [List.getLastD_eq_getLast?, List.getLast?_append]
        rw [this]; omega
      · rw [hb] at hb'
        rcases List.mem_append.mp hb' with h3 | h3
        · obtain ⟨i, hi, rfl⟩ := List.mem_map.mp h3
          have hi' : i < k := List.mem_range.mp hi
          have : i * s ≤ k * s := Nat.mul_le_mul_right _ (by omega)
          omega
        · have : b = 0 + k * s ∨ b = 0 + k * s + v := by simpa using h3
          omega
      · rw [hps] at hu
        rcases List.mem_append.mp hu with h3 | h3
        · have := (List.mem_replicate.mp h3).2
          omega
        · have : u = v ∨ u = w := by simpa using h3
          omega
    split at h
    · split at h
      · cases h
      · exact key _ _ (by omega) (by omega) (by omega) (by omega) (Option.some.inj h).symm
    · exact key _ _ (by omega) (by omega) (by omega) (by omega) (Option.some.inj h).symm
end Bp

namespace Bp
open Su65 (Abs Ply Roll)
/-! # What always holds of a store -/
structure WFp (x : Abs) (z : Ply) : Prop where
  w : z.wide ≤ 2000
  ne : z.splices ≠ []
  len : z.splices.length ≤ 20
  lt : ∀ s ∈ z.splices, s < x.round_
  tu : z.turn ≤ x.round_
structure WFr (z : Roll) : Prop where
  w1 : 150 ≤ z.wide
  w2 : z.wide ≤ 2000
  lo : z.long ≤ 1000000
  le : z.left ≤ z.long
structure WF (x : Abs) : Prop where
  a0 : 0 < x.a
  ac : x.a < x.c
  c1 : x.c ≤ 1000
  r1 : 100 ≤ x.round_
  r2 : x.round_ ≤ 1500
  d1 : x.apart ≤ 500
  s0 : 0 < x.short
  s1 : x.short ≤ 200
  rn : x.rolls.length ≤ 10
  pn : x.plies.length ≤ 12
  ro : ∀ z ∈ x.rolls, WFr z
  py : ∀ z ∈ x.plies, WFp x z
  sm : (x.rolls.map Roll.long).sum = (x.rolls.map Roll.left).sum + (x.plies.map fun p => p.splices.length * x.takes p.wide).sum

theorem roll_mem {x : Abs} {r : Nat} (h : r < x.rolls.length) : x.roll r ∈ x.rolls := by
  unfold Abs.roll
  rw [List.getD_eq_getElem?_getD, List.getElem?_eq_getElem h]
  exact List.getElem_mem h
theorem ply_mem {x : Abs} {p : Nat} (h : p < x.plies.length) : x.ply p ∈ x.plies := by
  unfold Abs.ply
  rw [List.getD_eq_getElem?_getD, List.getElem?_eq_getElem h]
  exact List.getElem_mem h
theorem ply_get {x : Abs} {p : Nat} (h : p < x.plies.length) : x.plies[p]? = some (x.ply p) := by
  unfold Abs.ply
  rw [List.getD_eq_getElem?_getD, List.getElem?_eq_getElem h]; rfl
theorem roll_get {x : Abs} {p : Nat} (h : p < x.rolls.length) : x.rolls[p]? = some (x.roll p) := by
  unfold Abs.roll
  rw [List.getD_eq_getElem?_getD, List.getElem?_eq_getElem h]; rfl

theorem piece_ge {x : Abs} (w : WF x) (n : Nat) : n ≤ x.piece n := by
  unfold Abs.piece
  rw [Nat.le_div_iff_mul_le w.a0]
  exact Nat.mul_le_mul_left n (Nat.le_of_lt w.ac)
theorem piece_le {x : Abs} (w : WF x) {n : Nat} (h : n ≤ 2000) : x.piece n ≤ 2000000 := by
  unfold Abs.piece
  refine Nat.le_trans (Nat.div_le_self _ _) ?_
  have := w.c1
  exact Nat.le_trans (Nat.mul_le_mul h this) (by decide)
theorem takes_le {x : Abs} (w : WF x) {n : Nat} (h : n ≤ 2000) : x.takes n ≤ 2001000 := by
  unfold Abs.takes
  refine Nat.le_trans (Nat.div_le_self _ _) ?_
  have h1 := w.c1
  have h2 := w.ac
  have := Nat.mul_le_mul h h1
  omega
theorem takes_pos {x : Abs} (w : WF x) {n : Nat} (h : 0 < n) : 0 < x.takes n := by
  unfold Abs.takes
  show 1 ≤ _
  rw [Nat.le_div_iff_mul_le w.a0]
  have h1 := w.ac
  have : x.c ≤ n * x.c := Nat.le_mul_of_pos_left _ h
  omega
theorem many_le {x : Abs} (w : WF x) {s : Nat} (h : 150 ≤ s) : x.many s ≤ 20 := by
  unfold Abs.many
  have h1 := w.r2
  refine Nat.le_of_lt_succ (Nat.div_lt_of_lt_mul ?_)
  have : 150 * 21 ≤ s * 21 := Nat.mul_le_mul_right _ h
  omega
theorem many_le_round {x : Abs} (w : WF x) {s : Nat} (h : 0 < s) : x.many s ≤ x.round_ := by
  have h1 := many_lt (x := x) h (by have := w.r1; omega)
  have h2 : x.many s - 1 ≤ (x.many s - 1) * s := Nat.le_mul_of_pos_right _ h
  have := w.r1
  omega
/-- a ply's splices -/
theorem cut_ok {x : Abs} (w : WF x) {n : Nat} (h : 150 ≤ n) {l : List Nat} (e : x.cut (x.piece n) = some l) : l ≠ [] ∧ l.length ≤ 20 ∧ ∀ s ∈ l, s < x.round_ := by
  have hp : 150 ≤ x.piece n := Nat.le_trans h (piece_ge w n)
  have hr : 0 < x.round_ := by have := w.r1; omega
  rw [cut_eq x (by omega) hr] at e
  cases hq : piecesL x (x.piece n) with
  | none => rw [hq] at e; cases e
  | some ps =>
    rw [hq] at e
    have e2 : l = beginsL 0 ps := (Option.some.inj e).symm
    subst e2
    have c := cutted (by omega) hr w.s0 hq
    refine ⟨?_, ?_, c.lt⟩
    · intro z
      have : (beginsL 0 ps).length = 0 := by rw [z]; rfl
      rw [beginsL_len] at this
      exact c.ne (List.length_eq_zero_iff.mp this)
    · rw [beginsL_len, c.len]; exact many_le w hp

/-! ## a ply changed -/
theorem set_round (x : Abs) (p : Nat) (f : Ply → Ply) : (x.set p f).round_ = x.round_ := rfl
theorem set_len (x : Abs) (p : Nat) (f : Ply → Ply) : (x.set p f).plies.length = x.plies.length := by
  show (x.plies.modify p f).length = _
  rw [List.length_modify]
theorem set_ply {x : Abs} {p i : Nat} {f : Ply → Ply} (hi : i < x.plies.length) : (x.set p f).ply i = if i = p then f (x.ply i) else x.ply i := by
  unfold Abs.ply
  show (x.plies.modify p f).getD i _ = _
  rw [List.getD_eq_getElem?_getD, List.getElem?_modify, List.getD_eq_getElem?_getD, List.getElem?_eq_getElem hi]
  by_cases e : p = i
  · subst e; simp
  · have e2 : ¬ i = p := fun z => e z.symm
    simp [e, e2]
theorem mem_modify {α : Type} {f : α → α} : ∀ {l : List α} {p : Nat} {z : α}, z ∈ l.modify p f → z ∈ l ∨ ∃ y ∈ l, z = f y
  | [], p, z, h => by simp at h
  | a :: l, 0, z, h => by
    rw [List.modify_zero_cons] at h
    rcases List.mem_cons.mp h with h | h
    · exact .inr ⟨a, List.mem_cons_self, h⟩
    · exact .inl (List.mem_cons_of_mem _ h)
  | a :: l, p + 1, z, h => by
    rw [List.modify_succ_cons] at h
    rcases List.mem_cons.mp h with h | h
    · exact .inl (h ▸ List.mem_cons_self)
    · rcases mem_modify h with h | ⟨y, hy, e⟩
      · exact .inl (List.mem_cons_of_mem _ h)
      · exact .inr ⟨y, List.mem_cons_of_mem _ hy, e⟩
theorem map_modify_same {α β : Type} {f : α → α} {g : α → β} (h : ∀ a, g (f a) = g a) : ∀ (l : List α) (p : Nat), (l.modify p f).map g = l.map g
  | [], p => by simp
  | a :: l, 0 => by rw [List.modify_zero_cons, List.map_cons, List.map_cons, h]
  | a :: l, p + 1 => by rw [List.modify_succ_cons, List.map_cons, List.map_cons, map_modify_same h l p]
theorem wf_turn {x : Abs} (w : WF x) {p t : Nat} (ht : t ≤ x.round_) : WF (x.set p fun z => { z with turn := t }) := by
  refine ⟨w.a0, w.ac, w.c1, w.r1, w.r2, w.d1, w.s0, w.s1, w.rn, ?_, w.ro, ?_, ?_⟩
  · rw [set_len]; exact w.pn
  · intro z hz
    rcases mem_modify hz with h | ⟨y, hy, e⟩
    · have := w.py z h
      exact ⟨this.w, this.ne, this.len, this.lt, this.tu⟩
    · subst e
      have := w.py y hy
      exact ⟨this.w, this.ne, this.len, this.lt, ht⟩
  · show _ = _ + ((x.plies.modify p _).map _).sum
    have e := map_modify_same (f := fun z : Ply => { z with turn := t }) (g := fun p => p.splices.length * x.takes p.wide) (fun _ => rfl) x.plies p
    have s := w.sm
    rw [← e] at s
    exact s

/-! ## the calls -/
theorem wf_new {a b c r d s : Nat} (h : ¬ (a = 0 ∨ b = 0 ∨ c = 0 ∨ 1000 < c ∨ a * a + b * b ≠ c * c ∨ r < 100 ∨ 1500 < r ∨ 500 < d ∨ s = 0 ∨ 200 < s)) : WF (Su65.new a c r d s) := by
  have h1 : a * a + b * b = c * c := by
    refine Decidable.byContradiction fun z => h ?_
    exact .inr (.inr (.inr (.inr (.inl z))))
  have hb : 0 < b * b := Nat.mul_pos (by omega) (by omega)
  have hac : a < c := by
    refine Nat.lt_of_not_le fun z => ?_
    have := Nat.mul_le_mul z z
    omega
  exact ⟨by show 0 < a; omega, hac, by show c ≤ 1000; omega, by show 100 ≤ r; omega, by show r ≤ 1500; omega, by show d ≤ 500; omega, by show 0 < s; omega, by show s ≤ 200; omega, Nat.zero_le _, Nat.zero_le _, (fun _ h => nomatch h), (fun _ h => nomatch h), rfl⟩
theorem wf_roll {x : Abs} (w : WF x) {wi l : Nat} (h : ¬ (wi < 150 ∨ 2000 < wi ∨ l = 0 ∨ 1000000 < l)) (h2 : ¬ Su65.ROLLS ≤ x.rolls.length) : WF { x with rolls := x.rolls ++ [⟨wi, l, l⟩] } := by
  refine ⟨w.a0, w.ac, w.c1, w.r1, w.r2, w.d1, w.s0, w.s1, ?_, w.pn, ?_, (fun z hz => ?_), ?_⟩
  · rw [List.length_append]
    have : ¬ 10 ≤ x.rolls.length := h2
    show x.rolls.length + 1 ≤ 10
    omega
  · intro z hz
    rcases List.mem_append.mp hz with h3 | h3
    · exact w.ro z h3
    · have e : z = ⟨wi, l, l⟩ := by simpa using h3
      subst e
      exact ⟨by show 150 ≤ wi; omega, by show wi ≤ 2000; omega, by show l ≤ 1000000; omega, Nat.le_refl _⟩
  · have := w.py z hz
    exact ⟨this.w, this.ne, this.len, this.lt, this.tu⟩
  · show ((x.rolls ++ [(⟨wi, l, l⟩ : Roll)]).map Roll.long).sum = ((x.rolls ++ [(⟨wi, l, l⟩ : Roll)]).map Roll.left).sum + (x.plies.map fun p => p.splices.length * x.takes p.wide).sum
    have := w.sm
    rw [List.map_append, List.map_append, List.sum_append, List.sum_append]
    show _ + [l].sum = _ + [l].sum + _
    omega
theorem sum_modify_left {n : Nat} : ∀ {l : List Roll} {r : Nat}, (h : r < l.length) → n ≤ (l[r]).left → ((l.modify r fun z => { z with left := z.left - n }).map Roll.left).sum + n = (l.map Roll.left).sum
  | a :: l, 0, h, hn => by
    rw [List.modify_zero_cons, List.map_cons, List.map_cons, List.sum_cons, List.sum_cons]
    show a.left - n + _ + n = _
    have : n ≤ a.left := hn
    omega
  | a :: l, r + 1, h, hn => by
    rw [List.modify_succ_cons, List.map_cons, List.map_cons, List.sum_cons, List.sum_cons]
    have := sum_modify_left (l := l) (r := r) (Nat.lt_of_succ_lt_succ h) hn
    omega
theorem wf_ply {x : Abs} (w : WF x) {r wi : Nat} (hr : r < x.rolls.length) (hw : ¬ (wi = 0 ∨ 2000 < wi)) (hp : ¬ Su65.PLIES ≤ x.plies.length) {l : List Nat} (hl : x.cut (x.piece (x.roll r).wide) = some l) (ht : ¬ (x.roll r).left < l.length * x.takes wi) :
    WF { x with rolls := x.rolls.modify r (fun z => { z with left := z.left - l.length * x.takes wi }), plies := x.plies ++ [⟨r, wi, l, 0⟩] } := by
  have hroll := w.ro _ (roll_mem hr)
  obtain ⟨c1, c2, c3⟩ := cut_ok w hroll.w1 hl
  refine ⟨w.a0, w.ac, w.c1, w.r1, w.r2, w.d1, w.s0, w.s1, ?_, ?_, ?_, ?_, ?_⟩
  · rw [List.length_modify]; exact w.rn
  · rw [List.length_append]
    have : ¬ 12 ≤ x.plies.length := hp
    show x.plies.length + 1 ≤ 12
    omega
  · intro z hz
    rcases mem_modify hz with h | ⟨y, hy, e⟩
    · exact w.ro z h
    · subst e
      have := w.ro y hy
      exact ⟨this.w1, this.w2, this.lo, by show y.left - _ ≤ y.long; have := this.le; omega⟩
  · intro z hz
    rcases List.mem_append.mp hz with h3 | h3
    · have := w.py z h3
      exact ⟨this.w, this.ne, this.len, this.lt, this.tu⟩
    · have e : z = ⟨r, wi, l, 0⟩ := by simpa using h3
      subst e
      exact ⟨by show wi ≤ 2000; omega, c1, c2, c3, Nat.zero_le _⟩
  · show ((x.rolls.modify r _).map Roll.long).sum = ((x.rolls.modify r _).map Roll.left).sum + ((x.plies ++ [(⟨r, wi, l, 0⟩ : Ply)]).map fun p => p.splices.length * x.takes p.wide).sum
    rw [map_modify_same (f := fun z : Roll => { z with left := z.left - l.length * x.takes wi }) (g := Roll.long) (fun _ => rfl), List.map_append, List.sum_append]
    have e : x.roll r = x.rolls[r] := by unfold Abs.roll; rw [List.getD_eq_getElem?_getD, List.getElem?_eq_getElem hr]; rfl
    have h1 := sum_modify_left (n := l.length * x.takes wi) hr (by rw [← e]; omega)
    have h2 := w.sm
    show _ = _ + (_ + [l.length * x.takes wi].sum)
    have h3 : [l.length * x.takes wi].sum = l.length * x.takes wi := by simp
    omega
theorem fits_lt {x : Abs} {p t : Nat} (h : x.least p = some t) : t < x.round_ ∧ x.fits p t = true := by
  unfold Abs.least at h
  exact ⟨List.mem_range.mp (List.mem_of_find?_eq_some h), List.find?_some h⟩
theorem wf_row : ∀ (l : List Nat) {x : Abs}, WF x → ∀ {r}, x.row l = some r → WF r.1 ∧ r.1.round_ = x.round_ ∧ r.2.length = l.length ∧ ∀ t ∈ r.2, t < x.round_
  | [], x, w, r, h => by
    have e : r = (x, []) := (Option.some.inj h).symm
    subst e
    exact ⟨w, rfl, rfl, fun _ h => by cases h⟩
  | p :: l, x, w, r, h => by
    have h' : (match x.least p with | none => none | some t => ((x.set p fun z => { z with turn := t + 1 }).row l).map fun r => (r.1, t :: r.2)) = some r := h
    cases hl : x.least p with
    | none => rw [hl] at h'; cases h'
    | some t =>
      rw [hl] at h'
      have ht := (fits_lt hl).1
      replace h' : ((x.set p fun z => { z with turn := t + 1 }).row l).map (fun r => (r.1, t :: r.2)) = some r := h'
      cases hq : (x.set p fun z => { z with turn := t + 1 }).row l with
      | none => rw [hq] at h'; cases h'
      | some q =>
        rw [hq] at h'
        have e : r = (q.1, t :: q.2) := (Option.some.inj h').symm
        subst e
        obtain ⟨h1, h2, h3, h4⟩ := wf_row l (wf_turn w (p := p) (t := t + 1) ht) hq
        refine ⟨h1, h2, by show q.2.length + 1 = l.length + 1; rw [h3], fun u hu => ?_⟩
        rcases List.mem_cons.mp hu with hu | hu
        · subst hu; exact ht
        · exact h4 u hu
theorem wf_does {x : Abs} (w : WF x) (c : Su65.Call) : WF (Su65.does x c).1 := by
  cases c with
  | begin_ a b c r d s =>
    show WF (if a = 0 ∨ b = 0 ∨ c = 0 ∨ 1000 < c ∨ a * a + b * b ≠ c * c ∨ r < 100 ∨ 1500 < r ∨ 500 < d ∨ s = 0 ∨ 200 < s then (x, Su65.no (-22)) else (Su65.new a c r d s, Su65.no 0)).1
    split
    · exact w
    · rename_i h; exact wf_new h
  | roll wi l =>
    show WF (if wi < 150 ∨ 2000 < wi ∨ l = 0 ∨ 1000000 < l then (x, Su65.no (-22)) else if Su65.ROLLS ≤ x.rolls.length then (x, Su65.no (-28)) else ({ x with rolls := x.rolls ++ [⟨wi, l, l⟩] }, Su65.num x.rolls.length [])).1
    split
    · exact w
    · rename_i h
      split
      · exact w
      · rename_i h2; exact wf_roll w h h2
  | ply r wi =>
    simp only [Su65.does]
    split
    · exact w
    · rename_i h1
      split
      · exact w
      · rename_i h2
        split
        · exact w
        · rename_i h3
          split
          · exact w
          · rename_i l h4
            split
            · exact w
            · rename_i h5
              refine wf_ply w ?_ h2 h3 h4 h5
              simpa [Abs.isR] using h1
  | lay p t =>
    simp only [Su65.does]
    split
    · exact w
    · split
      · exact w
      · rename_i h
        split
        · exact w
        · split
          · exact w
          · exact wf_turn w (by omega)
  | lift p =>
    simp only [Su65.does]
    split
    · exact w
    · split
      · exact w
      · exact wf_turn w (Nat.zero_le _)
  | row l =>
    simp only [Su65.does]
    split
    · exact w
    · split
      · exact w
      · split
        · exact w
        · split
          · exact w
          · rename_i r h; exact (wf_row l w h).1
  | least p => simp only [Su65.does]; (repeat' split) <;> exact w
  | best p => simp only [Su65.does]; (repeat' split) <;> exact w
  | fits p t => simp only [Su65.does]; (repeat' split) <;> exact w
  | near p q => simp only [Su65.does]; (repeat' split) <;> exact w
  | all => exact w
  | splices p => simp only [Su65.does]; (repeat' split) <;> exact w
  | where_ p => simp only [Su65.does]; (repeat' split) <;> exact w
  | most r wi => simp only [Su65.does]; (repeat' split) <;> exact w
  | piece wi => simp only [Su65.does]; (repeat' split) <;> exact w
  | look p => simp only [Su65.does]; (repeat' split) <;> exact w
  | rest r => simp only [Su65.does]; (repeat' split) <;> exact w
  | at_ i n => simp only [Su65.does]; (repeat' split) <;> exact w
  | sums => exact w
  | state => exact w

/-! ## plies laid, splices of others -/
theorem laid_lt {x : Abs} {p : Nat} (h : p ∈ x.laid) : p < x.plies.length ∧ (x.ply p).turn ≠ 0 := by
  unfold Abs.laid at h
  rw [List.mem_filter, List.mem_range] at h
  exact ⟨h.1, by simpa using h.2⟩
theorem mem_laid {x : Abs} {p : Nat} (h : p < x.plies.length) (h2 : (x.ply p).turn ≠ 0) : p ∈ x.laid := by
  unfold Abs.laid
  rw [List.mem_filter, List.mem_range]
  exact ⟨h, by simpa using h2⟩
theorem laid_len {x : Abs} (w : WF x) : x.laid.length ≤ 12 := by
  unfold Abs.laid
  refine Nat.le_trans (List.length_filter_le _ _) ?_
  rw [List.length_range]; exact w.pn
theorem places_lt {x : Abs} (w : WF x) (p t : Nat) : ∀ s ∈ x.places p t, s < x.round_ := by
  intro s h
  unfold Abs.places at h
  obtain ⟨y, _, rfl⟩ := List.mem_map.mp h
  exact Nat.mod_lt _ (by have := w.r1; omega)
theorem others_lt {x : Abs} (w : WF x) (p : Nat) : ∀ s ∈ x.others p, s < x.round_ := by
  intro s h
  unfold Abs.others at h
  obtain ⟨q, _, h2⟩ := List.mem_flatMap.mp h
  exact places_lt w _ _ s h2
theorem others_nil {x : Abs} (w : WF x) (p : Nat) : x.others p = [] ↔ x.laid.filter (fun q => q != p) = [] := by
  unfold Abs.others
  constructor
  · intro h
    rw [List.flatMap_eq_nil_iff] at h
    cases hl : x.laid.filter (fun q => q != p) with
    | nil => rfl
    | cons q r =>
      exfalso
      have hm : q ∈ x.laid.filter (fun q => q != p) := by rw [hl]; exact List.mem_cons_self
      have h1 := h q hm
      have h2 := (List.mem_filter.mp hm).1
      have h3 := (w.py _ (ply_mem (laid_lt h2).1)).ne
      unfold Abs.places at h1
      exact h3 (by simpa using h1)
  · intro h; rw [h]; rfl
theorem sum_le {α : Type} {f : α → Nat} {b : Nat} : ∀ {l : List α}, (∀ a ∈ l, f a ≤ b) → (l.map f).sum ≤ l.length * b
  | [], _ => by simp
  | a :: l, h => by
    rw [List.map_cons, List.sum_cons, List.length_cons, Nat.add_mul, Nat.one_mul]
    have h1 := h a List.mem_cons_self
    have h2 := sum_le (l := l) (f := f) (b := b) fun c hc => h c (List.mem_cons_of_mem _ hc)
    omega

/-! ## row -/
/-- plies of l laid no longer -/
def clear (l : List Nat) (x : Abs) : Abs := l.foldl (fun z p => z.set p fun q => { q with turn := 0 }) x
theorem abs_ext {x y : Abs} (h1 : x.a = y.a) (h2 : x.c = y.c) (h3 : x.round_ = y.round_) (h4 : x.apart = y.apart) (h5 : x.short = y.short) (h6 : x.rolls = y.rolls) (h7 : x.plies = y.plies) : x = y := by
  cases x; cases y; cases h1; cases h2; cases h3; cases h4; cases h5; cases h6; cases h7; rfl
theorem clear_get : ∀ (l : List Nat) (x : Abs) (i : Nat), (clear l x).plies[i]? = if i ∈ l then (x.plies[i]?).map (fun q => { q with turn := 0 }) else x.plies[i]?
  | [], x, i => by simp [clear]
  | p :: l, x, i => by
    show (clear l (x.set p fun q => { q with turn := 0 })).plies[i]? = _
    rw [clear_get l]
    have e : (x.set p fun q => { q with turn := 0 }).plies[i]? = if i = p then (x.plies[i]?).map (fun q => { q with turn := 0 }) else x.plies[i]? := by
      show (x.plies.modify p _)[i]? = _
      rw [List.getElem?_modify]
      by_cases c : p = i
      · subst c; cases x.plies[p]? <;> simp
      · have c2 : ¬ i = p := fun z => c z.symm
        cases x.plies[i]? <;> simp [c, c2]
    rw [e]
    by_cases c1 : i ∈ l
    · rw [if_pos c1, if_pos (List.mem_cons_of_mem _ c1)]
      split
      · cases x.plies[i]? <;> rfl
      · rfl
    · rw [if_neg c1]
      by_cases c2 : i = p
      · subst c2
        rw [if_pos rfl, if_pos List.mem_cons_self]
      · rw [if_neg c2, if_neg (by simp [c1, c2])]
theorem clear_rest : ∀ (l : List Nat) (x : Abs), (clear l x).a = x.a ∧ (clear l x).c = x.c ∧ (clear l x).round_ = x.round_ ∧ (clear l x).apart = x.apart ∧ (clear l x).short = x.short ∧ (clear l x).rolls = x.rolls
  | [], x => ⟨rfl, rfl, rfl, rfl, rfl, rfl⟩
  | p :: l, x => clear_rest l _
theorem clear_same {l : List Nat} {x : Abs} (h : ∀ p ∈ l, (x.ply p).turn = 0) : clear l x = x := by
  obtain ⟨h1, h2, h3, h4, h5, h6⟩ := clear_rest l x
  refine abs_ext h1 h2 h3 h4 h5 h6 ?_
  apply List.ext_getElem?
  intro i
  rw [clear_get]
  split
  · rename_i hm
    have := h i hm
    unfold Abs.ply at this
    rw [List.getD_eq_getElem?_getD] at this
    cases hq : x.plies[i]? with
    | none => rfl
    | some z =>
      rw [hq] at this
      have h0 : z.turn = 0 := this
      show some { z with turn := 0 } = some z
      cases z
      cases h0
      rfl
  · rfl
theorem clear_set {l : List Nat} {x : Abs} {p t : Nat} (hp : p ∈ l) : clear l (x.set p fun q => { q with turn := t }) = clear l x := by
  obtain ⟨h1, h2, h3, h4, h5, h6⟩ := clear_rest l x
  obtain ⟨g1, g2, g3, g4, g5, g6⟩ := clear_rest l (x.set p fun q => { q with turn := t })
  refine abs_ext (g1.trans h1.symm) (g2.trans h2.symm) (g3.trans h3.symm) (g4.trans h4.symm) (g5.trans h5.symm) (g6.trans h6.symm) ?_
  apply List.ext_getElem?
  intro i
  rw [clear_get, clear_get]
  have e : (x.set p fun q => { q with turn := t }).plies[i]? = if i = p then (x.plies[i]?).map (fun q => { q with turn := t }) else x.plies[i]? := by
    show (x.plies.modify p _)[i]? = _
    rw [List.getElem?_modify]
    by_cases c : p = i
    · subst c; cases x.plies[p]? <;> simp
    · have c2 : ¬ i = p := fun z => c z.symm
      cases x.plies[i]? <;> simp [c, c2]
  rw [e]
  by_cases c : i = p
  · subst c
    rw [if_pos rfl, if_pos hp, if_pos hp]
    cases x.plies[i]? <;> rfl
  · rw [if_neg c]
end Bp

namespace Bp
open Su65 (Abs Ply Roll)
/-! # Calls, read off one list of numbers -/
/-- a call with a ply: its number, its numbers -/
inductive PlyCall : Nat → List Nat → Su65.Call → Prop
  | lay (p t : Nat) : PlyCall 3 [p, t] (.lay p t)
  | lift (p : Nat) : PlyCall 4 [p] (.lift p)
  | least (p : Nat) : PlyCall 6 [p] (.least p)
  | best (p : Nat) : PlyCall 7 [p] (.best p)
  | fits (p t : Nat) : PlyCall 8 [p, t] (.fits p t)
  | near (p q : Nat) : PlyCall 9 [p, q] (.near p q)
  | splices (p : Nat) : PlyCall 11 [p] (.splices p)
  | where_ (p : Nat) : PlyCall 12 [p] (.where_ p)
  | look (p : Nat) : PlyCall 15 [p] (.look p)
inductive RollCall : Nat → List Nat → Su65.Call → Prop
  | roll (w l : Nat) : RollCall 1 [w, l] (.roll w l)
  | ply (r w : Nat) : RollCall 2 [r, w] (.ply r w)
  | most (r w : Nat) : RollCall 13 [r, w] (.most r w)
  | piece (w : Nat) : RollCall 14 [w] (.piece w)
  | rest (r : Nat) : RollCall 16 [r] (.rest r)
/-- any call: its number, its numbers, its row -/
inductive AnyCall : Nat → List Nat → List Nat → Su65.Call → Prop
  | begin_ (a b c r d s : Nat) (ha : a < 4294967296) (hb : b < 4294967296) (hc : c < 4294967296) : AnyCall 0 [a, b, c, r, d, s] [] (.begin_ a b c r d s)
  | ply {k : Nat} {ns : List Nat} {c : Su65.Call} (h : PlyCall k ns c) : AnyCall k ns [] c
  | roll {k : Nat} {ns : List Nat} {c : Su65.Call} (h : RollCall k ns c) : AnyCall k ns [] c
  | row (l : List Nat) (hl : l.length ≤ 16) : AnyCall 5 [] l (.row l)
  | all : AnyCall 10 [] [] .all
  | at_ (i n : Nat) : AnyCall 17 [i, n] [] (.at_ i n)
  | sums : AnyCall 18 [] [] .sums
  | state : AnyCall 19 [] [] .state
def toI (l : List Nat) : List Int := l.map fun (n : Nat) => (n : Int)
theorem toI_app (l m : List Nat) : toI (l ++ m) = toI l ++ toI m := List.map_append
/-- a call's numbers as they stand in the list -/
def chunk (k : Nat) (ns l : List Nat) : List Nat := if k = 5 then 5 :: l.length :: l else k :: ns
inductive Parsed : List Nat → List Su65.Call → Prop
  | nil : Parsed [] []
  | cons {k : Nat} {ns l rest : List Nat} {c : Su65.Call} {cs : List Su65.Call} (h : AnyCall k ns l c) (r : Parsed rest cs) : Parsed (chunk k ns l ++ rest) (c :: cs)
/-- what a call answers, in a row -/
def ansL (r : Su65.Ans) : List Int := r.value :: toI r.out
/-- what all calls answer -/
def outL : Option Abs → List Su65.Call → List Int
  | _, [] => []
  | s, c :: cs => ((ansL (Su65.step s c).2).length : Int) :: (ansL (Su65.step s c).2 ++ outL (Su65.step s c).1 cs)
abbrev stepN : Su65Neutral.S → List (List Int) → Su65Neutral.S × List Int := fun s c => Su65Neutral.step s (c.headD [])
theorem told_cons {s : Su65Neutral.S} {c : List (List Int)} {cs : List (List (List Int))} : PyFlat.told (PyFlat.played stepN s (c :: cs)) = (((stepN s c).2.length : Int) :: (stepN s c).2) ++ PyFlat.told (PyFlat.played stepN (stepN s c).1 cs) := rfl
theorem stepN_of {s : Su65Neutral.S} {c : List (List Int)} {x : Su65.Call} (h : Su65Neutral.callOf (c.headD []) = some x) : stepN s c = ((Su65.step s x).1, ansL (Su65.step s x).2) := by
  show Su65Neutral.step s (c.headD []) = _
  unfold Su65Neutral.step
  rw [h]; rfl
/-- what is to be shown of a list that parses -/
def Good (l : List Int) (raw : List (List (List Int))) : Prop := ∃ (ns : List Nat) (cs : List Su65.Call), l = toI ns ∧ Parsed ns cs ∧ cs.length = raw.length ∧ ∀ s, PyFlat.told (PyFlat.played stepN s (raw.map PySu65.whole)) = outL s cs
theorem good_nil : Good [] [] := ⟨[], [], rfl, .nil, rfl, fun _ => rfl⟩
theorem good_cons {k : Nat} {ns l : List Nat} {c : Su65.Call} {t : List Int} {raw : List (List (List Int))} {c0 : List (List Int)} {p : List Int} (h : AnyCall k ns l c) (hp : p = toI (chunk k ns l)) (hc : Su65Neutral.callOf ((PySu65.whole c0).headD []) = some c) (g : Good t raw) : Good (p ++ t) (c0 :: raw) := by
  obtain ⟨ms, cs, rfl, hP, hl, ho⟩ := g
  refine ⟨chunk k ns l ++ ms, c :: cs, by rw [hp, toI_app], .cons h hP, by rw [List.length_cons, List.length_cons, hl], fun s => ?_⟩
  show PyFlat.told (PyFlat.played stepN s (PySu65.whole c0 :: raw.map PySu65.whole)) = _
  rw [told_cons, stepN_of hc]
  show ((ansL (Su65.step s c).2).length : Int) :: (ansL (Su65.step s c).2 ++ PyFlat.told (PyFlat.played stepN (Su65.step s c).1 (raw.map PySu65.whole))) = _
  rw [ho]; rfl
theorem nat_of {z : Int} (h : PyInside.within 0 4294967295 z = true) : ∃ n : Nat, z = (n : Int) ∧ n < 4294967296 := by
  unfold PyInside.within at h
  rw [Bool.and_eq_true] at h
  have h1 := of_decide_eq_true h.1
  have h2 := of_decide_eq_true h.2
  exact ⟨z.toNat, by omega, by omega⟩
theorem nats_of : ∀ {l : List Int}, l.all (PyInside.within 0 4294967295) = true → ∃ ns : List Nat, l = toI ns
  | [], _ => ⟨[], rfl⟩
  | z :: l, h => by
    rw [List.all_cons, Bool.and_eq_true] at h
    obtain ⟨n, rfl, _⟩ := nat_of h.1
    obtain ⟨ns, rfl⟩ := nats_of h.2
    exact ⟨n :: ns, rfl⟩
theorem toI_toNat : ∀ ns : List Nat, (toI ns).map Int.toNat = ns
  | [] => rfl
  | n :: ns => by show (n : Int).toNat :: (toI ns).map Int.toNat = _; rw [toI_toNat ns]; rfl
theorem call_plain {p : Int} {r : List Int} {n : Nat} (h : PySu65.shape p = some (n, 0)) {c : List (List Int)} {t : List Int} (hc : PyFlat.call PySu65.shape (p :: r) = some (c, t)) : n ≤ r.length ∧ c = [p :: r.take n] ∧ t = r.drop n := by
  replace hc : (match PySu65.shape p with | none => none | some (n, k) => if r.length < n then none else match PyFlat.rows k (r.drop n) with | none => none | some (xs, t) => some ((p :: r.take n) :: xs, t)) = some (c, t) := hc
  rw [h] at hc
  replace hc : (if r.length < n then none else some ((p :: r.take n) :: [], r.drop n)) = some (c, t) := hc
  by_cases hl : r.length < n
  · rw [if_pos hl] at hc; cases hc
  · rw [if_neg hl] at hc
    have e := Option.some.inj hc
    exact ⟨by omega, (congrArg Prod.fst e).symm, (congrArg Prod.snd e).symm⟩
theorem len1 {r : List Int} (h : 1 ≤ r.length) : ∃ x t, r = x :: t := by
  cases r with
  | nil => exact absurd h (by simp)
  | cons x t => exact ⟨x, t, rfl⟩
theorem len2 {r : List Int} (h : 2 ≤ r.length) : ∃ x y t, r = x :: y :: t := by
  obtain ⟨x, t, rfl⟩ := len1 (r := r) (by omega)
  obtain ⟨y, t, rfl⟩ := len1 (r := t) (by simp at h; omega)
  exact ⟨x, y, t, rfl⟩
theorem len6 {r : List Int} (h : 6 ≤ r.length) : ∃ a b c d e f t, r = a :: b :: c :: d :: e :: f :: t := by
  obtain ⟨a, b, t, rfl⟩ := len2 (r := r) (by omega)
  obtain ⟨c, d, t, rfl⟩ := len2 (r := t) (by simp at h; omega)
  obtain ⟨e, f, t, rfl⟩ := len2 (r := t) (by simp at h; omega)
  exact ⟨a, b, c, d, e, f, t, rfl⟩
/-- one call with one number -/
theorem one_1 {p : Int} {r : List Int} {c : List (List Int)} {t : List Int} {raw : List (List (List Int))} (h : PySu65.shape p = some (1, 0)) (hb : PySu65.bound p = ([(0, 4294967295)], [])) (hc : PyFlat.call PySu65.shape (p :: r) = some (c, t)) (hi : PyInside.call PySu65.bound c = true) (g : Good t raw)
    (k : ∀ a : Nat, ∃ (j : Nat) (x : Su65.Call), p = (j : Int) ∧ j ≠ 5 ∧ AnyCall j [a] [] x ∧ Su65Neutral.callOf ((PySu65.whole [[p, (a : Int)]]).headD []) = some x) : Good (p :: r) (c :: raw) := by
  obtain ⟨hn, rfl, rfl⟩ := call_plain h hc
  obtain ⟨x, t, rfl⟩ := len1 hn
  replace hi : (PyInside.each (PySu65.bound p).1 [x] && PyInside.lists (PySu65.bound p).2 []) = true := hi
  rw [hb, Bool.and_eq_true] at hi
  replace hi : (PyInside.within 0 4294967295 x && true) = true := hi.1
  rw [Bool.and_true] at hi
  obtain ⟨a, rfl, _⟩ := nat_of hi
  obtain ⟨j, y, rfl, hj, hA, hC⟩ := k a
  exact good_cons (p := [(j : Int), (a : Int)]) hA (by unfold chunk; rw [if_neg hj]; rfl) hC g
theorem one_2 {p : Int} {r : List Int} {c : List (List Int)} {t : List Int} {raw : List (List (List Int))} (h : PySu65.shape p = some (2, 0)) (hb : PySu65.bound p = ([(0, 4294967295), (0, 4294967295)], [])) (hc : PyFlat.call PySu65.shape (p :: r) = some (c, t)) (hi : PyInside.call PySu65.bound c = true) (g : Good t raw)
    (k : ∀ a b : Nat, ∃ (j : Nat) (x : Su65.Call), p = (j : Int) ∧ j ≠ 5 ∧ AnyCall j [a, b] [] x ∧ Su65Neutral.callOf ((PySu65.whole [[p, (a : Int), (b : Int)]]).headD []) = some x) : Good (p :: r) (c :: raw) := by
  obtain ⟨hn, rfl, rfl⟩ := call_plain h hc
  obtain ⟨x, y, t, rfl⟩ := len2 hn
  replace hi : (PyInside.each (PySu65.bound p).1 [x, y] && PyInside.lists (PySu65.bound p).2 []) = true := hi
  rw [hb, Bool.and_eq_true] at hi
  replace hi : (PyInside.within 0 4294967295 x && (PyInside.within 0 4294967295 y && true)) = true := hi.1
  rw [Bool.and_true, Bool.and_eq_true] at hi
  obtain ⟨a, rfl, _⟩ := nat_of hi.1
  obtain ⟨b, rfl, _⟩ := nat_of hi.2
  obtain ⟨j, z, rfl, hj, hA, hC⟩ := k a b
  exact good_cons (p := [(j : Int), (a : Int), (b : Int)]) hA (by unfold chunk; rw [if_neg hj]; rfl) hC g
theorem one_0 {p : Int} {r : List Int} {c : List (List Int)} {t : List Int} {raw : List (List (List Int))} (h : PySu65.shape p = some (0, 0)) (hc : PyFlat.call PySu65.shape (p :: r) = some (c, t)) (g : Good t raw)
    (k : ∃ (j : Nat) (x : Su65.Call), p = (j : Int) ∧ j ≠ 5 ∧ AnyCall j [] [] x ∧ Su65Neutral.callOf ((PySu65.whole [[p]]).headD []) = some x) : Good (p :: r) (c :: raw) := by
  obtain ⟨hn, rfl, rfl⟩ := call_plain h hc
  obtain ⟨j, z, rfl, hj, hA, hC⟩ := k
  exact good_cons (p := [(j : Int)]) hA (by unfold chunk; rw [if_neg hj]; rfl) hC g
theorem one_6 {r : List Int} {c : List (List Int)} {t : List Int} {raw : List (List (List Int))} (hc : PyFlat.call PySu65.shape (0 :: r) = some (c, t)) (hi : PyInside.call PySu65.bound c = true) (g : Good t raw) : Good (0 :: r) (c :: raw) := by
  obtain ⟨hn, rfl, rfl⟩ := call_plain (n := 6) rfl hc
  obtain ⟨a, b, c, d, e, f, t, rfl⟩ := len6 hn
  replace hi : ((PyInside.within 0 4294967295 a && (PyInside.within 0 4294967295 b && (PyInside.within 0 4294967295 c && (PyInside.within 0 4294967295 d && (PyInside.within 0 4294967295 e && (PyInside.within 0 4294967295 f && true)))))) && true) = true := hi
  simp only [Bool.and_true, Bool.and_eq_true] at hi
  obtain ⟨h1, h2, h3, h4, h5, h6⟩ := hi
  obtain ⟨a, rfl, ha⟩ := nat_of h1
  obtain ⟨b, rfl, hb⟩ := nat_of h2
  obtain ⟨c, rfl, h7⟩ := nat_of h3
  obtain ⟨d, rfl, _⟩ := nat_of h4
  obtain ⟨e, rfl, _⟩ := nat_of h5
  obtain ⟨f, rfl, _⟩ := nat_of h6
  exact good_cons (p := [0, (a : Int), (b : Int), (c : Int), (d : Int), (e : Int), (f : Int)]) (.begin_ a b c d e f ha hb h7) rfl rfl g
theorem one_row {r : List Int} {c : List (List Int)} {t : List Int} {raw : List (List (List Int))} (hc : PyFlat.call PySu65.shape (5 :: r) = some (c, t)) (hi : PyInside.call PySu65.bound c = true) (g : Good t raw) : Good (5 :: r) (c :: raw) := by
  have hc' : (match (match PyFlat.row r with | none => none | some (x, s) => some ([x], s)) with | none => none | some (xs, t) => some (([(5 : Int)]) :: xs, t)) = some (c, t) := hc
  cases r with
  | nil => cases hc'
  | cons n r =>
    have hr : PyFlat.row (n :: r) = if 0 ≤ n ∧ n.toNat ≤ r.length then some (r.take n.toNat, r.drop n.toNat) else none := rfl
    rw [hr] at hc'
    by_cases h : 0 ≤ n ∧ n.toNat ≤ r.length
    · rw [if_pos h] at hc'
      have e := Option.some.inj hc'
      have e1 : c = [[5], r.take n.toNat] := (congrArg Prod.fst e).symm
      have e2 : t = r.drop n.toNat := (congrArg Prod.snd e).symm
      subst e1 e2
      replace hi : (true && (decide (0 ≤ (r.take n.toNat).length) && decide ((r.take n.toNat).length ≤ 16) && (r.take n.toNat).all (PyInside.within 0 4294967295) && true)) = true := hi
      simp only [Bool.true_and, Bool.and_true, Bool.and_eq_true, decide_eq_true_eq] at hi
      obtain ⟨l, hl⟩ := nats_of hi.2
      have hlen : (r.take n.toNat).length = n.toNat := by rw [List.length_take]; omega
      have hll : l.length = n.toNat := by rw [← hlen, hl]; unfold toI; rw [List.length_map]
      have z := good_cons (p := 5 :: n :: r.take n.toNat) (c0 := [[5], r.take n.toNat]) (.row l (by omega)) (by
        unfold chunk
        rw [if_pos rfl, hl]
        show 5 :: n :: toI l = 5 :: ((l.length : Nat) : Int) :: toI l
        rw [hll]
        congr 2
        omega) (by
        show Su65Neutral.callOf (5 :: r.take n.toNat) = some (.row l)
        show some (Su65.Call.row ((r.take n.toNat).map Int.toNat)) = _
        rw [hl, toI_toNat]) g
      have e3 : (5 :: n :: r.take n.toNat) ++ r.drop n.toNat = 5 :: n :: r := by
        show 5 :: n :: (r.take n.toNat ++ r.drop n.toNat) = _
        rw [List.take_append_drop]
      rw [e3] at z
      exact z
    · rw [if_neg h] at hc'; cases hc'
theorem one {p : Int} {r : List Int} {c : List (List Int)} {t : List Int} {raw : List (List (List Int))} (hc : PyFlat.call PySu65.shape (p :: r) = some (c, t)) (hi : PyInside.call PySu65.bound c = true) (g : Good t raw) : Good (p :: r) (c :: raw) := by
  have hs : PySu65.shape p ≠ none := fun z => by
    replace hc : (match PySu65.shape p with | none => none | some (n, k) => if r.length < n then none else match PyFlat.rows k (r.drop n) with | none => none | some (xs, t) => some ((p :: r.take n) :: xs, t)) = some (c, t) := hc
    rw [z] at hc
    cases hc
  unfold PySu65.shape at hs
  by_cases h : p = 0
  · subst h; exact one_6 hc hi g
  rw [if_neg h] at hs; clear h
  by_cases h : p = 1
  · subst h; exact one_2 rfl rfl hc hi g fun a b => ⟨1, _, rfl, by decide, .roll (.roll a b), rfl⟩
  rw [if_neg h] at hs; clear h
  by_cases h : p = 2
  · subst h; exact one_2 rfl rfl hc hi g fun a b => ⟨2, _, rfl, by decide, .roll (.ply a b), rfl⟩
  rw [if_neg h] at hs; clear h
  by_cases h : p = 3
  · subst h; exact one_2 rfl rfl hc hi g fun a b => ⟨3, _, rfl, by decide, .ply (.lay a b), rfl⟩
  rw [if_neg h] at hs; clear h
  by_cases h : p = 4
  · subst h; exact one_1 rfl rfl hc hi g fun a => ⟨4, _, rfl, by decide, .ply (.lift a), rfl⟩
  rw [if_neg h] at hs; clear h
  by_cases h : p = 5
  · subst h; exact one_row hc hi g
  rw [if_neg h] at hs; clear h
  by_cases h : p = 6
  · subst h; exact one_1 rfl rfl hc hi g fun a => ⟨6, _, rfl, by decide, .ply (.least a), rfl⟩
  rw [if_neg h] at hs; clear h
  by_cases h : p = 7
  · subst h; exact one_1 rfl rfl hc hi g fun a => ⟨7, _, rfl, by decide, .ply (.best a), rfl⟩
  rw [if_neg h] at hs; clear h
  by_cases h : p = 8
  · subst h; exact one_2 rfl rfl hc hi g fun a b => ⟨8, _, rfl, by decide, .ply (.fits a b), rfl⟩
  rw [if_neg h] at hs; clear h
  by_cases h : p = 9
  · subst h; exact one_2 rfl rfl hc hi g fun a b => ⟨9, _, rfl, by decide, .ply (.near a b), rfl⟩
  rw [if_neg h] at hs; clear h
  by_cases h : p = 10
  · subst h; exact one_0 rfl hc g ⟨10, _, rfl, by decide, .all, rfl⟩
  rw [if_neg h] at hs; clear h
  by_cases h : p = 11
  · subst h; exact one_1 rfl rfl hc hi g fun a => ⟨11, _, rfl, by decide, .ply (.splices a), rfl⟩
  rw [if_neg h] at hs; clear h
  by_cases h : p = 12
  · subst h; exact one_1 rfl rfl hc hi g fun a => ⟨12, _, rfl, by decide, .ply (.where_ a), rfl⟩
  rw [if_neg h] at hs; clear h
  by_cases h : p = 13
  · subst h; exact one_2 rfl rfl hc hi g fun a b => ⟨13, _, rfl, by decide, .roll (.most a b), rfl⟩
  rw [if_neg h] at hs; clear h
  by_cases h : p = 14
  · subst h; exact one_1 rfl rfl hc hi g fun a => ⟨14, _, rfl, by decide, .roll (.piece a), rfl⟩
  rw [if_neg h] at hs; clear h
  by_cases h : p = 15
  · subst h; exact one_1 rfl rfl hc hi g fun a => ⟨15, _, rfl, by decide, .ply (.look a), rfl⟩
  rw [if_neg h] at hs; clear h
  by_cases h : p = 16
  · subst h; exact one_1 rfl rfl hc hi g fun a => ⟨16, _, rfl, by decide, .roll (.rest a), rfl⟩
  rw [if_neg h] at hs; clear h
  by_cases h : p = 17
  · subst h; exact one_2 rfl rfl hc hi g fun a b => ⟨17, _, rfl, by decide, .at_ a b, rfl⟩
  rw [if_neg h] at hs; clear h
  by_cases h : p = 18
  · subst h; exact one_0 rfl hc g ⟨18, _, rfl, by decide, .sums, rfl⟩
  rw [if_neg h] at hs; clear h
  by_cases h : p = 19
  · subst h; exact one_0 rfl hc g ⟨19, _, rfl, by decide, .state, rfl⟩
  rw [if_neg h] at hs
  exact absurd rfl hs
theorem parsed_of : ∀ (f : Nat) (l : List Int) (raw : List (List (List Int))), PyFlat.calls PySu65.shape f l = some raw → PyInside.calls PySu65.bound raw = true → Good l raw
  | _, [], raw, h, _ => by
    have e : raw = [] := by
      cases raw with
      | nil => rfl
      | cons c r => simp [PyFlat.calls] at h
    rw [e]; exact good_nil
  | 0, p :: r, raw, h, _ => by simp [PyFlat.calls] at h
  | f + 1, p :: r, raw, h, hi => by
    have h' : (match PyFlat.call PySu65.shape (p :: r) with | none => none | some (c, t) => match PyFlat.calls PySu65.shape f t with | none => none | some cs => some (c :: cs)) = some raw := by
      rw [← h]; rfl
    cases hc : PyFlat.call PySu65.shape (p :: r) with
    | none => rw [hc] at h'; cases h'
    | some ct =>
      obtain ⟨c, t⟩ := ct
      rw [hc] at h'
      replace h' : (match PyFlat.calls PySu65.shape f t with | none => none | some cs => some (c :: cs)) = some raw := h'
      cases hcs : PyFlat.calls PySu65.shape f t with
      | none => rw [hcs] at h'; cases h'
      | some cs =>
        rw [hcs] at h'
        have e : raw = c :: cs := (Option.some.inj h').symm
        subst e
        replace hi : (PyInside.call PySu65.bound c && cs.all (PyInside.call PySu65.bound)) = true := by
          have z : (c :: cs).all (PyInside.call PySu65.bound) = true := hi
          rw [List.all_cons] at z; exact z
        rw [Bool.and_eq_true] at hi
        exact one hc hi.1 (parsed_of f t cs hcs hi.2)
/-- what is asked, what is due -/
theorem asked_of {l : List Int} (h : PySu65.answers_asked l = true) : ∃ (ns : List Nat) (cs : List Su65.Call), l = toI ns ∧ Parsed ns cs ∧ cs.length ≤ 400 ∧ PySu65.answers l = outL none cs := by
  unfold PySu65.answers_asked at h
  cases hr : PyFlat.calls PySu65.shape l.length l with
  | none => rw [hr] at h; cases h
  | some raw =>
    rw [hr] at h
    replace h : (PyFlat.atMost 400 raw && PyInside.calls PySu65.bound raw && Su65Neutral.asked ((raw.map PySu65.whole).map fun c => c.headD [])) = true := h
    rw [Bool.and_eq_true, Bool.and_eq_true] at h
    obtain ⟨ns, cs, e, hP, hl, ho⟩ := parsed_of _ _ _ hr h.1.2
    refine ⟨ns, cs, e, hP, ?_, ?_⟩
    · rw [hl]; exact of_decide_eq_true h.1.1
    · unfold PySu65.answers PySu65.calls
      rw [hr]
      exact ho none
/-- no answer is long -/
theorem out_len {x : Abs} (w : WF x) {k : Nat} {ns l : List Nat} {c : Su65.Call} (h : AnyCall k ns l c) : (Su65.does x c).2.out.length ≤ 20 := by
  have hlaid := laid_len w
  have hsp : ∀ p, x.isP p = true → (x.ply p).splices.length ≤ 20 := fun p hp => (w.py _ (ply_mem (of_decide_eq_true hp))).len
  cases h with
  | begin_ a b c r d s => simp only [Su65.does]; split <;> exact Nat.zero_le _
  | ply h => cases h with
    | lay p t => simp only [Su65.does]; (repeat' split) <;> exact Nat.zero_le _
    | lift p => simp only [Su65.does]; (repeat' split) <;> exact Nat.zero_le _
    | least p => simp only [Su65.does]; (repeat' split) <;> exact Nat.zero_le _
    | best p => simp only [Su65.does]; (repeat' split) <;> first | exact Nat.zero_le _ | (show 1 ≤ 20; decide)
    | fits p t => simp only [Su65.does]; (repeat' split) <;> first | exact Nat.zero_le _ | (show 1 ≤ 20; decide)
    | near p q => simp only [Su65.does]; (repeat' split) <;> exact Nat.zero_le _
    | splices p =>
      simp only [Su65.does]
      split
      · exact Nat.zero_le _
      · rename_i hp; exact hsp p (by simpa using hp)
    | where_ p =>
      simp only [Su65.does]
      split
      · exact Nat.zero_le _
      · rename_i hp
        split
        · exact Nat.zero_le _
        · show (x.places p _).length ≤ 20
          unfold Abs.places
          rw [List.length_map]; exact hsp p (by simpa using hp)
    | look p => simp only [Su65.does]; (repeat' split) <;> first | exact Nat.zero_le _ | (show 3 ≤ 20; decide)
  | roll h => cases h with
    | roll a b => simp only [Su65.does]; (repeat' split) <;> exact Nat.zero_le _
    | ply r n => simp only [Su65.does]; (repeat' split) <;> first | exact Nat.zero_le _ | (show 1 ≤ 20; decide)
    | most r n => simp only [Su65.does]; (repeat' split) <;> first | exact Nat.zero_le _ | (show 1 ≤ 20; decide)
    | piece n => simp only [Su65.does]; (repeat' split) <;> first | exact Nat.zero_le _ | (show 2 ≤ 20; decide)
    | rest r => simp only [Su65.does]; (repeat' split) <;> first | exact Nat.zero_le _ | (show 2 ≤ 20; decide)
  | row l hl =>
    simp only [Su65.does]
    split
    · exact Nat.zero_le _
    · split
      · exact Nat.zero_le _
      · split
        · exact Nat.zero_le _
        · split
          · exact Nat.zero_le _
          · rename_i r hr
            show r.2.length ≤ 20
            rw [(wf_row l w hr).2.2.1]; omega
  | all => show x.laid.length ≤ 20; omega
  | at_ i n =>
    simp only [Su65.does]
    split
    · exact Nat.zero_le _
    · show (x.laid.filter _).length ≤ 20
      have := List.length_filter_le (fun p => (x.places p ((x.ply p).turn - 1)).any fun s => decide (x.gap s i ≤ n)) x.laid
      omega
  | sums => show 3 ≤ 20; decide
  | state => show 5 ≤ 20; decide
end Bp

/-! # The program by places, and what its top has written -/
namespace Bp
open PySem PySem.Spec PyProof.Rows L2
def top (i : Nat) : Stmt := PySem.Challenge.pw_biasplies_s01_answers.main.body.getD i (.Pass ⟨0, 0, 0, 0⟩)
abbrev s_apart : Stmt := top 1
abbrev s_with_turn : Stmt := top 2
abbrev s_nearness : Stmt := top 3
abbrev s_nearest : Stmt := top 4
abbrev s_least_turn : Stmt := top 5
abbrev s_best_turn : Stmt := top 6
abbrev s_Slant_init : Stmt := inClass (top 8) 0
abbrev s_cover : Stmt := inClass (top 8) 1
abbrev s_takes : Stmt := inClass (top 8) 2
abbrev s_pieces : Stmt := inClass (top 8) 3
abbrev s_begins : Stmt := top 9
abbrev s_Roll_init : Stmt := inClass (top 11) 0
abbrev s_Ply_init : Stmt := inClass (top 12) 0
abbrev s_is_laid : Stmt := inClass (top 12) 1
abbrev s_Store_init : Stmt := inClass (top 13) 0
abbrev s_drum_size : Stmt := inClass (top 13) 1
abbrev s_laid : Stmt := inClass (top 13) 2
abbrev s_places : Stmt := inClass (top 13) 3
abbrev s_near_others : Stmt := inClass (top 13) 4
abbrev s_between : Stmt := inClass (top 13) 5
abbrev s_nearest_of_all : Stmt := inClass (top 13) 6
abbrev s_cut : Stmt := inClass (top 13) 7
abbrev s_is_right : Stmt := top 14
abbrev s_new_store : Stmt := top 15
abbrev s_Ref_init : Stmt := inClass (top 38) 0
abbrev s_ask : Stmt := top 39
abbrev s_ask_range : Stmt := top 40
abbrev s_Desk_init : Stmt := inClass (top 41) 0
abbrev s_begin : Stmt := inClass (top 41) 1
abbrev s_roll_at : Stmt := inClass (top 41) 2
abbrev s_ply_at : Stmt := inClass (top 41) 3
abbrev s_ask_turn : Stmt := inClass (top 41) 4
abbrev s_put_roll : Stmt := inClass (top 41) 5
abbrev s_pieces_of : Stmt := inClass (top 41) 6
abbrev s_put_ply : Stmt := inClass (top 41) 7
abbrev s_lay : Stmt := inClass (top 41) 8
abbrev s_lift : Stmt := inClass (top 41) 9
abbrev s_row : Stmt := inClass (top 41) 10
abbrev s_lift_all : Stmt := inClass (top 41) 11
abbrev s_least : Stmt := inClass (top 41) 12
abbrev s_best : Stmt := inClass (top 41) 13
abbrev s_fits : Stmt := inClass (top 41) 14
abbrev s_near_two : Stmt := inClass (top 41) 15
abbrev s_where_ : Stmt := inClass (top 41) 16
abbrev s_at_place : Stmt := inClass (top 41) 17
abbrev s_most : Stmt := inClass (top 41) 18
abbrev s_piece : Stmt := inClass (top 41) 19
abbrev s_look : Stmt := inClass (top 41) 20
abbrev s_rest : Stmt := inClass (top 41) 21
abbrev s_sums : Stmt := inClass (top 41) 22
abbrev s_state : Stmt := inClass (top 41) 23
abbrev s_of_ply : Stmt := inClass (top 41) 24
abbrev s_of_roll : Stmt := inClass (top 41) 25
abbrev s_answer : Stmt := inClass (top 41) 26
abbrev s_answered : Stmt := top 42
abbrev s_answers : Stmt := top 43
theorem sc_apart : FnScope ["one", "other", "round_drum", "far"] ["one", "other", "round_drum"] (defScope s_apart) := ⟨rfl, rfl, rfl, by decide +kernel, rfl, by decide +kernel, by decide +kernel⟩
theorem sc_with_turn : FnScope ["splices", "turn", "round_drum", "place"] ["splices", "turn", "round_drum"] (defScope s_with_turn) := ⟨rfl, rfl, rfl, by decide +kernel, rfl, by decide +kernel, by decide +kernel⟩
theorem sc_nearness : FnScope ["places", "round_drum", "found", "place", "step", "here"] ["places", "round_drum"] (defScope s_nearness) := ⟨rfl, rfl, rfl, by decide +kernel, rfl, by decide +kernel, by decide +kernel⟩
theorem sc_nearest : FnScope ["splices", "turn", "near", "place"] ["splices", "turn", "near"] (defScope s_nearest) := ⟨rfl, rfl, rfl, by decide +kernel, rfl, by decide +kernel, by decide +kernel⟩
theorem sc_least_turn : FnScope ["splices", "near", "bound", "turn"] ["splices", "near", "bound"] (defScope s_least_turn) := ⟨rfl, rfl, rfl, by decide +kernel, rfl, by decide +kernel, by decide +kernel⟩
theorem sc_best_turn : FnScope ["splices", "near", "best", "most", "turn", "here"] ["splices", "near"] (defScope s_best_turn) := ⟨rfl, rfl, rfl, by decide +kernel, rfl, by decide +kernel, by decide +kernel⟩
theorem sc_Slant_init : FnScope ["self", "a", "c", "round_drum", "short"] ["self", "a", "c", "round_drum", "short"] (defScope s_Slant_init) := ⟨rfl, rfl, rfl, by decide +kernel, rfl, by decide +kernel, by decide +kernel⟩
theorem sc_cover : FnScope ["self", "wide"] ["self", "wide"] (defScope s_cover) := ⟨rfl, rfl, rfl, by decide +kernel, rfl, by decide +kernel, by decide +kernel⟩
theorem sc_takes : FnScope ["self", "wide"] ["self", "wide"] (defScope s_takes) := ⟨rfl, rfl, rfl, by decide +kernel, rfl, by decide +kernel, by decide +kernel⟩
theorem sc_pieces : FnScope ["self", "wide", "cover", "many", "last", "before"] ["self", "wide"] (defScope s_pieces) := ⟨rfl, rfl, rfl, by decide +kernel, rfl, by decide +kernel, by decide +kernel⟩
theorem sc_begins : FnScope ["pieces", "found", "at", "piece"] ["pieces"] (defScope s_begins) := ⟨rfl, rfl, rfl, by decide +kernel, rfl, by decide +kernel, by decide +kernel⟩
theorem sc_Roll_init : FnScope ["self", "wide", "long"] ["self", "wide", "long"] (defScope s_Roll_init) := ⟨rfl, rfl, rfl, by decide +kernel, rfl, by decide +kernel, by decide +kernel⟩
theorem sc_Ply_init : FnScope ["self", "roll", "wide", "splices"] ["self", "roll", "wide", "splices"] (defScope s_Ply_init) := ⟨rfl, rfl, rfl, by decide +kernel, rfl, by decide +kernel, by decide +kernel⟩
theorem sc_is_laid : FnScope ["self"] ["self"] (defScope s_is_laid) := ⟨rfl, rfl, rfl, by decide +kernel, rfl, by decide +kernel, by decide +kernel⟩
theorem sc_Store_init : FnScope ["self", "slant", "near"] ["self", "slant", "near"] (defScope s_Store_init) := ⟨rfl, rfl, rfl, by decide +kernel, rfl, by decide +kernel, by decide +kernel⟩
theorem sc_drum_size : FnScope ["self"] ["self"] (defScope s_drum_size) := ⟨rfl, rfl, rfl, by decide +kernel, rfl, by decide +kernel, by decide +kernel⟩
theorem sc_laid : FnScope ["self", "k", "ply"] ["self"] (defScope s_laid) := ⟨rfl, rfl, rfl, by decide +kernel, rfl, by decide +kernel, by decide +kernel⟩
theorem sc_places : FnScope ["self", "k", "ply"] ["self", "k"] (defScope s_places) := ⟨rfl, rfl, rfl, by decide +kernel, rfl, by decide +kernel, by decide +kernel⟩
theorem sc_near_others : FnScope ["self", "k", "places", "other"] ["self", "k"] (defScope s_near_others) := ⟨rfl, rfl, rfl, by decide +kernel, rfl, by decide +kernel, by decide +kernel⟩
theorem sc_between : FnScope ["self", "one", "other", "near", "ply"] ["self", "one", "other"] (defScope s_between) := ⟨rfl, rfl, rfl, by decide +kernel, rfl, by decide +kernel, by decide +kernel⟩
theorem sc_nearest_of_all : FnScope ["self", "found", "k", "ply"] ["self"] (defScope s_nearest_of_all) := ⟨rfl, rfl, rfl, by decide +kernel, rfl, by decide +kernel, by decide +kernel⟩
theorem sc_cut : FnScope ["self", "number", "wide", "pieces", "roll"] ["self", "number", "wide", "pieces"] (defScope s_cut) := ⟨rfl, rfl, rfl, by decide +kernel, rfl, by decide +kernel, by decide +kernel⟩
theorem sc_is_right : FnScope ["a", "b", "c"] ["a", "b", "c"] (defScope s_is_right) := ⟨rfl, rfl, rfl, by decide +kernel, rfl, by decide +kernel, by decide +kernel⟩
theorem sc_new_store : FnScope ["a", "c", "round_drum", "near", "short"] ["a", "c", "round_drum", "near", "short"] (defScope s_new_store) := ⟨rfl, rfl, rfl, by decide +kernel, rfl, by decide +kernel, by decide +kernel⟩
theorem sc_Ref_init : FnScope ["self", "refusal"] ["self", "refusal"] (defScope s_Ref_init) := ⟨rfl, rfl, rfl, by decide +kernel, rfl, by decide +kernel, by decide +kernel⟩
theorem sc_ask : FnScope ["good", "refusal"] ["good", "refusal"] (defScope s_ask) := ⟨rfl, rfl, rfl, by decide +kernel, rfl, by decide +kernel, by decide +kernel⟩
theorem sc_ask_range : FnScope ["number", "least", "most"] ["number", "least", "most"] (defScope s_ask_range) := ⟨rfl, rfl, rfl, by decide +kernel, rfl, by decide +kernel, by decide +kernel⟩
theorem sc_Desk_init : FnScope ["self"] ["self"] (defScope s_Desk_init) := ⟨rfl, rfl, rfl, by decide +kernel, rfl, by decide +kernel, by decide +kernel⟩
theorem sc_begin : FnScope ["self", "numbers", "a", "b", "c", "round_drum", "near", "short"] ["self", "numbers"] (defScope s_begin) := ⟨rfl, rfl, rfl, by decide +kernel, rfl, by decide +kernel, by decide +kernel⟩
theorem sc_roll_at : FnScope ["self", "r"] ["self", "r"] (defScope s_roll_at) := ⟨rfl, rfl, rfl, by decide +kernel, rfl, by decide +kernel, by decide +kernel⟩
theorem sc_ply_at : FnScope ["self", "p"] ["self", "p"] (defScope s_ply_at) := ⟨rfl, rfl, rfl, by decide +kernel, rfl, by decide +kernel, by decide +kernel⟩
theorem sc_ask_turn : FnScope ["self", "turn"] ["self", "turn"] (defScope s_ask_turn) := ⟨rfl, rfl, rfl, by decide +kernel, rfl, by decide +kernel, by decide +kernel⟩
theorem sc_put_roll : FnScope ["self", "wide", "long"] ["self", "wide", "long"] (defScope s_put_roll) := ⟨rfl, rfl, rfl, by decide +kernel, rfl, by decide +kernel, by decide +kernel⟩
theorem sc_pieces_of : FnScope ["self", "wide", "found"] ["self", "wide"] (defScope s_pieces_of) := ⟨rfl, rfl, rfl, by decide +kernel, rfl, by decide +kernel, by decide +kernel⟩
theorem sc_put_ply : FnScope ["self", "r", "wide", "roll", "pieces"] ["self", "r", "wide"] (defScope s_put_ply) := ⟨rfl, rfl, rfl, by decide +kernel, rfl, by decide +kernel, by decide +kernel⟩
theorem sc_lay : FnScope ["self", "p", "turn", "ply"] ["self", "p", "turn"] (defScope s_lay) := ⟨rfl, rfl, rfl, by decide +kernel, rfl, by decide +kernel, by decide +kernel⟩
theorem sc_lift : FnScope ["self", "p", "ply", "turn"] ["self", "p"] (defScope s_lift) := ⟨rfl, rfl, rfl, by decide +kernel, rfl, by decide +kernel, by decide +kernel⟩
theorem sc_row : FnScope ["self", "plies", "p", "turns", "ply"] ["self", "plies"] (defScope s_row) := ⟨rfl, rfl, rfl, by decide +kernel, rfl, by decide +kernel, by decide +kernel⟩
theorem sc_lift_all : FnScope ["self", "plies", "p", "ply"] ["self", "plies"] (defScope s_lift_all) := ⟨rfl, rfl, rfl, by decide +kernel, rfl, by decide +kernel, by decide +kernel⟩
theorem sc_least : FnScope ["self", "p", "ply", "turn"] ["self", "p"] (defScope s_least) := ⟨rfl, rfl, rfl, by decide +kernel, rfl, by decide +kernel, by decide +kernel⟩
theorem sc_best : FnScope ["self", "p", "ply", "k"] ["self", "p"] (defScope s_best) := ⟨rfl, rfl, rfl, by decide +kernel, rfl, by decide +kernel, by decide +kernel⟩
theorem sc_fits : FnScope ["self", "p", "turn", "ply", "found"] ["self", "p", "turn"] (defScope s_fits) := ⟨rfl, rfl, rfl, by decide +kernel, rfl, by decide +kernel, by decide +kernel⟩
theorem sc_near_two : FnScope ["self", "p", "q", "one", "other"] ["self", "p", "q"] (defScope s_near_two) := ⟨rfl, rfl, rfl, by decide +kernel, rfl, by decide +kernel, by decide +kernel⟩
theorem sc_where_ : FnScope ["self", "p", "ply"] ["self", "p"] (defScope s_where_) := ⟨rfl, rfl, rfl, by decide +kernel, rfl, by decide +kernel, by decide +kernel⟩
theorem sc_at_place : FnScope ["self", "place", "far", "found", "k", "other"] ["self", "place", "far"] (defScope s_at_place) := ⟨rfl, rfl, rfl, by decide +kernel, rfl, by decide +kernel, by decide +kernel⟩
theorem sc_most : FnScope ["self", "r", "wide", "roll", "takes"] ["self", "r", "wide"] (defScope s_most) := ⟨rfl, rfl, rfl, by decide +kernel, rfl, by decide +kernel, by decide +kernel⟩
theorem sc_piece : FnScope ["self", "wide", "pieces"] ["self", "wide"] (defScope s_piece) := ⟨rfl, rfl, rfl, by decide +kernel, rfl, by decide +kernel, by decide +kernel⟩
theorem sc_look : FnScope ["self", "p", "ply", "turn"] ["self", "p"] (defScope s_look) := ⟨rfl, rfl, rfl, by decide +kernel, rfl, by decide +kernel, by decide +kernel⟩
theorem sc_rest : FnScope ["self", "r", "roll"] ["self", "r"] (defScope s_rest) := ⟨rfl, rfl, rfl, by decide +kernel, rfl, by decide +kernel, by decide +kernel⟩
theorem sc_sums : FnScope ["self", "long", "left", "roll"] ["self"] (defScope s_sums) := ⟨rfl, rfl, rfl, by decide +kernel, rfl, by decide +kernel, by decide +kernel⟩
theorem sc_state : FnScope ["self", "store", "row"] ["self"] (defScope s_state) := ⟨rfl, rfl, rfl, by decide +kernel, rfl, by decide +kernel, by decide +kernel⟩
theorem sc_of_ply : FnScope ["self", "call", "numbers", "splices"] ["self", "call", "numbers"] (defScope s_of_ply) := ⟨rfl, rfl, rfl, by decide +kernel, rfl, by decide +kernel, by decide +kernel⟩
theorem sc_of_roll : FnScope ["self", "call", "numbers"] ["self", "call", "numbers"] (defScope s_of_roll) := ⟨rfl, rfl, rfl, by decide +kernel, rfl, by decide +kernel, by decide +kernel⟩
theorem sc_answer : FnScope ["self", "call", "numbers", "plies"] ["self", "call", "numbers", "plies"] (defScope s_answer) := ⟨rfl, rfl, rfl, by decide +kernel, rfl, by decide +kernel, by decide +kernel⟩
theorem sc_answered : FnScope ["desk", "call", "numbers", "plies", "error"] ["desk", "call", "numbers", "plies"] (defScope s_answered) := ⟨rfl, rfl, rfl, by decide +kernel, rfl, by decide +kernel, by decide +kernel⟩
theorem sc_answers : FnScope ["calls", "desk", "found", "at", "call", "behind", "numbers", "plies", "there"] ["calls"] (defScope s_answers) := ⟨rfl, rfl, rfl, by decide +kernel, rfl, by decide +kernel, by decide +kernel⟩
/-- where the classes and defs stand -/
structure Ad where
  (cSlant cRoll cPly cStore cDesk cRef : Addr)
  f_apart : Addr
  d_apart : FuncData
  f_with_turn : Addr
  d_with_turn : FuncData
  f_nearness : Addr
  d_nearness : FuncData
  f_nearest : Addr
  d_nearest : FuncData
  f_least_turn : Addr
  d_least_turn : FuncData
  f_best_turn : Addr
  d_best_turn : FuncData
  f_Slant_init : Addr
  d_Slant_init : FuncData
  f_cover : Addr
  d_cover : FuncData
  f_takes : Addr
  d_takes : FuncData
  f_pieces : Addr
  d_pieces : FuncData
  f_begins : Addr
  d_begins : FuncData
  f_Roll_init : Addr
  d_Roll_init : FuncData
  f_Ply_init : Addr
  d_Ply_init : FuncData
  f_is_laid : Addr
  d_is_laid : FuncData
  f_Store_init : Addr
  d_Store_init : FuncData
  f_drum_size : Addr
  d_drum_size : FuncData
  f_laid : Addr
  d_laid : FuncData
  f_places : Addr
  d_places : FuncData
  f_near_others : Addr
  d_near_others : FuncData
  f_between : Addr
  d_between : FuncData
  f_nearest_of_all : Addr
  d_nearest_of_all : FuncData
  f_cut : Addr
  d_cut : FuncData
  f_is_right : Addr
  d_is_right : FuncData
  f_new_store : Addr
  d_new_store : FuncData
  f_Ref_init : Addr
  d_Ref_init : FuncData
  f_ask : Addr
  d_ask : FuncData
  f_ask_range : Addr
  d_ask_range : FuncData
  f_Desk_init : Addr
  d_Desk_init : FuncData
  f_begin : Addr
  d_begin : FuncData
  f_roll_at : Addr
  d_roll_at : FuncData
  f_ply_at : Addr
  d_ply_at : FuncData
  f_ask_turn : Addr
  d_ask_turn : FuncData
  f_put_roll : Addr
  d_put_roll : FuncData
  f_pieces_of : Addr
  d_pieces_of : FuncData
  f_put_ply : Addr
  d_put_ply : FuncData
  f_lay : Addr
  d_lay : FuncData
  f_lift : Addr
  d_lift : FuncData
  f_row : Addr
  d_row : FuncData
  f_lift_all : Addr
  d_lift_all : FuncData
  f_least : Addr
  d_least : FuncData
  f_best : Addr
  d_best : FuncData
  f_fits : Addr
  d_fits : FuncData
  f_near_two : Addr
  d_near_two : FuncData
  f_where_ : Addr
  d_where_ : FuncData
  f_at_place : Addr
  d_at_place : FuncData
  f_most : Addr
  d_most : FuncData
  f_piece : Addr
  d_piece : FuncData
  f_look : Addr
  d_look : FuncData
  f_rest : Addr
  d_rest : FuncData
  f_sums : Addr
  d_sums : FuncData
  f_state : Addr
  d_state : FuncData
  f_of_ply : Addr
  d_of_ply : FuncData
  f_of_roll : Addr
  d_of_roll : FuncData
  f_answer : Addr
  d_answer : FuncData
  f_answered : Addr
  d_answered : FuncData
  f_answers : Addr
  d_answers : FuncData
structure Txt (K : PySem.W.Frag) (mg : Str → Option Value) (A : Ad) : Prop where
  F_apart : Fun K "apart" "apart" s_apart A.f_apart A.d_apart
  b_apart : Binds K A.d_apart ["one", "other", "round_drum"] []
  g_apart : mg "apart" = some (.ref A.f_apart)
  F_with_turn : Fun K "with_turn" "with_turn" s_with_turn A.f_with_turn A.d_with_turn
  b_with_turn : Binds K A.d_with_turn ["splices", "turn", "round_drum"] []
  g_with_turn : mg "with_turn" = some (.ref A.f_with_turn)
  F_nearness : Fun K "nearness" "nearness" s_nearness A.f_nearness A.d_nearness
  b_nearness : Binds K A.d_nearness ["places", "round_drum"] []
  g_nearness : mg "nearness" = some (.ref A.f_nearness)
  F_nearest : Fun K "nearest" "nearest" s_nearest A.f_nearest A.d_nearest
  b_nearest : Binds K A.d_nearest ["splices", "turn", "near"] []
  g_nearest : mg "nearest" = some (.ref A.f_nearest)
  F_least_turn : Fun K "least_turn" "least_turn" s_least_turn A.f_least_turn A.d_least_turn
  b_least_turn : Binds K A.d_least_turn ["splices", "near", "bound"] []
  g_least_turn : mg "least_turn" = some (.ref A.f_least_turn)
  F_best_turn : Fun K "best_turn" "best_turn" s_best_turn A.f_best_turn A.d_best_turn
  b_best_turn : Binds K A.d_best_turn ["splices", "near"] []
  g_best_turn : mg "best_turn" = some (.ref A.f_best_turn)
  F_Slant_init : Fun K "__init__" "Slant.__init__" s_Slant_init A.f_Slant_init A.d_Slant_init
  b_Slant_init : Binds K A.d_Slant_init ["self", "a", "c", "round_drum", "short"] []
  F_cover : Fun K "cover" "Slant.cover" s_cover A.f_cover A.d_cover
  b_cover : Binds K A.d_cover ["self", "wide"] []
  m_cover : Meth K A.cSlant "cover" A.f_cover
  F_takes : Fun K "takes" "Slant.takes" s_takes A.f_takes A.d_takes
  b_takes : Binds K A.d_takes ["self", "wide"] []
  m_takes : Meth K A.cSlant "takes" A.f_takes
  F_pieces : Fun K "pieces" "Slant.pieces" s_pieces A.f_pieces A.d_pieces
  b_pieces : Binds K A.d_pieces ["self", "wide"] []
  m_pieces : Meth K A.cSlant "pieces" A.f_pieces
  F_begins : Fun K "begins" "begins" s_begins A.f_begins A.d_begins
  b_begins : Binds K A.d_begins ["pieces"] []
  g_begins : mg "begins" = some (.ref A.f_begins)
  F_Roll_init : Fun K "__init__" "Roll.__init__" s_Roll_init A.f_Roll_init A.d_Roll_init
  b_Roll_init : Binds K A.d_Roll_init ["self", "wide", "long"] []
  F_Ply_init : Fun K "__init__" "Ply.__init__" s_Ply_init A.f_Ply_init A.d_Ply_init
  b_Ply_init : Binds K A.d_Ply_init ["self", "roll", "wide", "splices"] []
  F_is_laid : Fun K "is_laid" "Ply.is_laid" s_is_laid A.f_is_laid A.d_is_laid
  b_is_laid : Binds K A.d_is_laid ["self"] []
  m_is_laid : Meth K A.cPly "is_laid" A.f_is_laid
  F_Store_init : Fun K "__init__" "Store.__init__" s_Store_init A.f_Store_init A.d_Store_init
  b_Store_init : Binds K A.d_Store_init ["self", "slant", "near"] []
  F_drum_size : Fun K "drum_size" "Store.drum_size" s_drum_size A.f_drum_size A.d_drum_size
  b_drum_size : Binds K A.d_drum_size ["self"] []
  m_drum_size : Meth K A.cStore "drum_size" A.f_drum_size
  F_laid : Fun K "laid" "Store.laid" s_laid A.f_laid A.d_laid
  b_laid : Binds K A.d_laid ["self"] []
  m_laid : Meth K A.cStore "laid" A.f_laid
  F_places : Fun K "places" "Store.places" s_places A.f_places A.d_places
  b_places : Binds K A.d_places ["self", "k"] []
  m_places : Meth K A.cStore "places" A.f_places
  F_near_others : Fun K "near_others" "Store.near_others" s_near_others A.f_near_others A.d_near_others
  b_near_others : Binds K A.d_near_others ["self", "k"] []
  m_near_others : Meth K A.cStore "near_others" A.f_near_others
  F_between : Fun K "between" "Store.between" s_between A.f_between A.d_between
  b_between : Binds K A.d_between ["self", "one", "other"] []
  m_between : Meth K A.cStore "between" A.f_between
  F_nearest_of_all : Fun K "nearest_of_all" "Store.nearest_of_all" s_nearest_of_all A.f_nearest_of_all A.d_nearest_of_all
  b_nearest_of_all : Binds K A.d_nearest_of_all ["self"] []
  m_nearest_of_all : Meth K A.cStore "nearest_of_all" A.f_nearest_of_all
  F_cut : Fun K "cut" "Store.cut" s_cut A.f_cut A.d_cut
  b_cut : Binds K A.d_cut ["self", "number", "wide", "pieces"] []
  m_cut : Meth K A.cStore "cut" A.f_cut
  F_is_right : Fun K "is_right" "is_right" s_is_right A.f_is_right A.d_is_right
  b_is_right : Binds K A.d_is_right ["a", "b", "c"] []
  g_is_right : mg "is_right" = some (.ref A.f_is_right)
  F_new_store : Fun K "new_store" "new_store" s_new_store A.f_new_store A.d_new_store
  b_new_store : Binds K A.d_new_store ["a", "c", "round_drum", "near", "short"] []
  g_new_store : mg "new_store" = some (.ref A.f_new_store)
  F_Ref_init : Fun K "__init__" "Refused.__init__" s_Ref_init A.f_Ref_init A.d_Ref_init
  b_Ref_init : Binds K A.d_Ref_init ["self", "refusal"] []
  F_ask : Fun K "ask" "ask" s_ask A.f_ask A.d_ask
  b_ask : Binds K A.d_ask ["good", "refusal"] []
  g_ask : mg "ask" = some (.ref A.f_ask)
  F_ask_range : Fun K "ask_range" "ask_range" s_ask_range A.f_ask_range A.d_ask_range
  b_ask_range : Binds K A.d_ask_range ["number", "least", "most"] []
  g_ask_range : mg "ask_range" = some (.ref A.f_ask_range)
  F_Desk_init : Fun K "__init__" "Desk.__init__" s_Desk_init A.f_Desk_init A.d_Desk_init
  b_Desk_init : Binds K A.d_Desk_init ["self"] []
  F_begin : Fun K "begin" "Desk.begin" s_begin A.f_begin A.d_begin
  b_begin : Binds K A.d_begin ["self", "numbers"] []
  m_begin : Meth K A.cDesk "begin" A.f_begin
  F_roll_at : Fun K "roll_at" "Desk.roll_at" s_roll_at A.f_roll_at A.d_roll_at
  b_roll_at : Binds K A.d_roll_at ["self", "r"] []
  m_roll_at : Meth K A.cDesk "roll_at" A.f_roll_at
  F_ply_at : Fun K "ply_at" "Desk.ply_at" s_ply_at A.f_ply_at A.d_ply_at
  b_ply_at : Binds K A.d_ply_at ["self", "p"] []
  m_ply_at : Meth K A.cDesk "ply_at" A.f_ply_at
  F_ask_turn : Fun K "ask_turn" "Desk.ask_turn" s_ask_turn A.f_ask_turn A.d_ask_turn
  b_ask_turn : Binds K A.d_ask_turn ["self", "turn"] []
  m_ask_turn : Meth K A.cDesk "ask_turn" A.f_ask_turn
  F_put_roll : Fun K "put_roll" "Desk.put_roll" s_put_roll A.f_put_roll A.d_put_roll
  b_put_roll : Binds K A.d_put_roll ["self", "wide", "long"] []
  m_put_roll : Meth K A.cDesk "put_roll" A.f_put_roll
  F_pieces_of : Fun K "pieces_of" "Desk.pieces_of" s_pieces_of A.f_pieces_of A.d_pieces_of
  b_pieces_of : Binds K A.d_pieces_of ["self", "wide"] []
  m_pieces_of : Meth K A.cDesk "pieces_of" A.f_pieces_of
  F_put_ply : Fun K "put_ply" "Desk.put_ply" s_put_ply A.f_put_ply A.d_put_ply
  b_put_ply : Binds K A.d_put_ply ["self", "r", "wide"] []
  m_put_ply : Meth K A.cDesk "put_ply" A.f_put_ply
  F_lay : Fun K "lay" "Desk.lay" s_lay A.f_lay A.d_lay
  b_lay : Binds K A.d_lay ["self", "p", "turn"] []
  m_lay : Meth K A.cDesk "lay" A.f_lay
  F_lift : Fun K "lift" "Desk.lift" s_lift A.f_lift A.d_lift
  b_lift : Binds K A.d_lift ["self", "p"] []
  m_lift : Meth K A.cDesk "lift" A.f_lift
  F_row : Fun K "row" "Desk.row" s_row A.f_row A.d_row
  b_row : Binds K A.d_row ["self", "plies"] []
  m_row : Meth K A.cDesk "row" A.f_row
  F_lift_all : Fun K "lift_all" "Desk.lift_all" s_lift_all A.f_lift_all A.d_lift_all
  b_lift_all : Binds K A.d_lift_all ["self", "plies"] []
  m_lift_all : Meth K A.cDesk "lift_all" A.f_lift_all
  F_least : Fun K "least" "Desk.least" s_least A.f_least A.d_least
  b_least : Binds K A.d_least ["self", "p"] []
  m_least : Meth K A.cDesk "least" A.f_least
  F_best : Fun K "best" "Desk.best" s_best A.f_best A.d_best
  b_best : Binds K A.d_best ["self", "p"] []
  m_best : Meth K A.cDesk "best" A.f_best
  F_fits : Fun K "fits" "Desk.fits" s_fits A.f_fits A.d_fits
  b_fits : Binds K A.d_fits ["self", "p", "turn"] []
  m_fits : Meth K A.cDesk "fits" A.f_fits
  F_near_two : Fun K "near_two" "Desk.near_two" s_near_two A.f_near_two A.d_near_two
  b_near_two : Binds K A.d_near_two ["self", "p", "q"] []
  m_near_two : Meth K A.cDesk "near_two" A.f_near_two
  F_where_ : Fun K "where" "Desk.where" s_where_ A.f_where_ A.d_where_
  b_where_ : Binds K A.d_where_ ["self", "p"] []
  m_where_ : Meth K A.cDesk "where" A.f_where_
  F_at_place : Fun K "at_place" "Desk.at_place" s_at_place A.f_at_place A.d_at_place
  b_at_place : Binds K A.d_at_place ["self", "place", "far"] []
  m_at_place : Meth K A.cDesk "at_place" A.f_at_place
  F_most : Fun K "most" "Desk.most" s_most A.f_most A.d_most
  b_most : Binds K A.d_most ["self", "r", "wide"] []
  m_most : Meth K A.cDesk "most" A.f_most
  F_piece : Fun K "piece" "Desk.piece" s_piece A.f_piece A.d_piece
  b_piece : Binds K A.d_piece ["self", "wide"] []
  m_piece : Meth K A.cDesk "piece" A.f_piece
  F_look : Fun K "look" "Desk.look" s_look A.f_look A.d_look
  b_look : Binds K A.d_look ["self", "p"] []
  m_look : Meth K A.cDesk "look" A.f_look
  F_rest : Fun K "rest" "Desk.rest" s_rest A.f_rest A.d_rest
  b_rest : Binds K A.d_rest ["self", "r"] []
  m_rest : Meth K A.cDesk "rest" A.f_rest
  F_sums : Fun K "sums" "Desk.sums" s_sums A.f_sums A.d_sums
  b_sums : Binds K A.d_sums ["self"] []
  m_sums : Meth K A.cDesk "sums" A.f_sums
  F_state : Fun K "state" "Desk.state" s_state A.f_state A.d_state
  b_state : Binds K A.d_state ["self"] []
  m_state : Meth K A.cDesk "state" A.f_state
  F_of_ply : Fun K "of_ply" "Desk.of_ply" s_of_ply A.f_of_ply A.d_of_ply
  b_of_ply : Binds K A.d_of_ply ["self", "call", "numbers"] []
  m_of_ply : Meth K A.cDesk "of_ply" A.f_of_ply
  F_of_roll : Fun K "of_roll" "Desk.of_roll" s_of_roll A.f_of_roll A.d_of_roll
  b_of_roll : Binds K A.d_of_roll ["self", "call", "numbers"] []
  m_of_roll : Meth K A.cDesk "of_roll" A.f_of_roll
  F_answer : Fun K "answer" "Desk.answer" s_answer A.f_answer A.d_answer
  b_answer : Binds K A.d_answer ["self", "call", "numbers", "plies"] []
  m_answer : Meth K A.cDesk "answer" A.f_answer
  F_answered : Fun K "answered" "answered" s_answered A.f_answered A.d_answered
  b_answered : Binds K A.d_answered ["desk", "call", "numbers", "plies"] []
  g_answered : mg "answered" = some (.ref A.f_answered)
  F_answers : Fun K "answers" "answers" s_answers A.f_answers A.d_answers
  b_answers : Binds K A.d_answers ["calls"] []
  g_answers : mg "answers" = some (.ref A.f_answers)
  cl_Slant : Cls K A.cSlant
  mk_Slant : Mk K A.cSlant A.f_Slant_init
  g_Slant : mg "Slant" = some (.ref A.cSlant)
  n_Slant_a : NoAttr K A.cSlant "a"
  n_Slant_c : NoAttr K A.cSlant "c"
  n_Slant_round_drum : NoAttr K A.cSlant "round_drum"
  n_Slant_short : NoAttr K A.cSlant "short"
  cl_Roll : Cls K A.cRoll
  mk_Roll : Mk K A.cRoll A.f_Roll_init
  g_Roll : mg "Roll" = some (.ref A.cRoll)
  n_Roll_wide : NoAttr K A.cRoll "wide"
  n_Roll_long : NoAttr K A.cRoll "long"
  n_Roll_left : NoAttr K A.cRoll "left"
  cl_Ply : Cls K A.cPly
  mk_Ply : Mk K A.cPly A.f_Ply_init
  g_Ply : mg "Ply" = some (.ref A.cPly)
  n_Ply_roll : NoAttr K A.cPly "roll"
  n_Ply_wide : NoAttr K A.cPly "wide"
  n_Ply_splices : NoAttr K A.cPly "splices"
  n_Ply_turn : NoAttr K A.cPly "turn"
  cl_Store : Cls K A.cStore
  mk_Store : Mk K A.cStore A.f_Store_init
  g_Store : mg "Store" = some (.ref A.cStore)
  n_Store_slant : NoAttr K A.cStore "slant"
  n_Store_near : NoAttr K A.cStore "near"
  n_Store_rolls : NoAttr K A.cStore "rolls"
  n_Store_plies : NoAttr K A.cStore "plies"
  cl_Desk : Cls K A.cDesk
  mk_Desk : Mk K A.cDesk A.f_Desk_init
  g_Desk : mg "Desk" = some (.ref A.cDesk)
  n_Desk_store : NoAttr K A.cDesk "store"
  ox : OexC K A.cRef
  xf : XfC K A.cRef
  nx : PySem.W.findIn K (.ref A.cRef) "refusal" = some none
  iC : PySem.W.findIn K (.ref A.cRef) "__init__" = some (some (.ref A.f_Ref_init))
  tI : PySem.W.typeIn K (.ref A.f_Ref_init) = some (.type "function")
  gC : mg "Refused" = some (.ref A.cRef)
  te : PySem.W.exmOne K (.ref A.cRef) (.ref A.cRef) = some true
  k_GREATEST_SIDE : ∃ t, mg "GREATEST_SIDE" = some (.int (1000) t)
  k_LEAST_ROUND : ∃ t, mg "LEAST_ROUND" = some (.int (100) t)
  k_MOST_ROUND : ∃ t, mg "MOST_ROUND" = some (.int (1500) t)
  k_MOST_NEAR : ∃ t, mg "MOST_NEAR" = some (.int (500) t)
  k_MOST_SHORT : ∃ t, mg "MOST_SHORT" = some (.int (200) t)
  k_LEAST_ROLL : ∃ t, mg "LEAST_ROLL" = some (.int (150) t)
  k_WIDEST : ∃ t, mg "WIDEST" = some (.int (2000) t)
  k_LONGEST : ∃ t, mg "LONGEST" = some (.int (1000000) t)
  k_MOST_ROLLS : ∃ t, mg "MOST_ROLLS" = some (.int (10) t)
  k_MOST_PLIES : ∃ t, mg "MOST_PLIES" = some (.int (12) t)
  k_NONE_SUCH : ∃ t, mg "NONE_SUCH" = some (.int (-2) t)
  k_NOT_LAID : ∃ t, mg "NOT_LAID" = some (.int (-6) t)
  k_NOT_BEGUN : ∃ t, mg "NOT_BEGUN" = some (.int (-11) t)
  k_TOO_LITTLE : ∃ t, mg "TOO_LITTLE" = some (.int (-12) t)
  k_ALREADY : ∃ t, mg "ALREADY" = some (.int (-17) t)
  k_OUT_OF_RANGE : ∃ t, mg "OUT_OF_RANGE" = some (.int (-22) t)
  k_TOO_MANY : ∃ t, mg "TOO_MANY" = some (.int (-28) t)
  k_CANNOT : ∃ t, mg "CANNOT" = some (.int (-33) t)
  k_TOO_NEAR : ∃ t, mg "TOO_NEAR" = some (.int (-40) t)
  k_ROW : ∃ t, mg "ROW" = some (.int (5) t)
  many : ∃ p, mg "MANY_NUMBERS" = some (.ref p) ∧ ∀ H : Hp, SqT K H p [.int 6, .int 2, .int 2, .int 2, .int 1, .int 0, .int 1, .int 1, .int 2, .int 2, .int 0, .int 1, .int 1, .int 2, .int 1, .int 1, .int 1, .int 2, .int 0, .int 0]
  z_len : mg "len" = none
  z_min : mg "min" = none
  z_range : mg "range" = none
  z_enumerate : mg "enumerate" = none
  z_set : mg "set" = none
  z_int : mg "int" = none
  z_list : mg "list" = none
  z_sum : mg "sum" = none
end Bp

/-! # The heap: how a store lies in it -/
namespace Bp
open PySem PySem.Spec PyProof.Rows L2
open Su65 (Abs Ply Roll)
abbrev vn (n : Nat) : V := .int (n : Int)
def nums (l : List Nat) : List V := l.map vn
theorem nums_len (l : List Nat) : (nums l).length = l.length := List.length_map _
theorem nums_get {l : List Nat} {i : Nat} {x : V} (h : (nums l)[i]? = some x) : ∃ n, l[i]? = some n ∧ x = vn n := by
  unfold nums at h
  rw [List.getElem?_map] at h
  cases e : l[i]? with
  | none => rw [e] at h; cases h
  | some n => rw [e] at h; exact ⟨n, rfl, (Option.some.inj h).symm⟩
theorem nums_at {l : List Nat} {i n : Nat} (h : l[i]? = some n) : (nums l)[i]? = some (vn n) := by
  unfold nums; rw [List.getElem?_map, h]; rfl
theorem nums_int (l : List Nat) : nums l = (l.map fun (n : Nat) => (n : Int)).map V.int := by
  unfold nums; rw [List.map_map]; rfl
theorem nums_app (l m : List Nat) : nums (l ++ m) = nums l ++ nums m := List.map_append
theorem nums_set (l : List Nat) (i n : Nat) : nums (l.set i n) = (nums l).set i (vn n) := List.map_set
theorem at_nat {l : List Nat} {i : Nat} (h : i < l.length) : atI (nums l) (i : Int) = some (vn (l.getD i 0)) := by
  refine atI_nat (nums_at ?_)
  rw [List.getD_eq_getElem?_getD, List.getElem?_eq_getElem h]; rfl
theorem at_mem {l : List Nat} {i n : Nat} (h : l[i]? = some n) : n ∈ l := List.mem_of_getElem? h
theorem sz {n : Nat} (h : n ≤ 100000) : n ≤ sizeLine := Nat.le_trans h (by decide)
theorem szl {n : Nat} (h : n < 100000) : n < sizeLine := Nat.lt_of_lt_of_le h (by decide)
theorem take_succ {α : Type} {l : List α} {i : Nat} {x : α} (h : l[i]? = some x) : l.take (i + 1) = l.take i ++ [x] := by
  rw [List.take_add_one, h]; rfl
theorem same_new {H : Hp} {p : Addr} {o : HO} (h : H p = none) : Same H (upd H p o) := fun a u e => by
  rw [upd_ne (ne_of_none e h)]; exact e
theorem same_mut {H H' : Hp} {p : Addr} {o : HO} (e : Same H H') (h : H p = none) : Same H (upd H' p o) := fun a u ha => by
  rw [upd_ne (ne_of_none ha h)]; exact e a u ha
theorem iteTr {c : Bool} {A B : Prop} (hc : c = true) (h : A) : if c = true then A else B := by
  rw [if_pos hc]; exact h
theorem iteFa {c : Bool} {A B : Prop} (hc : c = false) (h : B) : if c = true then A else B := by
  rw [hc, if_neg Bool.false_ne_true]; exact h

/-! ## fields -/
theorem lk_here {k : Str} {v : V} {r : List (Str × V)} : List.lookup k ((k, v) :: r) = some v := by
  have e : (k == k) = true := beq_self_eq_true k
  simp only [List.lookup, e]
theorem lk_past {k g : Str} {v : V} {r : List (Str × V)} (h : (k == g) = false) : List.lookup k ((g, v) :: r) = List.lookup k r := by
  simp only [List.lookup, h]
theorem lk_nil {k : Str} : List.lookup k ([] : List (Str × V)) = none := rfl
theorem put_here {f : Str} {v x : V} {r : List (Str × V)} : putF f v ((f, x) :: r) = (f, v) :: r := if_pos rfl
theorem put_past {f g : Str} {v x : V} {r : List (Str × V)} (h : ¬ g = f) : putF f v ((g, x) :: r) = (g, x) :: putF f v r := if_neg h
abbrev fSl (a c r s : Nat) : List (Str × V) := [("a", vn a), ("c", vn c), ("round_drum", vn r), ("short", vn s)]
abbrev fSt (SL : Addr) (d : Nat) (RL PL : Addr) : List (Str × V) := [("slant", .ref SL), ("near", vn d), ("rolls", .ref RL), ("plies", .ref PL)]
abbrev fRo (w lo le : Nat) : List (Str × V) := [("wide", vn w), ("long", vn lo), ("left", vn le)]
abbrev fPl (r w : Nat) (l : Addr) (t : V) : List (Str × V) := [("roll", vn r), ("wide", vn w), ("splices", .ref l), ("turn", t)]
abbrev fDe (v : V) : List (Str × V) := [("store", v)]
def vt : Nat → V
  | 0 => .non
  | t + 1 => vn t
theorem lk_Slant_a {v0 v1 v2 v3 : V} : List.lookup ("a" : Str) [("a", v0), ("c", v1), ("round_drum", v2), ("short", v3)] = some v0 := lk_here
theorem lk_Slant_c {v0 v1 v2 v3 : V} : List.lookup ("c" : Str) [("a", v0), ("c", v1), ("round_drum", v2), ("short", v3)] = some v1 := (lk_past (by decide +kernel)).trans lk_here
theorem lk_Slant_round_drum {v0 v1 v2 v3 : V} : List.lookup ("round_drum" : Str) [("a", v0), ("c", v1), ("round_drum", v2), ("short", v3)] = some v2 := (lk_past (by decide +kernel)).trans ((lk_past (by decide +kernel)).trans lk_here)
theorem lk_Slant_short {v0 v1 v2 v3 : V} : List.lookup ("short" : Str) [("a", v0), ("c", v1), ("round_drum", v2), ("short", v3)] = some v3 := (lk_past (by decide +kernel)).trans ((lk_past (by decide +kernel)).trans ((lk_past (by decide +kernel)).trans lk_here))
theorem lk_Slant_m_cover {v0 v1 v2 v3 : V} : List.lookup ("cover" : Str) [("a", v0), ("c", v1), ("round_drum", v2), ("short", v3)] = none := (lk_past (by decide +kernel)).trans ((lk_past (by decide +kernel)).trans ((lk_past (by decide +kernel)).trans ((lk_past (by decide +kernel)).trans lk_nil)))
theorem lk_Slant_m_takes {v0 v1 v2 v3 : V} : List.lookup ("takes" : Str) [("a", v0), ("c", v1), ("round_drum", v2), ("short", v3)] = none := (lk_past (by decide +kernel)).trans ((lk_past (by decide +kernel)).trans ((lk_past (by decide +kernel)).trans ((lk_past (by decide +kernel)).trans lk_nil)))
theorem lk_Slant_m_pieces {v0 v1 v2 v3 : V} : List.lookup ("pieces" : Str) [("a", v0), ("c", v1), ("round_drum", v2), ("short", v3)] = none := (lk_past (by decide +kernel)).trans ((lk_past (by decide +kernel)).trans ((lk_past (by decide +kernel)).trans ((lk_past (by decide +kernel)).trans lk_nil)))
theorem lk_Roll_wide {v0 v1 v2 : V} : List.lookup ("wide" : Str) [("wide", v0), ("long", v1), ("left", v2)] = some v0 := lk_here
theorem lk_Roll_long {v0 v1 v2 : V} : List.lookup ("long" : Str) [("wide", v0), ("long", v1), ("left", v2)] = some v1 := (lk_past (by decide +kernel)).trans lk_here
theorem lk_Roll_left {v0 v1 v2 : V} : List.lookup ("left" : Str) [("wide", v0), ("long", v1), ("left", v2)] = some v2 := (lk_past (by decide +kernel)).trans ((lk_past (by decide +kernel)).trans lk_here)
theorem lk_Ply_roll {v0 v1 v2 v3 : V} : List.lookup ("roll" : Str) [("roll", v0), ("wide", v1), ("splices", v2), ("turn", v3)] = some v0 := lk_here
theorem lk_Ply_wide {v0 v1 v2 v3 : V} : List.lookup ("wide" : Str) [("roll", v0), ("wide", v1), ("splices", v2), ("turn", v3)] = some v1 := (lk_past (by decide +kernel)).trans lk_here
theorem lk_Ply_splices {v0 v1 v2 v3 : V} : List.lookup ("splices" : Str) [("roll", v0), ("wide", v1), ("splices", v2), ("turn", v3)] = some v2 := (lk_past (by decide +kernel)).trans ((lk_past (by decide +kernel)).trans lk_here)
theorem lk_Ply_turn {v0 v1 v2 v3 : V} : List.lookup ("turn" : Str) [("roll", v0), ("wide", v1), ("splices", v2), ("turn", v3)] = some v3 := (lk_past (by decide +kernel)).trans ((lk_past (by decide +kernel)).trans ((lk_past (by decide +kernel)).trans lk_here))
theorem lk_Ply_m_is_laid {v0 v1 v2 v3 : V} : List.lookup ("is_laid" : Str) [("roll", v0), ("wide", v1), ("splices", v2), ("turn", v3)] = none := (lk_past (by decide +kernel)).trans ((lk_past (by decide +kernel)).trans ((lk_past (by decide +kernel)).trans ((lk_past (by decide +kernel)).trans lk_nil)))
theorem lk_Store_slant {v0 v1 v2 v3 : V} : List.lookup ("slant" : Str) [("slant", v0), ("near", v1), ("rolls", v2), ("plies", v3)] = some v0 := lk_here
theorem lk_Store_near {v0 v1 v2 v3 : V} : List.lookup ("near" : Str) [("slant", v0), ("near", v1), ("rolls", v2), ("plies", v3)] = some v1 := (lk_past (by decide +kernel)).trans lk_here
theorem lk_Store_rolls {v0 v1 v2 v3 : V} : List.lookup ("rolls" : Str) [("slant", v0), ("near", v1), ("rolls", v2), ("plies", v3)] = some v2 := (lk_past (by decide +kernel)).trans ((lk_past (by decide +kernel)).trans lk_here)
theorem lk_Store_plies {v0 v1 v2 v3 : V} : List.lookup ("plies" : Str) [("slant", v0), ("near", v1), ("rolls", v2), ("plies", v3)] = some v3 := (lk_past (by decide +kernel)).trans ((lk_past (by decide +kernel)).trans ((lk_past (by decide +kernel)).trans lk_here))
theorem lk_Store_m_drum_size {v0 v1 v2 v3 : V} : List.lookup ("drum_size" : Str) [("slant", v0), ("near", v1), ("rolls", v2), ("plies", v3)] = none := (lk_past (by decide +kernel)).trans ((lk_past (by decide +kernel)).trans ((lk_past (by decide +kernel)).trans ((lk_past (by decide +kernel)).trans lk_nil)))
theorem lk_Store_m_laid {v0 v1 v2 v3 : V} : List.lookup ("laid" : Str) [("slant", v0), ("near", v1), ("rolls", v2), ("plies", v3)] = none := (lk_past (by decide +kernel)).trans ((lk_past (by decide +kernel)).trans ((lk_past (by decide +kernel)).trans ((lk_past (by decide +kernel)).trans lk_nil)))
theorem lk_Store_m_places {v0 v1 v2 v3 : V} : List.lookup ("places" : Str) [("slant", v0), ("near", v1), ("rolls", v2), ("plies", v3)] = none := (lk_past (by decide +kernel)).trans ((lk_past (by decide +kernel)).trans ((lk_past (by decide +kernel)).trans ((lk_past (by decide +kernel)).trans lk_nil)))
theorem lk_Store_m_near_others {v0 v1 v2 v3 : V} : List.lookup ("near_others" : Str) [("slant", v0), ("near", v1), ("rolls", v2), ("plies", v3)] = none := (lk_past (by decide +kernel)).trans ((lk_past (by decide +kernel)).trans ((lk_past (by decide +kernel)).trans ((lk_past (by decide +kernel)).trans lk_nil)))
theorem lk_Store_m_between {v0 v1 v2 v3 : V} : List.lookup ("between" : Str) [("slant", v0), ("near", v1), ("rolls", v2), ("plies", v3)] = none := (lk_past (by decide +kernel)).trans ((lk_past (by decide +kernel)).trans ((lk_past (by decide +kernel)).trans ((lk_past (by decide +kernel)).trans lk_nil)))
theorem lk_Store_m_nearest_of_all {v0 v1 v2 v3 : V} : List.lookup ("nearest_of_all" : Str) [("slant", v0), ("near", v1), ("rolls", v2), ("plies", v3)] = none := (lk_past (by decide +kernel)).trans ((lk_past (by decide +kernel)).trans ((lk_past (by decide +kernel)).trans ((lk_past (by decide +kernel)).trans lk_nil)))
theorem lk_Store_m_cut {v0 v1 v2 v3 : V} : List.lookup ("cut" : Str) [("slant", v0), ("near", v1), ("rolls", v2), ("plies", v3)] = none := (lk_past (by decide +kernel)).trans ((lk_past (by decide +kernel)).trans ((lk_past (by decide +kernel)).trans ((lk_past (by decide +kernel)).trans lk_nil)))
theorem lk_Desk_store {v0 : V} : List.lookup ("store" : Str) [("store", v0)] = some v0 := lk_here
theorem lk_Desk_m_begin {v0 : V} : List.lookup ("begin" : Str) [("store", v0)] = none := (lk_past (by decide +kernel)).trans lk_nil
theorem lk_Desk_m_roll_at {v0 : V} : List.lookup ("roll_at" : Str) [("store", v0)] = none := (lk_past (by decide +kernel)).trans lk_nil
theorem lk_Desk_m_ply_at {v0 : V} : List.lookup ("ply_at" : Str) [("store", v0)] = none := (lk_past (by decide +kernel)).trans lk_nil
theorem lk_Desk_m_ask_turn {v0 : V} : List.lookup ("ask_turn" : Str) [("store", v0)] = none := (lk_past (by decide +kernel)).trans lk_nil
theorem lk_Desk_m_put_roll {v0 : V} : List.lookup ("put_roll" : Str) [("store", v0)] = none := (lk_past (by decide +kernel)).trans lk_nil
theorem lk_Desk_m_pieces_of {v0 : V} : List.lookup ("pieces_of" : Str) [("store", v0)] = none := (lk_past (by decide +kernel)).trans lk_nil
theorem lk_Desk_m_put_ply {v0 : V} : List.lookup ("put_ply" : Str) [("store", v0)] = none := (lk_past (by decide +kernel)).trans lk_nil
theorem lk_Desk_m_lay {v0 : V} : List.lookup ("lay" : Str) [("store", v0)] = none := (lk_past (by decide +kernel)).trans lk_nil
theorem lk_Desk_m_lift {v0 : V} : List.lookup ("lift" : Str) [("store", v0)] = none := (lk_past (by decide +kernel)).trans lk_nil
theorem lk_Desk_m_row {v0 : V} : List.lookup ("row" : Str) [("store", v0)] = none := (lk_past (by decide +kernel)).trans lk_nil
theorem lk_Desk_m_lift_all {v0 : V} : List.lookup ("lift_all" : Str) [("store", v0)] = none := (lk_past (by decide +kernel)).trans lk_nil
theorem lk_Desk_m_least {v0 : V} : List.lookup ("least" : Str) [("store", v0)] = none := (lk_past (by decide +kernel)).trans lk_nil
theorem lk_Desk_m_best {v0 : V} : List.lookup ("best" : Str) [("store", v0)] = none := (lk_past (by decide +kernel)).trans lk_nil
theorem lk_Desk_m_fits {v0 : V} : List.lookup ("fits" : Str) [("store", v0)] = none := (lk_past (by decide +kernel)).trans lk_nil
theorem lk_Desk_m_near_two {v0 : V} : List.lookup ("near_two" : Str) [("store", v0)] = none := (lk_past (by decide +kernel)).trans lk_nil
theorem lk_Desk_m_where {v0 : V} : List.lookup ("where" : Str) [("store", v0)] = none := (lk_past (by decide +kernel)).trans lk_nil
theorem lk_Desk_m_at_place {v0 : V} : List.lookup ("at_place" : Str) [("store", v0)] = none := (lk_past (by decide +kernel)).trans lk_nil
theorem lk_Desk_m_most {v0 : V} : List.lookup ("most" : Str) [("store", v0)] = none := (lk_past (by decide +kernel)).trans lk_nil
theorem lk_Desk_m_piece {v0 : V} : List.lookup ("piece" : Str) [("store", v0)] = none := (lk_past (by decide +kernel)).trans lk_nil
theorem lk_Desk_m_look {v0 : V} : List.lookup ("look" : Str) [("store", v0)] = none := (lk_past (by decide +kernel)).trans lk_nil
theorem lk_Desk_m_rest {v0 : V} : List.lookup ("rest" : Str) [("store", v0)] = none := (lk_past (by decide +kernel)).trans lk_nil
theorem lk_Desk_m_sums {v0 : V} : List.lookup ("sums" : Str) [("store", v0)] = none := (lk_past (by decide +kernel)).trans lk_nil
theorem lk_Desk_m_state {v0 : V} : List.lookup ("state" : Str) [("store", v0)] = none := (lk_past (by decide +kernel)).trans lk_nil
theorem lk_Desk_m_of_ply {v0 : V} : List.lookup ("of_ply" : Str) [("store", v0)] = none := (lk_past (by decide +kernel)).trans lk_nil
theorem lk_Desk_m_of_roll {v0 : V} : List.lookup ("of_roll" : Str) [("store", v0)] = none := (lk_past (by decide +kernel)).trans lk_nil
theorem lk_Desk_m_answer {v0 : V} : List.lookup ("answer" : Str) [("store", v0)] = none := (lk_past (by decide +kernel)).trans lk_nil

/-! ## a store -/
/-- where a store's parts stand -/
structure Lay where
  S : Addr
  SL : Addr
  RL : Addr
  PL : Addr
  ra : Nat → Addr
  pa : Nat → Addr
  la : Nat → Addr
def refs (n : Nat) (f : Nat → Addr) : List V := (List.range n).map fun i => .ref (f i)
theorem refs_len (n : Nat) (f : Nat → Addr) : (refs n f).length = n := by unfold refs; rw [List.length_map, List.length_range]
theorem refs_at {n i : Nat} {f : Nat → Addr} (h : i < n) : (refs n f)[i]? = some (.ref (f i)) := by
  unfold refs; rw [List.getElem?_map, List.getElem?_range h]; rfl
theorem refs_get {n i : Nat} {f : Nat → Addr} {x : V} (h : (refs n f)[i]? = some x) : i < n ∧ x = .ref (f i) := by
  have hi : i < n := by
    have := (List.getElem?_eq_some_iff.mp h).1
    rw [refs_len] at this; exact this
  rw [refs_at hi] at h
  exact ⟨hi, (Option.some.inj h).symm⟩
theorem refs_succ {n : Nat} {f : Nat → Addr} : refs (n + 1) f = refs n f ++ [.ref (f n)] := by
  unfold refs; rw [List.range_succ, List.map_append]; rfl
theorem refs_congr {n : Nat} {f g : Nat → Addr} (h : ∀ i, i < n → f i = g i) : refs n f = refs n g := by
  unfold refs
  apply List.map_congr_left
  intro i hi
  rw [h i (List.mem_range.mp hi)]
def SlAt (A : Ad) (H : Hp) (a : Addr) (x : Abs) : Prop := ∃ dx, H a = some (.ins A.cSlant dx (fSl x.a x.c x.round_ x.short))
def RoAt (A : Ad) (H : Hp) (a : Addr) (z : Roll) : Prop := ∃ dx, H a = some (.ins A.cRoll dx (fRo z.wide z.long z.left))
def PlAt (A : Ad) (H : Hp) (a l : Addr) (z : Ply) : Prop := ∃ dx, H a = some (.ins A.cPly dx (fPl z.roll z.wide l (vt z.turn)))
structure StAt (A : Ad) (H : Hp) (L : Lay) (x : Abs) : Prop where
  st : ∃ dx, H L.S = some (.ins A.cStore dx (fSt L.SL x.apart L.RL L.PL))
  sl : SlAt A H L.SL x
  rl : H L.RL = some (.lst (refs x.rolls.length L.ra))
  pl : H L.PL = some (.lst (refs x.plies.length L.pa))
  ro : ∀ i, i < x.rolls.length → RoAt A H (L.ra i) (x.roll i)
  py : ∀ i, i < x.plies.length → PlAt A H (L.pa i) (L.la i) (x.ply i)
  sp : ∀ i, i < x.plies.length → H (L.la i) = some (.lst (nums (x.ply i).splices))
  rn : ∀ i j, i < x.rolls.length → j < x.rolls.length → L.ra i = L.ra j → i = j
  pn : ∀ i j, i < x.plies.length → j < x.plies.length → L.pa i = L.pa j → i = j
  rp : L.RL ≠ L.PL
  lr : ∀ i, i < x.plies.length → L.la i ≠ L.RL
  lp : ∀ i, i < x.plies.length → L.la i ≠ L.PL
/-- the addresses of a store's parts -/
def Foot (L : Lay) (x : Abs) (b : Addr) : Prop := b = L.S ∨ b = L.SL ∨ b = L.RL ∨ b = L.PL ∨ (∃ i, i < x.rolls.length ∧ b = L.ra i) ∨ (∃ i, i < x.plies.length ∧ b = L.pa i) ∨ ∃ i, i < x.plies.length ∧ b = L.la i
theorem StAt.mono {A : Ad} {H H' : Hp} {L : Lay} {x : Abs} (s : StAt A H L x) (e : ∀ b o, Foot L x b → H b = some o → H' b = some o) : StAt A H' L x := by
  refine ⟨?_, ?_, e _ _ (.inr (.inr (.inl rfl))) s.rl, e _ _ (.inr (.inr (.inr (.inl rfl)))) s.pl, fun i hi => ?_, fun i hi => ?_, fun i hi => e _ _ (.inr (.inr (.inr (.inr (.inr (.inr ⟨i, hi, rfl⟩)))))) (s.sp i hi), s.rn, s.pn, s.rp, s.lr, s.lp⟩
  · obtain ⟨dx, h⟩ := s.st; exact ⟨dx, e _ _ (.inl rfl) h⟩
  · obtain ⟨dx, h⟩ := s.sl; exact ⟨dx, e _ _ (.inr (.inl rfl)) h⟩
  · obtain ⟨dx, h⟩ := s.ro i hi; exact ⟨dx, e _ _ (.inr (.inr (.inr (.inr (.inl ⟨i, hi, rfl⟩))))) h⟩
  · obtain ⟨dx, h⟩ := s.py i hi; exact ⟨dx, e _ _ (.inr (.inr (.inr (.inr (.inr (.inl ⟨i, hi, rfl⟩)))))) h⟩
theorem StAt.same {A : Ad} {H H' : Hp} {L : Lay} {x : Abs} (s : StAt A H L x) (e : Same H H') : StAt A H' L x := s.mono fun b o _ h => e b o h
/-- each of them is tracked -/
theorem StAt.foot {A : Ad} {H : Hp} {L : Lay} {x : Abs} (s : StAt A H L x) {b : Addr} (f : Foot L x b) : ∃ o, H b = some o := by
  rcases f with rfl | rfl | rfl | rfl | ⟨i, hi, rfl⟩ | ⟨i, hi, rfl⟩ | ⟨i, hi, rfl⟩
  · obtain ⟨dx, h⟩ := s.st; exact ⟨_, h⟩
  · obtain ⟨dx, h⟩ := s.sl; exact ⟨_, h⟩
  · exact ⟨_, s.rl⟩
  · exact ⟨_, s.pl⟩
  · obtain ⟨dx, h⟩ := s.ro i hi; exact ⟨_, h⟩
  · obtain ⟨dx, h⟩ := s.py i hi; exact ⟨_, h⟩
  · exact ⟨_, s.sp i hi⟩
/-- what lies apart stands; what's new in the footprint was not tracked -/
structure Fr (M M' : Addr → Prop) (H H' : Hp) : Prop where
  out : ∀ b o, H b = some o → ¬ M b → H' b = some o
  foot : ∀ b, M' b → M b ∨ H b = none
theorem Fr.same {M : Addr → Prop} {H H' : Hp} (e : Same H H') : Fr M M H H' := ⟨fun b o h _ => e b o h, fun _ h => .inl h⟩
theorem Fr.trans {M M' M'' : Addr → Prop} {H H' H'' : Hp} (f : Fr M M' H H') (g : Fr M' M'' H' H'') : Fr M M'' H H'' := by
  refine ⟨fun b o h hm => ?_, fun b hb => ?_⟩
  · refine g.out b o (f.out b o h hm) fun h' => ?_
    rcases f.foot b h' with h1 | h1
    · exact hm h1
    · rw [h] at h1; cases h1
  · rcases g.foot b hb with h1 | h1
    · exact f.foot b h1
    · by_cases hm : M b
      · exact .inl hm
      · cases e : H b with
        | none => exact .inr rfl
        | some o => rw [f.out b o e hm] at h1; cases h1
/-- a desk: what was begun -/
structure DeAt (A : Ad) (H : Hp) (D : Addr) (v : V) : Prop where
  de : ∃ dx, H D = some (.ins A.cDesk dx (fDe v))
theorem DeAt.same {A : Ad} {H H' : Hp} {D : Addr} {v : V} (s : DeAt A H D v) (e : Same H H') : DeAt A H' D v := by
  obtain ⟨dx, h⟩ := s.de; exact ⟨dx, e _ _ h⟩
/-! ### parts are apart -/
theorem fld_ne {C C' : Addr} {d d' : Addr} {k k' : Str} {v v' : V} {r r' : List (Str × V)} (h : k ≠ k') : HO.ins C d ((k, v) :: r) ≠ HO.ins C' d' ((k', v') :: r') := fun e => by
  injection e with _ _ e3
  injection e3 with e4 _
  injection e4 with e5 _
  exact h e5
theorem lst_ne_ins {C d : Addr} {xs : List V} {fs : List (Str × V)} : HO.lst xs ≠ HO.ins C d fs := fun e => by cases e
/-- a ply changed: its turn -/
theorem StAt.turn {A : Ad} {H : Hp} {L : Lay} {x : Abs} {p t : Nat} {dx : Addr} (s : StAt A H L x) (hp : p < x.plies.length) (hd : H (L.pa p) = some (.ins A.cPly dx (fPl (x.ply p).roll (x.ply p).wide (L.la p) (vt (x.ply p).turn)))) :
    StAt A (upd H (L.pa p) (.ins A.cPly dx (fPl (x.ply p).roll (x.ply p).wide (L.la p) (vt t)))) L (x.set p fun z => { z with turn := t }) := by
  have hl := set_len x p fun z => { z with turn := t }
  refine ⟨?_, ?_, ?_, ?_, fun i hi => ?_, fun i hi => ?_, fun i hi => ?_, s.rn, ?_, s.rp, ?_, ?_⟩
  · obtain ⟨d, h⟩ := s.st
    exact ⟨d, by rw [upd_ne (ne_of h hd (fld_ne (by decide +kernel)))]; exact h⟩
  · obtain ⟨d, h⟩ := s.sl
    exact ⟨d, by rw [upd_ne (ne_of h hd (fld_ne (by decide +kernel)))]; exact h⟩
  · rw [upd_ne (ne_of s.rl hd lst_ne_ins)]; exact s.rl
  · rw [upd_ne (ne_of s.pl hd lst_ne_ins), hl]; exact s.pl
  · obtain ⟨d, h⟩ := s.ro i hi
    exact ⟨d, by rw [upd_ne (ne_of h hd (fld_ne (by decide +kernel)))]; exact h⟩
  · rw [hl] at hi
    rw [set_ply hi]
    by_cases e : i = p
    · subst e
      rw [if_pos rfl]
      exact ⟨dx, upd_same⟩
    · rw [if_neg e]
      obtain ⟨d, h⟩ := s.py i hi
      exact ⟨d, by rw [upd_ne (fun z => e (s.pn _ _ hi hp z))]; exact h⟩
  · rw [hl] at hi
    have e : ((x.set p fun z => { z with turn := t }).ply i).splices = (x.ply i).splices := by
      rw [set_ply hi]; split <;> rfl
    rw [e, upd_ne (ne_of (s.sp i hi) hd lst_ne_ins)]
    exact s.sp i hi
  · intro i j hi hj; rw [hl] at hi hj; exact s.pn i j hi hj
  · intro i hi; rw [hl] at hi; exact s.lr i hi
  · intro i hi; rw [hl] at hi; exact s.lp i hi
theorem Fr.turn {H H0 : Hp} {L : Lay} {x : Abs} {p : Nat} {f : Ply → Ply} {o : HO} (hp : p < x.plies.length) : Fr (Foot L x) (Foot L (x.set p f)) H (upd H (L.pa p) o) := by
  refine ⟨fun b u h hm => ?_, fun b hb => .inl ?_⟩
  · rw [upd_ne (fun z => hm (.inr (.inr (.inr (.inr (.inr (.inl ⟨p, hp, z⟩)))))))]; exact h
  · unfold Foot at hb ⊢
    rw [set_len] at hb
    exact hb
end Bp

namespace Bp
open PySem PySem.Spec PyProof.Rows L2
open Su65 (Abs Ply Roll)
/-! # The rules for numbers that are not negative -/
theorem fm0 (a r : Nat) : (a : Int).fmod (r : Int) = (a % r : Nat) := by
  rw [Int.fmod_eq_emod_of_nonneg _ (by omega), ← Int.natCast_emod]
theorem fd0 (a r : Nat) : (a : Int).fdiv (r : Int) = (a / r : Nat) := by
  rw [Int.fdiv_eq_ediv_of_nonneg _ (by omega), ← Int.natCast_ediv]
theorem ixn {n j : Nat} (h : j < n) : ixN n (j : Int) = some j := by
  unfold ixN
  rw [if_pos (by omega), if_pos (by omega)]; simp
theorem qi {Q : VK} {H : Hp} {z : Int} {n : Nat} (e : z = (n : Int)) (h : Q (vn n) H) : Q (.int z) H := by rw [e]; exact h
theorem qv {Q : VK} {H : Hp} {x y : V} (e : x = y) (h : Q y H) : Q x H := by rw [e]; exact h
def rAd : R2 := fun x y H Q => ∃ a b : Nat, x = vn a ∧ y = vn b ∧ Q (vn (a + b)) H
def rSb : R2 := fun x y H Q => ∃ a b : Nat, x = vn a ∧ y = vn b ∧ b ≤ a ∧ Q (vn (a - b)) H
def rMl : R2 := fun x y H Q => ∃ a b : Nat, x = vn a ∧ y = vn b ∧ (a < 18446744073709551616 ∨ b < 18446744073709551616) ∧ Q (vn (a * b)) H
def rDv : R2 := fun x y H Q => ∃ a b : Nat, x = vn a ∧ y = vn b ∧ 0 < b ∧ b < 1073741824 ∧ Q (vn (a / b)) H
def rMd : R2 := fun x y H Q => ∃ a b : Nat, x = vn a ∧ y = vn b ∧ 0 < b ∧ Q (vn (a % b)) H
def rCm (p : Nat → Nat → Bool) : R2 := fun x y H Q => ∃ a b : Nat, x = vn a ∧ y = vn b ∧ Q (.bl (p a b)) H
def rMi2 : List V → Hp → VK → Prop := fun xs H Q => ∃ a b : Nat, xs = [vn a, vn b] ∧ Q (vn (min a b)) H
def rMiL (K : PySem.W.Frag) : List V → Hp → VK → Prop := fun xs H Q => ∃ (a : Addr) (l : List Nat), xs = [.ref a] ∧ SqL K H a (nums l) ∧ l ≠ [] ∧ Q (vn (minL l)) H
def rSuL (K : PySem.W.Frag) : List V → Hp → VK → Prop := fun xs H Q => ∃ (a : Addr) (l : List Nat), xs = [.ref a] ∧ SqL K H a (nums l) ∧ Q (vn l.sum) H
def rLe (K : PySem.W.Frag) : List V → Hp → VK → Prop := fun xs H Q => ∃ (a : Addr) (l : List V) (n : Nat), xs = [.ref a] ∧ SqL K H a l ∧ l.length = n ∧ Q (vn n) H
section
variable {X : Cx}
theorem pn (n : Nat) {z : Int} {j : Nat} {pos : Pos} (e : z = (n : Int) := by rfl) : PE X (.Constant (.int z) j pos) (tC (vn n)) := by
  rw [e]; exact pe_int
theorem oAdd : OpR X (binaryOp .Add) rAd := fun pins s σ H x y v u Q I rx ry ⟨a, b, e1, e2, q⟩ => op_add pins s σ H x y v u Q I rx ry ⟨a, b, e1, e2, qi (by omega) q⟩
theorem oSub : OpR X (binaryOp .Sub) rSb := fun pins s σ H x y v u Q I rx ry ⟨a, b, e1, e2, h, q⟩ => op_sub pins s σ H x y v u Q I rx ry ⟨a, b, e1, e2, qi (by omega) q⟩
theorem oMul : OpR X (binaryOp .Mult) rMl := fun pins s σ H x y v u Q I rx ry ⟨a, b, e1, e2, h, q⟩ => op_mul pins s σ H x y v u Q I rx ry ⟨a, b, e1, e2, by
  unfold CMul
  rcases h with h | h
  · left; omega
  · right; omega, qi (Int.natCast_mul a b).symm q⟩
theorem oDiv : OpR X (binaryOp .FloorDiv) rDv := fun pins s σ H x y v u Q I rx ry ⟨a, b, e1, e2, h, h2, q⟩ => op_fdivN pins s σ H x y v u Q I rx ry ⟨a, b, e1, e2, ⟨by omega, by omega⟩, qi (fd0 a b) q⟩
theorem oMod : OpR X (binaryOp .Mod) rMd := fun pins s σ H x y v u Q I rx ry ⟨a, b, e1, e2, h, q⟩ => op_modN pins s σ H x y v u Q I rx ry ⟨a, b, e1, e2, by omega, qi (fm0 a b) q⟩
theorem qb {Q : VK} {H : Hp} {a b : Bool} (e : a = b) (h : Q (.bl b) H) : Q (.bl a) H := by rw [e]; exact h
theorem oLt : OpR X (compareOp .Lt) (rCm fun a b => decide (a < b)) := fun pins s σ H x y v u Q I rx ry ⟨a, b, e1, e2, q⟩ => op_lt pins s σ H x y v u Q I rx ry ⟨a, b, e1, e2, qb (by simp) q⟩
theorem oLe : OpR X (compareOp .LtE) (rCm fun a b => decide (a ≤ b)) := fun pins s σ H x y v u Q I rx ry ⟨a, b, e1, e2, q⟩ => op_le pins s σ H x y v u Q I rx ry ⟨a, b, e1, e2, qb (by simp) q⟩
theorem oGt : OpR X (compareOp .Gt) (rCm fun a b => decide (b < a)) := fun pins s σ H x y v u Q I rx ry ⟨a, b, e1, e2, q⟩ => op_gt pins s σ H x y v u Q I rx ry ⟨a, b, e1, e2, qb (by simp) q⟩
theorem oGe : OpR X (compareOp .GtE) (rCm fun a b => decide (b ≤ a)) := fun pins s σ H x y v u Q I rx ry ⟨a, b, e1, e2, q⟩ => op_ge pins s σ H x y v u Q I rx ry ⟨a, b, e1, e2, qb (by simp) q⟩
theorem vn_inj {a b : Nat} : (vn a = vn b) ↔ a = b := by
  constructor
  · intro h; injection h with h; omega
  · intro h; rw [h]
theorem oEq : OpR X (compareOp .Eq) (rCm fun a b => decide (a = b)) := fun pins s σ H x y v u Q I rx ry ⟨a, b, e1, e2, q⟩ => op_eq pins s σ H x y v u Q I rx ry ⟨by rw [e1, e2] <;> rfl, qb (by rw [e1, e2, decide_eq_decide.mpr vn_inj]) q⟩
theorem oNe : OpR X (compareOp .NotEq) (rCm fun a b => !decide (a = b)) := fun pins s σ H x y v u Q I rx ry ⟨a, b, e1, e2, q⟩ => op_ne pins s σ H x y v u Q I rx ry ⟨by rw [e1, e2] <;> rfl, qb (by rw [e1, e2, decide_eq_decide.mpr vn_inj]) q⟩
theorem cMin2 (hc : X.calm = true) : CallR X (.builtin "min") rMi2 := fun pins s σ H xs us Q I r ⟨a, b, e, q⟩ => call_min2 hc pins s σ H xs us Q I r ⟨a, b, e, qi (by split <;> omega) q⟩
theorem cMin (hc : X.calm = true) : CallR X (.builtin "min") (rMiL X.K) := fun pins s σ H xs us Q I r ⟨a, l, e, hl, hn, q⟩ => cr_min hc pins s σ H xs us Q I r ⟨a, l.map fun (n : Nat) => (n : Int), e, by rw [← nums_int]; exact hl, by
  rw [List.length_map]; exact List.length_pos_iff.mpr hn, fun m h1 h2 => qi (minL_int h1 h2) q⟩
theorem sum_int : ∀ l : List Nat, (l.map fun (n : Nat) => (n : Int)).sum = (l.sum : Nat)
  | [] => rfl
  | a :: l => by rw [List.map_cons, List.sum_cons, List.sum_cons, sum_int l]; omega
theorem cSum (hc : X.calm = true) : CallR X (.builtin "sum") (rSuL X.K) := fun pins s σ H xs us Q I r ⟨a, l, e, hl, q⟩ => cr_sum hc pins s σ H xs us Q I r ⟨a, l.map fun (n : Nat) => (n : Int), e, by rw [← nums_int]; exact hl, qi (sum_int l) q⟩
theorem cLen : CallR X (.builtin "len") (rLe X.K) := fun pins s σ H xs us Q I r ⟨a, l, n, e, hl, hn, q⟩ => call_len_seq pins s σ H xs us Q I r ⟨a, l, e, .inl hl, qi (by rw [hn]) q⟩
def rBi : List V → Hp → VK → Prop := fun xs H Q => ∃ k : Bool, xs = [.bl k] ∧ Q (vn (if k then 1 else 0)) H
theorem cInt : CallR X (.type "int") rBi := fun pins s σ H xs us Q I r ⟨k, e, q⟩ => call_int1 pins s σ H xs us Q I r (.inr ⟨k, e, qi (by cases k <;> rfl) q⟩)
theorem iAdd : PIp X .Add rAd := fun pins s σ H x y v u Q I rx ry ⟨a, b, e1, e2, q⟩ => ip_add pins s σ H x y v u Q I rx ry ⟨a, b, e1, e2, qi (show (a : Int) + (b : Int) = _ by omega) q⟩
theorem inSub : InOp X .Sub rSb := fun pins s σ H x y v u Q I rx ry ⟨a, b, e1, e2, h, q⟩ => in_sub pins s σ H x y v u Q I rx ry ⟨a, b, e1, e2, qi (by omega) q⟩
end
/-! ## loops -/
theorem for_rangeN {n : Nat} {g : TG} {tb : TS} {D : Ends} {σ : L2.St} {H : Hp} (Pv : Nat → L2.St → Hp → Prop) (h0 : Pv 0 σ H)
    (hs : ∀ i σ H, i < n → Pv i σ H → g (vn i) σ H fun σ2 H2 => tb { D with nx := Pv (i + 1), ct := Pv (i + 1), bk := D.nx } σ2 H2) (hd : ∀ σ H, Pv n σ H → D.nx σ H) :
    ∃ W : Nat → Nat → L2.St → Hp → Prop, (∃ m, W 0 m σ H) ∧ ∀ i m σ H, W i m σ H →
      ((Itr 0 n).stop i H ∧ D.nx σ H) ∨ ((Itr 0 n).go i H ∧ ∃ N : L2.St → Hp → Prop, (∀ σ' H', N σ' H' → ∃ m', m' < m ∧ W (i + 1) m' σ' H') ∧ ∀ x H', (Itr 0 n).yld i H x H' → g x σ H' fun σ2 H2 => tb { D with nx := N, ct := N, bk := D.nx } σ2 H2) :=
  for_range (lo := 0) Pv h0 (fun i σ H hi p => by
    have e : (0 : Int) + (i : Int) = (i : Int) := by omega
    rw [e]
    exact hs i σ H hi p) hd
theorem for_range1N {n : Nat} {g : TG} {tb : TS} {D : Ends} {σ : L2.St} {H : Hp} (Pv : Nat → L2.St → Hp → Prop) (h0 : Pv 0 σ H)
    (hs : ∀ i σ H, i < n → Pv i σ H → g (vn (i + 1)) σ H fun σ2 H2 => tb { D with nx := Pv (i + 1), ct := Pv (i + 1), bk := D.nx } σ2 H2) (hd : ∀ σ H, Pv n σ H → D.nx σ H) :
    ∃ W : Nat → Nat → L2.St → Hp → Prop, (∃ m, W 0 m σ H) ∧ ∀ i m σ H, W i m σ H →
      ((Itr 1 n).stop i H ∧ D.nx σ H) ∨ ((Itr 1 n).go i H ∧ ∃ N : L2.St → Hp → Prop, (∀ σ' H', N σ' H' → ∃ m', m' < m ∧ W (i + 1) m' σ' H') ∧ ∀ x H', (Itr 1 n).yld i H x H' → g x σ H' fun σ2 H2 => tb { D with nx := N, ct := N, bk := D.nx } σ2 H2) :=
  for_range (lo := 1) Pv h0 (fun i σ H hi p => by
    have e : (1 : Int) + (i : Int) = ((i + 1 : Nat) : Int) := by omega
    rw [e]
    exact hs i σ H hi p) hd
theorem for_downN {k n : Nat} {g : TG} {tb : TS} {D : Ends} {σ : L2.St} {H : Hp} (hk : n ≤ k) (Pv : Nat → L2.St → Hp → Prop) (h0 : Pv 0 σ H)
    (hs : ∀ i σ H, i < n → Pv i σ H → g (vn (k - i)) σ H fun σ2 H2 => tb { D with nx := Pv (i + 1), ct := Pv (i + 1), bk := D.nx } σ2 H2) (hd : ∀ σ H, Pv n σ H → D.nx σ H) :
    ∃ W : Nat → Nat → L2.St → Hp → Prop, (∃ m, W 0 m σ H) ∧ ∀ i m σ H, W i m σ H →
      ((Itc (k : Int) (-1) n).stop i H ∧ D.nx σ H) ∨ ((Itc (k : Int) (-1) n).go i H ∧ ∃ N : L2.St → Hp → Prop, (∀ σ' H', N σ' H' → ∃ m', m' < m ∧ W (i + 1) m' σ' H') ∧ ∀ x H', (Itc (k : Int) (-1) n).yld i H x H' → g x σ H' fun σ2 H2 => tb { D with nx := N, ct := N, bk := D.nx } σ2 H2) :=
  for_rangeC (lo := (k : Int)) (c := -1) Pv h0 (fun i σ H hi p => by
    have e : (k : Int) + ((i : Nat) : Int) * (-1) = ((k - i : Nat) : Int) := by omega
    rw [e]
    exact hs i σ H hi p) hd
/-- over a list of numbers -/
theorem for_nums {K : PySem.W.Frag} {a : Addr} {l : List Nat} {g : TG} {tb : TS} {D : Ends} {σ : L2.St} {H : Hp} (Pv : Nat → L2.St → Hp → Prop) (h0 : Pv 0 σ H) (hl : ∀ i σ H, Pv i σ H → SqL K H a (nums l))
    (hs : ∀ i n σ H, l[i]? = some n → Pv i σ H → g (vn n) σ H fun σ2 H2 => tb { D with nx := Pv (i + 1), ct := Pv (i + 1), bk := D.nx } σ2 H2) (hd : ∀ σ H, Pv l.length σ H → D.nx σ H) :
    ∃ W : Nat → Nat → L2.St → Hp → Prop, (∃ m, W 0 m σ H) ∧ ∀ i m σ H, W i m σ H →
      ((Itl K a).stop i H ∧ D.nx σ H) ∨ ((Itl K a).go i H ∧ ∃ N : L2.St → Hp → Prop, (∀ σ' H', N σ' H' → ∃ m', m' < m ∧ W (i + 1) m' σ' H') ∧ ∀ x H', (Itl K a).yld i H x H' → g x σ H' fun σ2 H2 => tb { D with nx := N, ct := N, bk := D.nx } σ2 H2) :=
  for_list (xs := nums l) Pv h0 (fun i σ H _ p => hl i σ H p) (fun i x σ H hx p => by
    obtain ⟨n, hn, rfl⟩ := nums_get hx
    exact hs i n σ H hn p) (fun σ H p => hd σ H (by rw [nums_len] at p; exact p))
/-- a comprehension without a test -/
theorem lcYes {te : TE} {σ : L2.St} {H : Hp} {R : V → Hp → Prop} {B : Hp → Prop} (h : te σ H R) : tYes σ H (fun b H3 => if b = true then te σ H3 R else B H3) := by
  show if true = true then te σ H R else B H
  exact iteT h
/-- over a list of numbers, each turn giving f of it -/
theorem lc_nums {K : PySem.W.Frag} {a : Addr} {l : List Nat} {g : TG} {te : TE} {vs : List Nat} {σ : L2.St} {H1 : Hp} {D : Addr} {Qd : Hp → Prop} (f : Nat → Nat) (hS : SqL K H1 a (nums l)) (hD : H1 D = none) (hlen : l.length ≤ 50000)
    (hs : ∀ n H', n ∈ l → Same H1 H' → ∀ R : V → Hp → Prop, (∀ H2, Same H' H2 → R (vn (f n)) H2) → g (vn n) (wipe σ vs) H' fun σ2 H2 => wipe σ2 vs = wipe σ vs ∧ te σ2 H2 R)
    (hd : ∀ H', Same H1 H' → H' D = some (.lst (nums (l.map f))) → Qd H') (gi : ∀ n H', ∀ A B : L2.St → Hp → Prop, (∀ σ' H', A σ' H' → B σ' H') → g (vn n) (wipe σ vs) H' A → g (vn n) (wipe σ vs) H' B) :
    ∃ W : Nat → Nat → Hp → Prop, (∃ m, W 0 m (upd H1 D (.lst []))) ∧ ∀ i m H, W i m H →
      ((Itl K a).stop i H ∧ Qd H) ∨ ((Itl K a).go i H ∧ ∃ Nx : Hp → Prop, (∀ H', Nx H' → ∃ m', m' < m ∧ W (i + 1) m' H') ∧ ∀ x H', (Itl K a).yld i H x H' → g x (wipe σ vs) H' fun σ2 H2 => wipe σ2 vs = wipe σ vs ∧ tYes σ2 H2 fun b H3 =>
        if b = true then te σ2 H3 fun y H4 => ∃ acc, H4 D = some (.lst acc) ∧ acc.length < sizeLine ∧ Nx (upd H4 D (.lst (acc ++ [y]))) else Nx H3) :=
  lc_list (xs := nums l) (fun i H' => Same H1 H' ∧ H' D = some (.lst (nums ((l.take i).map f)))) ⟨same_new hD, upd_same⟩ (fun i H' _ p => p.1.seq hS) (fun i x H' hx p => by
    obtain ⟨n, hn, rfl⟩ := nums_get hx
    refine gi n H' _ _ ?_ (hs n H' (at_mem hn) p.1 (fun y H4 => ∃ acc, H4 D = some (.lst acc) ∧ acc.length < sizeLine ∧ Same H1 (upd H4 D (.lst (acc ++ [y]))) ∧ (upd H4 D (.lst (acc ++ [y]))) D = some (.lst (nums ((l.take (i + 1)).map f)))) fun H2 e => ?_)
    · intro σ' H3 ⟨h1, h2⟩
      exact ⟨h1, lcYes h2⟩
    · refine ⟨_, e D _ p.2, szl ?_, same_mut (p.1.trans e) hD, ?_⟩
      · rw [nums_len, List.length_map, List.length_take]; omega
      · rw [upd_same, take_succ hn, List.map_append, nums_app]; rfl) (fun H' p => hd H' p.1 (by have := p.2; rw [nums_len, List.take_length] at this; exact this))
end Bp

namespace Bp
open PySem PySem.Spec PyProof.Rows L2
open Su65 (Abs Ply Roll)
/-! # Rings, walked -/
def spApart : Sp := fun vs H Q _ => ∃ i j r : Nat, vs = [vn i, vn j, vn r] ∧ i < r ∧ j < r ∧ Q (vn (gapR r i j)) H
section
variable {P : Program} {w : World} {K : PySem.W.Frag} {mg : Str → Option Value} {base : Heap} {A : Ad}
theorem apart_int {i j r : Nat} (hi : i < r) (hj : j < r) : (if (r : Int) - ((i : Int) - j).fmod r < ((i : Int) - j).fmod r then (r : Int) - ((i : Int) - j).fmod r else ((i : Int) - j).fmod r) = (gapR r i j : Nat) := by
  have e : ((i : Int) - j).fmod r = if j ≤ i then (i : Int) - j else (i : Int) - j + r := by
    rw [Int.fmod_eq_emod_of_nonneg _ (by omega)]
    split
    · exact Int.emod_eq_of_lt (by omega) (by omega)
    · have : ((i : Int) - j) % r = ((i : Int) - j + r) % r := by rw [Int.add_emod_right]
      rw [this]
      exact Int.emod_eq_of_lt (by omega) (by omega)
  rw [e]
  unfold gapR
  split <;> split <;> omega
theorem ok_apart (T : Txt K mg A) : FnOk P w K mg base CX0 1 A.f_apart A.d_apart ["one", "other", "round_drum"] spApart := by
  refine T.F_apart.ok sc_apart (fun vs H Q E h => ?_) (fun cdv Ar outer s H vs Q E hr h => ?_)
  · obtain ⟨i, j, r, rfl, _⟩ := h; rfl
  · obtain ⟨i, j, r, rfl, hi, hj, q⟩ := h
    refine ⟨_, pss_cons (ps_set (i := 3) sc_apart.nd rfl (Or.inl rfl) (pe_op op_modN (pe_op op_sub (pv 0) (pv 1)) (pv 2)))
      (pss_one (ps_ret (pe_callB (call_min2 rfl) (by rfl) T.z_min (by decide +kernel) (pa_cons (pv 3) (pa_cons (pe_op op_sub (pv 2) (pv 3)) pa_nil))))), ?_⟩
    refine ⟨_, rfl, _, rfl, _, _, rfl, rfl, _, rfl, _, _, rfl, rfl, by omega, _, rfl, _, rfl, _, rfl, _, _, rfl, rfl, _, _, rfl, ?_⟩
    exact qi (apart_int hi hj) q
end
end Bp

namespace Bp
open PySem PySem.Spec PyProof.Rows L2
open Su65 (Abs Ply Roll)
/-! # Places turned, how near places are, walked -/
theorem at_back {l : List Nat} {h : Nat} (hh : h < l.length) : atI (nums l) ((h : Int) - 1) = some (vn (l.getD ((h + l.length - 1) % l.length) 0)) := by
  by_cases e : h = 0
  · subst e
    have e2 : (0 + l.length - 1) % l.length = l.length - 1 := by rw [Nat.mod_eq_of_lt] <;> omega
    rw [e2]
    have e3 : nums l = nums l.dropLast ++ [vn (l.getD (l.length - 1) 0)] := by
      have hne : l ≠ [] := by intro z; rw [z] at hh; cases hh
      have : l = l.dropLast ++ [l.getD (l.length - 1) 0] := by
        rw [List.getD_eq_getElem?_getD, List.getElem?_eq_getElem (by omega)]
        have := List.dropLast_concat_getLast hne
        rw [List.getLast_eq_getElem] at this
        exact this.symm
      calc nums l = nums (l.dropLast ++ [l.getD (l.length - 1) 0]) := congrArg nums this
        _ = _ := nums_app _ _
    rw [e3]
    have := atI_last (nums l.dropLast) (vn (l.getD (l.length - 1) 0))
    simpa using this
  · have e2 : (h + l.length - 1) % l.length = h - 1 := by
      have e3 : h + l.length - 1 = (h - 1) + l.length := by omega
      rw [e3, Nat.add_mod_right, Nat.mod_eq_of_lt (by omega)]
    rw [e2]
    have e4 : (h : Int) - 1 = ((h - 1 : Nat) : Int) := by omega
    rw [e4]
    exact at_nat (by omega)
theorem rep_nums2 (k n : Nat) : (List.replicate k [vn n]).flatten = nums (List.replicate k n) := by
  unfold nums
  rw [List.map_replicate]
  simp
def spWithTurn (K : PySem.W.Frag) : Sp := fun vs H Q _ => ∃ (a : Addr) (l : List Nat) (t r : Nat), vs = [.ref a, vn t, vn r] ∧ SqL K H a (nums l) ∧ 0 < r ∧ l.length ≤ 10000 ∧
  ∀ p H', Same H H' → H p = none → H' p = some (.lst (nums (l.map fun s => (s + t) % r))) → Q (.ref p) H'
def spNearness (K : PySem.W.Frag) : Sp := fun vs H Q _ => ∃ (a : Addr) (l : List Nat) (r : Nat), vs = [.ref a, vn r] ∧ SqL K H a (nums l) ∧ 0 < r ∧ r ≤ 10000 ∧ (∀ p ∈ l, p < r) ∧
  ∀ p H', Same H H' → H p = none → H' p = some (.lst (nums (nearL r l))) → Q (.ref p) H'
section
variable {P : Program} {w : World} {K : PySem.W.Frag} {mg : Str → Option Value} {base : Heap} {A : Ad}
theorem ok_with_turn (T : Txt K mg A) : FnOk P w K mg base CX0 1 A.f_with_turn A.d_with_turn ["splices", "turn", "round_drum"] (spWithTurn K) := by
  refine T.F_with_turn.ok sc_with_turn (fun vs H Q E h => ?_) (fun cdv Ar outer s H vs Q E hr h => ?_)
  · obtain ⟨a, l, t, r, rfl, _⟩ := h; rfl
  · obtain ⟨a, l, t, r, rfl, hS, hr0, hlen, q⟩ := h
    refine ⟨_, pss_one (ps_ret (pe_lc (own := [("place", 3)]) (g := gName 3) (tt := tYes) rfl sc_with_turn.nd (pi_list (pv 0)) (blkOk_by (own := [("place", 3)]) (N := ["splices", "turn", "round_drum", "place"]) (sc := defScope s_with_turn) (by decide +kernel))
      (fun _ _ _ _ _ => pg_name (i := 3) sc_with_turn.nd rfl (Or.inl rfl)) (fun _ _ _ _ _ => pts_nil) (fun _ _ _ _ _ => pe_op oMod (pe_op oAdd (pv 3) (pv 1)) (pv 2)))), ?_⟩
    refine ⟨_, rfl, a, rfl, ⟨_, hS⟩, fun D hD => lc_nums (fun s => (s + t) % r) hS hD (by omega) (fun n H' hn e R k => ?_) (fun H' e h => q D H' e hD h) (fun _ _ _ _ h z => h _ _ z)⟩
    exact ⟨rfl, _, rfl, _, rfl, _, _, rfl, rfl, _, rfl, _, _, rfl, rfl, hr0, k _ (Same.refl _)⟩
theorem ok_nearness (T : Txt K mg A) : FnOk P w K mg base CX0 1 A.f_nearness A.d_nearness ["places", "round_drum"] (spNearness K) := by
  refine T.F_nearness.ok sc_nearness (fun vs H Q E h => ?_) (fun cdv Ar outer s H vs Q E hr h => ?_)
  · obtain ⟨a, l, r, rfl, _⟩ := h; rfl
  · obtain ⟨a, l, r, rfl, hS, hr0, hr1, hl, q⟩ := h
    refine ⟨_, pss_cons (ps_set (i := 2) sc_nearness.nd rfl (Or.inl rfl) (pe_op op_rep (pe_lst (pa_cons (pv 1) pa_nil)) (pv 1)))
      (pss_cons (ps_for PassesOwn.never rfl (pi_list (pv 0)) (pg_name (i := 3) sc_nearness.nd rfl (Or.inl rfl)) (pss_one (ps_asg (pn 0) (pg_sub (pv 2) (pv 3) set_list))))
      (pss_cons (ps_for PassesOwn.never rfl (pi_range1 rfl T.z_range (pa_cons (pe_op oMul (pn 2) (pv 1)) pa_nil)) (pg_name (i := 4) sc_nearness.nd rfl (Or.inl rfl))
        (pss_cons (ps_set (i := 5) sc_nearness.nd rfl (Or.inl rfl) (pe_op oMod (pv 4) (pv 1)))
        (pss_one (ps_asg (pe_callB (cMin2 rfl) (by rfl) T.z_min (by decide +kernel) (pa_cons (pe_ix ix_list (pv 2) (pv 5) (fun _ _ => rfl)) (pa_cons (pe_op oAdd (pe_ix ix_list (pv 2) (pe_op op_sub (pv 5) pe_int) (fun _ _ => rfl)) (pn 1)) pa_nil))) (pg_sub (pv 2) (pv 5) set_list)))))
      (pss_cons (ps_for PassesOwn.never rfl (pi_range3 rfl T.z_range (pa_cons (pe_op oMul (pn 2) (pv 1)) (pa_cons pe_int (pa_cons (pe_un un_neg pe_int) pa_nil)))) (pg_name (i := 4) sc_nearness.nd rfl (Or.inl rfl))
        (pss_cons (ps_set (i := 5) sc_nearness.nd rfl (Or.inl rfl) (pe_op oMod (pv 4) (pv 1)))
        (pss_one (ps_asg (pe_callB (cMin2 rfl) (by rfl) T.z_min (by decide +kernel) (pa_cons (pe_ix ix_list (pv 2) (pv 5) (fun _ _ => rfl)) (pa_cons (pe_op oAdd (pe_ix ix_list (pv 2) (pe_op oMod (pe_op oAdd (pv 5) (pn 1)) (pv 1)) (fun _ _ => rfl)) (pn 1)) pa_nil))) (pg_sub (pv 2) (pv 5) set_list)))))
      (pss_one (ps_ret (pv 2)))))), ?_⟩
    refine ⟨_, rfl, sz (by show 1 ≤ 100000; decide), fun p1 hp1 => ⟨_, rfl, p1, r, _, rfl, rfl, upd_same, by omega, by omega, sz (by show 1 * ((r : Int)).toNat ≤ 100000; omega), fun F hF => ?_⟩⟩
    have hF0 : H F = none := (same_new hp1).free hF
    have s0 := (same_new hp1).trans (same_new (o := .lst (List.replicate r [vn r]).flatten) hF)
    rw [rep_nums2] at s0
    have f0 : (upd (upd H p1 (.lst [vn r])) F (.lst (List.replicate r [vn r]).flatten)) F = some (.lst (nums (List.replicate r r))) := by rw [upd_same, rep_nums2]
    rw [← rep_nums2] at s0
    refine ⟨_, rfl, a, rfl, ⟨_, s0.seq hS⟩, for_nums (K := K) (a := a) (l := l) (fun i σ H' => ∃ v : Option V, σ = [some (.ref a), some (vn r), some (.ref F), v, none, none] ∧ Same H H' ∧ H' F = some (.lst (nums ((l.take i).foldl (fun l p => l.set p 0) (List.replicate r r)))))
      ⟨none, rfl, s0, f0⟩ (fun i σ H' ⟨_, _, e, _⟩ => e.seq hS) ?_ ?_⟩
    · rintro i n σ H' hn ⟨v, rfl, e1, e2⟩
      refine ⟨_, rfl, _, rfl, F, _, _, n, rfl, rfl, e2, ixn ?_, ⟨some (vn n), rfl, same_mut e1 hF0, ?_⟩⟩
      · rw [nums_len, mark_len, List.length_replicate]; exact hl n (at_mem hn)
      · rw [upd_same, take_succ hn, List.foldl_append]
        exact congrArg (fun z => some (HO.lst z)) (nums_set _ n 0).symm
    · rintro σ H' ⟨v3, rfl, e1, e2⟩
      rw [List.take_length] at e2
      refine ⟨_, rfl, _, _, rfl, rfl, .inl (by omega), ((2 * r : Nat) : Int), rfl, by omega, by omega, for_rangeN (n := 2 * r) (fun i σ H' => ∃ v4 v5 : Option V, σ = [some (.ref a), some (vn r), some (.ref F), v3, v4, v5] ∧ Same H H' ∧ H' F = some (.lst (nums (fwd r (mark r l) i))))
        ⟨none, none, rfl, e1, e2⟩ ?_ ?_⟩
      · rintro i σ H1 hi ⟨v4, v5, rfl, f1, f2⟩
        have hlen : (fwd r (mark r l) i).length = r := by rw [fwd_len, mark_length]
        have hmod : i % r < r := Nat.mod_lt _ hr0
        have hb := at_back (l := fwd r (mark r l) i) (h := i % r) (by rw [hlen]; exact hmod)
        rw [hlen] at hb
        refine ⟨_, rfl, _, rfl, _, _, rfl, rfl, hr0, _, rfl, _, rfl, F, _, _, _, rfl, rfl, SqL.of f2, at_nat (by rw [hlen]; exact hmod), ?_⟩
        refine ⟨_, rfl, _, rfl, _, _, rfl, rfl, F, _, _, _, rfl, rfl, SqL.of f2, hb, _, _, rfl, rfl, _, _, rfl, ?_⟩
        refine ⟨_, rfl, _, rfl, F, _, _, i % r, rfl, rfl, f2, ixn (by rw [nums_len, hlen]; exact hmod), ⟨_, _, rfl, same_mut f1 hF0, ?_⟩⟩
        rw [upd_same]
        show some (HO.lst ((nums (fwd r (mark r l) i)).set (i % r) (vn _))) = some (HO.lst (nums (fstep r (fwd r (mark r l) i) i)))
        unfold fstep
        rw [nums_set]
      · rintro σ H1 ⟨v4, v5, rfl, f1, f2⟩
        have rg := RgC.neg (i := ((2 * r : Nat) : Int)) (j := 0) (by omega) (by omega) (by omega) (by omega)
        rw [show (((2 * r : Nat) : Int) - 0).toNat = 2 * r by omega] at rg
        refine ⟨_, rfl, _, _, rfl, rfl, .inl (by omega), _, rfl, ((2 * r : Nat) : Int), 0, -1, 2 * r, rfl, rg, for_downN (k := 2 * r) (n := 2 * r) (Nat.le_refl _) (fun i σ H' => ∃ v4 v5 : Option V, σ = [some (.ref a), some (vn r), some (.ref F), v3, v4, v5] ∧ Same H H' ∧ H' F = some (.lst (nums (bwd r (fwd r (mark r l) (2 * r)) i))))
          ⟨v4, v5, rfl, f1, f2⟩ ?_ ?_⟩
        · rintro i σ H2 hi ⟨v4, v5, rfl, g1, g2⟩
          have hlen : (bwd r (fwd r (mark r l) (2 * r)) i).length = r := by rw [bwd_len, fwd_len, mark_length]
          have hmod : (2 * r - i) % r < r := Nat.mod_lt _ hr0
          refine ⟨_, rfl, _, rfl, _, _, rfl, rfl, hr0, _, rfl, _, rfl, F, _, _, _, rfl, rfl, SqL.of g2, at_nat (by rw [hlen]; exact hmod), ?_⟩
          refine ⟨_, rfl, _, rfl, _, _, rfl, rfl, _, rfl, _, _, rfl, rfl, hr0, F, _, _, _, rfl, rfl, SqL.of g2, at_nat (by rw [hlen]; exact Nat.mod_lt _ hr0), _, _, rfl, rfl, _, _, rfl, ?_⟩
          refine ⟨_, rfl, _, rfl, F, _, _, (2 * r - i) % r, rfl, rfl, g2, ixn (by rw [nums_len, hlen]; exact hmod), ⟨_, _, rfl, same_mut g1 hF0, ?_⟩⟩
          rw [upd_same]
          show some (HO.lst ((nums (bwd r (fwd r (mark r l) (2 * r)) i)).set ((2 * r - i) % r) (vn _))) = some (HO.lst (nums (bstep r (bwd r (fwd r (mark r l) (2 * r)) i) (2 * r - i))))
          unfold bstep
          rw [nums_set]
        · rintro σ H2 ⟨v4, v5, rfl, g1, g2⟩
          exact ⟨_, rfl, q F H2 g1 hF0 g2⟩
end
end Bp

namespace Bp
open PySem PySem.Spec PyProof.Rows L2
open Su65 (Abs Ply Roll)
/-! # How near splices come; the least turn; the best -/
def vo : Option Nat → V
  | none => .non
  | some t => vn t
def spNearest (K : PySem.W.Frag) : Sp := fun vs H Q _ => ∃ (a b : Addr) (l nl : List Nat) (t : Nat), vs = [.ref a, vn t, .ref b] ∧ SqL K H a (nums l) ∧ SqL K H b (nums nl) ∧ l ≠ [] ∧ 0 < nl.length ∧ l.length ≤ 10000 ∧
  ∀ H', Same H H' → Q (vn (nearN l t nl)) H'
def spLeastTurn (K : PySem.W.Frag) : Sp := fun vs H Q _ => ∃ (a b : Addr) (l nl : List Nat) (d : Nat), vs = [.ref a, .ref b, vn d] ∧ SqL K H a (nums l) ∧ SqL K H b (nums nl) ∧ l ≠ [] ∧ 0 < nl.length ∧ l.length ≤ 10000 ∧ nl.length ≤ 10000 ∧
  ∀ H', Same H H' → Q (vo ((List.range nl.length).find? fun t => decide (d ≤ nearN l t nl))) H'
def spBestTurn (K : PySem.W.Frag) : Sp := fun vs H Q _ => ∃ (a b : Addr) (l nl : List Nat), vs = [.ref a, .ref b] ∧ SqL K H a (nums l) ∧ SqL K H b (nums nl) ∧ l ≠ [] ∧ 0 < nl.length ∧ l.length ≤ 10000 ∧ nl.length ≤ 10000 ∧
  ∀ p H', Same H H' → H p = none → H' p = some (.tup [vn (bestT (fun t => nearN l t nl) nl.length).1, vn (bestT (fun t => nearN l t nl) nl.length).2]) → Q (.ref p) H'
section
variable {P : Program} {w : World} {K : PySem.W.Frag} {mg : Str → Option Value} {base : Heap} {A : Ad}
theorem ixK {X : Cx} {K : PySem.W.Frag} (h : X.K = K) : IxR X (rIxL K) := by rw [← h]; exact ix_list
theorem ok_nearest (T : Txt K mg A) : FnOk P w K mg base CX0 2 A.f_nearest A.d_nearest ["splices", "turn", "near"] (spNearest K) := by
  have GW : FnOk P w K mg base CX0 1 A.f_with_turn A.d_with_turn _ (spWithTurn K) := ok_with_turn T
  refine T.F_nearest.ok sc_nearest (fun vs H Q E h => ?_) (fun cdv Ar outer s H vs Q E hr h => ?_)
  · obtain ⟨a, b, l, nl, t, rfl, _⟩ := h; rfl
  · obtain ⟨a, b, l, nl, t, rfl, ha, hb, hne, hpos, hlen, q⟩ := h
    refine ⟨_, pss_one (ps_ret (pe_callB (cMin rfl) (by rfl) T.z_min (by decide +kernel) (pa_cons (pe_lc (own := [("place", 3)]) (g := gName 3) (tt := tYes) rfl sc_nearest.nd
      (pi_list (pe_call GW hr rfl T.g_with_turn T.F_with_turn.kp T.b_with_turn .nil pass0 (pa_cons (pv 0) (pa_cons (pv 1) (pa_cons (pe_callB cLen (by rfl) T.z_len PySem.boot_len (pa_cons (pv 2) pa_nil)) pa_nil)))))
      (blkOk_by (own := [("place", 3)]) (N := ["splices", "turn", "near", "place"]) (sc := defScope s_nearest) (by decide +kernel))
      (fun _ _ _ _ _ => pg_name (i := 3) sc_nearest.nd rfl (Or.inl rfl)) (fun _ _ _ _ _ => pts_nil) (fun _ _ _ _ _ => pe_ix (ixK (K := K) rfl) (pv 2) (pv 3) (fun _ _ => rfl))) pa_nil))), ?_⟩
    refine ⟨_, rfl, _, rfl, _, rfl, b, _, nl.length, rfl, hb, nums_len _, a, l, t, nl.length, rfl, ha, hpos, hlen, fun p H1 e hp hp2 => ⟨p, rfl, ⟨_, SqL.of hp2⟩, fun D hD =>
      lc_nums (fun i => nl.getD i 0) (SqL.of hp2) hD (by rw [List.length_map]; omega) (fun n H' hn e2 R k => ?_) (fun H' e2 h => ?_) (fun _ _ _ _ h z => h _ _ z)⟩⟩
    · obtain ⟨s, _, hs⟩ := List.mem_map.mp hn
      have hlt : n < nl.length := by rw [← hs]; exact Nat.mod_lt _ hpos
      exact ⟨rfl, _, rfl, _, rfl, b, _, _, _, rfl, rfl, (e.trans e2).seq hb, at_nat hlt, k _ (Same.refl _)⟩
    · rw [List.map_map] at h
      exact ⟨D, _, rfl, SqL.of h, by simpa using hne, q H' (e.trans e2)⟩
theorem ok_least_turn (T : Txt K mg A) : FnOk P w K mg base CX0 3 A.f_least_turn A.d_least_turn ["splices", "near", "bound"] (spLeastTurn K) := by
  have GN : FnOk P w K mg base CX0 2 A.f_nearest A.d_nearest _ (spNearest K) := ok_nearest T
  refine T.F_least_turn.ok sc_least_turn (fun vs H Q E h => ?_) (fun cdv Ar outer s H vs Q E hr h => ?_)
  · obtain ⟨a, b, l, nl, t, rfl, _⟩ := h; rfl
  · obtain ⟨a, b, l, nl, d, rfl, ha, hb, hne, hpos, hlen, hnl, q⟩ := h
    refine ⟨_, pss_cons (ps_for PassesOwn.never rfl (pi_range1 rfl T.z_range (pa_cons (pe_callB cLen (by rfl) T.z_len PySem.boot_len (pa_cons (pv 1) pa_nil)) pa_nil)) (pg_name (i := 3) sc_least_turn.nd rfl (Or.inl rfl))
        (pss_one (ps_if (pt_cmpR oGe (pe_call GN hr rfl T.g_nearest T.F_nearest.kp T.b_nearest .nil pass0 (pa_cons (pv 0) (pa_cons (pv 3) (pa_cons (pv 1) pa_nil)))) (pv 2) (nomark _)) (pss_one (ps_ret (pv 3))) pss_nil)))
      (pss_one (ps_ret pe_non)), ?_⟩
    refine ⟨_, rfl, b, _, nl.length, rfl, hb, nums_len _, (nl.length : Int), rfl, by omega, by omega, for_rangeN (n := nl.length) (fun i σ H' => ∃ v : Option V, σ = [some (.ref a), some (.ref b), some (vn d), v] ∧ Same H H' ∧ ∀ j, j < i → decide (d ≤ nearN l j nl) = false)
      ⟨none, rfl, Same.refl _, fun j hj => absurd hj (Nat.not_lt_zero _)⟩ ?_ ?_⟩
    · rintro i σ H1 hi ⟨v, rfl, e1, hj⟩
      refine ⟨_, rfl, _, rfl, _, rfl, a, b, l, nl, i, rfl, e1.seq ha, e1.seq hb, hne, hpos, hlen, fun H2 e2 => ⟨_, rfl, _, _, rfl, rfl, _, rfl, ?_⟩⟩
      by_cases c : d ≤ nearN l i nl
      · refine iteTr (decide_eq_true c) ⟨_, rfl, ?_⟩
        have := q H2 (e1.trans e2)
        rw [find_range hi (decide_eq_true c) hj] at this
        exact this
      · refine iteFa (decide_eq_false c) ⟨_, rfl, e1.trans e2, fun j h => ?_⟩
        by_cases z : j = i
        · subst z; exact decide_eq_false c
        · exact hj j (by omega)
    · rintro σ H1 ⟨v, rfl, e1, hj⟩
      have := q H1 e1
      rw [find_none hj] at this
      exact this
theorem ok_best_turn (T : Txt K mg A) : FnOk P w K mg base CX0 3 A.f_best_turn A.d_best_turn ["splices", "near"] (spBestTurn K) := by
  have GN : FnOk P w K mg base CX0 2 A.f_nearest A.d_nearest _ (spNearest K) := ok_nearest T
  refine T.F_best_turn.ok sc_best_turn (fun vs H Q E h => ?_) (fun cdv Ar outer s H vs Q E hr h => ?_)
  · obtain ⟨a, b, l, nl, rfl, _⟩ := h; rfl
  · obtain ⟨a, b, l, nl, rfl, ha, hb, hne, hpos, hlen, hnl, q⟩ := h
    refine ⟨_, pss_cons (ps_set (i := 2) sc_best_turn.nd rfl (Or.inl rfl) (pn 0))
      (pss_cons (ps_set (i := 3) sc_best_turn.nd rfl (Or.inl rfl) (pe_call GN hr rfl T.g_nearest T.F_nearest.kp T.b_nearest .nil pass0 (pa_cons (pv 0) (pa_cons (pn 0) (pa_cons (pv 1) pa_nil)))))
      (pss_cons (ps_for PassesOwn.never rfl (pi_range2 rfl T.z_range (pa_cons (pn 1) (pa_cons (pe_callB cLen (by rfl) T.z_len PySem.boot_len (pa_cons (pv 1) pa_nil)) pa_nil))) (pg_name (i := 4) sc_best_turn.nd rfl (Or.inl rfl))
        (pss_cons (ps_set (i := 5) sc_best_turn.nd rfl (Or.inl rfl) (pe_call GN hr rfl T.g_nearest T.F_nearest.kp T.b_nearest .nil pass0 (pa_cons (pv 0) (pa_cons (pv 4) (pa_cons (pv 1) pa_nil)))))
        (pss_one (ps_if (pt_cmpR oGt (pv 5) (pv 3) (nomark _)) (pss_cons (ps_set (i := 2) sc_best_turn.nd rfl (Or.inl rfl) (pv 4)) (pss_one (ps_set (i := 3) sc_best_turn.nd rfl (Or.inl rfl) (pv 5)))) pss_nil))))
      (pss_one (ps_ret (pe_tup (pa_cons (pv 2) (pa_cons (pv 3) pa_nil))))))), ?_⟩
    refine ⟨_, rfl, _, rfl, a, b, l, nl, 0, rfl, ha, hb, hne, hpos, hlen, fun H1 e1 => ⟨_, rfl, b, _, nl.length, rfl, e1.seq hb, nums_len _, 1, (nl.length : Int), rfl, ⟨by omega, by omega, by omega, by omega⟩, for_range1N (n := ((nl.length : Int) - 1).toNat)
      (fun i σ H' => ∃ v4 v5 : Option V, σ = [some (.ref a), some (.ref b), some (vn (bestT (fun t => nearN l t nl) (i + 1)).1), some (vn (bestT (fun t => nearN l t nl) (i + 1)).2), v4, v5] ∧ Same H H') ⟨none, none, ?_, e1⟩ ?_ ?_⟩⟩
    · rw [Nat.zero_add, bestT_one]; rfl
    · rintro i σ H2 hi ⟨v4, v5, rfl, e2⟩
      refine ⟨_, rfl, _, rfl, _, rfl, a, b, l, nl, i + 1, rfl, e2.seq ha, e2.seq hb, hne, hpos, hlen, fun H3 e3 => ⟨_, rfl, _, rfl, _, _, rfl, rfl, _, rfl, ?_⟩⟩
      by_cases c : (bestT (fun t => nearN l t nl) (i + 1)).2 < nearN l (i + 1) nl
      · refine iteTr (decide_eq_true c) ⟨_, rfl, _, rfl, some (vn (i + 1)), some (vn (nearN l (i + 1) nl)), ?_, e2.trans e3⟩
        rw [bestT_succ _ (i + 1), if_pos c]; rfl
      · refine iteFa (decide_eq_false c) ⟨some (vn (i + 1)), some (vn (nearN l (i + 1) nl)), ?_, e2.trans e3⟩
        rw [bestT_succ _ (i + 1), if_neg c]; rfl
    · rintro σ H2 ⟨v4, v5, rfl, e2⟩
      have en : ((nl.length : Int) - 1).toNat + 1 = nl.length := by omega
      rw [en]
      exact ⟨_, rfl, _, rfl, sz (by show 2 ≤ 100000; decide), fun p hp => q p _ (e2.trans (same_new hp)) (e2.free hp) upd_same⟩
end
end Bp

namespace Bp
open PySem PySem.Spec PyProof.Rows L2
open Su65 (Abs Ply Roll)
/-! # The slant: what a piece covers, the pieces of a ply, where they begin -/
theorem putF_new {f : Str} {v : V} : ∀ {fs : List (Str × V)} (ks : List Str), fs.map Prod.fst = ks → ks.all (fun k => decide (k ≠ f)) = true → putF f v fs = fs ++ [(f, v)]
  | [], _, _, _ => rfl
  | (g, x) :: r, ks, e, h => by
    subst e
    rw [List.map_cons, List.all_cons, Bool.and_eq_true] at h
    have h1 : g ≠ f := of_decide_eq_true h.1
    rw [put_past h1, putF_new (fs := r) _ rfl h.2]; rfl
theorem put_Slant {a b c d : V} : putF "short" d (putF "round_drum" c (putF "c" b (putF "a" a []))) = ([("a", a), ("c", b), ("round_drum", c), ("short", d)] : List (Str × V)) := by
  rw [putF_new (f := "a") [] rfl (by decide +kernel), putF_new (f := "c") ["a"] rfl (by decide +kernel), putF_new (f := "round_drum") ["a", "c"] rfl (by decide +kernel), putF_new (f := "short") ["a", "c", "round_drum"] rfl (by decide +kernel)]
  rfl
def spSlantInit (A : Ad) : Sp := fun vs H Q _ => ∃ (p dx : Addr) (a c r s : Nat), vs = [.ref p, vn a, vn c, vn r, vn s] ∧ H p = some (.ins A.cSlant dx []) ∧
  ∀ H', H' p = some (.ins A.cSlant dx (fSl a c r s)) → (∀ b o, H b = some o → b ≠ p → H' b = some o) → Q .non H'
def spCover (A : Ad) : Sp := fun vs H Q _ => ∃ (a : Addr) (x : Abs) (n : Nat), vs = [.ref a, vn n] ∧ SlAt A H a x ∧ WF x ∧ Q (vn (x.piece n)) H
def spTakes (A : Ad) : Sp := fun vs H Q _ => ∃ (a : Addr) (x : Abs) (n : Nat), vs = [.ref a, vn n] ∧ SlAt A H a x ∧ WF x ∧ Q (vn (x.takes n)) H
def spPieces (A : Ad) : Sp := fun vs H Q _ => ∃ (a : Addr) (x : Abs) (n : Nat), vs = [.ref a, vn n] ∧ SlAt A H a x ∧ WF x ∧ 0 < n ∧ n ≤ 2000 ∧ (piecesL x (x.piece n) = none → Q .non H) ∧
  ∀ ps, piecesL x (x.piece n) = some ps → ∀ p H', Same H H' → H p = none → H' p = some (.lst (nums ps)) → Q (.ref p) H'
def spBegins (K : PySem.W.Frag) : Sp := fun vs H Q _ => ∃ (a : Addr) (l : List Nat), vs = [.ref a] ∧ SqL K H a (nums l) ∧ l.length ≤ 10000 ∧
  ∀ p H', Same H H' → H p = none → H' p = some (.lst (nums (beginsL 0 l))) → Q (.ref p) H'
section
variable {P : Program} {w : World} {K : PySem.W.Frag} {mg : Str → Option Value} {base : Heap} {A : Ad}
theorem ok_Slant_init (T : Txt K mg A) : FnOk P w K mg base CX0 1 A.f_Slant_init A.d_Slant_init ["self", "a", "c", "round_drum", "short"] (spSlantInit A) := by
  refine T.F_Slant_init.ok sc_Slant_init (fun vs H Q E h => ?_) (fun cdv Ar outer s H vs Q E hr h => ?_)
  · obtain ⟨p, dx, a, c, r, s, rfl, _⟩ := h; rfl
  · obtain ⟨p, dx, a, c, r, s, rfl, hp, q⟩ := h
    refine ⟨_, pss_cons (ps_fld (pv 0) (pv 1) rfl) (pss_cons (ps_fld (pv 0) (pv 2) rfl) (pss_cons (ps_fld (pv 0) (pv 3) rfl) (pss_one (ps_fld (pv 0) (pv 4) rfl)))), ?_⟩
    refine ⟨_, rfl, _, rfl, p, A.cSlant, dx, [], rfl, hp, T.cl_Slant, T.n_Slant_a, by show 0 < 1000; decide, ?_⟩
    refine ⟨_, rfl, _, rfl, p, A.cSlant, dx, _, rfl, upd_same, T.cl_Slant, T.n_Slant_c, by show 1 < 1000; decide, ?_⟩
    refine ⟨_, rfl, _, rfl, p, A.cSlant, dx, _, rfl, upd_same, T.cl_Slant, T.n_Slant_round_drum, ?_, ?_⟩
    · rw [putF_new (f := "a") [] rfl (by decide +kernel), putF_new (f := "c") ["a"] rfl (by decide +kernel)]; show 2 < 1000; decide
    refine ⟨_, rfl, _, rfl, p, A.cSlant, dx, _, rfl, upd_same, T.cl_Slant, T.n_Slant_short, ?_, ?_⟩
    · rw [putF_new (f := "a") [] rfl (by decide +kernel), putF_new (f := "c") ["a"] rfl (by decide +kernel), putF_new (f := "round_drum") ["a", "c"] rfl (by decide +kernel)]; show 3 < 1000; decide
    refine q _ ?_ fun b o e hb => ?_
    · rw [upd_same, put_Slant]
    · rw [upd_ne hb, upd_ne hb, upd_ne hb, upd_ne hb]; exact e
theorem ok_cover (T : Txt K mg A) : FnOk P w K mg base CX0 1 A.f_cover A.d_cover ["self", "wide"] (spCover A) := by
  refine T.F_cover.ok sc_cover (fun vs H Q E h => ?_) (fun cdv Ar outer s H vs Q E hr h => ?_)
  · obtain ⟨a, x, n, rfl, _⟩ := h; rfl
  · obtain ⟨a, x, n, rfl, ⟨dx, ha⟩, wf, q⟩ := h
    refine ⟨_, pss_one (ps_ret (pe_op oDiv (pe_op oMul (pv 1) (pe_fld (pv 0) rfl)) (pe_fld (pv 0) rfl))), ?_⟩
    have h1 := wf.a0
    have h2 := wf.ac
    have h3 := wf.c1
    exact ⟨_, rfl, _, rfl, a, A.cSlant, dx, _, _, rfl, ha, T.cl_Slant, T.n_Slant_c, lk_Slant_c, _, _, rfl, rfl, .inr (by omega), _, rfl, a, A.cSlant, dx, _, _, rfl, ha, T.cl_Slant, T.n_Slant_a, lk_Slant_a, _, _, rfl, rfl, h1, by omega, q⟩
theorem ok_takes (T : Txt K mg A) : FnOk P w K mg base CX0 1 A.f_takes A.d_takes ["self", "wide"] (spTakes A) := by
  refine T.F_takes.ok sc_takes (fun vs H Q E h => ?_) (fun cdv Ar outer s H vs Q E hr h => ?_)
  · obtain ⟨a, x, n, rfl, _⟩ := h; rfl
  · obtain ⟨a, x, n, rfl, ⟨dx, ha⟩, wf, q⟩ := h
    refine ⟨_, pss_one (ps_ret (pe_op oDiv (pe_op oSub (pe_op oAdd (pe_op oMul (pv 1) (pe_fld (pv 0) rfl)) (pe_fld (pv 0) rfl)) (pn 1)) (pe_fld (pv 0) rfl))), ?_⟩
    have h1 := wf.a0
    have h2 := wf.ac
    have h3 := wf.c1
    exact ⟨_, rfl, _, rfl, a, A.cSlant, dx, _, _, rfl, ha, T.cl_Slant, T.n_Slant_c, lk_Slant_c, _, _, rfl, rfl, .inr (by omega), _, rfl, a, A.cSlant, dx, _, _, rfl, ha, T.cl_Slant, T.n_Slant_a, lk_Slant_a, _, _, rfl, rfl, _, _, rfl, rfl, by omega,
      _, rfl, a, A.cSlant, dx, _, _, rfl, ha, T.cl_Slant, T.n_Slant_a, lk_Slant_a, _, _, rfl, rfl, h1, by omega, q⟩
theorem ok_begins (T : Txt K mg A) : FnOk P w K mg base CX0 1 A.f_begins A.d_begins ["pieces"] (spBegins K) := by
  refine T.F_begins.ok sc_begins (fun vs H Q E h => ?_) (fun cdv Ar outer s H vs Q E hr h => ?_)
  · obtain ⟨a, l, rfl, _⟩ := h; rfl
  · obtain ⟨a, l, rfl, ha, hlen, q⟩ := h
    refine ⟨_, pss_cons (ps_set (i := 1) sc_begins.nd rfl (Or.inl rfl) (pe_lst pa_nil)) (pss_cons (ps_set (i := 2) sc_begins.nd rfl (Or.inl rfl) (pn 0))
      (pss_cons (ps_for PassesOwn.never rfl (pi_list (pv 0)) (pg_name (i := 3) sc_begins.nd rfl (Or.inl rfl))
        (pss_cons (ps_expr (pe_bm PySem.F.plainAttrs_list PySem.F.slot_list_append PySem.F.type_list_append mt_append (pv 1) (pa_cons (pv 2) pa_nil))) (pss_one (ps_aug (i := 2) sc_begins.nd rfl (Or.inl rfl) (pv 3) iAdd))))
      (pss_one (ps_ret (pv 1))))), ?_⟩
    refine ⟨sz (Nat.zero_le _), fun F hF => ⟨_, rfl, a, rfl, ⟨_, (same_new hF).seq ha⟩, for_nums (K := K) (a := a) (l := l) (fun i σ H' => ∃ v : Option V, σ = [some (.ref a), some (.ref F), some (vn (l.take i).sum), v] ∧ Same H H' ∧ H' F = some (.lst (nums (beginsL 0 (l.take i)))))
      ⟨none, rfl, same_new hF, upd_same⟩ (fun i σ H' ⟨_, _, e, _⟩ => e.seq ha) ?_ ?_⟩⟩
    · rintro i n σ H1 hn ⟨v, rfl, e1, e2⟩
      refine ⟨_, rfl, .inl ⟨rfl, _, SqL.of e2⟩, _, rfl, F, _, _, rfl, rfl, e2, szl ?_, _, rfl, _, rfl, _, _, rfl, rfl, some (vn n), ?_, same_mut e1 hF, ?_⟩
      · rw [nums_len, beginsL_len, List.length_take]; omega
      · rw [take_succ hn, List.sum_append]; simp
      · rw [upd_same, take_succ hn, beginsL_snoc, nums_app, Nat.zero_add]; rfl
    · rintro σ H1 ⟨v, rfl, e1, e2⟩
      rw [List.take_length] at e2
      exact ⟨_, rfl, q F H1 e1 hF e2⟩
theorem rep_one (k n : Nat) : (List.replicate k [vn n]).flatten = nums (List.replicate k n) := by
  unfold nums
  rw [List.map_replicate]
  simp
theorem ok_pieces (T : Txt K mg A) : FnOk P w K mg base CX0 2 A.f_pieces A.d_pieces ["self", "wide"] (spPieces A) := by
  have GC : FnOk P w K mg base CX0 1 A.f_cover A.d_cover _ (spCover A) := ok_cover T
  refine T.F_pieces.ok sc_pieces (fun vs H Q E h => ?_) (fun cdv Ar outer s H vs Q E hr h => ?_)
  · obtain ⟨a, x, n, rfl, _⟩ := h; rfl
  · obtain ⟨a, x, n, rfl, hS, wf, hn, hn2, qN, qS⟩ := h
    refine ⟨_, pss_cons (ps_set (i := 2) sc_pieces.nd rfl (Or.inl rfl) (pe_meth (pv 0) T.cl_Slant T.m_cover GC hr T.b_cover .nil pass0 (pa_cons (pv 1) pa_nil)))
      (pss_cons (ps_set (i := 3) sc_pieces.nd rfl (Or.inl rfl) (pe_op oDiv (pe_op oSub (pe_op oAdd (pe_fld (pv 0) rfl) (pv 2)) (pn 1)) (pv 2)))
      (pss_cons (ps_if (pt_cmpR oEq (pv 3) (pn 1) (nomark _)) (pss_one (ps_ret (pe_lst (pa_cons (pe_fld (pv 0) rfl) pa_nil)))) pss_nil)
      (pss_cons (ps_set (i := 4) sc_pieces.nd rfl (Or.inl rfl) (pe_op oSub (pe_fld (pv 0) rfl) (pe_op oMul (pe_op oSub (pv 3) (pn 1)) (pv 2))))
      (pss_cons (ps_set (i := 5) sc_pieces.nd rfl (Or.inl rfl) (pv 2))
      (pss_cons (ps_if (pt_cmpR oLt (pv 4) (pe_fld (pv 0) rfl) (nomark _))
        (pss_cons (ps_set (i := 5) sc_pieces.nd rfl (Or.inl rfl) (pe_op op_sub (pv 2) (pe_op oSub (pe_fld (pv 0) rfl) (pv 4))))
        (pss_cons (ps_set (i := 4) sc_pieces.nd rfl (Or.inl rfl) (pe_fld (pv 0) rfl))
        (pss_one (ps_if (pt_cmpR op_lt (pv 5) (pe_fld (pv 0) rfl) (nomark _)) (pss_one (ps_ret pe_non)) pss_nil)))) pss_nil)
      (pss_one (ps_ret (pe_op op_cat (pe_op op_rep (pe_lst (pa_cons (pv 2) pa_nil)) (pe_op oSub (pv 3) (pn 2))) (pe_lst (pa_cons (pv 5) (pa_cons (pv 4) pa_nil))))))))))), ?_⟩
    obtain ⟨dx, ha⟩ := id hS
    have hs1 := piece_ge wf n
    have hs2 := piece_le wf hn2
    have hr0 : 0 < x.round_ := by have := wf.r1; omega
    have hr2 := wf.r2
    have hs0 : 0 < x.piece n := by omega
    have hm1 : 1 ≤ (x.round_ + x.piece n - 1) / x.piece n := many_pos (x := x) hs0 hr0
    have hm2 : ((x.round_ + x.piece n - 1) / x.piece n - 1) * x.piece n < x.round_ := many_lt (x := x) hs0 hr0
    have hm3 : (x.round_ + x.piece n - 1) / x.piece n ≤ x.round_ := many_le_round wf hs0
    have hsh := wf.s0
    have hsh2 := wf.s1
    have hpl : piecesL x (x.piece n) = (if (x.round_ + x.piece n - 1) / x.piece n = 1 then some [x.round_] else if x.round_ - ((x.round_ + x.piece n - 1) / x.piece n - 1) * x.piece n < x.short then
      if x.piece n + (x.round_ - ((x.round_ + x.piece n - 1) / x.piece n - 1) * x.piece n) < 2 * x.short then none else some (List.replicate ((x.round_ + x.piece n - 1) / x.piece n - 2) (x.piece n) ++ [x.piece n - (x.short - (x.round_ - ((x.round_ + x.piece n - 1) / x.piece n - 1) * x.piece n)), x.short])
      else some (List.replicate ((x.round_ + x.piece n - 1) / x.piece n - 2) (x.piece n) ++ [x.piece n, x.round_ - ((x.round_ + x.piece n - 1) / x.piece n - 1) * x.piece n])) := rfl
    refine ⟨_, rfl, a, dx, _, rfl, ha, lk_Slant_m_cover, _, rfl, a, x, n, rfl, hS, wf, ?_⟩
    generalize x.piece n = S at hs1 hs2 hs0 hm1 hm2 hm3 hpl qN qS ⊢
    refine ⟨_, rfl, a, A.cSlant, dx, _, _, rfl, ha, T.cl_Slant, T.n_Slant_round_drum, lk_Slant_round_drum, _, rfl, _, _, rfl, rfl, _, _, rfl, rfl, by omega, _, rfl, _, _, rfl, rfl, hs0, by omega, ?_⟩
    generalize (x.round_ + S - 1) / S = M at hm1 hm2 hm3 hpl ⊢
    generalize hL : (M - 1) * S = L1 at hm2 hpl
    rw [hpl] at qN qS
    refine ⟨_, rfl, _, _, rfl, rfl, _, rfl, ?_⟩
    by_cases c1 : M = 1
    · rw [if_pos c1] at qN qS
      refine iteTr (decide_eq_true c1) ⟨_, rfl, a, A.cSlant, dx, _, _, rfl, ha, T.cl_Slant, T.n_Slant_round_drum, lk_Slant_round_drum, sz (by show 1 ≤ 100000; decide), fun p hp => qS _ rfl p _ (same_new hp) hp upd_same⟩
    · rw [if_neg c1] at qN qS
      refine iteFa (decide_eq_false c1) ?_
      refine ⟨_, rfl, a, A.cSlant, dx, _, _, rfl, ha, T.cl_Slant, T.n_Slant_round_drum, lk_Slant_round_drum, _, rfl, _, _, rfl, rfl, by omega, _, rfl, _, _, rfl, rfl, .inl (by omega), _, _, rfl, rfl, ?_, ?_⟩
      · rw [hL]; omega
      rw [hL]
      refine ⟨_, rfl, ?_⟩
      refine ⟨_, rfl, _, rfl, a, A.cSlant, dx, _, _, rfl, ha, T.cl_Slant, T.n_Slant_short, lk_Slant_short, _, _, rfl, rfl, _, rfl, ?_⟩
      by_cases c2 : x.round_ - L1 < x.short
      · rw [if_pos c2] at qN qS
        refine iteTr (decide_eq_true c2) ?_
        refine ⟨_, rfl, _, rfl, a, A.cSlant, dx, _, _, rfl, ha, T.cl_Slant, T.n_Slant_short, lk_Slant_short, _, rfl, _, _, rfl, rfl, by omega, _, _, rfl, rfl, ?_⟩
        refine ⟨_, rfl, a, A.cSlant, dx, _, _, rfl, ha, T.cl_Slant, T.n_Slant_short, lk_Slant_short, ?_⟩
        refine ⟨_, rfl, _, rfl, a, A.cSlant, dx, _, _, rfl, ha, T.cl_Slant, T.n_Slant_short, lk_Slant_short, _, _, rfl, rfl, _, rfl, ?_⟩
        by_cases c3 : S + (x.round_ - L1) < 2 * x.short
        · rw [if_pos c3] at qN
          exact iteTr (decide_eq_true (by omega)) (qN rfl)
        · rw [if_neg c3] at qS
          refine iteFa (decide_eq_false (by omega)) ?_
          refine ⟨_, rfl, sz (by show 1 ≤ 100000; decide), fun p1 hp1 => ⟨_, rfl, _, _, rfl, rfl, by omega, p1, ((M - 2 : Nat) : Int), _, rfl, rfl, upd_same, by omega, by omega, sz (by show 1 * (((M - 2 : Nat) : Int)).toNat ≤ 100000; omega), fun p2 hp2 => ?_⟩⟩
          have s2 := (same_new hp1).trans (same_new (o := .lst (List.replicate (M - 2) [vn S]).flatten) hp2)
          refine ⟨_, rfl, _, rfl, sz (by show 2 ≤ 100000; decide), fun p3 hp3 => ⟨p2, p3, _, _, rfl, rfl, (upd_ne (ne_of_none upd_same hp3)).trans upd_same, upd_same, sz ?_, fun p4 hp4 => ?_⟩⟩
          · show ((List.replicate (M - 2) [vn S]).flatten).length + 2 ≤ 100000
            rw [rep_one, nums_len, List.length_replicate]; omega
          · have s3 := s2.trans (same_new (o := .lst [V.int ((S : Int) - ((x.short - (x.round_ - L1) : Nat) : Int)), vn x.short]) hp3)
            refine qS _ rfl p4 _ (s3.trans (same_new hp4)) (s3.free hp4) ?_
            rw [upd_same]
            show some (HO.lst ((List.replicate (M - 2) [vn S]).flatten ++ [V.int ((S : Int) - ((x.short - (x.round_ - L1) : Nat) : Int)), vn x.short])) = _
            rw [rep_one, nums_app, show (S : Int) - ((x.short - (x.round_ - L1) : Nat) : Int) = ((S - (x.short - (x.round_ - L1)) : Nat) : Int) by omega]
            rfl
      · rw [if_neg c2] at qS
        refine iteFa (decide_eq_false c2) ?_
        refine ⟨_, rfl, sz (by show 1 ≤ 100000; decide), fun p1 hp1 => ⟨_, rfl, _, _, rfl, rfl, by omega, p1, ((M - 2 : Nat) : Int), _, rfl, rfl, upd_same, by omega, by omega, sz (by show 1 * (((M - 2 : Nat) : Int)).toNat ≤ 100000; omega), fun p2 hp2 => ?_⟩⟩
        have s2 := (same_new hp1).trans (same_new (o := .lst (List.replicate (M - 2) [vn S]).flatten) hp2)
        refine ⟨_, rfl, _, rfl, sz (by show 2 ≤ 100000; decide), fun p3 hp3 => ⟨p2, p3, _, _, rfl, rfl, (upd_ne (ne_of_none upd_same hp3)).trans upd_same, upd_same, sz ?_, fun p4 hp4 => ?_⟩⟩
        · show ((List.replicate (M - 2) [vn S]).flatten).length + 2 ≤ 100000
          rw [rep_one, nums_len, List.length_replicate]; omega
        · have s3 := s2.trans (same_new (o := .lst [vn S, vn (x.round_ - L1)]) hp3)
          refine qS _ rfl p4 _ (s3.trans (same_new hp4)) (s3.free hp4) ?_
          rw [upd_same]
          show some (HO.lst ((List.replicate (M - 2) [vn S]).flatten ++ [vn S, vn (x.round_ - L1)])) = _
          rw [rep_one, nums_app]
          rfl
end
end Bp

namespace Bp
open PySem PySem.Spec PyProof.Rows L2
open Su65 (Abs Ply Roll)
/-! # Rolls, plies, a store: made and read -/
theorem laidB (t : Nat) : (!decide (vt t = V.non)) = (t != 0) := by
  cases t with
  | zero => rfl
  | succ n => rfl
theorem vt_pos {t : Nat} (h : t ≠ 0) : vt t = vn (t - 1) := by
  cases t with
  | zero => exact absurd rfl h
  | succ n => rfl
theorem refs_atI {n i : Nat} {f : Nat → Addr} (h : i < n) : atI (refs n f) (i : Int) = some (.ref (f i)) := atI_nat (refs_at h)
def spRollInit (A : Ad) : Sp := fun vs H Q _ => ∃ (p dx : Addr) (w l : Nat), vs = [.ref p, vn w, vn l] ∧ H p = some (.ins A.cRoll dx []) ∧
  ∀ H', H' p = some (.ins A.cRoll dx (fRo w l l)) → (∀ b o, H b = some o → b ≠ p → H' b = some o) → Q .non H'
def spPlyInit (A : Ad) : Sp := fun vs H Q _ => ∃ (p dx l : Addr) (r w : Nat), vs = [.ref p, vn r, vn w, .ref l] ∧ H p = some (.ins A.cPly dx []) ∧
  ∀ H', H' p = some (.ins A.cPly dx (fPl r w l .non)) → (∀ b o, H b = some o → b ≠ p → H' b = some o) → Q .non H'
def spStoreInit (A : Ad) : Sp := fun vs H Q _ => ∃ (p dx l : Addr) (d : Nat), vs = [.ref p, .ref l, vn d] ∧ H p = some (.ins A.cStore dx []) ∧
  ∀ H' RL PL, H RL = none → H PL = none → RL ≠ PL → H' RL = some (.lst []) → H' PL = some (.lst []) → H' p = some (.ins A.cStore dx (fSt l d RL PL)) → (∀ b o, H b = some o → b ≠ p → H' b = some o) → Q .non H'
def spIsLaid (A : Ad) : Sp := fun vs H Q _ => ∃ (a l : Addr) (z : Ply), vs = [.ref a] ∧ PlAt A H a l z ∧ Q (.bl (z.turn != 0)) H
def spDrum (A : Ad) : Sp := fun vs H Q _ => ∃ (L : Lay) (x : Abs), vs = [.ref L.S] ∧ StAt A H L x ∧ Q (vn x.round_) H
def spLaid (A : Ad) : Sp := fun vs H Q _ => ∃ (L : Lay) (x : Abs), vs = [.ref L.S] ∧ StAt A H L x ∧ WF x ∧ ∀ p H', Same H H' → H p = none → H' p = some (.lst (nums x.laid)) → Q (.ref p) H'
def spPlaces (A : Ad) : Sp := fun vs H Q _ => ∃ (L : Lay) (x : Abs) (k : Nat), vs = [.ref L.S, vn k] ∧ StAt A H L x ∧ WF x ∧ k < x.plies.length ∧ (x.ply k).turn ≠ 0 ∧
  ∀ p H', Same H H' → H p = none → H' p = some (.lst (nums (x.places k ((x.ply k).turn - 1)))) → Q (.ref p) H'
def spIsRight : Sp := fun vs H Q _ => ∃ a b c : Nat, vs = [vn a, vn b, vn c] ∧ a < 4294967296 ∧ b < 4294967296 ∧ c < 4294967296 ∧ Q (.bl (decide (0 < a ∧ 0 < b ∧ a * a + b * b = c * c))) H
def spNewStore (A : Ad) : Sp := fun vs H Q _ => ∃ a c r d s : Nat, vs = [vn a, vn c, vn r, vn d, vn s] ∧
  ∀ H' L, Same H H' → (∀ b, Foot L (Su65.new a c r d s) b → H b = none) → StAt A H' L (Su65.new a c r d s) → Q (.ref L.S) H'
section
variable {P : Program} {w : World} {K : PySem.W.Frag} {mg : Str → Option Value} {base : Heap} {A : Ad}
theorem ok_Roll_init (T : Txt K mg A) : FnOk P w K mg base CX0 1 A.f_Roll_init A.d_Roll_init ["self", "wide", "long"] (spRollInit A) := by
  refine T.F_Roll_init.ok sc_Roll_init (fun vs H Q E h => ?_) (fun cdv Ar outer s H vs Q E hr h => ?_)
  · obtain ⟨p, dx, w, l, rfl, _⟩ := h; rfl
  · obtain ⟨p, dx, w, l, rfl, hp, q⟩ := h
    refine ⟨_, pss_cons (ps_fld (pv 0) (pv 1) rfl) (pss_cons (ps_fld (pv 0) (pv 2) rfl) (pss_one (ps_fld (pv 0) (pv 2) rfl))), ?_⟩
    refine ⟨_, rfl, _, rfl, p, A.cRoll, dx, [], rfl, hp, T.cl_Roll, T.n_Roll_wide, by show 0 < 1000; decide, ?_⟩
    refine ⟨_, rfl, _, rfl, p, A.cRoll, dx, _, rfl, upd_same, T.cl_Roll, T.n_Roll_long, by show 1 < 1000; decide, ?_⟩
    refine ⟨_, rfl, _, rfl, p, A.cRoll, dx, _, rfl, upd_same, T.cl_Roll, T.n_Roll_left, ?_, ?_⟩
    · rw [putF_new (f := "wide") [] rfl (by decide +kernel), putF_new (f := "long") ["wide"] rfl (by decide +kernel)]; show 2 < 1000; decide
    refine q _ ?_ fun b o e hb => ?_
    · rw [upd_same, putF_new (f := "wide") [] rfl (by decide +kernel), putF_new (f := "long") ["wide"] rfl (by decide +kernel), putF_new (f := "left") ["wide", "long"] rfl (by decide +kernel)]; rfl
    · rw [upd_ne hb, upd_ne hb, upd_ne hb]; exact e
theorem ok_Ply_init (T : Txt K mg A) : FnOk P w K mg base CX0 1 A.f_Ply_init A.d_Ply_init ["self", "roll", "wide", "splices"] (spPlyInit A) := by
  refine T.F_Ply_init.ok sc_Ply_init (fun vs H Q E h => ?_) (fun cdv Ar outer s H vs Q E hr h => ?_)
  · obtain ⟨p, dx, l, r, w, rfl, _⟩ := h; rfl
  · obtain ⟨p, dx, l, r, w, rfl, hp, q⟩ := h
    refine ⟨_, pss_cons (ps_fld (pv 0) (pv 1) rfl) (pss_cons (ps_fld (pv 0) (pv 2) rfl) (pss_cons (ps_fld (pv 0) (pv 3) rfl) (pss_one (ps_fld (pv 0) pe_non rfl)))), ?_⟩
    refine ⟨_, rfl, _, rfl, p, A.cPly, dx, [], rfl, hp, T.cl_Ply, T.n_Ply_roll, by show 0 < 1000; decide, ?_⟩
    refine ⟨_, rfl, _, rfl, p, A.cPly, dx, _, rfl, upd_same, T.cl_Ply, T.n_Ply_wide, by show 1 < 1000; decide, ?_⟩
    refine ⟨_, rfl, _, rfl, p, A.cPly, dx, _, rfl, upd_same, T.cl_Ply, T.n_Ply_splices, ?_, ?_⟩
    · rw [putF_new (f := "roll") [] rfl (by decide +kernel), putF_new (f := "wide") ["roll"] rfl (by decide +kernel)]; show 2 < 1000; decide
    refine ⟨_, rfl, p, A.cPly, dx, _, rfl, upd_same, T.cl_Ply, T.n_Ply_turn, ?_, ?_⟩
    · rw [putF_new (f := "roll") [] rfl (by decide +kernel), putF_new (f := "wide") ["roll"] rfl (by decide +kernel), putF_new (f := "splices") ["roll", "wide"] rfl (by decide +kernel)]; show 3 < 1000; decide
    refine q _ ?_ fun b o e hb => ?_
    · rw [upd_same, putF_new (f := "roll") [] rfl (by decide +kernel), putF_new (f := "wide") ["roll"] rfl (by decide +kernel), putF_new (f := "splices") ["roll", "wide"] rfl (by decide +kernel), putF_new (f := "turn") ["roll", "wide", "splices"] rfl (by decide +kernel)]; rfl
    · rw [upd_ne hb, upd_ne hb, upd_ne hb, upd_ne hb]; exact e
theorem ok_Store_init (T : Txt K mg A) : FnOk P w K mg base CX0 1 A.f_Store_init A.d_Store_init ["self", "slant", "near"] (spStoreInit A) := by
  refine T.F_Store_init.ok sc_Store_init (fun vs H Q E h => ?_) (fun cdv Ar outer s H vs Q E hr h => ?_)
  · obtain ⟨p, dx, l, d, rfl, _⟩ := h; rfl
  · obtain ⟨p, dx, l, d, rfl, hp, q⟩ := h
    refine ⟨_, pss_cons (ps_fld (pv 0) (pv 1) rfl) (pss_cons (ps_fld (pv 0) (pv 2) rfl) (pss_cons (ps_fld (pv 0) (pe_lst pa_nil) rfl) (pss_one (ps_fld (pv 0) (pe_lst pa_nil) rfl)))), ?_⟩
    refine ⟨_, rfl, _, rfl, p, A.cStore, dx, [], rfl, hp, T.cl_Store, T.n_Store_slant, by show 0 < 1000; decide, ?_⟩
    refine ⟨_, rfl, _, rfl, p, A.cStore, dx, _, rfl, upd_same, T.cl_Store, T.n_Store_near, by show 1 < 1000; decide, ?_⟩
    refine ⟨sz (Nat.zero_le _), fun RL hRL => ?_⟩
    have n1 : RL ≠ p := fun e => by rw [e, upd_same] at hRL; cases hRL
    have h1 : H RL = none := by rw [upd_ne n1, upd_ne n1] at hRL; exact hRL
    refine ⟨_, rfl, p, A.cStore, dx, _, rfl, (upd_ne n1.symm).trans upd_same, T.cl_Store, T.n_Store_rolls, ?_, ?_⟩
    · rw [putF_new (f := "slant") [] rfl (by decide +kernel), putF_new (f := "near") ["slant"] rfl (by decide +kernel)]; show 2 < 1000; decide
    refine ⟨sz (Nat.zero_le _), fun PL hPL => ?_⟩
    have n2 : PL ≠ p := fun e => by rw [e, upd_same] at hPL; cases hPL
    have n3 : PL ≠ RL := fun e => by rw [e, upd_ne n1, upd_same] at hPL; cases hPL
    have h2 : H PL = none := by rw [upd_ne n2, upd_ne n3, upd_ne n2, upd_ne n2] at hPL; exact hPL
    refine ⟨_, rfl, p, A.cStore, dx, _, rfl, (upd_ne n2.symm).trans upd_same, T.cl_Store, T.n_Store_plies, ?_, ?_⟩
    · rw [putF_new (f := "slant") [] rfl (by decide +kernel), putF_new (f := "near") ["slant"] rfl (by decide +kernel), putF_new (f := "rolls") ["slant", "near"] rfl (by decide +kernel)]; show 3 < 1000; decide
    refine q _ RL PL h1 h2 n3.symm ?_ ?_ ?_ fun b o e hb => ?_
    · rw [upd_ne n1, upd_ne n3.symm, upd_ne n1, upd_same]
    · rw [upd_ne n2, upd_same]
    · rw [upd_same, putF_new (f := "slant") [] rfl (by decide +kernel), putF_new (f := "near") ["slant"] rfl (by decide +kernel), putF_new (f := "rolls") ["slant", "near"] rfl (by decide +kernel), putF_new (f := "plies") ["slant", "near", "rolls"] rfl (by decide +kernel)]; rfl
    · rw [upd_ne hb, upd_ne (ne_of_none e h2), upd_ne hb, upd_ne (ne_of_none e h1), upd_ne hb, upd_ne hb]; exact e
theorem ok_is_laid (T : Txt K mg A) : FnOk P w K mg base CX0 1 A.f_is_laid A.d_is_laid ["self"] (spIsLaid A) := by
  refine T.F_is_laid.ok sc_is_laid (fun vs H Q E h => ?_) (fun cdv Ar outer s H vs Q E hr h => ?_)
  · obtain ⟨a, l, z, rfl, _⟩ := h; rfl
  · obtain ⟨a, l, z, rfl, ⟨dx, ha⟩, q⟩ := h
    refine ⟨_, pss_one (ps_ret (pe_cmpR op_notN (pe_fld (pv 0) rfl) pe_non (nomark _))), ?_⟩
    refine ⟨_, rfl, a, A.cPly, dx, _, _, rfl, ha, T.cl_Ply, T.n_Ply_turn, lk_Ply_turn, rfl, ?_⟩
    exact qb (laidB _) q
theorem ok_drum_size (T : Txt K mg A) : FnOk P w K mg base CX0 1 A.f_drum_size A.d_drum_size ["self"] (spDrum A) := by
  refine T.F_drum_size.ok sc_drum_size (fun vs H Q E h => ?_) (fun cdv Ar outer s H vs Q E hr h => ?_)
  · obtain ⟨L, x, rfl, _⟩ := h; rfl
  · obtain ⟨L, x, rfl, hS, q⟩ := h
    obtain ⟨d1, h1⟩ := hS.st
    obtain ⟨d2, h2⟩ := hS.sl
    refine ⟨_, pss_one (ps_ret (pe_fld (pe_fld (pv 0) rfl) rfl)), ?_⟩
    exact ⟨_, rfl, L.S, A.cStore, d1, _, _, rfl, h1, T.cl_Store, T.n_Store_slant, lk_Store_slant, L.SL, A.cSlant, d2, _, _, rfl, h2, T.cl_Slant, T.n_Slant_round_drum, lk_Slant_round_drum, q⟩
theorem ok_laid (T : Txt K mg A) : FnOk P w K mg base CX0 2 A.f_laid A.d_laid ["self"] (spLaid A) := by
  have GI : FnOk P w K mg base CX0 1 A.f_is_laid A.d_is_laid _ (spIsLaid A) := ok_is_laid T
  refine T.F_laid.ok sc_laid (fun vs H Q E h => ?_) (fun cdv Ar outer s H vs Q E hr h => ?_)
  · obtain ⟨L, x, rfl, _⟩ := h; rfl
  · obtain ⟨L, x, rfl, hS, wf, q⟩ := h
    obtain ⟨d1, h1⟩ := hS.st
    refine ⟨_, pss_one (ps_ret (pe_lc (own := [("k", 1), ("ply", 2)]) (g := gTup K 2 (gCons (gName 1) (gCons (gName 2) gNil))) (tt := tB (tMeth A.cPly "is_laid" (spIsLaid A) [] E0 (tVar 2) tNil)) rfl sc_laid.nd
      (pi_enum rfl T.z_enumerate (pa_cons (pe_fld (pv 0) rfl) pa_nil)) (blkOk_by (own := [("k", 1), ("ply", 2)]) (N := ["self", "k", "ply"]) (sc := defScope s_laid) (by decide +kernel))
      (fun _ _ _ _ _ => pg_tup rfl (pgs_cons (pg_name (i := 1) sc_laid.nd rfl (Or.inl rfl)) (pgs_cons (pg_name (i := 2) sc_laid.nd rfl (Or.inl rfl)) pgs_nil)))
      (fun _ _ _ _ _ => pts_one (pt_val (pe_meth0 (pv 2) T.cl_Ply T.m_is_laid GI hr T.b_is_laid .nil pass0))) (fun _ _ _ _ _ => pv 1))), ?_⟩
    refine ⟨_, rfl, L.S, A.cStore, d1, _, _, rfl, h1, T.cl_Store, T.n_Store_plies, lk_Store_plies, L.PL, _, rfl, SqL.of hS.pl, fun D hD => lc_it walk_enum
      (fun i H' => Same H H' ∧ H' D = some (.lst (nums ((List.range i).filter fun p => (x.ply p).turn != 0)))) ⟨same_new hD, upd_same⟩ (fun i H' _ p => p.1.seq (SqL.of hS.pl)) ?_ ?_⟩
    · intro i v H1 H2 hi p y
      obtain ⟨Tp, a, b, rfl, hT, rfl, ha, hb⟩ := y
      have ha' : a = vn i := (Option.some.inj ha).symm
      subst ha'
      obtain ⟨hi2, rfl⟩ := refs_get hb
      have s2 := p.1.trans (same_new (o := .tup [vn i, .ref (L.pa i)]) hT)
      refine ⟨Tp, _, rfl, SqT.of upd_same, rfl, _, _, rfl, _, _, rfl, rfl, rfl, ?_⟩
      obtain ⟨dp, hp⟩ := hS.py i hi2
      refine ⟨_, rfl, L.pa i, dp, _, rfl, s2 _ _ hp, lk_Ply_m_is_laid, L.pa i, L.la i, x.ply i, rfl, ⟨dp, s2 _ _ hp⟩, _, rfl, ?_⟩
      by_cases c : ((x.ply i).turn != 0) = true
      · refine iteTr c ⟨_, rfl, _, (same_new hT) _ _ p.2, szl ?_, same_mut s2 hD, ?_⟩
        · rw [nums_len]
          have h4 := List.length_filter_le (fun p => (x.ply p).turn != 0) (List.range i)
          rw [List.length_range] at h4
          have := wf.pn
          omega
        · rw [upd_same, List.range_succ, List.filter_append, List.filter_cons, if_pos c, nums_app]; rfl
      · have c2 : ((x.ply i).turn != 0) = false := by simpa using c
        refine iteFa c2 ⟨s2, ?_⟩
        rw [List.range_succ, List.filter_append, List.filter_cons, if_neg c, List.filter_nil, List.append_nil]
        exact (same_new hT) _ _ p.2
    · intro H1 p
      rw [refs_len] at p
      exact q D H1 p.1 hD p.2
theorem ok_places (T : Txt K mg A) : FnOk P w K mg base CX0 2 A.f_places A.d_places ["self", "k"] (spPlaces A) := by
  have GW : FnOk P w K mg base CX0 1 A.f_with_turn A.d_with_turn _ (spWithTurn K) := ok_with_turn T
  refine T.F_places.ok sc_places (fun vs H Q E h => ?_) (fun cdv Ar outer s H vs Q E hr h => ?_)
  · obtain ⟨L, x, k, rfl, _⟩ := h; rfl
  · obtain ⟨L, x, k, rfl, hS, wf, hk, ht, q⟩ := h
    obtain ⟨d1, h1⟩ := hS.st
    obtain ⟨d2, h2⟩ := hS.sl
    obtain ⟨d3, h3⟩ := hS.py k hk
    rw [vt_pos ht] at h3
    have hw := wf.py _ (ply_mem hk)
    refine ⟨_, pss_cons (ps_set (i := 2) sc_places.nd rfl (Or.inl rfl) (pe_ix ix_list (pe_fld (pv 0) rfl) (pv 1) (fun _ _ => rfl)))
      (pss_one (ps_ret (pe_call GW hr rfl T.g_with_turn T.F_with_turn.kp T.b_with_turn .nil pass0 (pa_cons (pe_fld (pv 2) rfl) (pa_cons (pe_fld (pv 2) rfl) (pa_cons (pe_fld (pe_fld (pv 0) rfl) rfl) pa_nil)))))), ?_⟩
    refine ⟨_, rfl, L.S, A.cStore, d1, _, _, rfl, h1, T.cl_Store, T.n_Store_plies, lk_Store_plies, _, rfl, L.PL, _, (k : Int), _, rfl, rfl, SqL.of hS.pl, refs_atI hk, ?_⟩
    refine ⟨_, rfl, L.pa k, A.cPly, d3, _, _, rfl, h3, T.cl_Ply, T.n_Ply_splices, lk_Ply_splices, _, rfl, L.pa k, A.cPly, d3, _, _, rfl, h3, T.cl_Ply, T.n_Ply_turn, lk_Ply_turn,
      _, rfl, L.S, A.cStore, d1, _, _, rfl, h1, T.cl_Store, T.n_Store_slant, lk_Store_slant, L.SL, A.cSlant, d2, _, _, rfl, h2, T.cl_Slant, T.n_Slant_round_drum, lk_Slant_round_drum, ?_⟩
    exact ⟨L.la k, _, _, _, rfl, SqL.of (hS.sp k hk), by have := wf.r1; omega, by have := hw.len; omega, q⟩
theorem ok_is_right (T : Txt K mg A) : FnOk P w K mg base CX0 1 A.f_is_right A.d_is_right ["a", "b", "c"] spIsRight := by
  refine T.F_is_right.ok sc_is_right (fun vs H Q E h => ?_) (fun cdv Ar outer s H vs Q E hr h => ?_)
  · obtain ⟨a, b, c, rfl, _⟩ := h; rfl
  · obtain ⟨a, b, c, rfl, ha, hb, hc, q⟩ := h
    refine ⟨_, pss_one (ps_ret (pe_and (pe_cmpR oGt (pv 0) (pn 0) (nomark _)) (pe_and (pe_cmpR oGt (pv 1) (pn 0) (nomark _)) (pe_one (pe_cmpR oEq (pe_op oAdd (pe_op oMul (pv 0) (pv 0)) (pe_op oMul (pv 1) (pv 1))) (pe_op oMul (pv 2) (pv 2)) (nomark _)))))), ?_⟩
    refine ⟨_, rfl, _, _, rfl, rfl, _, rfl, ?_⟩
    by_cases c1 : 0 < a
    · refine iteTr (decide_eq_true c1) ⟨_, rfl, _, _, rfl, rfl, _, rfl, ?_⟩
      by_cases c2 : 0 < b
      · refine iteTr (decide_eq_true c2) ⟨_, rfl, _, rfl, _, _, rfl, rfl, .inl (by omega), _, rfl, _, rfl, _, _, rfl, rfl, .inl (by omega), _, _, rfl, rfl, _, rfl, _, rfl, _, _, rfl, rfl, .inl (by omega), _, _, rfl, rfl, qb ?_ q⟩
        exact decide_eq_decide.mpr ⟨fun h => ⟨c1, c2, h⟩, fun h => h.2.2⟩
      · exact iteFa (decide_eq_false c2) (qb (decide_eq_false fun h => c2 h.2.1).symm q)
    · exact iteFa (decide_eq_false c1) (qb (decide_eq_false fun h => c1 h.1).symm q)
theorem ok_new_store (T : Txt K mg A) : FnOk P w K mg base CX0 3 A.f_new_store A.d_new_store ["a", "c", "round_drum", "near", "short"] (spNewStore A) := by
  have G1 : FnOk P w K mg base CX0 1 A.f_Store_init A.d_Store_init _ (spStoreInit A) := ok_Store_init T
  have G2 : FnOk P w K mg base CX0 1 A.f_Slant_init A.d_Slant_init _ (spSlantInit A) := ok_Slant_init T
  refine T.F_new_store.ok sc_new_store (fun vs H Q E h => ?_) (fun cdv Ar outer s H vs Q E hr h => ?_)
  · obtain ⟨a, c, r, d, t, rfl, _⟩ := h; rfl
  · obtain ⟨a, c, r, d, t, rfl, q⟩ := h
    refine ⟨_, pss_one (ps_ret (pe_make T.mk_Store G1 hr rfl T.g_Store T.b_Store_init .nil pass0 (pa_cons (pe_make T.mk_Slant G2 hr rfl T.g_Slant T.b_Slant_init .nil pass0 (pa_cons (pv 0) (pa_cons (pv 1) (pa_cons (pv 2) (pa_cons (pv 4) pa_nil))))) (pa_cons (pv 3) pa_nil)))), ?_⟩
    refine ⟨_, rfl, _, rfl, _, rfl, _, rfl, ?_⟩
    intro SL dl nSL ndl nel
    refine ⟨SL, dl, a, c, r, t, rfl, upd_same, fun H1 hSL k1 => ⟨rfl, _, rfl, ?_⟩⟩
    have s1 : Same H H1 := Same.made nSL ndl k1
    intro S ds nS nds nes
    refine ⟨S, ds, SL, d, rfl, upd_same, fun H2 RL PL nRL nPL nrp hRL hPL hS k2 => ⟨rfl, ?_⟩⟩
    have s2 : Same H1 H2 := Same.made nS nds k2
    have nRL1 : H1 RL = none := by
      have z : RL ≠ S := fun e => by rw [e, upd_same] at nRL; cases nRL
      have z2 : RL ≠ ds := fun e => by rw [e, upd_ne nes, upd_same] at nRL; cases nRL
      rw [upd_ne z, upd_ne z2] at nRL; exact nRL
    have nPL1 : H1 PL = none := by
      have z : PL ≠ S := fun e => by rw [e, upd_same] at nPL; cases nPL
      have z2 : PL ≠ ds := fun e => by rw [e, upd_ne nes, upd_same] at nPL; cases nPL
      rw [upd_ne z, upd_ne z2] at nPL; exact nPL
    refine q H2 ⟨S, SL, RL, PL, fun _ => 0, fun _ => 0, fun _ => 0⟩ (s1.trans s2) ?_ ?_
    · intro b hb
      rcases hb with rfl | rfl | rfl | rfl | ⟨i, hi, _⟩ | ⟨i, hi, _⟩ | ⟨i, hi, _⟩
      · exact s1.free nS
      · exact nSL
      · exact s1.free nRL1
      · exact s1.free nPL1
      · exact absurd hi (Nat.not_lt_zero _)
      · exact absurd hi (Nat.not_lt_zero _)
      · exact absurd hi (Nat.not_lt_zero _)
    · exact ⟨⟨ds, hS⟩, ⟨dl, s2 _ _ hSL⟩, hRL, hPL, fun i hi => absurd hi (Nat.not_lt_zero _), fun i hi => absurd hi (Nat.not_lt_zero _), fun i hi => absurd hi (Nat.not_lt_zero _), fun i j hi => absurd hi (Nat.not_lt_zero _), fun i j hi => absurd hi (Nat.not_lt_zero _), nrp,
        fun i hi => absurd hi (Nat.not_lt_zero _), fun i hi => absurd hi (Nat.not_lt_zero _)⟩
end
end Bp

namespace Bp
open PySem PySem.Spec PyProof.Rows L2
open Su65 (Abs Ply Roll)
/-! # How near the others are; a ply cut -/
theorem flat_len {α β : Type} {f : α → List β} {b : Nat} : ∀ {l : List α}, (∀ a ∈ l, (f a).length ≤ b) → (l.flatMap f).length ≤ l.length * b
  | [], _ => by simp
  | a :: l, h => by
    rw [List.flatMap_cons, List.length_append, List.length_cons, Nat.add_mul, Nat.one_mul]
    have h1 := h a List.mem_cons_self
    have h2 := flat_len (l := l) (f := f) (b := b) fun c hc => h c (List.mem_cons_of_mem _ hc)
    omega
theorem places_len {x : Abs} (p t : Nat) : (x.places p t).length = (x.ply p).splices.length := List.length_map _
/-- the others' splices among the first i laid -/
def preO (x : Abs) (k i : Nat) : List Nat := ((x.laid.take i).filter fun q => q != k).flatMap fun q => x.places q ((x.ply q).turn - 1)
theorem preO_len {x : Abs} (w : WF x) (k i : Nat) : (preO x k i).length ≤ 240 := by
  unfold preO
  have h1 := flat_len (l := (x.laid.take i).filter fun q => q != k) (f := fun q => x.places q ((x.ply q).turn - 1)) (b := 20) fun q hq => by
    have hm := List.mem_of_mem_take (List.mem_filter.mp hq).1
    rw [places_len]
    exact (w.py _ (ply_mem (laid_lt hm).1)).len
  have h2 := List.length_filter_le (fun q => q != k) (x.laid.take i)
  have h3 : (x.laid.take i).length ≤ x.laid.length := by rw [List.length_take]; omega
  have h4 := laid_len w
  have h5 := Nat.mul_le_mul_right 20 (Nat.le_trans h2 (Nat.le_trans h3 h4))
  omega
theorem preO_yes {x : Abs} {k i q : Nat} (h : x.laid[i]? = some q) (c : q ≠ k) : preO x k (i + 1) = preO x k i ++ x.places q ((x.ply q).turn - 1) := by
  unfold preO
  rw [take_succ h, List.filter_append, List.flatMap_append, List.filter_cons, if_pos (by simpa using c)]
  simp
theorem preO_no {x : Abs} {k i : Nat} (h : x.laid[i]? = some k) : preO x k (i + 1) = preO x k i := by
  unfold preO
  rw [take_succ h, List.filter_append, List.flatMap_append, List.filter_cons, if_neg (by simp)]
  simp
theorem preO_all (x : Abs) (k : Nat) : preO x k x.laid.length = x.others k := by
  unfold preO
  rw [List.take_length]; rfl
theorem nearest_at {x : Abs} (w : WF x) {p t : Nat} (hp : p < x.plies.length) {ot : List Nat} (ho : ∀ s ∈ ot, s < x.round_) :
    nearN (x.ply p).splices t (nearL x.round_ ot) = x.nearest (x.places p t) ot :=
  nearN_eq x _ ot t (by have := w.r1; omega) (w.py _ (ply_mem hp)).ne ho
def spNearOthers (A : Ad) : Sp := fun vs H Q _ => ∃ (L : Lay) (x : Abs) (k : Nat), vs = [.ref L.S, vn k] ∧ StAt A H L x ∧ WF x ∧
  ∀ p H', Same H H' → H p = none → H' p = some (.lst (nums (nearL x.round_ (x.others k)))) → Q (.ref p) H'
def spBetween (A : Ad) : Sp := fun vs H Q _ => ∃ (L : Lay) (x : Abs) (p q : Nat), vs = [.ref L.S, vn p, vn q] ∧ StAt A H L x ∧ WF x ∧ p < x.plies.length ∧ q < x.plies.length ∧ (x.ply p).turn ≠ 0 ∧ (x.ply q).turn ≠ 0 ∧
  ∀ H', Same H H' → Q (vn (x.nearest (x.places p ((x.ply p).turn - 1)) (x.places q ((x.ply q).turn - 1)))) H'
def spNearestAll (A : Ad) : Sp := fun vs H Q _ => ∃ (L : Lay) (x : Abs), vs = [.ref L.S] ∧ StAt A H L x ∧ WF x ∧ ∀ H', Same H H' → Q (vn x.least2) H'
/-- a store with a ply more, cut of roll r -/
def cutted_ (x : Abs) (r n : Nat) (l : List Nat) : Abs := { x with rolls := x.rolls.modify r (fun z => { z with left := z.left - l.length * x.takes n }), plies := x.plies ++ [⟨r, n, l, 0⟩] }
def spCut (A : Ad) : Sp := fun vs H Q _ => ∃ (L : Lay) (x : Abs) (r n : Nat) (a : Addr) (ps : List Nat), vs = [.ref L.S, vn r, vn n, .ref a] ∧ StAt A H L x ∧ WF x ∧ r < x.rolls.length ∧ n ≤ 2000 ∧ H a = some (.lst (nums ps)) ∧ ¬ Foot L x a ∧ ps.length ≤ 1000 ∧ ps.length * x.takes n ≤ (x.roll r).left ∧
  ∀ H' L', L'.S = L.S → StAt A H' L' (cutted_ x r n (beginsL 0 ps)) → Fr (Foot L x) (Foot L' (cutted_ x r n (beginsL 0 ps))) H H' → H' a = some (.lst (nums ps)) → Q (vn x.plies.length) H'
section
variable {P : Program} {w : World} {K : PySem.W.Frag} {mg : Str → Option Value} {base : Heap} {A : Ad}
theorem ok_near_others (T : Txt K mg A) : FnOk P w K mg base CX0 3 A.f_near_others A.d_near_others ["self", "k"] (spNearOthers A) := by
  have GL : FnOk P w K mg base CX0 2 A.f_laid A.d_laid _ (spLaid A) := ok_laid T
  have GP : FnOk P w K mg base CX0 2 A.f_places A.d_places _ (spPlaces A) := ok_places T
  have GN : FnOk P w K mg base CX0 1 A.f_nearness A.d_nearness _ (spNearness K) := ok_nearness T
  refine T.F_near_others.ok sc_near_others (fun vs H Q E h => ?_) (fun cdv Ar outer s H vs Q E hr h => ?_)
  · obtain ⟨L, x, k, rfl, _⟩ := h; rfl
  · obtain ⟨L, x, k, rfl, hS, wf, q⟩ := h
    obtain ⟨d1, h1⟩ := hS.st
    obtain ⟨d2, h2⟩ := hS.sl
    refine ⟨_, pss_cons (ps_set (i := 2) sc_near_others.nd rfl (Or.inl rfl) (pe_lst pa_nil))
      (pss_cons (ps_for PassesOwn.never rfl (pi_list (pe_meth0 (pv 0) T.cl_Store T.m_laid GL hr T.b_laid .nil pass0)) (pg_name (i := 3) sc_near_others.nd rfl (Or.inl rfl))
        (pss_one (ps_if (pt_cmpR oNe (pv 3) (pv 1) (nomark _)) (pss_one (ps_expr (pe_bm PySem.F.plainAttrs_list PySem.F.slot_list_extend PySem.F.type_list_extend mt_extend (pv 2) (pa_cons (pe_meth (pv 0) T.cl_Store T.m_places GP hr T.b_places .nil pass0 (pa_cons (pv 3) pa_nil)) pa_nil)))) pss_nil)))
      (pss_one (ps_ret (pe_call GN (hr.mono (by decide)) rfl T.g_nearness T.F_nearness.kp T.b_nearness .nil pass0 (pa_cons (pv 2) (pa_cons (pe_fld (pe_fld (pv 0) rfl) rfl) pa_nil)))))), ?_⟩
    refine ⟨sz (Nat.zero_le _), fun F hF => ?_⟩
    have sF := same_new (o := .lst []) hF
    refine ⟨_, rfl, L.S, d1, _, rfl, sF _ _ h1, lk_Store_m_laid, L, x, rfl, hS.same sF, wf, fun p H1 e1 hp hpl => ⟨p, rfl, ⟨_, SqL.of hpl⟩, ?_⟩⟩
    have e0 := sF.trans e1
    have hpF : p ≠ F := fun e => by rw [e, upd_same] at hp; cases hp
    have hp0 : H p = none := sF.free hp
    refine for_nums (K := K) (a := p) (l := x.laid) (fun i σ H' => ∃ v : Option V, σ = [some (.ref L.S), some (vn k), some (.ref F), v] ∧ Same H H' ∧ H' F = some (.lst (nums (preO x k i))) ∧ H' p = some (.lst (nums x.laid)))
      ⟨none, rfl, e0, e1 _ _ upd_same, hpl⟩ (fun i σ H' ⟨_, _, _, _, z⟩ => SqL.of z) ?_ ?_
    · rintro i n σ H2 hn ⟨v, rfl, e2, f2, f3⟩
      obtain ⟨hl1, hl2⟩ := laid_lt (at_mem hn)
      refine ⟨_, rfl, _, rfl, _, _, rfl, rfl, _, rfl, ?_⟩
      by_cases c : n = k
      · subst c
        refine iteFa (by simp) ⟨some (vn n), rfl, e2, ?_, f3⟩
        rw [preO_no hn]; exact f2
      · refine iteTr (by simp [c]) ?_
        refine ⟨_, rfl, .inl ⟨rfl, _, SqL.of f2⟩, _, rfl, L.S, d1, _, rfl, e2 _ _ h1, lk_Store_m_places, _, rfl, L, x, n, rfl, hS.same e2, wf, hl1, hl2, fun g H3 e3 hg hgl => ⟨F, g, _, _, rfl, rfl, e3 _ _ f2, hgl, sz ?_, some (vn n), rfl, same_mut (e2.trans e3) hF, ?_, ?_⟩⟩
        · rw [nums_len, nums_len, places_len]
          have h4 := preO_len wf k i
          have h5 := (wf.py _ (ply_mem hl1)).len
          omega
        · rw [upd_same, preO_yes hn c, nums_app]
        · rw [upd_ne hpF]; exact e3 _ _ f3
    · rintro σ H2 ⟨v, rfl, e2, f2, f3⟩
      rw [preO_all] at f2
      refine ⟨_, rfl, _, rfl, L.S, A.cStore, d1, _, _, rfl, e2 _ _ h1, T.cl_Store, T.n_Store_slant, lk_Store_slant, L.SL, A.cSlant, d2, _, _, rfl, e2 _ _ h2, T.cl_Slant, T.n_Slant_round_drum, lk_Slant_round_drum, F, _, _, rfl, SqL.of f2,
        by have := wf.r1; omega, by have := wf.r2; omega, others_lt wf k, fun g H3 e3 hg hgl => q g H3 (e2.trans e3) (e2.free hg) hgl⟩
theorem ok_between (T : Txt K mg A) : FnOk P w K mg base CX0 3 A.f_between A.d_between ["self", "one", "other"] (spBetween A) := by
  have GP : FnOk P w K mg base CX0 2 A.f_places A.d_places _ (spPlaces A) := ok_places T
  have GN : FnOk P w K mg base CX0 1 A.f_nearness A.d_nearness _ (spNearness K) := ok_nearness T
  have GT : FnOk P w K mg base CX0 2 A.f_nearest A.d_nearest _ (spNearest K) := ok_nearest T
  refine T.F_between.ok sc_between (fun vs H Q E h => ?_) (fun cdv Ar outer s H vs Q E hr h => ?_)
  · obtain ⟨L, x, p, q, rfl, _⟩ := h; rfl
  · obtain ⟨L, x, p, q', rfl, hS, wf, hp, hq, htp, htq, q⟩ := h
    obtain ⟨d1, h1⟩ := hS.st
    obtain ⟨d2, h2⟩ := hS.sl
    obtain ⟨d3, h3⟩ := hS.py p hp
    rw [vt_pos htp] at h3
    have hw := wf.py _ (ply_mem hp)
    refine ⟨_, pss_cons (ps_set (i := 3) sc_between.nd rfl (Or.inl rfl) (pe_call GN (hr.mono (by decide)) rfl T.g_nearness T.F_nearness.kp T.b_nearness .nil pass0 (pa_cons (pe_meth (pv 0) T.cl_Store T.m_places GP hr T.b_places .nil pass0 (pa_cons (pv 2) pa_nil)) (pa_cons (pe_fld (pe_fld (pv 0) rfl) rfl) pa_nil))))
      (pss_cons (ps_set (i := 4) sc_between.nd rfl (Or.inl rfl) (pe_ix ix_list (pe_fld (pv 0) rfl) (pv 1) (fun _ _ => rfl)))
      (pss_one (ps_ret (pe_call GT hr rfl T.g_nearest T.F_nearest.kp T.b_nearest .nil pass0 (pa_cons (pe_fld (pv 4) rfl) (pa_cons (pe_fld (pv 4) rfl) (pa_cons (pv 3) pa_nil))))))), ?_⟩
    refine ⟨_, rfl, L.S, d1, _, rfl, h1, lk_Store_m_places, _, rfl, L, x, q', rfl, hS, wf, hq, htq, fun g H1 e1 hg hgl => ?_⟩
    refine ⟨_, rfl, L.S, A.cStore, d1, _, _, rfl, e1 _ _ h1, T.cl_Store, T.n_Store_slant, lk_Store_slant, L.SL, A.cSlant, d2, _, _, rfl, e1 _ _ h2, T.cl_Slant, T.n_Slant_round_drum, lk_Slant_round_drum, g, _, _, rfl, SqL.of hgl,
      by have := wf.r1; omega, by have := wf.r2; omega, places_lt wf _ _, fun f H2 e2 hf hfl => ?_⟩
    have e := e1.trans e2
    refine ⟨_, rfl, L.S, A.cStore, d1, _, _, rfl, e _ _ h1, T.cl_Store, T.n_Store_plies, lk_Store_plies, _, rfl, L.PL, _, (p : Int), _, rfl, rfl, SqL.of (e _ _ hS.pl), refs_atI hp, ?_⟩
    refine ⟨_, rfl, L.pa p, A.cPly, d3, _, _, rfl, e _ _ h3, T.cl_Ply, T.n_Ply_splices, lk_Ply_splices, _, rfl, L.pa p, A.cPly, d3, _, _, rfl, e _ _ h3, T.cl_Ply, T.n_Ply_turn, lk_Ply_turn, _, rfl, L.la p, f, _, _, _, rfl, SqL.of (e _ _ (hS.sp p hp)), SqL.of hfl,
      hw.ne, by rw [nearL_len]; have := wf.r1; omega, by have := hw.len; omega, fun H3 e3 => ?_⟩
    rw [nearest_at wf hp (places_lt wf _ _)]
    exact q H3 (e.trans e3)
theorem ok_nearest_of_all (T : Txt K mg A) : FnOk P w K mg base CX0 4 A.f_nearest_of_all A.d_nearest_of_all ["self"] (spNearestAll A) := by
  have GL : FnOk P w K mg base CX0 2 A.f_laid A.d_laid _ (spLaid A) := ok_laid T
  have GO : FnOk P w K mg base CX0 3 A.f_near_others A.d_near_others _ (spNearOthers A) := ok_near_others T
  have GT : FnOk P w K mg base CX0 2 A.f_nearest A.d_nearest _ (spNearest K) := ok_nearest T
  refine T.F_nearest_of_all.ok sc_nearest_of_all (fun vs H Q E h => ?_) (fun cdv Ar outer s H vs Q E hr h => ?_)
  · obtain ⟨L, x, rfl, _⟩ := h; rfl
  · obtain ⟨L, x, rfl, hS, wf, q⟩ := h
    obtain ⟨d1, h1⟩ := hS.st
    obtain ⟨d2, h2⟩ := hS.sl
    refine ⟨_, pss_cons (ps_set (i := 1) sc_nearest_of_all.nd rfl (Or.inl rfl) (pe_fld (pe_fld (pv 0) rfl) rfl))
      (pss_cons (ps_for PassesOwn.never rfl (pi_list (pe_meth0 (pv 0) T.cl_Store T.m_laid GL (hr.mono (by decide)) T.b_laid .nil pass0)) (pg_name (i := 2) sc_nearest_of_all.nd rfl (Or.inl rfl))
        (pss_cons (ps_set (i := 3) sc_nearest_of_all.nd rfl (Or.inl rfl) (pe_ix ix_list (pe_fld (pv 0) rfl) (pv 2) (fun _ _ => rfl)))
        (pss_one (ps_set (i := 1) sc_nearest_of_all.nd rfl (Or.inl rfl) (pe_callB (cMin2 rfl) (by rfl) T.z_min (by decide +kernel) (pa_cons (pv 1) (pa_cons (pe_call GT (hr.mono (by decide)) rfl T.g_nearest T.F_nearest.kp T.b_nearest .nil pass0
          (pa_cons (pe_fld (pv 3) rfl) (pa_cons (pe_fld (pv 3) rfl) (pa_cons (pe_meth (pv 0) T.cl_Store T.m_near_others GO hr T.b_near_others .nil pass0 (pa_cons (pv 2) pa_nil)) pa_nil)))) pa_nil)))))))
      (pss_one (ps_ret (pv 1)))), ?_⟩
    refine ⟨_, rfl, L.S, A.cStore, d1, _, _, rfl, h1, T.cl_Store, T.n_Store_slant, lk_Store_slant, L.SL, A.cSlant, d2, _, _, rfl, h2, T.cl_Slant, T.n_Slant_round_drum, lk_Slant_round_drum, ?_⟩
    refine ⟨_, rfl, L.S, d1, _, rfl, h1, lk_Store_m_laid, L, x, rfl, hS, wf, fun p H1 e1 hp hpl => ⟨p, rfl, ⟨_, SqL.of hpl⟩, ?_⟩⟩
    refine for_nums (K := K) (a := p) (l := x.laid) (fun i σ H' => ∃ v2 v3 : Option V, σ = [some (.ref L.S), some (vn (((x.laid.take i).map fun p => x.nearest (x.places p ((x.ply p).turn - 1)) (x.others p)).foldl min x.round_)), v2, v3] ∧ Same H H' ∧ H' p = some (.lst (nums x.laid)))
      ⟨none, none, rfl, e1, hpl⟩ (fun i σ H' ⟨_, _, _, _, z⟩ => SqL.of z) ?_ ?_
    · rintro i n σ H2 hn ⟨v2, v3, rfl, e2, f3⟩
      obtain ⟨hl1, hl2⟩ := laid_lt (at_mem hn)
      obtain ⟨d3, h3⟩ := hS.py n hl1
      rw [vt_pos hl2] at h3
      have hw := wf.py _ (ply_mem hl1)
      refine ⟨_, rfl, L.S, A.cStore, d1, _, _, rfl, e2 _ _ h1, T.cl_Store, T.n_Store_plies, lk_Store_plies, _, rfl, L.PL, _, (n : Int), _, rfl, rfl, SqL.of (e2 _ _ hS.pl), refs_atI hl1, ?_⟩
      refine ⟨_, rfl, _, rfl, L.pa n, A.cPly, d3, _, _, rfl, e2 _ _ h3, T.cl_Ply, T.n_Ply_splices, lk_Ply_splices, _, rfl, L.pa n, A.cPly, d3, _, _, rfl, e2 _ _ h3, T.cl_Ply, T.n_Ply_turn, lk_Ply_turn,
        _, rfl, L.S, d1, _, rfl, e2 _ _ h1, lk_Store_m_near_others, _, rfl, L, x, n, rfl, hS.same e2, wf, fun f H3 e3 hf hfl => ?_⟩
      have e := e2.trans e3
      refine ⟨L.la n, f, _, _, _, rfl, SqL.of (e _ _ (hS.sp n hl1)), SqL.of hfl, hw.ne, by rw [nearL_len]; have := wf.r1; omega, by have := hw.len; omega, fun H4 e4 => ?_⟩
      rw [nearest_at wf hl1 (others_lt wf _)]
      refine ⟨_, _, rfl, some (vn n), some (.ref (L.pa n)), ?_, e.trans e4, (e3.trans e4) _ _ f3⟩
      rw [take_succ hn, List.map_append, List.foldl_append]; rfl
    · rintro σ H2 ⟨v2, v3, rfl, e2, f3⟩
      rw [List.take_length]
      exact ⟨_, rfl, q H2 e2⟩
end
end Bp

namespace Bp
open PySem PySem.Spec PyProof.Rows L2
open Su65 (Abs Ply Roll)
/-! # A ply cut -/
theorem putF_left {a b c v : V} : putF "left" v ([("wide", a), ("long", b), ("left", c)] : List (Str × V)) = ([("wide", a), ("long", b), ("left", v)] : List (Str × V)) := by
  rw [put_past (by decide +kernel), put_past (by decide +kernel), put_here]
/-- a roll has less left -/
theorem roll_modify {x : Abs} {r i : Nat} {f : Roll → Roll} (hi : i < x.rolls.length) : ({ x with rolls := x.rolls.modify r f } : Abs).roll i = if i = r then f (x.roll i) else x.roll i := by
  unfold Abs.roll
  show (x.rolls.modify r f).getD i _ = _
  rw [List.getD_eq_getElem?_getD, List.getElem?_modify, List.getD_eq_getElem?_getD, List.getElem?_eq_getElem hi]
  by_cases e : r = i
  · subst e; simp
  · have e2 : ¬ i = r := fun z => e z.symm
    simp [e, e2]
theorem StAt.less {A : Ad} {H : Hp} {L : Lay} {x : Abs} {r m : Nat} {dx : Addr} (s : StAt A H L x) (hr : r < x.rolls.length) (hd : H (L.ra r) = some (.ins A.cRoll dx (fRo (x.roll r).wide (x.roll r).long (x.roll r).left))) :
    StAt A (upd H (L.ra r) (.ins A.cRoll dx (fRo (x.roll r).wide (x.roll r).long ((x.roll r).left - m)))) L { x with rolls := x.rolls.modify r (fun z => { z with left := z.left - m }) } := by
  have hl : (x.rolls.modify r (fun z => { z with left := z.left - m })).length = x.rolls.length := List.length_modify _ _ _
  refine ⟨?_, ?_, ?_, ?_, fun i hi => ?_, fun i hi => ?_, fun i hi => ?_, ?_, s.pn, s.rp, s.lr, s.lp⟩
  · obtain ⟨d, h⟩ := s.st
    exact ⟨d, by rw [upd_ne (ne_of h hd (fld_ne (by decide +kernel)))]; exact h⟩
  · obtain ⟨d, h⟩ := s.sl
    exact ⟨d, by rw [upd_ne (ne_of h hd (fld_ne (by decide +kernel)))]; exact h⟩
  · rw [upd_ne (ne_of s.rl hd lst_ne_ins)]; show _ = some (HO.lst (refs (x.rolls.modify r _).length L.ra)); rw [hl]; exact s.rl
  · rw [upd_ne (ne_of s.pl hd lst_ne_ins)]; exact s.pl
  · replace hi : i < (x.rolls.modify r (fun z => { z with left := z.left - m })).length := hi
    rw [hl] at hi
    rw [roll_modify hi]
    by_cases e : i = r
    · subst e
      rw [if_pos rfl]
      exact ⟨dx, upd_same⟩
    · rw [if_neg e]
      obtain ⟨d, h⟩ := s.ro i hi
      exact ⟨d, by rw [upd_ne (fun z => e (s.rn _ _ hi hr z))]; exact h⟩
  · obtain ⟨d, h⟩ := s.py i hi
    exact ⟨d, by rw [upd_ne (ne_of h hd (fld_ne (by decide +kernel)))]; exact h⟩
  · rw [upd_ne (ne_of (s.sp i hi) hd lst_ne_ins)]
    exact s.sp i hi
  · intro i j hi hj
    replace hi : i < (x.rolls.modify r (fun z => { z with left := z.left - m })).length := hi
    replace hj : j < (x.rolls.modify r (fun z => { z with left := z.left - m })).length := hj
    rw [hl] at hi hj; exact s.rn i j hi hj
theorem ply_app {x : Abs} {z : Ply} {i : Nat} : ({ x with plies := x.plies ++ [z] } : Abs).ply i = if i = x.plies.length then z else x.ply i := by
  unfold Abs.ply
  show (x.plies ++ [z]).getD i _ = _
  rw [List.getD_eq_getElem?_getD, List.getD_eq_getElem?_getD]
  by_cases e : i = x.plies.length
  · subst e; simp
  · rw [if_neg e]
    by_cases c : i < x.plies.length
    · rw [List.getElem?_append_left c]
    · rw [List.getElem?_eq_none (by rw [List.length_append]; show x.plies.length + 1 ≤ i; omega), List.getElem?_eq_none (by omega)]
theorem roll_app {x : Abs} {z : Roll} {i : Nat} : ({ x with rolls := x.rolls ++ [z] } : Abs).roll i = if i = x.rolls.length then z else x.roll i := by
  unfold Abs.roll
  show (x.rolls ++ [z]).getD i _ = _
  rw [List.getD_eq_getElem?_getD, List.getD_eq_getElem?_getD]
  by_cases e : i = x.rolls.length
  · subst e; simp
  · rw [if_neg e]
    by_cases c : i < x.rolls.length
    · rw [List.getElem?_append_left c]
    · rw [List.getElem?_eq_none (by rw [List.length_append]; show x.rolls.length + 1 ≤ i; omega), List.getElem?_eq_none (by omega)]
def Lay.ply (L : Lay) (n : Nat) (p l : Addr) : Lay := { L with pa := fun i => if i = n then p else L.pa i, la := fun i => if i = n then l else L.la i }
def Lay.roll (L : Lay) (n : Nat) (p : Addr) : Lay := { L with ra := fun i => if i = n then p else L.ra i }
/-- a ply more -/
theorem StAt.ply {A : Ad} {H H' : Hp} {L : Lay} {x : Abs} {z : Ply} {p l : Addr} (s : StAt A H L x) (hp0 : H p = none) (hl0 : H l = none) (k : ∀ b o, H b = some o → b ≠ L.PL → H' b = some o)
    (hPL : H' L.PL = some (.lst (refs x.plies.length L.pa ++ [.ref p]))) (hp : PlAt A H' p l z) (hl : H' l = some (.lst (nums z.splices))) : StAt A H' (L.ply x.plies.length p l) { x with plies := x.plies ++ [z] } := by
  have hlen : (x.plies ++ [z]).length = x.plies.length + 1 := by rw [List.length_append]; rfl
  have npa : ∀ i, i < x.plies.length → (if i = x.plies.length then p else L.pa i) = L.pa i := fun i hi => if_neg (by omega)
  have nla : ∀ i, i < x.plies.length → (if i = x.plies.length then l else L.la i) = L.la i := fun i hi => if_neg (by omega)
  have pnew : ∀ i, i < x.plies.length → L.pa i ≠ p := fun i hi e => by
    obtain ⟨d, h⟩ := s.py i hi
    rw [e, hp0] at h; cases h
  refine ⟨?_, ?_, k _ _ s.rl s.rp, ?_, fun i hi => ?_, fun i hi => ?_, fun i hi => ?_, s.rn, ?_, s.rp, ?_, ?_⟩
  · obtain ⟨d, h⟩ := s.st
    exact ⟨d, k _ _ h (ne_of s.pl h lst_ne_ins).symm⟩
  · obtain ⟨d, h⟩ := s.sl
    exact ⟨d, k _ _ h (ne_of s.pl h lst_ne_ins).symm⟩
  · show H' L.PL = some (.lst (refs (x.plies ++ [z]).length (fun i => if i = x.plies.length then p else L.pa i)))
    rw [hPL, hlen, refs_succ, refs_congr npa, if_pos rfl]
  · obtain ⟨d, h⟩ := s.ro i hi
    exact ⟨d, k _ _ h (ne_of s.pl h lst_ne_ins).symm⟩
  · replace hi : i < (x.plies ++ [z]).length := hi
    rw [hlen] at hi
    rw [ply_app]
    by_cases e : i = x.plies.length
    · subst e
      show PlAt A H' (if x.plies.length = x.plies.length then p else _) (if x.plies.length = x.plies.length then l else _) _
      rw [if_pos rfl, if_pos rfl, if_pos rfl]; exact hp
    · show PlAt A H' (if i = x.plies.length then p else L.pa i) (if i = x.plies.length then l else L.la i) _
      rw [if_neg e, if_neg e, if_neg e]
      obtain ⟨d, h⟩ := s.py i (by omega)
      exact ⟨d, k _ _ h (ne_of s.pl h lst_ne_ins).symm⟩
  · replace hi : i < (x.plies ++ [z]).length := hi
    rw [hlen] at hi
    rw [ply_app]
    show H' (if i = x.plies.length then l else L.la i) = _
    by_cases e : i = x.plies.length
    · rw [if_pos e, if_pos e]; exact hl
    · rw [if_neg e, if_neg e]
      exact k _ _ (s.sp i (by omega)) (s.lp i (by omega))
  · intro i j hi hj e
    replace hi : i < (x.plies ++ [z]).length := hi
    replace hj : j < (x.plies ++ [z]).length := hj
    replace e : (if i = x.plies.length then p else L.pa i) = (if j = x.plies.length then p else L.pa j) := e
    rw [hlen] at hi hj
    by_cases e1 : i = x.plies.length
    · by_cases e2 : j = x.plies.length
      · omega
      · rw [if_pos e1, if_neg e2] at e; exact absurd e.symm (pnew j (by omega))
    · by_cases e2 : j = x.plies.length
      · rw [if_neg e1, if_pos e2] at e; exact absurd e (pnew i (by omega))
      · rw [if_neg e1, if_neg e2] at e; exact s.pn i j (by omega) (by omega) e
  · intro i hi
    replace hi : i < (x.plies ++ [z]).length := hi
    show (if i = x.plies.length then l else L.la i) ≠ L.RL
    rw [hlen] at hi
    by_cases e : i = x.plies.length
    · rw [if_pos e]; exact fun z => by rw [z, s.rl] at hl0; cases hl0
    · rw [if_neg e]; exact s.lr i (by omega)
  · intro i hi
    replace hi : i < (x.plies ++ [z]).length := hi
    show (if i = x.plies.length then l else L.la i) ≠ L.PL
    rw [hlen] at hi
    by_cases e : i = x.plies.length
    · rw [if_pos e]; exact fun z => by rw [z, s.pl] at hl0; cases hl0
    · rw [if_neg e]; exact s.lp i (by omega)
/-- a roll more -/
theorem StAt.roll {A : Ad} {H H' : Hp} {L : Lay} {x : Abs} {z : Roll} {p : Addr} (s : StAt A H L x) (hp0 : H p = none) (k : ∀ b o, H b = some o → b ≠ L.RL → H' b = some o)
    (hRL : H' L.RL = some (.lst (refs x.rolls.length L.ra ++ [.ref p]))) (hp : RoAt A H' p z) : StAt A H' (L.roll x.rolls.length p) { x with rolls := x.rolls ++ [z] } := by
  have hlen : (x.rolls ++ [z]).length = x.rolls.length + 1 := by rw [List.length_append]; rfl
  have nra : ∀ i, i < x.rolls.length → (if i = x.rolls.length then p else L.ra i) = L.ra i := fun i hi => if_neg (by omega)
  have pnew : ∀ i, i < x.rolls.length → L.ra i ≠ p := fun i hi e => by
    obtain ⟨d, h⟩ := s.ro i hi
    rw [e, hp0] at h; cases h
  refine ⟨?_, ?_, ?_, k _ _ s.pl s.rp.symm, fun i hi => ?_, fun i hi => ?_, fun i hi => k _ _ (s.sp i hi) (s.lr i hi), ?_, s.pn, s.rp, s.lr, s.lp⟩
  · obtain ⟨d, h⟩ := s.st
    exact ⟨d, k _ _ h (ne_of s.rl h lst_ne_ins).symm⟩
  · obtain ⟨d, h⟩ := s.sl
    exact ⟨d, k _ _ h (ne_of s.rl h lst_ne_ins).symm⟩
  · show H' L.RL = some (.lst (refs (x.rolls ++ [z]).length (fun i => if i = x.rolls.length then p else L.ra i)))
    rw [hRL, hlen, refs_succ, refs_congr nra, if_pos rfl]
  · replace hi : i < (x.rolls ++ [z]).length := hi
    rw [hlen] at hi
    rw [roll_app]
    show RoAt A H' (if i = x.rolls.length then p else L.ra i) _
    by_cases e : i = x.rolls.length
    · rw [if_pos e, if_pos e]; exact hp
    · rw [if_neg e, if_neg e]
      obtain ⟨d, h⟩ := s.ro i (by omega)
      exact ⟨d, k _ _ h (ne_of s.rl h lst_ne_ins).symm⟩
  · obtain ⟨d, h⟩ := s.py i hi
    exact ⟨d, k _ _ h (ne_of s.rl h lst_ne_ins).symm⟩
  · intro i j hi hj e
    replace hi : i < (x.rolls ++ [z]).length := hi
    replace hj : j < (x.rolls ++ [z]).length := hj
    replace e : (if i = x.rolls.length then p else L.ra i) = (if j = x.rolls.length then p else L.ra j) := e
    rw [hlen] at hi hj
    by_cases e1 : i = x.rolls.length
    · by_cases e2 : j = x.rolls.length
      · omega
      · rw [if_pos e1, if_neg e2] at e; exact absurd e.symm (pnew j (by omega))
    · by_cases e2 : j = x.rolls.length
      · rw [if_neg e1, if_pos e2] at e; exact absurd e (pnew i (by omega))
      · rw [if_neg e1, if_neg e2] at e; exact s.rn i j (by omega) (by omega) e
theorem foot_ply {L : Lay} {x : Abs} {z : Ply} {p l b : Addr} (h : Foot (L.ply x.plies.length p l) { x with plies := x.plies ++ [z] } b) : Foot L x b ∨ b = p ∨ b = l := by
  have hlen : (x.plies ++ [z]).length = x.plies.length + 1 := by rw [List.length_append]; rfl
  rcases h with h | h | h | h | ⟨i, hi, h⟩ | ⟨i, hi, h⟩ | ⟨i, hi, h⟩
  · exact .inl (.inl h)
  · exact .inl (.inr (.inl h))
  · exact .inl (.inr (.inr (.inl h)))
  · exact .inl (.inr (.inr (.inr (.inl h))))
  · exact .inl (.inr (.inr (.inr (.inr (.inl ⟨i, hi, h⟩)))))
  · replace hi : i < (x.plies ++ [z]).length := hi
    replace h : b = (if i = x.plies.length then p else L.pa i) := h
    rw [hlen] at hi
    by_cases e : i = x.plies.length
    · rw [if_pos e] at h; exact .inr (.inl h)
    · rw [if_neg e] at h; exact .inl (.inr (.inr (.inr (.inr (.inr (.inl ⟨i, by omega, h⟩))))))
  · replace hi : i < (x.plies ++ [z]).length := hi
    replace h : b = (if i = x.plies.length then l else L.la i) := h
    rw [hlen] at hi
    by_cases e : i = x.plies.length
    · rw [if_pos e] at h; exact .inr (.inr h)
    · rw [if_neg e] at h; exact .inl (.inr (.inr (.inr (.inr (.inr (.inr ⟨i, by omega, h⟩))))))
theorem foot_roll {L : Lay} {x : Abs} {z : Roll} {p b : Addr} (h : Foot (L.roll x.rolls.length p) { x with rolls := x.rolls ++ [z] } b) : Foot L x b ∨ b = p := by
  have hlen : (x.rolls ++ [z]).length = x.rolls.length + 1 := by rw [List.length_append]; rfl
  rcases h with h | h | h | h | ⟨i, hi, h⟩ | ⟨i, hi, h⟩ | ⟨i, hi, h⟩
  · exact .inl (.inl h)
  · exact .inl (.inr (.inl h))
  · exact .inl (.inr (.inr (.inl h)))
  · exact .inl (.inr (.inr (.inr (.inl h))))
  · replace hi : i < (x.rolls ++ [z]).length := hi
    replace h : b = (if i = x.rolls.length then p else L.ra i) := h
    rw [hlen] at hi
    by_cases e : i = x.rolls.length
    · rw [if_pos e] at h; exact .inr h
    · rw [if_neg e] at h; exact .inl (.inr (.inr (.inr (.inr (.inl ⟨i, by omega, h⟩)))))
  · exact .inl (.inr (.inr (.inr (.inr (.inr (.inl ⟨i, hi, h⟩))))))
  · exact .inl (.inr (.inr (.inr (.inr (.inr (.inr ⟨i, hi, h⟩))))))
theorem foot_less {L : Lay} {x : Abs} {r : Nat} {f : Roll → Roll} {b : Addr} (h : Foot L { x with rolls := x.rolls.modify r f } b) : Foot L x b := by
  unfold Foot at h ⊢
  have e : ({ x with rolls := x.rolls.modify r f } : Abs).rolls.length = x.rolls.length := List.length_modify _ _ _
  rw [e] at h
  exact h
section
variable {P : Program} {w : World} {K : PySem.W.Frag} {mg : Str → Option Value} {base : Heap} {A : Ad}
theorem ok_cut (T : Txt K mg A) : FnOk P w K mg base CX0 3 A.f_cut A.d_cut ["self", "number", "wide", "pieces"] (spCut A) := by
  have GT : FnOk P w K mg base CX0 1 A.f_takes A.d_takes _ (spTakes A) := ok_takes T
  have GB : FnOk P w K mg base CX0 1 A.f_begins A.d_begins _ (spBegins K) := ok_begins T
  have GI : FnOk P w K mg base CX0 1 A.f_Ply_init A.d_Ply_init _ (spPlyInit A) := ok_Ply_init T
  refine T.F_cut.ok sc_cut (fun vs H Q E h => ?_) (fun cdv Ar outer s H vs Q E hr h => ?_)
  · obtain ⟨L, x, r, n, a, ps, rfl, _⟩ := h; rfl
  · obtain ⟨L, x, r, n, a, ps, rfl, hS, wf, hrr, hn, ha, haF, hlen, hleft, q⟩ := h
    obtain ⟨d1, h1⟩ := hS.st
    obtain ⟨d2, h2⟩ := hS.sl
    obtain ⟨d3, h3⟩ := hS.ro r hrr
    have htk := takes_le wf hn
    refine ⟨_, pss_cons (ps_set (i := 4) sc_cut.nd rfl (Or.inl rfl) (pe_ix ix_list (pe_fld (pv 0) rfl) (pv 1) (fun _ _ => rfl)))
      (pss_cons (ps_fldaug (pv 4) (pe_op oMul (pe_callB cLen (by rfl) T.z_len PySem.boot_len (pa_cons (pv 3) pa_nil)) (pe_meth (pe_fld (pv 0) rfl) T.cl_Slant T.m_takes GT (hr.mono (by decide)) T.b_takes .nil pass0 (pa_cons (pv 2) pa_nil))) inSub)
      (pss_cons (ps_expr (pe_bm PySem.F.plainAttrs_list PySem.F.slot_list_append PySem.F.type_list_append mt_append (pe_fld (pv 0) rfl)
        (pa_cons (pe_make T.mk_Ply GI hr rfl T.g_Ply T.b_Ply_init .nil pass0 (pa_cons (pv 1) (pa_cons (pv 2) (pa_cons (pe_call GB (hr.mono (by decide)) rfl T.g_begins T.F_begins.kp T.b_begins .nil pass0 (pa_cons (pv 3) pa_nil)) pa_nil)))) pa_nil)))
      (pss_one (ps_ret (pe_op oSub (pe_callB cLen (by rfl) T.z_len PySem.boot_len (pa_cons (pe_fld (pv 0) rfl) pa_nil)) (pn 1)))))), ?_⟩
    refine ⟨_, rfl, L.S, A.cStore, d1, _, _, rfl, h1, T.cl_Store, T.n_Store_rolls, lk_Store_rolls, _, rfl, L.RL, _, (r : Int), _, rfl, rfl, SqL.of hS.rl, refs_atI hrr, ?_⟩
    refine ⟨_, rfl, L.ra r, A.cRoll, d3, _, _, rfl, h3, T.cl_Roll, T.n_Roll_left, lk_Roll_left, _, rfl, a, _, ps.length, rfl, SqL.of ha, nums_len _,
      _, rfl, L.S, A.cStore, d1, _, _, rfl, h1, T.cl_Store, T.n_Store_slant, lk_Store_slant, L.SL, d2, _, rfl, h2, lk_Slant_m_takes, _, rfl, L.SL, x, n, rfl, ⟨d2, h2⟩, wf, _, _, rfl, rfl, .inl (by omega), _, _, rfl, rfl, hleft, d3, _, h3, by show 3 < 1000; decide, ?_⟩
    rw [putF_left]
    have sL := hS.less (m := ps.length * x.takes n) hrr h3
    generalize hH1 : upd H (L.ra r) (.ins A.cRoll d3 [("wide", vn (x.roll r).wide), ("long", vn (x.roll r).long), ("left", vn ((x.roll r).left - ps.length * x.takes n))]) = H1 at sL
    have ha1 : H1 a = some (.lst (nums ps)) := by rw [← hH1, upd_ne (ne_of ha h3 lst_ne_ins)]; exact ha
    have k1 : ∀ b o, H b = some o → b ≠ L.ra r → H1 b = some o := fun b o e hb => by rw [← hH1, upd_ne hb]; exact e
    have f1 : ∀ b, H1 b = none → H b = none := fun b e => by
      by_cases hb : b = L.ra r
      · rw [hb, ← hH1, upd_same] at e; cases e
      · rw [← hH1, upd_ne hb] at e; exact e
    obtain ⟨d4, h4⟩ := sL.st
    refine ⟨_, rfl, L.S, A.cStore, d4, _, _, rfl, h4, T.cl_Store, T.n_Store_plies, lk_Store_plies, .inl ⟨rfl, _, SqL.of sL.pl⟩, _, rfl, _, rfl, _, rfl, a, ps, rfl, SqL.of ha1, by omega, fun l H2 e2 hl hll => ?_⟩
    intro p dp np ndp nep
    refine ⟨p, dp, l, r, n, rfl, upd_same, fun H3 h5 k3 => ⟨rfl, ?_⟩⟩
    have e3 : Same H2 H3 := Same.made np ndp k3
    have e13 : Same H1 H3 := e2.trans e3
    have np1 : H1 p = none := e2.free np
    have hpl3 : H3 L.PL = some (.lst (refs x.plies.length L.pa)) := e13 _ _ sL.pl
    refine ⟨L.PL, _, .ref p, rfl, rfl, hpl3, szl ?_, ?_⟩
    · rw [refs_len]; have := wf.pn; omega
    have sP := sL.ply (z := ⟨r, n, beginsL 0 ps, 0⟩) (p := p) (l := l) (H' := upd H3 L.PL (.lst (refs x.plies.length L.pa ++ [.ref p]))) np1 hl (fun b o e hb => by rw [upd_ne hb]; exact e13 _ _ e) upd_same
      ⟨dp, by rw [upd_ne (ne_of hpl3 h5 lst_ne_ins).symm]; exact h5⟩ (by
        rw [upd_ne (fun z => by rw [z, sL.pl] at hl; cases hl)]; exact e3 _ _ hll)
    have hcut : ({ ({ x with rolls := x.rolls.modify r (fun z => { z with left := z.left - ps.length * x.takes n }) } : Abs) with plies := x.plies ++ [(⟨r, n, beginsL 0 ps, 0⟩ : Ply)] } : Abs) = cutted_ x r n (beginsL 0 ps) := by
      unfold cutted_; rw [beginsL_len]
    have sQ : StAt A (upd H3 L.PL (.lst (refs x.plies.length L.pa ++ [.ref p]))) (L.ply x.plies.length p l) (cutted_ x r n (beginsL 0 ps)) := by rw [← hcut]; exact sP
    obtain ⟨d5, h6⟩ := sQ.st
    have hlen2 : (refs (cutted_ x r n (beginsL 0 ps)).plies.length (L.ply x.plies.length p l).pa).length = x.plies.length + 1 := by
      rw [refs_len]; show (x.plies ++ [_]).length = _; rw [List.length_append]; rfl
    refine ⟨_, rfl, L.S, A.cStore, d5, _, _, rfl, h6, T.cl_Store, T.n_Store_plies, lk_Store_plies, L.PL, _, x.plies.length + 1, rfl, SqL.of sQ.pl, hlen2, _, _, rfl, rfl, by omega, ?_⟩
    have haPL : a ≠ L.PL := fun z => haF (by rw [z]; exact .inr (.inr (.inr (.inl rfl))))
    refine q _ _ (by rfl) sQ ⟨fun b o e hm => ?_, fun b hb => ?_⟩ ?_
    · rw [upd_ne (fun z => hm (by rw [z]; exact .inr (.inr (.inr (.inl rfl)))))]
      exact e13 _ _ (k1 b o e fun z => hm (.inr (.inr (.inr (.inr (.inl ⟨r, hrr, z⟩))))))
    · rw [← hcut] at hb
      rcases foot_ply (L := L) (x := { x with rolls := x.rolls.modify r (fun z => { z with left := z.left - ps.length * x.takes n }) }) (z := ⟨r, n, beginsL 0 ps, 0⟩) (p := p) (l := l) (b := b) hb with h7 | h7 | h7
      · exact .inl (foot_less h7)
      · rw [h7]; exact .inr (f1 _ np1)
      · rw [h7]; exact .inr (f1 _ hl)
    · rw [upd_ne haPL]; exact e13 _ _ ha1
end
end Bp

namespace Bp
open PySem PySem.Spec PyProof.Rows L2
open Su65 (Abs Ply Roll)
/-! # The desk: what is asked, what is refused -/
/-- what is raised: an error of the class Refused whose own new dict tells the number -/
def Rf (A : Ad) (v : Int) (E : XK) (H : Hp) : Prop := ∀ d, H d = none → E (.ref A.cRef) (some d) (upd H d (.xd [("refusal", .int v)]))
theorem del_upd {H1 : Hp} {a d : Addr} {o1 o2 o3 u : HO} (ha : H1 a = none) (hd : d ≠ a) : upd (del (upd (upd (upd H1 a o1) d o2) a o3) a) d u = upd H1 d u := by
  funext b
  unfold upd del
  by_cases e1 : b = d
  · rw [if_pos e1, if_pos e1]
  · rw [if_neg e1, if_neg e1]
    by_cases e2 : b = a
    · rw [if_pos e2, e2, ha]
    · rw [if_neg e2]
      show (if b = a then _ else if b = d then _ else if b = a then _ else _) = _
      rw [if_neg e2, if_neg e1, if_neg e2]
def spRefInit (A : Ad) : Sp := fun vs H Q _ => ∃ (a : Addr) (v : V), vs = [.ref a, v] ∧ H a = some (exo a A.cRef none) ∧ ∀ dx, H dx = none → dx ≠ a → Q .non (upd (upd H dx (exd dx [("refusal", v)])) a (exo a A.cRef (some dx)))
def spAsk (A : Ad) : Sp := fun vs H Q E => ∃ (b : Bool) (v : Int), vs = [.bl b, .int v] ∧ (b = true → Q .non H) ∧ (b = false → Rf A v E H)
def spAskRange (A : Ad) : Sp := fun vs H Q E => ∃ n lo hi : Nat, vs = [vn n, vn lo, vn hi] ∧ (lo ≤ n ∧ n ≤ hi → Q .non H) ∧ (¬ (lo ≤ n ∧ n ≤ hi) → Rf A (-22) E H)
def spDeskInit (A : Ad) : Sp := fun vs H Q _ => ∃ (p dx : Addr), vs = [.ref p] ∧ H p = some (.ins A.cDesk dx []) ∧
  ∀ H', H' p = some (.ins A.cDesk dx (fDe .non)) → (∀ b o, H b = some o → b ≠ p → H' b = some o) → Q .non H'
theorem pgz {X : Cx} {x : Str} {z : Int} {pos : Pos} (hg : Gl X x) (h : ∃ t, X.mg x = some (.int z t)) (hd : (x == ("__debug__" : Str)) = false := by decide) : PE X (.Name x pos) (tC (.int z)) := by
  obtain ⟨t, e⟩ := h
  exact pe_glob hg e ⟨t, rfl⟩ hd
theorem pgn (n : Nat) {X : Cx} {x : Str} {z : Int} {pos : Pos} (hg : Gl X x) (h : ∃ t, X.mg x = some (.int z t)) (e : z = (n : Int) := by rfl) (hd : (x == ("__debug__" : Str)) = false := by decide) : PE X (.Name x pos) (tC (vn n)) := by
  rw [e] at h
  exact pgz hg h hd
section
variable {P : Program} {w : World} {K : PySem.W.Frag} {mg : Str → Option Value} {base : Heap} {A : Ad}
theorem tkX {N : List Str} {qual : Str} {scope : Scope} {f : Addr} {cd : Value} {Ar : Around} {outer : List Env} {s : Shared} {H : Hp} {E : XK} : Takes (cxOf (L2.CX P w) P w K mg base N qual scope f cd Ar outer s H E) (fun cls d _ H => E cls d H) := takes_of rfl rfl rfl rfl
theorem psX {N : List Str} {qual : Str} {scope : Scope} {f : Addr} {cd : Value} {Ar : Around} {outer : List Env} {s : Shared} {H : Hp} {E : XK} : Passes (L2.CX P w) (cxOf (L2.CX P w) P w K mg base N qual scope f cd Ar outer s H E) E := passes_call tkX fun _ _ _ _ h => h
theorem ok_Ref_init (T : Txt K mg A) : FnOk P w K mg base CX0 1 A.f_Ref_init A.d_Ref_init ["self", "refusal"] (spRefInit A) := by
  refine T.F_Ref_init.ok sc_Ref_init (fun vs H Q E h => ?_) (fun cdv Ar outer s H vs Q E hr h => ?_)
  · obtain ⟨a, v, rfl, _⟩ := h; rfl
  · obtain ⟨a, v, rfl, ha, q⟩ := h
    refine ⟨_, pss_one (ps_ost (pv 0) (pv 1)), ?_⟩
    exact ⟨_, rfl, _, rfl, a, A.cRef, rfl, T.ox, T.nx, .inl ⟨ha, fun dx h1 h2 => q dx h1 h2⟩⟩
theorem ok_ask (T : Txt K mg A) : FnOk P w K mg base (L2.CX P w) 3 A.f_ask A.d_ask ["good", "refusal"] (spAsk A) := by
  have GR : FnOk P w K mg base CX0 1 A.f_Ref_init A.d_Ref_init _ (spRefInit A) := ok_Ref_init T
  refine T.F_ask.okX sc_ask (fun vs H Q E h => ?_) (fun cdv Ar outer s H vs Q E hr h => ?_)
  · obtain ⟨b, v, rfl, _⟩ := h; rfl
  · obtain ⟨b, v, rfl, q1, q2⟩ := h
    refine ⟨_, pss_one (ps_if (pt_not (pt_val (pv 0))) (pss_one (ps_raise rfl tkX (pmk_oex T.ox T.iC T.tI GR hr T.b_Ref_init .nil pass0 rfl T.gC (pa_cons (pv 1) pa_nil)))) pss_nil), ?_⟩
    refine ⟨_, rfl, b, rfl, ?_⟩
    cases b with
    | true => exact iteFa rfl (q1 rfl)
    | false =>
      refine iteTr rfl ⟨_, rfl, (by show 1 ≤ 1000; decide), fun a ha => ⟨a, _, rfl, upd_same, fun dx h1 h2 => ⟨rfl, dx, _, upd_same, (upd_ne h2).trans upd_same, ?_, ?_⟩⟩⟩
      · rw [upd_ne h2] at h1; exact h1
      · rw [del_upd ha h2]
        refine q2 rfl dx ?_
        rw [upd_ne h2] at h1; exact h1
theorem ok_ask_range (T : Txt K mg A) : FnOk P w K mg base (L2.CX P w) 4 A.f_ask_range A.d_ask_range ["number", "least", "most"] (spAskRange A) := by
  have GA : FnOk P w K mg base (L2.CX P w) 3 A.f_ask A.d_ask _ (spAsk A) := ok_ask T
  refine T.F_ask_range.okX sc_ask_range (fun vs H Q E h => ?_) (fun cdv Ar outer s H vs Q E hr h => ?_)
  · obtain ⟨n, lo, hi, rfl, _⟩ := h; rfl
  · obtain ⟨n, lo, hi, rfl, q1, q2⟩ := h
    refine ⟨_, pss_one (ps_expr (pe_call GA hr rfl T.g_ask T.F_ask.kp T.b_ask .nil psX (pa_cons (pe_chain oLe oLe (pv 1) (pv 0) (pv 2)) (pa_cons (pgz rfl T.k_OUT_OF_RANGE) pa_nil)))), ?_⟩
    refine ⟨_, rfl, _, rfl, _, _, rfl, rfl, _, rfl, ?_⟩
    by_cases c : lo ≤ n
    · refine iteTr (decide_eq_true c) ⟨_, rfl, _, _, rfl, rfl, _, _, rfl, fun h => q1 ⟨c, of_decide_eq_true h⟩, fun h => q2 fun z => of_decide_eq_false h z.2⟩
    · exact iteFa (decide_eq_false c) ⟨_, _, rfl, (fun h => nomatch h), fun _ => q2 fun z => c z.1⟩
theorem ok_Desk_init (T : Txt K mg A) : FnOk P w K mg base CX0 1 A.f_Desk_init A.d_Desk_init ["self"] (spDeskInit A) := by
  refine T.F_Desk_init.ok sc_Desk_init (fun vs H Q E h => ?_) (fun cdv Ar outer s H vs Q E hr h => ?_)
  · obtain ⟨p, dx, rfl, _⟩ := h; rfl
  · obtain ⟨p, dx, rfl, hp, q⟩ := h
    refine ⟨_, pss_one (ps_fld (pv 0) pe_non rfl), ?_⟩
    refine ⟨_, rfl, p, A.cDesk, dx, [], rfl, hp, T.cl_Desk, T.n_Desk_store, by show 0 < 1000; decide, ?_⟩
    refine q _ upd_same fun b o e hb => ?_
    rw [upd_ne hb]; exact e
end
end Bp

namespace Bp
open PySem PySem.Spec PyProof.Rows L2
open Su65 (Abs Ply Roll)
/-! # The desk's state, its answers; what its methods share -/
def FD (D : Addr) (L : Lay) (x : Abs) (b : Addr) : Prop := b = D ∨ Foot L x b
structure Dk (A : Ad) (H : Hp) (D : Addr) (L : Lay) (x : Abs) : Prop where
  de : ∃ dx, H D = some (.ins A.cDesk dx (fDe (.ref L.S)))
  st : StAt A H L x
  wf : WF x
theorem Dk.same {A : Ad} {H H' : Hp} {D : Addr} {L : Lay} {x : Abs} (k : Dk A H D L x) (e : Same H H') : Dk A H' D L x := by
  obtain ⟨dx, h⟩ := k.de
  exact ⟨⟨dx, e _ _ h⟩, k.st.same e, k.wf⟩
theorem Dk.foot {A : Ad} {H : Hp} {D : Addr} {L : Lay} {x : Abs} (k : Dk A H D L x) {b : Addr} (f : FD D L x b) : ∃ o, H b = some o := by
  rcases f with rfl | f
  · obtain ⟨dx, h⟩ := k.de; exact ⟨_, h⟩
  · exact k.st.foot f
theorem Dk.off {A : Ad} {H : Hp} {D : Addr} {L : Lay} {x : Abs} (k : Dk A H D L x) {b : Addr} (h : H b = none) : ¬ FD D L x b := fun f => by
  obtain ⟨o, e⟩ := k.foot f
  rw [h] at e; cases e
theorem Fr.desk {D : Addr} {L L' : Lay} {x x' : Abs} {H H' : Hp} (f : Fr (Foot L x) (Foot L' x') H H') : Fr (FD D L x) (FD D L' x') H H' := by
  refine ⟨fun b o h hm => f.out b o h fun z => hm (.inr z), fun b hb => ?_⟩
  rcases hb with hb | hb
  · exact .inl (.inl hb)
  · rcases f.foot b hb with h | h
    · exact .inl (.inr h)
    · exact .inr h
/-- what a call's answer must give -/
structure Res (A : Ad) (D : Addr) (H : Hp) (L : Lay) (x : Abs) (r : Abs × Su65.Ans) (Q : VK) (E : XK) : Prop where
  no_ : ∀ v : Int, v < 0 → r = (x, Su65.no v) → ∀ H' d, Dk A H' D L x → Fr (FD D L x) (FD D L x) H H' → ¬ FD D L x d → H' d = some (.xd [("refusal", .int v)]) → E (.ref A.cRef) (some d) H'
  num_ : ∀ n l, r.2 = Su65.num n l → ∀ H' L' p, Dk A H' D L' r.1 → Fr (FD D L x) (FD D L' r.1) H H' → H' p = some (.lst (nums (n :: l))) → ¬ FD D L' r.1 p → (∀ b o, H b = some o → ¬ FD D L x b → p ≠ b) → Q (.ref p) H'
theorem Fr.new {M M' : Addr → Prop} {H H' : Hp} (f : Fr M M' H H') {g : Addr} (hg : H' g = none) : ∀ b o, H b = some o → ¬ M b → g ≠ b := fun b o hb hm e => by
  have z := f.out b o hb hm
  rw [← e, hg] at z; cases z
theorem Res.no {A : Ad} {D : Addr} {H H1 : Hp} {L : Lay} {x : Abs} {r : Abs × Su65.Ans} {Q : VK} {E : XK} (z : Res A D H L x r Q E) {v : Int} (k : Dk A H D L x) (e : Same H H1) (er : r = (x, Su65.no v)) (hv : v < 0 := by decide) : Rf A v E H1 := fun d hd =>
  z.no_ v hv er _ d (k.same (e.trans (same_new hd))) (Fr.same (e.trans (same_new hd))) (k.off (e.free hd)) upd_same
theorem Res.num {A : Ad} {D : Addr} {H : Hp} {L : Lay} {x : Abs} {r : Abs × Su65.Ans} {Q : VK} {E : XK} (z : Res A D H L x r Q E) {n : Nat} {l : List Nat} (k : Dk A H D L x) (er : r = (x, Su65.num n l)) :
    ∀ p H', Same H H' → H p = none → H' p = some (.lst (nums (n :: l))) → Q (.ref p) H' := fun p H' e hp hpl => by
  have z2 := z.num_ n l (by rw [er]) H' L p
  rw [er] at z2
  exact z2 (k.same e) (Fr.same e) hpl (k.off hp) fun b o hb _ => (ne_of_none hb hp).symm
/-- an answer of numbers, on one list display: n, l -/
theorem Res.lst {A : Ad} {D : Addr} {H H1 : Hp} {L : Lay} {x : Abs} {r : Abs × Su65.Ans} {Q : VK} {E : XK} (z : Res A D H L x r Q E) {n : Nat} {l : List Nat} {xs : List V} (k : Dk A H D L x) (er : r = (x, Su65.num n l)) (e : Same H H1) (ex : xs = nums (n :: l)) :
    ∀ p, H1 p = none → Q (.ref p) (upd H1 p (.lst xs)) := fun p hp => z.num k er p _ (e.trans (same_new hp)) (e.free hp) (by rw [upd_same, ex])
def spRollAt (A : Ad) : Sp := fun vs H Q E => ∃ (D : Addr) (L : Lay) (x : Abs) (r : Nat), vs = [.ref D, vn r] ∧ Dk A H D L x ∧ (r < x.rolls.length → Q (.ref (L.ra r)) H) ∧ (¬ r < x.rolls.length → Rf A (-2) E H)
def spPlyAt (A : Ad) : Sp := fun vs H Q E => ∃ (D : Addr) (L : Lay) (x : Abs) (p : Nat), vs = [.ref D, vn p] ∧ Dk A H D L x ∧ (p < x.plies.length → Q (.ref (L.pa p)) H) ∧ (¬ p < x.plies.length → Rf A (-2) E H)
def spAskTurn (A : Ad) : Sp := fun vs H Q E => ∃ (D : Addr) (L : Lay) (x : Abs) (t : Nat), vs = [.ref D, vn t] ∧ Dk A H D L x ∧ (t < x.round_ → Q .non H) ∧ (¬ t < x.round_ → Rf A (-22) E H)
def spPiecesOf (A : Ad) : Sp := fun vs H Q E => ∃ (D : Addr) (L : Lay) (x : Abs) (n : Nat), vs = [.ref D, vn n] ∧ Dk A H D L x ∧ 0 < n ∧ n ≤ 2000 ∧ (piecesL x (x.piece n) = none → Rf A (-33) E H) ∧
  ∀ ps, piecesL x (x.piece n) = some ps → ∀ p H', Same H H' → H p = none → H' p = some (.lst (nums ps)) → Q (.ref p) H'
section
variable {P : Program} {w : World} {K : PySem.W.Frag} {mg : Str → Option Value} {base : Heap} {A : Ad}
theorem ok_roll_at (T : Txt K mg A) : FnOk P w K mg base (L2.CX P w) 4 A.f_roll_at A.d_roll_at ["self", "r"] (spRollAt A) := by
  have GA : FnOk P w K mg base (L2.CX P w) 3 A.f_ask A.d_ask _ (spAsk A) := ok_ask T
  refine T.F_roll_at.okX sc_roll_at (fun vs H Q E h => ?_) (fun cdv Ar outer s H vs Q E hr h => ?_)
  · obtain ⟨D, L, x, r, rfl, _⟩ := h; rfl
  · obtain ⟨D, L, x, r, rfl, hK, q1, q2⟩ := h
    obtain ⟨d0, h0⟩ := hK.de
    obtain ⟨d1, h1⟩ := hK.st.st
    refine ⟨_, pss_cons (ps_expr (pe_call GA hr rfl T.g_ask T.F_ask.kp T.b_ask .nil psX (pa_cons (pe_cmpR oLt (pv 1) (pe_callB cLen (by rfl) T.z_len PySem.boot_len (pa_cons (pe_fld (pe_fld (pv 0) rfl) rfl) pa_nil)) (nomark _)) (pa_cons (pgz rfl T.k_NONE_SUCH) pa_nil))))
      (pss_one (ps_ret (pe_ix ix_list (pe_fld (pe_fld (pv 0) rfl) rfl) (pv 1) (fun _ _ => rfl)))), ?_⟩
    refine ⟨_, rfl, _, rfl, D, A.cDesk, d0, _, _, rfl, h0, T.cl_Desk, T.n_Desk_store, lk_Desk_store, L.S, A.cStore, d1, _, _, rfl, h1, T.cl_Store, T.n_Store_rolls, lk_Store_rolls, L.RL, _, _, rfl, SqL.of hK.st.rl, refs_len _ _, _, _, rfl, rfl, _, _, rfl, fun h => ?_, fun h => q2 (of_decide_eq_false h)⟩
    have hlt := of_decide_eq_true h
    exact ⟨_, rfl, D, A.cDesk, d0, _, _, rfl, h0, T.cl_Desk, T.n_Desk_store, lk_Desk_store, L.S, A.cStore, d1, _, _, rfl, h1, T.cl_Store, T.n_Store_rolls, lk_Store_rolls, _, rfl, L.RL, _, (r : Int), _, rfl, rfl, SqL.of hK.st.rl, refs_atI hlt, q1 hlt⟩
theorem ok_ply_at (T : Txt K mg A) : FnOk P w K mg base (L2.CX P w) 4 A.f_ply_at A.d_ply_at ["self", "p"] (spPlyAt A) := by
  have GA : FnOk P w K mg base (L2.CX P w) 3 A.f_ask A.d_ask _ (spAsk A) := ok_ask T
  refine T.F_ply_at.okX sc_ply_at (fun vs H Q E h => ?_) (fun cdv Ar outer s H vs Q E hr h => ?_)
  · obtain ⟨D, L, x, r, rfl, _⟩ := h; rfl
  · obtain ⟨D, L, x, r, rfl, hK, q1, q2⟩ := h
    obtain ⟨d0, h0⟩ := hK.de
    obtain ⟨d1, h1⟩ := hK.st.st
    refine ⟨_, pss_cons (ps_expr (pe_call GA hr rfl T.g_ask T.F_ask.kp T.b_ask .nil psX (pa_cons (pe_cmpR oLt (pv 1) (pe_callB cLen (by rfl) T.z_len PySem.boot_len (pa_cons (pe_fld (pe_fld (pv 0) rfl) rfl) pa_nil)) (nomark _)) (pa_cons (pgz rfl T.k_NONE_SUCH) pa_nil))))
      (pss_one (ps_ret (pe_ix ix_list (pe_fld (pe_fld (pv 0) rfl) rfl) (pv 1) (fun _ _ => rfl)))), ?_⟩
    refine ⟨_, rfl, _, rfl, D, A.cDesk, d0, _, _, rfl, h0, T.cl_Desk, T.n_Desk_store, lk_Desk_store, L.S, A.cStore, d1, _, _, rfl, h1, T.cl_Store, T.n_Store_plies, lk_Store_plies, L.PL, _, _, rfl, SqL.of hK.st.pl, refs_len _ _, _, _, rfl, rfl, _, _, rfl, fun h => ?_, fun h => q2 (of_decide_eq_false h)⟩
    have hlt := of_decide_eq_true h
    exact ⟨_, rfl, D, A.cDesk, d0, _, _, rfl, h0, T.cl_Desk, T.n_Desk_store, lk_Desk_store, L.S, A.cStore, d1, _, _, rfl, h1, T.cl_Store, T.n_Store_plies, lk_Store_plies, _, rfl, L.PL, _, (r : Int), _, rfl, rfl, SqL.of hK.st.pl, refs_atI hlt, q1 hlt⟩
theorem ok_ask_turn (T : Txt K mg A) : FnOk P w K mg base (L2.CX P w) 4 A.f_ask_turn A.d_ask_turn ["self", "turn"] (spAskTurn A) := by
  have GA : FnOk P w K mg base (L2.CX P w) 3 A.f_ask A.d_ask _ (spAsk A) := ok_ask T
  have GD : FnOk P w K mg base CX0 1 A.f_drum_size A.d_drum_size _ (spDrum A) := ok_drum_size T
  refine T.F_ask_turn.okX sc_ask_turn (fun vs H Q E h => ?_) (fun cdv Ar outer s H vs Q E hr h => ?_)
  · obtain ⟨D, L, x, r, rfl, _⟩ := h; rfl
  · obtain ⟨D, L, x, t, rfl, hK, q1, q2⟩ := h
    obtain ⟨d0, h0⟩ := hK.de
    obtain ⟨d1, h1⟩ := hK.st.st
    refine ⟨_, pss_one (ps_expr (pe_call GA hr rfl T.g_ask T.F_ask.kp T.b_ask .nil psX (pa_cons (pe_cmpR oLt (pv 1) (pe_meth0 (pe_fld (pv 0) rfl) T.cl_Store T.m_drum_size GD (hr.mono (by decide)) T.b_drum_size .nil pass0) (nomark _)) (pa_cons (pgz rfl T.k_OUT_OF_RANGE) pa_nil)))), ?_⟩
    exact ⟨_, rfl, _, rfl, D, A.cDesk, d0, _, _, rfl, h0, T.cl_Desk, T.n_Desk_store, lk_Desk_store, L.S, d1, _, rfl, h1, lk_Store_m_drum_size, L, x, rfl, hK.st, _, _, rfl, rfl, _, _, rfl, fun h => q1 (of_decide_eq_true h), fun h => q2 (of_decide_eq_false h)⟩
theorem ok_pieces_of (T : Txt K mg A) : FnOk P w K mg base (L2.CX P w) 4 A.f_pieces_of A.d_pieces_of ["self", "wide"] (spPiecesOf A) := by
  have GA : FnOk P w K mg base (L2.CX P w) 3 A.f_ask A.d_ask _ (spAsk A) := ok_ask T
  have GP : FnOk P w K mg base CX0 2 A.f_pieces A.d_pieces _ (spPieces A) := ok_pieces T
  refine T.F_pieces_of.okX sc_pieces_of (fun vs H Q E h => ?_) (fun cdv Ar outer s H vs Q E hr h => ?_)
  · obtain ⟨D, L, x, r, rfl, _⟩ := h; rfl
  · obtain ⟨D, L, x, n, rfl, hK, hn, hn2, q1, q2⟩ := h
    obtain ⟨d0, h0⟩ := hK.de
    obtain ⟨d1, h1⟩ := hK.st.st
    obtain ⟨d2, h2⟩ := hK.st.sl
    refine ⟨_, pss_cons (ps_set (i := 2) sc_pieces_of.nd rfl (Or.inl rfl) (pe_meth (pe_fld (pe_fld (pv 0) rfl) rfl) T.cl_Slant T.m_pieces GP (hr.mono (by decide)) T.b_pieces .nil pass0 (pa_cons (pv 1) pa_nil)))
      (pss_cons (ps_expr (pe_call GA hr rfl T.g_ask T.F_ask.kp T.b_ask .nil psX (pa_cons (pe_cmpR op_notN (pv 2) pe_non (nomark _)) (pa_cons (pgz rfl T.k_CANNOT) pa_nil))))
      (pss_one (ps_ret (pv 2)))), ?_⟩
    refine ⟨_, rfl, D, A.cDesk, d0, _, _, rfl, h0, T.cl_Desk, T.n_Desk_store, lk_Desk_store, L.S, A.cStore, d1, _, _, rfl, h1, T.cl_Store, T.n_Store_slant, lk_Store_slant, L.SL, d2, _, rfl, h2, lk_Slant_m_pieces, _, rfl, L.SL, x, n, rfl, ⟨d2, h2⟩, hK.wf, hn, hn2, fun e => ?_, fun ps e p H1 e1 hp hpl => ?_⟩
    · exact ⟨_, rfl, rfl, _, _, rfl, fun h => absurd h (by simp), fun _ => q1 e⟩
    · exact ⟨_, rfl, rfl, _, _, rfl, fun _ => ⟨_, rfl, q2 ps e p H1 e1 hp hpl⟩, fun h => absurd h (by simp)⟩
end
end Bp

namespace Bp
open PySem PySem.Spec PyProof.Rows L2
open Su65 (Abs Ply Roll)
/-! # The desk's answers that change nothing: plies, rolls -/
theorem isP_f {x : Abs} {p : Nat} (h : ¬ p < x.plies.length) : x.isP p = false := decide_eq_false h
theorem isP_t {x : Abs} {p : Nat} (h : p < x.plies.length) : ¬ (x.isP p = false) := by
  have : x.isP p = true := decide_eq_true h
  rw [this]; simp
theorem isR_f {x : Abs} {p : Nat} (h : ¬ p < x.rolls.length) : x.isR p = false := decide_eq_false h
theorem isR_t {x : Abs} {p : Nat} (h : p < x.rolls.length) : ¬ (x.isR p = false) := by
  have : x.isR p = true := decide_eq_true h
  rw [this]; simp
def spLook (A : Ad) : Sp := fun vs H Q E => ∃ (D : Addr) (L : Lay) (x : Abs) (p : Nat), vs = [.ref D, vn p] ∧ Dk A H D L x ∧ Res A D H L x (Su65.does x (.look p)) Q E
def spRest (A : Ad) : Sp := fun vs H Q E => ∃ (D : Addr) (L : Lay) (x : Abs) (r : Nat), vs = [.ref D, vn r] ∧ Dk A H D L x ∧ Res A D H L x (Su65.does x (.rest r)) Q E
def spWhere (A : Ad) : Sp := fun vs H Q E => ∃ (D : Addr) (L : Lay) (x : Abs) (p : Nat), vs = [.ref D, vn p] ∧ Dk A H D L x ∧ Res A D H L x (Su65.does x (.where_ p)) Q E
def spFits (A : Ad) : Sp := fun vs H Q E => ∃ (D : Addr) (L : Lay) (x : Abs) (p t : Nat), vs = [.ref D, vn p, vn t] ∧ Dk A H D L x ∧ Res A D H L x (Su65.does x (.fits p t)) Q E
def spNearTwo (A : Ad) : Sp := fun vs H Q E => ∃ (D : Addr) (L : Lay) (x : Abs) (p q : Nat), vs = [.ref D, vn p, vn q] ∧ Dk A H D L x ∧ Res A D H L x (Su65.does x (.near p q)) Q E
def spLeast (A : Ad) : Sp := fun vs H Q E => ∃ (D : Addr) (L : Lay) (x : Abs) (p : Nat), vs = [.ref D, vn p] ∧ Dk A H D L x ∧ Res A D H L x (Su65.does x (.least p)) Q E
theorem does_look_no {x : Abs} {p : Nat} (h : ¬ p < x.plies.length) : Su65.does x (.look p) = (x, Su65.no (-2)) := by simp only [Su65.does]; exact if_pos (isP_f h)
theorem does_look {x : Abs} {p : Nat} (h : p < x.plies.length) : Su65.does x (.look p) = (x, Su65.num (x.ply p).roll [(x.ply p).wide, (x.ply p).splices.length, (x.ply p).turn]) := by simp only [Su65.does]; exact if_neg (isP_t h)
theorem does_rest_no {x : Abs} {p : Nat} (h : ¬ p < x.rolls.length) : Su65.does x (.rest p) = (x, Su65.no (-2)) := by simp only [Su65.does]; exact if_pos (isR_f h)
theorem does_rest {x : Abs} {p : Nat} (h : p < x.rolls.length) : Su65.does x (.rest p) = (x, Su65.num (x.roll p).left [(x.roll p).wide, (x.roll p).long]) := by simp only [Su65.does]; exact if_neg (isR_t h)
theorem does_where_no {x : Abs} {p : Nat} (h : ¬ p < x.plies.length) : Su65.does x (.where_ p) = (x, Su65.no (-2)) := by simp only [Su65.does]; exact if_pos (isP_f h)
theorem does_where_6 {x : Abs} {p : Nat} (h : p < x.plies.length) (h2 : (x.ply p).turn = 0) : Su65.does x (.where_ p) = (x, Su65.no (-6)) := by simp only [Su65.does]; rw [if_neg (isP_t h), if_pos h2]
theorem does_where {x : Abs} {p : Nat} (h : p < x.plies.length) (h2 : (x.ply p).turn ≠ 0) : Su65.does x (.where_ p) = (x, Su65.num ((x.ply p).turn - 1) (x.places p ((x.ply p).turn - 1))) := by simp only [Su65.does]; rw [if_neg (isP_t h), if_neg h2]
theorem does_fits_no {x : Abs} {p t : Nat} (h : ¬ p < x.plies.length) : Su65.does x (.fits p t) = (x, Su65.no (-2)) := by simp only [Su65.does]; exact if_pos (isP_f h)
theorem does_fits_22 {x : Abs} {p t : Nat} (h : p < x.plies.length) (h2 : ¬ t < x.round_) : Su65.does x (.fits p t) = (x, Su65.no (-22)) := by simp only [Su65.does]; rw [if_neg (isP_t h), if_pos (by omega)]
theorem does_fits {x : Abs} {p t : Nat} (h : p < x.plies.length) (h2 : t < x.round_) : Su65.does x (.fits p t) = (x, Su65.num (Su65.bit (x.fits p t)) [x.nearest (x.places p t) (x.others p)]) := by simp only [Su65.does]; rw [if_neg (isP_t h), if_neg (by omega)]
theorem does_near_no {x : Abs} {p q : Nat} (h : ¬ p < x.plies.length ∨ ¬ q < x.plies.length) : Su65.does x (.near p q) = (x, Su65.no (-2)) := by
  simp only [Su65.does]
  refine if_pos ?_
  rcases h with h | h
  · exact .inl (isP_f h)
  · exact .inr (isP_f h)
theorem near_ok {x : Abs} {p q : Nat} (h : p < x.plies.length) (h2 : q < x.plies.length) : ¬ (x.isP p = false ∨ x.isP q = false) := fun z => by
  rcases z with z | z
  · exact isP_t h z
  · exact isP_t h2 z
theorem does_near_22 {x : Abs} {p q : Nat} (h : p < x.plies.length) (h2 : q < x.plies.length) (h3 : p = q) : Su65.does x (.near p q) = (x, Su65.no (-22)) := by simp only [Su65.does]; rw [if_neg (near_ok h h2), if_pos h3]
theorem does_near_6 {x : Abs} {p q : Nat} (h : p < x.plies.length) (h2 : q < x.plies.length) (h3 : p ≠ q) (h4 : (x.ply p).turn = 0 ∨ (x.ply q).turn = 0) : Su65.does x (.near p q) = (x, Su65.no (-6)) := by simp only [Su65.does]; rw [if_neg (near_ok h h2), if_neg h3, if_pos h4]
theorem does_near {x : Abs} {p q : Nat} (h : p < x.plies.length) (h2 : q < x.plies.length) (h3 : p ≠ q) (h4 : (x.ply p).turn ≠ 0) (h5 : (x.ply q).turn ≠ 0) : Su65.does x (.near p q) = (x, Su65.num (x.nearest (x.places p ((x.ply p).turn - 1)) (x.places q ((x.ply q).turn - 1))) []) := by
  simp only [Su65.does]; rw [if_neg (near_ok h h2), if_neg h3, if_neg (fun z => z.elim h4 h5)]
theorem does_least_no {x : Abs} {p : Nat} (h : ¬ p < x.plies.length) : Su65.does x (.least p) = (x, Su65.no (-2)) := by simp only [Su65.does]; exact if_pos (isP_f h)
theorem does_least_17 {x : Abs} {p : Nat} (h : p < x.plies.length) (h2 : (x.ply p).turn ≠ 0) : Su65.does x (.least p) = (x, Su65.no (-17)) := by simp only [Su65.does]; rw [if_neg (isP_t h), if_pos h2]
theorem does_least_33 {x : Abs} {p : Nat} (h : p < x.plies.length) (h2 : (x.ply p).turn = 0) (h3 : x.least p = none) : Su65.does x (.least p) = (x, Su65.no (-33)) := by simp only [Su65.does]; rw [if_neg (isP_t h), if_neg (by simp [h2]), h3]
theorem does_least {x : Abs} {p t : Nat} (h : p < x.plies.length) (h2 : (x.ply p).turn = 0) (h3 : x.least p = some t) : Su65.does x (.least p) = (x, Su65.num t []) := by simp only [Su65.does]; rw [if_neg (isP_t h), if_neg (by simp [h2]), h3]
theorem bne_t {t : Nat} (h : t ≠ 0) : (t != 0) = true := by simpa using h
theorem bne_f {t : Nat} (h : t = 0) : (t != 0) = false := by simpa using h
/-- the least turn, as the program finds it -/
theorem least_at {x : Abs} (w : WF x) {p : Nat} (hp : p < x.plies.length) : (List.range (nearL x.round_ (x.others p)).length).find? (fun t => decide (x.apart ≤ nearN (x.ply p).splices t (nearL x.round_ (x.others p)))) = x.least p := by
  rw [nearL_len]
  unfold Abs.least Abs.fits
  congr 1
  funext t
  rw [nearest_at w hp (others_lt w p)]
section
variable {P : Program} {w : World} {K : PySem.W.Frag} {mg : Str → Option Value} {base : Heap} {A : Ad}
theorem ok_look (T : Txt K mg A) : FnOk P w K mg base (L2.CX P w) 5 A.f_look A.d_look ["self", "p"] (spLook A) := by
  have G_ply_at : FnOk P w K mg base (L2.CX P w) 4 A.f_ply_at A.d_ply_at _ (spPlyAt A) := ok_ply_at T
  have G_is_laid : FnOk P w K mg base CX0 1 A.f_is_laid A.d_is_laid _ (spIsLaid A) := ok_is_laid T
  refine T.F_look.okX sc_look (fun vs H Q E h => ?_) (fun cdv Ar outer s H vs Q E hr h => ?_)
  · obtain ⟨D, L, x, p, rfl, _⟩ := h; rfl
  · obtain ⟨D, L, x, p, rfl, hK, hR⟩ := h
    obtain ⟨d0, h0⟩ := hK.de
    refine ⟨_, (pss_cons (ps_set (i := 2) sc_look.nd rfl (Or.inl rfl) (pe_meth (pv 0) T.cl_Desk T.m_ply_at G_ply_at (hr.mono (by decide)) T.b_ply_at .nil psX (pa_cons (pv 1) pa_nil)))
      (pss_cons (ps_set (i := 3) sc_look.nd rfl (Or.inl rfl) (pn 0))
      (pss_cons (ps_if (pt_val (pe_meth0 (pv 2) T.cl_Ply T.m_is_laid G_is_laid (hr.mono (by decide)) T.b_is_laid .nil pass0)) (pss_one (ps_set (i := 3) sc_look.nd rfl (Or.inl rfl) (pe_op oAdd (pe_fld (pv 2) rfl) (pn 1)))) pss_nil)
      (pss_one (ps_ret (pe_lst (pa_cons (pe_fld (pv 2) rfl) (pa_cons (pe_fld (pv 2) rfl) (pa_cons (pe_callB cLen (by rfl) T.z_len PySem.boot_len (pa_cons (pe_fld (pv 2) rfl) pa_nil)) (pa_cons (pv 3) pa_nil)))))))))), ?_⟩
    refine ⟨_, rfl, D, d0, _, rfl, h0, lk_Desk_m_ply_at, _, rfl, D, L, x, p, rfl, hK, fun hp => ?_, fun hp => hR.no hK (Same.refl _) (does_look_no hp)⟩
    obtain ⟨d3, h3⟩ := hK.st.py p hp
    have hs := hK.st.sp p hp
    refine ⟨_, rfl, L.pa p, d3, _, rfl, h3, lk_Ply_m_is_laid, L.pa p, L.la p, x.ply p, rfl, ⟨d3, h3⟩, _, rfl, ?_⟩
    by_cases c : (x.ply p).turn = 0
    · refine iteFa (bne_f c) ⟨_, rfl, L.pa p, A.cPly, d3, _, _, rfl, h3, T.cl_Ply, T.n_Ply_roll, lk_Ply_roll, _, rfl, L.pa p, A.cPly, d3, _, _, rfl, h3, T.cl_Ply, T.n_Ply_wide, lk_Ply_wide, _, rfl, L.pa p, A.cPly, d3, _, _, rfl, h3, T.cl_Ply, T.n_Ply_splices, lk_Ply_splices, L.la p, _, _, rfl, SqL.of hs, nums_len _, _, rfl, sz (by show 4 ≤ 100000; decide), hR.lst hK (does_look hp) (Same.refl _) (by rw [c]; rfl)⟩
    · have h4 := h3
      rw [vt_pos c] at h4
      refine iteTr (bne_t c) ⟨_, rfl, L.pa p, A.cPly, d3, _, _, rfl, h4, T.cl_Ply, T.n_Ply_turn, lk_Ply_turn, _, _, rfl, rfl, _, rfl, L.pa p, A.cPly, d3, _, _, rfl, h3, T.cl_Ply, T.n_Ply_roll, lk_Ply_roll, _, rfl, L.pa p, A.cPly, d3, _, _, rfl, h3, T.cl_Ply, T.n_Ply_wide, lk_Ply_wide, _, rfl, L.pa p, A.cPly, d3, _, _, rfl, h3, T.cl_Ply, T.n_Ply_splices, lk_Ply_splices, L.la p, _, _, rfl, SqL.of hs, nums_len _, _, rfl, sz (by show 4 ≤ 100000; decide), hR.lst hK (does_look hp) (Same.refl _) ?_⟩
      have e : (x.ply p).turn - 1 + 1 = (x.ply p).turn := by omega
      rw [e]; rfl
theorem ok_rest (T : Txt K mg A) : FnOk P w K mg base (L2.CX P w) 5 A.f_rest A.d_rest ["self", "r"] (spRest A) := by
  have G_roll_at : FnOk P w K mg base (L2.CX P w) 4 A.f_roll_at A.d_roll_at _ (spRollAt A) := ok_roll_at T
  refine T.F_rest.okX sc_rest (fun vs H Q E h => ?_) (fun cdv Ar outer s H vs Q E hr h => ?_)
  · obtain ⟨D, L, x, p, rfl, _⟩ := h; rfl
  · obtain ⟨D, L, x, p, rfl, hK, hR⟩ := h
    obtain ⟨d0, h0⟩ := hK.de
    refine ⟨_, (pss_cons (ps_set (i := 2) sc_rest.nd rfl (Or.inl rfl) (pe_meth (pv 0) T.cl_Desk T.m_roll_at G_roll_at (hr.mono (by decide)) T.b_roll_at .nil psX (pa_cons (pv 1) pa_nil)))
      (pss_one (ps_ret (pe_lst (pa_cons (pe_fld (pv 2) rfl) (pa_cons (pe_fld (pv 2) rfl) (pa_cons (pe_fld (pv 2) rfl) pa_nil))))))), ?_⟩
    refine ⟨_, rfl, D, d0, _, rfl, h0, lk_Desk_m_roll_at, _, rfl, D, L, x, p, rfl, hK, fun hp => ?_, fun hp => hR.no hK (Same.refl _) (does_rest_no hp)⟩
    obtain ⟨d3, h3⟩ := hK.st.ro p hp
    exact ⟨_, rfl, L.ra p, A.cRoll, d3, _, _, rfl, h3, T.cl_Roll, T.n_Roll_left, lk_Roll_left, _, rfl, L.ra p, A.cRoll, d3, _, _, rfl, h3, T.cl_Roll, T.n_Roll_wide, lk_Roll_wide, _, rfl, L.ra p, A.cRoll, d3, _, _, rfl, h3, T.cl_Roll, T.n_Roll_long, lk_Roll_long, sz (by show 3 ≤ 100000; decide), hR.lst hK (does_rest hp) (Same.refl _) rfl⟩
theorem ok_where_ (T : Txt K mg A) : FnOk P w K mg base (L2.CX P w) 5 A.f_where_ A.d_where_ ["self", "p"] (spWhere A) := by
  have G_ply_at : FnOk P w K mg base (L2.CX P w) 4 A.f_ply_at A.d_ply_at _ (spPlyAt A) := ok_ply_at T
  have G_is_laid : FnOk P w K mg base CX0 1 A.f_is_laid A.d_is_laid _ (spIsLaid A) := ok_is_laid T
  have G_ask : FnOk P w K mg base (L2.CX P w) 3 A.f_ask A.d_ask _ (spAsk A) := ok_ask T
  have G_places : FnOk P w K mg base CX0 2 A.f_places A.d_places _ (spPlaces A) := ok_places T
  refine T.F_where_.okX sc_where_ (fun vs H Q E h => ?_) (fun cdv Ar outer s H vs Q E hr h => ?_)
  · obtain ⟨D, L, x, p, rfl, _⟩ := h; rfl
  · obtain ⟨D, L, x, p, rfl, hK, hR⟩ := h
    obtain ⟨d0, h0⟩ := hK.de
    obtain ⟨d1, h1⟩ := hK.st.st
    refine ⟨_, (pss_cons (ps_set (i := 2) sc_where_.nd rfl (Or.inl rfl) (pe_meth (pv 0) T.cl_Desk T.m_ply_at G_ply_at (hr.mono (by decide)) T.b_ply_at .nil psX (pa_cons (pv 1) pa_nil)))
      (pss_cons (ps_expr (pe_call G_ask (hr.mono (by decide)) rfl T.g_ask T.F_ask.kp T.b_ask .nil psX (pa_cons (pe_meth0 (pv 2) T.cl_Ply T.m_is_laid G_is_laid (hr.mono (by decide)) T.b_is_laid .nil pass0) (pa_cons (pgz rfl T.k_NOT_LAID) pa_nil))))
      (pss_one (ps_ret (pe_op op_cat (pe_lst (pa_cons (pe_fld (pv 2) rfl) pa_nil)) (pe_meth (pe_fld (pv 0) rfl) T.cl_Store T.m_places G_places (hr.mono (by decide)) T.b_places .nil pass0 (pa_cons (pv 1) pa_nil))))))), ?_⟩
    refine ⟨_, rfl, D, d0, _, rfl, h0, lk_Desk_m_ply_at, _, rfl, D, L, x, p, rfl, hK, fun hp => ?_, fun hp => hR.no hK (Same.refl _) (does_where_no hp)⟩
    obtain ⟨d3, h3⟩ := hK.st.py p hp
    refine ⟨_, rfl, L.pa p, d3, _, rfl, h3, lk_Ply_m_is_laid, L.pa p, L.la p, x.ply p, rfl, ⟨d3, h3⟩, _, _, rfl, fun c => ?_, fun c => hR.no hK (Same.refl _) (does_where_6 hp (by simpa using c))⟩
    have c' : (x.ply p).turn ≠ 0 := by simpa using c
    have h4 := h3
    rw [vt_pos c'] at h4
    refine ⟨_, rfl, L.pa p, A.cPly, d3, _, _, rfl, h4, T.cl_Ply, T.n_Ply_turn, lk_Ply_turn, sz (by show 1 ≤ 100000; decide), fun g hg => ?_⟩
    have s1 := same_new (o := .lst [vn ((x.ply p).turn - 1)]) hg
    refine ⟨_, rfl, D, A.cDesk, d0, _, _, rfl, (s1 _ _ h0), T.cl_Desk, T.n_Desk_store, lk_Desk_store, L.S, d1, _, rfl, (s1 _ _ h1), lk_Store_m_places, _, rfl, L, x, p, rfl, hK.st.same s1, hK.wf, hp, c', fun f H2 e2 hf hfl => ⟨g, f, _, _, rfl, rfl, e2 _ _ upd_same, hfl, sz ?_, hR.lst hK (does_where hp c') (s1.trans e2) rfl⟩⟩
    rw [nums_len, places_len]
    have := (hK.wf.py _ (ply_mem hp)).len
    show 1 + _ ≤ _
    omega
theorem ok_fits (T : Txt K mg A) : FnOk P w K mg base (L2.CX P w) 5 A.f_fits A.d_fits ["self", "p", "turn"] (spFits A) := by
  have G_ply_at : FnOk P w K mg base (L2.CX P w) 4 A.f_ply_at A.d_ply_at _ (spPlyAt A) := ok_ply_at T
  have G_ask_turn : FnOk P w K mg base (L2.CX P w) 4 A.f_ask_turn A.d_ask_turn _ (spAskTurn A) := ok_ask_turn T
  have G_near_others : FnOk P w K mg base CX0 3 A.f_near_others A.d_near_others _ (spNearOthers A) := ok_near_others T
  have G_nearest : FnOk P w K mg base CX0 2 A.f_nearest A.d_nearest _ (spNearest K) := ok_nearest T
  refine T.F_fits.okX sc_fits (fun vs H Q E h => ?_) (fun cdv Ar outer s H vs Q E hr h => ?_)
  · obtain ⟨D, L, x, p, t, rfl, _⟩ := h; rfl
  · obtain ⟨D, L, x, p, t, rfl, hK, hR⟩ := h
    obtain ⟨d0, h0⟩ := hK.de
    obtain ⟨d1, h1⟩ := hK.st.st
    refine ⟨_, (pss_cons (ps_set (i := 3) sc_fits.nd rfl (Or.inl rfl) (pe_meth (pv 0) T.cl_Desk T.m_ply_at G_ply_at (hr.mono (by decide)) T.b_ply_at .nil psX (pa_cons (pv 1) pa_nil)))
      (pss_cons (ps_expr (pe_meth (pv 0) T.cl_Desk T.m_ask_turn G_ask_turn (hr.mono (by decide)) T.b_ask_turn .nil psX (pa_cons (pv 2) pa_nil)))
      (pss_cons (ps_set (i := 4) sc_fits.nd rfl (Or.inl rfl) (pe_call G_nearest (hr.mono (by decide)) rfl T.g_nearest T.F_nearest.kp T.b_nearest .nil pass0 (pa_cons (pe_fld (pv 3) rfl) (pa_cons (pv 2) (pa_cons (pe_meth (pe_fld (pv 0) rfl) T.cl_Store T.m_near_others G_near_others (hr.mono (by decide)) T.b_near_others .nil pass0 (pa_cons (pv 1) pa_nil)) pa_nil)))))
      (pss_one (ps_ret (pe_lst (pa_cons (pe_callTy cInt (by rfl) T.z_int (by decide +kernel) (pa_cons (pe_cmpR oGe (pv 4) (pe_fld (pe_fld (pv 0) rfl) rfl) (nomark _)) pa_nil)) (pa_cons (pv 4) pa_nil)))))))), ?_⟩
    refine ⟨_, rfl, D, d0, _, rfl, h0, lk_Desk_m_ply_at, _, rfl, D, L, x, p, rfl, hK, fun hp => ?_, fun hp => hR.no hK (Same.refl _) (does_fits_no hp)⟩
    obtain ⟨d3, h3⟩ := hK.st.py p hp
    have hw := hK.wf.py _ (ply_mem hp)
    refine ⟨_, rfl, D, d0, _, rfl, h0, lk_Desk_m_ask_turn, _, rfl, D, L, x, t, rfl, hK, fun ht => ?_, fun ht => hR.no hK (Same.refl _) (does_fits_22 hp ht)⟩
    refine ⟨_, rfl, L.pa p, A.cPly, d3, _, _, rfl, h3, T.cl_Ply, T.n_Ply_splices, lk_Ply_splices, _, rfl, _, rfl, D, A.cDesk, d0, _, _, rfl, h0, T.cl_Desk, T.n_Desk_store, lk_Desk_store, L.S, d1, _, rfl, h1, lk_Store_m_near_others, _, rfl, L, x, p, rfl, hK.st, hK.wf, fun f H2 e2 hf hfl => ?_⟩
    refine ⟨L.la p, f, _, _, _, rfl, SqL.of (e2 _ _ (hK.st.sp p hp)), SqL.of hfl, hw.ne, by rw [nearL_len]; have := hK.wf.r1; omega, by have := hw.len; omega, fun H3 e3 => ?_⟩
    rw [nearest_at hK.wf hp (others_lt hK.wf _)]
    have e := e2.trans e3
    refine ⟨_, rfl, _, rfl, D, A.cDesk, d0, _, _, rfl, (e _ _ h0), T.cl_Desk, T.n_Desk_store, lk_Desk_store, L.S, A.cStore, d1, _, _, rfl, (e _ _ h1), T.cl_Store, T.n_Store_near, lk_Store_near, _, _, rfl, rfl, _, rfl, _, rfl, sz (by show 2 ≤ 100000; decide), hR.lst hK (does_fits hp ht) e ?_⟩
    unfold Su65.bit Abs.fits
    rfl
theorem ok_near_two (T : Txt K mg A) : FnOk P w K mg base (L2.CX P w) 5 A.f_near_two A.d_near_two ["self", "p", "q"] (spNearTwo A) := by
  have G_ply_at : FnOk P w K mg base (L2.CX P w) 4 A.f_ply_at A.d_ply_at _ (spPlyAt A) := ok_ply_at T
  have G_ask : FnOk P w K mg base (L2.CX P w) 3 A.f_ask A.d_ask _ (spAsk A) := ok_ask T
  have G_is_laid : FnOk P w K mg base CX0 1 A.f_is_laid A.d_is_laid _ (spIsLaid A) := ok_is_laid T
  have G_between : FnOk P w K mg base CX0 3 A.f_between A.d_between _ (spBetween A) := ok_between T
  refine T.F_near_two.okX sc_near_two (fun vs H Q E h => ?_) (fun cdv Ar outer s H vs Q E hr h => ?_)
  · obtain ⟨D, L, x, p, t, rfl, _⟩ := h; rfl
  · obtain ⟨D, L, x, p, q, rfl, hK, hR⟩ := h
    obtain ⟨d0, h0⟩ := hK.de
    obtain ⟨d1, h1⟩ := hK.st.st
    refine ⟨_, (pss_cons (ps_set (i := 3) sc_near_two.nd rfl (Or.inl rfl) (pe_meth (pv 0) T.cl_Desk T.m_ply_at G_ply_at (hr.mono (by decide)) T.b_ply_at .nil psX (pa_cons (pv 1) pa_nil)))
      (pss_cons (ps_set (i := 4) sc_near_two.nd rfl (Or.inl rfl) (pe_meth (pv 0) T.cl_Desk T.m_ply_at G_ply_at (hr.mono (by decide)) T.b_ply_at .nil psX (pa_cons (pv 2) pa_nil)))
      (pss_cons (ps_expr (pe_call G_ask (hr.mono (by decide)) rfl T.g_ask T.F_ask.kp T.b_ask .nil psX (pa_cons (pe_cmpR oNe (pv 1) (pv 2) (nomark _)) (pa_cons (pgz rfl T.k_OUT_OF_RANGE) pa_nil))))
      (pss_cons (ps_expr (pe_call G_ask (hr.mono (by decide)) rfl T.g_ask T.F_ask.kp T.b_ask .nil psX (pa_cons (pe_and (pe_meth0 (pv 3) T.cl_Ply T.m_is_laid G_is_laid (hr.mono (by decide)) T.b_is_laid .nil pass0) (pe_one (pe_meth0 (pv 4) T.cl_Ply T.m_is_laid G_is_laid (hr.mono (by decide)) T.b_is_laid .nil pass0))) (pa_cons (pgz rfl T.k_NOT_LAID) pa_nil))))
      (pss_one (ps_ret (pe_lst (pa_cons (pe_meth (pe_fld (pv 0) rfl) T.cl_Store T.m_between G_between (hr.mono (by decide)) T.b_between .nil pass0 (pa_cons (pv 1) (pa_cons (pv 2) pa_nil))) pa_nil)))))))), ?_⟩
    refine ⟨_, rfl, D, d0, _, rfl, h0, lk_Desk_m_ply_at, _, rfl, D, L, x, p, rfl, hK, fun hp => ?_, fun hp => hR.no hK (Same.refl _) (does_near_no (.inl hp))⟩
    refine ⟨_, rfl, D, d0, _, rfl, h0, lk_Desk_m_ply_at, _, rfl, D, L, x, q, rfl, hK, fun hq => ?_, fun hq => hR.no hK (Same.refl _) (does_near_no (.inr hq))⟩
    obtain ⟨d3, h3⟩ := hK.st.py p hp
    obtain ⟨d4, h4⟩ := hK.st.py q hq
    refine ⟨_, rfl, _, rfl, _, _, rfl, rfl, _, _, rfl, fun c => ?_, fun c => hR.no hK (Same.refl _) (does_near_22 hp hq (by simpa using c))⟩
    have hne : p ≠ q := by simpa using c
    refine ⟨_, rfl, L.pa p, d3, _, rfl, h3, lk_Ply_m_is_laid, L.pa p, L.la p, x.ply p, rfl, ⟨d3, h3⟩, _, rfl, ?_⟩
    by_cases c1 : (x.ply p).turn = 0
    · exact iteFa (bne_f c1) ⟨_, _, rfl, fun z => (nomatch z), fun _ => hR.no hK (Same.refl _) (does_near_6 hp hq hne (.inl c1))⟩
    · refine iteTr (bne_t c1) ⟨_, rfl, L.pa q, d4, _, rfl, h4, lk_Ply_m_is_laid, L.pa q, L.la q, x.ply q, rfl, ⟨d4, h4⟩, _, _, rfl, fun c2 => ?_, fun c2 => hR.no hK (Same.refl _) (does_near_6 hp hq hne (.inr (by simpa using c2)))⟩
      have c3 : (x.ply q).turn ≠ 0 := by simpa using c2
      exact ⟨_, rfl, D, A.cDesk, d0, _, _, rfl, h0, T.cl_Desk, T.n_Desk_store, lk_Desk_store, L.S, d1, _, rfl, h1, lk_Store_m_between, _, rfl, _, rfl, L, x, p, q, rfl, hK.st, hK.wf, hp, hq, c1, c3, fun H2 e2 => ⟨sz (by show 1 ≤ 100000; decide), hR.lst hK (does_near hp hq hne c1 c3) e2 rfl⟩⟩
theorem ok_least (T : Txt K mg A) : FnOk P w K mg base (L2.CX P w) 5 A.f_least A.d_least ["self", "p"] (spLeast A) := by
  have G_ply_at : FnOk P w K mg base (L2.CX P w) 4 A.f_ply_at A.d_ply_at _ (spPlyAt A) := ok_ply_at T
  have G_ask : FnOk P w K mg base (L2.CX P w) 3 A.f_ask A.d_ask _ (spAsk A) := ok_ask T
  have G_is_laid : FnOk P w K mg base CX0 1 A.f_is_laid A.d_is_laid _ (spIsLaid A) := ok_is_laid T
  have G_near_others : FnOk P w K mg base CX0 3 A.f_near_others A.d_near_others _ (spNearOthers A) := ok_near_others T
  have G_least_turn : FnOk P w K mg base CX0 3 A.f_least_turn A.d_least_turn _ (spLeastTurn K) := ok_least_turn T
  refine T.F_least.okX sc_least (fun vs H Q E h => ?_) (fun cdv Ar outer s H vs Q E hr h => ?_)
  · obtain ⟨D, L, x, p, rfl, _⟩ := h; rfl
  · obtain ⟨D, L, x, p, rfl, hK, hR⟩ := h
    obtain ⟨d0, h0⟩ := hK.de
    obtain ⟨d1, h1⟩ := hK.st.st
    refine ⟨_, (pss_cons (ps_set (i := 2) sc_least.nd rfl (Or.inl rfl) (pe_meth (pv 0) T.cl_Desk T.m_ply_at G_ply_at (hr.mono (by decide)) T.b_ply_at .nil psX (pa_cons (pv 1) pa_nil)))
      (pss_cons (ps_expr (pe_call G_ask (hr.mono (by decide)) rfl T.g_ask T.F_ask.kp T.b_ask .nil psX (pa_cons (pe_not (pe_meth0 (pv 2) T.cl_Ply T.m_is_laid G_is_laid (hr.mono (by decide)) T.b_is_laid .nil pass0)) (pa_cons (pgz rfl T.k_ALREADY) pa_nil))))
      (pss_cons (ps_set (i := 3) sc_least.nd rfl (Or.inl rfl) (pe_call G_least_turn (hr.mono (by decide)) rfl T.g_least_turn T.F_least_turn.kp T.b_least_turn .nil pass0 (pa_cons (pe_fld (pv 2) rfl) (pa_cons (pe_meth (pe_fld (pv 0) rfl) T.cl_Store T.m_near_others G_near_others (hr.mono (by decide)) T.b_near_others .nil pass0 (pa_cons (pv 1) pa_nil)) (pa_cons (pe_fld (pe_fld (pv 0) rfl) rfl) pa_nil)))))
      (pss_cons (ps_expr (pe_call G_ask (hr.mono (by decide)) rfl T.g_ask T.F_ask.kp T.b_ask .nil psX (pa_cons (pe_cmpR op_notN (pv 3) pe_non (nomark _)) (pa_cons (pgz rfl T.k_CANNOT) pa_nil))))
      (pss_one (ps_ret (pe_lst (pa_cons (pv 3) pa_nil)))))))), ?_⟩
    refine ⟨_, rfl, D, d0, _, rfl, h0, lk_Desk_m_ply_at, _, rfl, D, L, x, p, rfl, hK, fun hp => ?_, fun hp => hR.no hK (Same.refl _) (does_least_no hp)⟩
    obtain ⟨d3, h3⟩ := hK.st.py p hp
    have hw := hK.wf.py _ (ply_mem hp)
    refine ⟨_, rfl, L.pa p, d3, _, rfl, h3, lk_Ply_m_is_laid, L.pa p, L.la p, x.ply p, rfl, ⟨d3, h3⟩, _, rfl, _, _, rfl, fun c => ?_, fun c => hR.no hK (Same.refl _) (does_least_17 hp (by simpa using c))⟩
    have c1 : (x.ply p).turn = 0 := by simpa using c
    refine ⟨_, rfl, L.pa p, A.cPly, d3, _, _, rfl, h3, T.cl_Ply, T.n_Ply_splices, lk_Ply_splices, _, rfl, D, A.cDesk, d0, _, _, rfl, h0, T.cl_Desk, T.n_Desk_store, lk_Desk_store, L.S, d1, _, rfl, h1, lk_Store_m_near_others, _, rfl, L, x, p, rfl, hK.st, hK.wf, fun f H2 e2 hf hfl => ?_⟩
    refine ⟨_, rfl, D, A.cDesk, d0, _, _, rfl, (e2 _ _ h0), T.cl_Desk, T.n_Desk_store, lk_Desk_store, L.S, A.cStore, d1, _, _, rfl, (e2 _ _ h1), T.cl_Store, T.n_Store_near, lk_Store_near, L.la p, f, _, _, _, rfl, SqL.of (e2 _ _ (hK.st.sp p hp)), SqL.of hfl, hw.ne, by rw [nearL_len]; have := hK.wf.r1; omega, by have := hw.len; omega, by rw [nearL_len]; have := hK.wf.r2; omega, fun H3 e3 => ?_⟩
    rw [least_at hK.wf hp]
    have e := e2.trans e3
    cases hl : x.least p with
    | none => exact ⟨_, rfl, rfl, _, _, rfl, fun z => absurd z (by simp [vo]), fun _ => hR.no hK e (does_least_33 hp c1 hl)⟩
    | some t => exact ⟨_, rfl, rfl, _, _, rfl, fun _ => ⟨_, rfl, sz (by show 1 ≤ 100000; decide), hR.lst hK (does_least hp c1 hl) e rfl⟩, fun z => absurd z (by simp [vo])⟩
end
end Bp

namespace Bp
open PySem PySem.Spec PyProof.Rows L2
open Su65 (Abs Ply Roll)
/-! # The desk's answers that change nothing: best, at, most, piece, sums, state -/
theorem pe_fldK {X : Cx} {K : PySem.W.Frag} {e : Expr} {f : Str} {pos : Pos} {ta : TE} (h : X.K = K) (he : PE X e ta) (hb : attributeBase e f X.env (eval e X.env) = eval e X.env) : PE X (.Attribute e f pos) (tFld K ta f) := by
  rw [← h]; exact pe_fld he hb
/-- over a list of numbers, those kept of which p is true -/
theorem lc_keep {K : PySem.W.Frag} {a : Addr} {l : List Nat} {g : TG} {tt : TT} {te : TE} {vs : List Nat} {σ : L2.St} {H1 : Hp} {D : Addr} {Qd : Hp → Prop} (p : Nat → Bool) (hS : SqL K H1 a (nums l)) (hD : H1 D = none) (hlen : l.length ≤ 50000)
    (hs : ∀ n H', n ∈ l → Same H1 H' → ∀ R : Bool → Hp → Prop, R (p n) H' → ∀ S : V → Hp → Prop, S (vn n) H' → g (vn n) (wipe σ vs) H' fun σ2 H2 => wipe σ2 vs = wipe σ vs ∧ tt σ2 H2 R ∧ te σ2 H' S)
    (hd : ∀ H', Same H1 H' → H' D = some (.lst (nums (l.filter p))) → Qd H')
    (gi : ∀ n H' (A B : L2.St → Hp → Prop), (∀ σ' H', A σ' H' → B σ' H') → g (vn n) (wipe σ vs) H' A → g (vn n) (wipe σ vs) H' B) (ti : ∀ σ' H' (A B : Bool → Hp → Prop), (∀ b H2, A b H2 → B b H2) → tt σ' H' A → tt σ' H' B) :
    ∃ W : Nat → Nat → Hp → Prop, (∃ m, W 0 m (upd H1 D (.lst []))) ∧ ∀ i m H, W i m H →
      ((Itl K a).stop i H ∧ Qd H) ∨ ((Itl K a).go i H ∧ ∃ Nx : Hp → Prop, (∀ H', Nx H' → ∃ m', m' < m ∧ W (i + 1) m' H') ∧ ∀ x H', (Itl K a).yld i H x H' → g x (wipe σ vs) H' fun σ2 H2 => wipe σ2 vs = wipe σ vs ∧ tt σ2 H2 fun b H3 =>
        if b = true then te σ2 H3 fun y H4 => ∃ acc, H4 D = some (.lst acc) ∧ acc.length < sizeLine ∧ Nx (upd H4 D (.lst (acc ++ [y]))) else Nx H3) :=
  lc_list (xs := nums l) (fun i H' => Same H1 H' ∧ H' D = some (.lst (nums ((l.take i).filter p)))) ⟨same_new hD, upd_same⟩ (fun i H' _ q => q.1.seq hS) (fun i x H' hx q => by
    obtain ⟨n, hn, rfl⟩ := nums_get hx
    refine gi n H' _ _ ?_ (hs n H' (at_mem hn) q.1 (fun b H2 => b = p n ∧ H2 = H') ⟨rfl, rfl⟩ (fun y H4 => ∃ acc, H4 D = some (.lst acc) ∧ acc.length < sizeLine ∧ Same H1 (upd H4 D (.lst (acc ++ [y]))) ∧ (upd H4 D (.lst (acc ++ [y]))) D = some (.lst (nums ((l.take i).filter p ++ [n])))) ?_)
    · intro σ' H3 ⟨h1, h2, h3⟩
      refine ⟨h1, ti _ _ _ _ (fun b H2 hb => ?_) h2⟩
      obtain ⟨rfl, rfl⟩ := hb
      cases hp : p n with
      | true =>
        refine iteTr rfl ?_
        rw [take_succ hn, List.filter_append, List.filter_cons, if_pos hp]
        exact h3
      | false =>
        refine iteFa rfl ⟨q.1, ?_⟩
        rw [take_succ hn, List.filter_append, List.filter_cons, if_neg (by rw [hp]; simp), List.filter_nil, List.append_nil]
        exact q.2
    · refine ⟨_, q.2, szl ?_, same_mut q.1 hD, ?_⟩
      · rw [nums_len]
        have h4 := List.length_filter_le p (l.take i)
        rw [List.length_take] at h4; omega
      · rw [upd_same, nums_app]; rfl) (fun H' q => hd H' q.1 (by have := q.2; rw [nums_len, List.take_length] at this; exact this))
theorem minL_any {α : Type} {l : List α} {f : α → Nat} {n : Nat} (h : l ≠ []) : (minL (l.map f) ≤ n) ↔ l.any (fun s => decide (f s ≤ n)) = true := by
  rw [List.any_eq_true]
  constructor
  · intro h1
    obtain ⟨s, hs, e⟩ := List.mem_map.mp (minL_mem (l := l.map f) (by simpa using h))
    exact ⟨s, hs, decide_eq_true (by rw [e]; exact h1)⟩
  · rintro ⟨s, hs, e⟩
    exact Nat.le_trans (minL_le (List.mem_map_of_mem hs)) (of_decide_eq_true e)
def spBest (A : Ad) : Sp := fun vs H Q E => ∃ (D : Addr) (L : Lay) (x : Abs) (p : Nat), vs = [.ref D, vn p] ∧ Dk A H D L x ∧ Res A D H L x (Su65.does x (.best p)) Q E
def spAtPlace (A : Ad) : Sp := fun vs H Q E => ∃ (D : Addr) (L : Lay) (x : Abs) (i n : Nat), vs = [.ref D, vn i, vn n] ∧ Dk A H D L x ∧ Res A D H L x (Su65.does x (.at_ i n)) Q E
def spMost (A : Ad) : Sp := fun vs H Q E => ∃ (D : Addr) (L : Lay) (x : Abs) (r n : Nat), vs = [.ref D, vn r, vn n] ∧ Dk A H D L x ∧ Res A D H L x (Su65.does x (.most r n)) Q E
def spPiece (A : Ad) : Sp := fun vs H Q E => ∃ (D : Addr) (L : Lay) (x : Abs) (n : Nat), vs = [.ref D, vn n] ∧ Dk A H D L x ∧ Res A D H L x (Su65.does x (.piece n)) Q E
def spSums (A : Ad) : Sp := fun vs H Q E => ∃ (D : Addr) (L : Lay) (x : Abs), vs = [.ref D] ∧ Dk A H D L x ∧ Res A D H L x (Su65.does x .sums) Q E
def spState (A : Ad) : Sp := fun vs H Q E => ∃ (D : Addr) (L : Lay) (x : Abs), vs = [.ref D] ∧ Dk A H D L x ∧ Res A D H L x (Su65.does x .state) Q E
theorem does_best_no {x : Abs} {p : Nat} (h : ¬ p < x.plies.length) : Su65.does x (.best p) = (x, Su65.no (-2)) := by simp only [Su65.does]; exact if_pos (isP_f h)
theorem does_best_6 {x : Abs} {p : Nat} (h : p < x.plies.length) (h2 : x.others p = []) : Su65.does x (.best p) = (x, Su65.no (-6)) := by simp only [Su65.does]; rw [if_neg (isP_t h), if_pos h2]
theorem does_best {x : Abs} {p : Nat} (h : p < x.plies.length) (h2 : x.others p ≠ []) : Su65.does x (.best p) = (x, Su65.num (x.best p).1 [(x.best p).2]) := by simp only [Su65.does]; rw [if_neg (isP_t h), if_neg h2]
theorem best_at {x : Abs} (w : WF x) {p : Nat} (hp : p < x.plies.length) : bestT (fun t => nearN (x.ply p).splices t (nearL x.round_ (x.others p))) (nearL x.round_ (x.others p)).length = x.best p := by
  rw [nearL_len, best_eq]
  congr 1
  funext t
  exact nearest_at w hp (others_lt w p)
theorem does_at_22 {x : Abs} {i n : Nat} (h : ¬ i < x.round_) : Su65.does x (.at_ i n) = (x, Su65.no (-22)) := by simp only [Su65.does]; exact if_pos (by omega)
theorem does_at {x : Abs} {i n : Nat} (h : i < x.round_) : Su65.does x (.at_ i n) = (x, Su65.list (x.laid.filter fun p => (x.places p ((x.ply p).turn - 1)).any fun s => decide (x.gap s i ≤ n))) := by simp only [Su65.does]; exact if_neg (by omega)
theorem wide_no {n : Nat} (h : ¬ (1 ≤ n ∧ n ≤ 2000)) : n = 0 ∨ 2000 < n := by omega
theorem wide_ok {n : Nat} (h : 1 ≤ n ∧ n ≤ 2000) : ¬ (n = 0 ∨ 2000 < n) := by omega
theorem does_most_no {x : Abs} {r n : Nat} (h : ¬ r < x.rolls.length) : Su65.does x (.most r n) = (x, Su65.no (-2)) := by simp only [Su65.does]; exact if_pos (isR_f h)
theorem does_most_22 {x : Abs} {r n : Nat} (h : r < x.rolls.length) (h2 : ¬ (1 ≤ n ∧ n ≤ 2000)) : Su65.does x (.most r n) = (x, Su65.no (-22)) := by simp only [Su65.does]; rw [if_neg (isR_t h), if_pos (wide_no h2)]
theorem cut_of {x : Abs} (w : WF x) {n : Nat} (hn : 0 < n) : x.cut (x.piece n) = (piecesL x (x.piece n)).map (beginsL 0) := cut_eq x (Nat.lt_of_lt_of_le hn (piece_ge w n)) (by have := w.r1; omega)
theorem does_most_33 {x : Abs} (w : WF x) {r n : Nat} (h : r < x.rolls.length) (h2 : 1 ≤ n ∧ n ≤ 2000) (h3 : piecesL x (x.piece (x.roll r).wide) = none) : Su65.does x (.most r n) = (x, Su65.no (-33)) := by
  simp only [Su65.does]; rw [if_neg (isR_t h), if_neg (wide_ok h2), cut_of w (by have := (w.ro _ (roll_mem h)).w1; omega), h3]; rfl
theorem does_most {x : Abs} (w : WF x) {r n : Nat} (h : r < x.rolls.length) (h2 : 1 ≤ n ∧ n ≤ 2000) {ps : List Nat} (h3 : piecesL x (x.piece (x.roll r).wide) = some ps) : Su65.does x (.most r n) = (x, Su65.num ((x.roll r).left / (ps.length * x.takes n)) [ps.length * x.takes n]) := by
  simp only [Su65.does]; rw [if_neg (isR_t h), if_neg (wide_ok h2), cut_of w (by have := (w.ro _ (roll_mem h)).w1; omega), h3]
  show (x, Su65.num ((x.roll r).left / ((beginsL 0 ps).length * x.takes n)) [(beginsL 0 ps).length * x.takes n]) = _
  rw [beginsL_len]
theorem does_piece_22 {x : Abs} {n : Nat} (h2 : ¬ (1 ≤ n ∧ n ≤ 2000)) : Su65.does x (.piece n) = (x, Su65.no (-22)) := by simp only [Su65.does]; rw [if_pos (wide_no h2)]
theorem does_piece_33 {x : Abs} (w : WF x) {n : Nat} (h2 : 1 ≤ n ∧ n ≤ 2000) (h3 : piecesL x (x.piece n) = none) : Su65.does x (.piece n) = (x, Su65.no (-33)) := by
  simp only [Su65.does]; rw [if_neg (wide_ok h2), cut_of w (by omega), h3]; rfl
theorem does_piece {x : Abs} (w : WF x) {n : Nat} (h2 : 1 ≤ n ∧ n ≤ 2000) {ps : List Nat} (h3 : piecesL x (x.piece n) = some ps) : Su65.does x (.piece n) = (x, Su65.num (x.piece n) [ps.length, x.round_ - (beginsL 0 ps).getLastD 0]) := by
  simp only [Su65.does]; rw [if_neg (wide_ok h2), cut_of w (by omega), h3]
  show (x, Su65.num (x.piece n) [(beginsL 0 ps).length, x.round_ - (beginsL 0 ps).getLastD 0]) = _
  rw [beginsL_len]
theorem does_sums (x : Abs) : Su65.does x .sums = (x, Su65.num 0 [(x.rolls.map Roll.long).sum, (x.rolls.map Roll.left).sum, (x.plies.map fun p => p.splices.length * x.takes p.wide).sum]) := rfl
theorem does_state (x : Abs) : Su65.does x .state = (x, Su65.num x.laid.length [x.rolls.length, x.plies.length, x.round_, x.apart, x.short]) := rfl
theorem ps_len {x : Abs} (w : WF x) {n : Nat} (hn : 150 ≤ n) {ps : List Nat} (h : piecesL x (x.piece n) = some ps) : ps.length ≤ 20 := by
  have c := cutted (x := x) (s := x.piece n) (by have := piece_ge w n; omega) (by have := w.r1; omega) w.s0 h
  rw [c.len]; exact many_le w (Nat.le_trans hn (piece_ge w n))
section
variable {P : Program} {w : World} {K : PySem.W.Frag} {mg : Str → Option Value} {base : Heap} {A : Ad}
theorem ok_best (T : Txt K mg A) : FnOk P w K mg base (L2.CX P w) 5 A.f_best A.d_best ["self", "p"] (spBest A) := by
  have G_ply_at : FnOk P w K mg base (L2.CX P w) 4 A.f_ply_at A.d_ply_at _ (spPlyAt A) := ok_ply_at T
  have G_ask : FnOk P w K mg base (L2.CX P w) 3 A.f_ask A.d_ask _ (spAsk A) := ok_ask T
  have G_laid : FnOk P w K mg base CX0 2 A.f_laid A.d_laid _ (spLaid A) := ok_laid T
  have G_near_others : FnOk P w K mg base CX0 3 A.f_near_others A.d_near_others _ (spNearOthers A) := ok_near_others T
  have G_best_turn : FnOk P w K mg base CX0 3 A.f_best_turn A.d_best_turn _ (spBestTurn K) := ok_best_turn T
  refine T.F_best.okX sc_best (fun vs H Q E h => ?_) (fun cdv Ar outer s H vs Q E hr h => ?_)
  · obtain ⟨D, L, x, p, rfl, _⟩ := h; rfl
  · obtain ⟨D, L, x, p, rfl, hK, hR⟩ := h
    obtain ⟨d0, h0⟩ := hK.de
    obtain ⟨d1, h1⟩ := hK.st.st
    refine ⟨_, (pss_cons (ps_set (i := 2) sc_best.nd rfl (Or.inl rfl) (pe_meth (pv 0) T.cl_Desk T.m_ply_at G_ply_at (hr.mono (by decide)) T.b_ply_at .nil psX (pa_cons (pv 1) pa_nil)))
      (pss_cons (ps_expr (pe_call G_ask (hr.mono (by decide)) rfl T.g_ask T.F_ask.kp T.b_ask .nil psX (pa_cons (pe_cmpR oGt (pe_callB cLen (by rfl) T.z_len PySem.boot_len (pa_cons (pe_lc (own := [("k", 3)]) (g := gName 3) (tt := tTest (tOp (rCm fun a b => !decide (a = b)) (tVar 3) (tVar 1))) rfl sc_best.nd (pi_list (pe_meth0 (pe_fld (pv 0) rfl) T.cl_Store T.m_laid G_laid (hr.mono (by decide)) T.b_laid .nil pass0))
        (blkOk_by (own := [("k", 3)]) (N := ["self", "p", "ply", "k"]) (sc := defScope s_best) (by decide +kernel)) (fun _ _ _ _ _ => pg_name (i := 3) sc_best.nd rfl (Or.inl rfl)) (fun _ _ _ _ _ => pts_one (pt_cmpR oNe (pv 3) (pv 1) (nomark _))) (fun _ _ _ _ _ => pv 3)) pa_nil)) (pn 0) (nomark _)) (pa_cons (pgz rfl T.k_NOT_LAID) pa_nil))))
      (pss_one (ps_ret (pe_callTy call_list_of (by rfl) T.z_list (by decide +kernel) (pa_cons (pe_call G_best_turn (hr.mono (by decide)) rfl T.g_best_turn T.F_best_turn.kp T.b_best_turn .nil pass0 (pa_cons (pe_fld (pv 2) rfl) (pa_cons (pe_meth (pe_fld (pv 0) rfl) T.cl_Store T.m_near_others G_near_others (hr.mono (by decide)) T.b_near_others .nil pass0 (pa_cons (pv 1) pa_nil)) pa_nil))) pa_nil)))))), ?_⟩
    refine ⟨_, rfl, D, d0, _, rfl, h0, lk_Desk_m_ply_at, _, rfl, D, L, x, p, rfl, hK, fun hp => ?_, fun hp => hR.no hK (Same.refl _) (does_best_no hp)⟩
    obtain ⟨d3, h3⟩ := hK.st.py p hp
    have hw := hK.wf.py _ (ply_mem hp)
    refine ⟨_, rfl, D, A.cDesk, d0, _, _, rfl, h0, T.cl_Desk, T.n_Desk_store, lk_Desk_store, L.S, d1, _, rfl, h1, lk_Store_m_laid, L, x, rfl, hK.st, hK.wf, fun g H1 e1 hg hgl => ⟨g, rfl, ⟨_, SqL.of hgl⟩, fun Dl hDl => lc_keep (fun q => q != p) (SqL.of hgl) hDl (by have := laid_len hK.wf; omega) ?_ ?_ (fun _ _ _ _ h z => h _ _ z)
      (fun σ' H' A B h ⟨a, b, c, d, i, j, e1, e2, k, e3, z⟩ => ⟨a, b, c, d, i, j, e1, e2, k, e3, h _ _ z⟩)⟩⟩
    · intro n H2 hn e2 R hr1 S hs1
      refine ⟨rfl, ⟨_, rfl, _, rfl, _, _, rfl, rfl, _, rfl, ?_⟩, _, rfl, hs1⟩
      have e : (!decide (n = p)) = (n != p) := by by_cases c : n = p <;> simp [c]
      show R (!decide (n = p)) H2
      rw [e]; exact hr1
    · intro H2 e2 hl
      have e := e1.trans e2
      refine ⟨Dl, _, (x.laid.filter fun q => q != p).length, rfl, SqL.of hl, nums_len _, _, _, rfl, rfl, _, _, rfl, fun c => ?_, fun c => hR.no hK e (does_best_6 hp ?_)⟩
      · have c1 : 0 < (x.laid.filter fun q => q != p).length := of_decide_eq_true c
        have c2 : x.others p ≠ [] := fun z => by
          rw [others_nil hK.wf] at z; rw [z] at c1; exact absurd c1 (Nat.lt_irrefl 0)
        refine ⟨_, rfl, L.pa p, A.cPly, d3, _, _, rfl, (e _ _ h3), T.cl_Ply, T.n_Ply_splices, lk_Ply_splices, _, rfl, D, A.cDesk, d0, _, _, rfl, (e _ _ h0), T.cl_Desk, T.n_Desk_store, lk_Desk_store, L.S, d1, _, rfl, (e _ _ h1), lk_Store_m_near_others, _, rfl, L, x, p, rfl, hK.st.same e, hK.wf, fun f H3 e3 hf hfl => ?_⟩
        have e4 := e.trans e3
        refine ⟨L.la p, f, _, _, rfl, SqL.of (e4 _ _ (hK.st.sp p hp)), SqL.of hfl, hw.ne, by rw [nearL_len]; have := hK.wf.r1; omega, by have := hw.len; omega, by rw [nearL_len]; have := hK.wf.r2; omega, fun t H4 e5 ht htl => ⟨t, _, rfl, .inr (SqT.of htl), hR.lst hK (does_best hp c2) (e4.trans e5) ?_⟩⟩
        rw [best_at hK.wf hp]; rfl
      · have c1 : ¬ 0 < (x.laid.filter fun q => q != p).length := of_decide_eq_false c
        rw [others_nil hK.wf]
        exact List.length_eq_zero_iff.mp (by omega)
theorem ok_at_place (T : Txt K mg A) : FnOk P w K mg base (L2.CX P w) 5 A.f_at_place A.d_at_place ["self", "place", "far"] (spAtPlace A) := by
  have G_ask_turn : FnOk P w K mg base (L2.CX P w) 4 A.f_ask_turn A.d_ask_turn _ (spAskTurn A) := ok_ask_turn T
  have G_laid : FnOk P w K mg base CX0 2 A.f_laid A.d_laid _ (spLaid A) := ok_laid T
  have G_places : FnOk P w K mg base CX0 2 A.f_places A.d_places _ (spPlaces A) := ok_places T
  have G_drum_size : FnOk P w K mg base CX0 1 A.f_drum_size A.d_drum_size _ (spDrum A) := ok_drum_size T
  have G_apart : FnOk P w K mg base CX0 1 A.f_apart A.d_apart _ spApart := ok_apart T
  refine T.F_at_place.okX sc_at_place (fun vs H Q E h => ?_) (fun cdv Ar outer s H vs Q E hr h => ?_)
  · obtain ⟨D, L, x, p, n, rfl, _⟩ := h; rfl
  · obtain ⟨D, L, x, i, n, rfl, hK, hR⟩ := h
    obtain ⟨d0, h0⟩ := hK.de
    obtain ⟨d1, h1⟩ := hK.st.st
    refine ⟨_, (pss_cons (ps_expr (pe_meth (pv 0) T.cl_Desk T.m_ask_turn G_ask_turn (hr.mono (by decide)) T.b_ask_turn .nil psX (pa_cons (pv 1) pa_nil)))
      (pss_cons (ps_set (i := 3) sc_at_place.nd rfl (Or.inl rfl) (pe_lst pa_nil))
      (pss_cons (ps_for (passes_of rfl) rfl (pi_list (pe_meth0 (pe_fld (pv 0) rfl) T.cl_Store T.m_laid G_laid (hr.mono (by decide)) T.b_laid .nil pass0)) (pg_name (i := 4) sc_at_place.nd rfl (Or.inl rfl))
        (pss_one (ps_if (pt_cmpR oLe (pe_callB (cMin rfl) (by rfl) T.z_min (by decide +kernel) (pa_cons (pe_lc (own := [("other", 5)]) (g := gName 5) (tt := tYes) (te := tCall spApart [] E0 (tCons (tVar 1) (tCons (tVar 5) (tCons (tMeth A.cStore "drum_size" (spDrum A) [] E0 (tFld K (tVar 0) "store") tNil) tNil)))) rfl sc_at_place.nd (pi_list (pe_meth (pe_fld (pv 0) rfl) T.cl_Store T.m_places G_places (hr.mono (by decide)) T.b_places .nil pass0 (pa_cons (pv 4) pa_nil)))
          (blkOk_by (own := [("other", 5)]) (N := ["self", "place", "far", "found", "k", "other"]) (sc := defScope s_at_place) (by decide +kernel)) (fun _ _ _ _ _ => pg_name (i := 5) sc_at_place.nd rfl (Or.inl rfl)) (fun _ _ _ _ _ => pts_nil)
          (fun _ _ _ _ _ => (pe_call G_apart (hr.mono (by decide)) rfl T.g_apart T.F_apart.kp T.b_apart .nil pass0 (pa_cons (pv 1) (pa_cons (pv 5) (pa_cons (pe_meth0 (pe_fldK rfl (pv 0) rfl) T.cl_Store T.m_drum_size G_drum_size (hr.mono (by decide)) T.b_drum_size .nil pass0) pa_nil)))))) pa_nil)) (pv 2) (nomark _)) (pss_one (ps_expr (pe_bm PySem.F.plainAttrs_list PySem.F.slot_list_append PySem.F.type_list_append mt_append (pv 3) (pa_cons (pv 4) pa_nil)))) pss_nil)))
      (pss_one (ps_ret (pe_op op_cat (pe_lst (pa_cons (pe_callB cLen (by rfl) T.z_len PySem.boot_len (pa_cons (pv 3) pa_nil)) pa_nil)) (pv 3))))))), ?_⟩
    refine ⟨_, rfl, D, d0, _, rfl, h0, lk_Desk_m_ask_turn, _, rfl, D, L, x, i, rfl, hK, fun hi => ?_, fun hi => hR.no hK (Same.refl _) (does_at_22 hi)⟩
    refine ⟨sz (Nat.zero_le _), fun F hF => ?_⟩
    have sF := same_new (o := .lst []) hF
    refine ⟨_, rfl, D, A.cDesk, d0, _, _, rfl, (sF _ _ h0), T.cl_Desk, T.n_Desk_store, lk_Desk_store, L.S, d1, _, rfl, (sF _ _ h1), lk_Store_m_laid, L, x, rfl, hK.st.same sF, hK.wf, fun p H1 e1 hp hpl => ⟨p, rfl, ⟨_, SqL.of hpl⟩, ?_⟩⟩
    have e0 := sF.trans e1
    have hpF : p ≠ F := fun e => by rw [e, upd_same] at hp; cases hp
    refine for_nums (K := K) (a := p) (l := x.laid) (fun j σ H' => ∃ v : Option V, σ = [some (.ref D), some (vn i), some (vn n), some (.ref F), v, none] ∧ Same H H' ∧ H' F = some (.lst (nums ((x.laid.take j).filter fun p => (x.places p ((x.ply p).turn - 1)).any fun s => decide (x.gap s i ≤ n)))) ∧ H' p = some (.lst (nums x.laid)))
      ⟨none, rfl, e0, e1 _ _ upd_same, hpl⟩ (fun j σ H' ⟨_, _, _, _, z⟩ => SqL.of z) ?_ ?_
    · rintro j k σ H2 hn ⟨v, rfl, e2, f2, f3⟩
      obtain ⟨hl1, hl2⟩ := laid_lt (at_mem hn)
      have hne : x.places k ((x.ply k).turn - 1) ≠ [] := fun z => by
        have h5 := (hK.wf.py _ (ply_mem hl1)).ne
        unfold Abs.places at z
        exact h5 (by simpa using z)
      refine ⟨_, rfl, D, A.cDesk, d0, _, _, rfl, (e2 _ _ h0), T.cl_Desk, T.n_Desk_store, lk_Desk_store, L.S, d1, _, rfl, (e2 _ _ h1), lk_Store_m_places, _, rfl, L, x, k, rfl, hK.st.same e2, hK.wf, hl1, hl2, fun g H3 e3 hg hgl => ⟨g, rfl, ⟨_, SqL.of hgl⟩, fun Dl hDl => lc_nums (fun s => gapR x.round_ i s) (SqL.of hgl) hDl ?_ ?_ ?_ (fun _ _ _ _ h z => h _ _ z)⟩⟩
      · rw [places_len]; have := (hK.wf.py _ (ply_mem hl1)).len; omega
      · intro s H4 hs e4 R k'
        have e24 := (e2.trans e3).trans e4
        exact ⟨rfl, _, rfl, _, rfl, _, rfl, D, A.cDesk, d0, _, _, rfl, (e24 _ _ h0), T.cl_Desk, T.n_Desk_store, lk_Desk_store, L.S, d1, _, rfl, (e24 _ _ h1), lk_Store_m_drum_size, L, x, rfl, hK.st.same e24, i, s, x.round_, rfl, hi, places_lt hK.wf _ _ s hs, k' _ (Same.refl _)⟩
      · intro H4 e4 hl
        have e34 := e3.trans e4
        refine ⟨Dl, _, rfl, SqL.of hl, by simpa using hne, _, rfl, _, _, rfl, rfl, _, rfl, ?_⟩
        have eany := minL_any (f := fun s => gapR x.round_ i s) (n := n) hne
        have eq1 : ((x.places k ((x.ply k).turn - 1)).any fun s => decide (x.gap s i ≤ n)) = ((x.places k ((x.ply k).turn - 1)).any fun s => decide (gapR x.round_ i s ≤ n)) := by
          congr 1
          funext s
          rw [gap_eq, gapR_comm]
        by_cases c : minL ((x.places k ((x.ply k).turn - 1)).map fun s => gapR x.round_ i s) ≤ n
        · refine iteTr (decide_eq_true c) ⟨_, rfl, .inl ⟨rfl, _, SqL.of (e34 _ _ f2)⟩, _, rfl, F, _, _, rfl, rfl, e34 _ _ f2, szl ?_, some (vn k), rfl, same_mut (e2.trans e34) hF, ?_, ?_⟩
          · rw [nums_len]
            have h4 := List.length_filter_le (fun p => (x.places p ((x.ply p).turn - 1)).any fun s => decide (x.gap s i ≤ n)) (x.laid.take j)
            rw [List.length_take] at h4
            have := laid_len hK.wf
            omega
          · rw [upd_same, take_succ hn, List.filter_append, List.filter_cons, if_pos (eq1.trans (eany.mp c)), nums_app]; rfl
          · rw [upd_ne hpF]; exact e34 _ _ f3
        · refine iteFa (decide_eq_false c) ⟨some (vn k), rfl, e2.trans e34, ?_, e34 _ _ f3⟩
          rw [take_succ hn, List.filter_append, List.filter_cons, if_neg (fun z => c (eany.mpr (eq1.symm.trans z))), List.filter_nil, List.append_nil]
          exact e34 _ _ f2
    · rintro σ H2 ⟨v, rfl, e2, f2, f3⟩
      rw [List.take_length] at f2
      refine ⟨_, rfl, F, _, _, rfl, SqL.of f2, nums_len _, sz (by show 1 ≤ 100000; decide), fun g hg => ⟨_, rfl, g, F, _, _, rfl, rfl, upd_same, (upd_ne (ne_of_none f2 hg)).trans f2, sz ?_, hR.lst hK (does_at hi) (e2.trans (same_new hg)) rfl⟩⟩
      rw [nums_len]
      have h4 := List.length_filter_le (fun p => (x.places p ((x.ply p).turn - 1)).any fun s => decide (x.gap s i ≤ n)) x.laid
      have := laid_len hK.wf
      show 1 + _ ≤ _
      omega
theorem ok_most (T : Txt K mg A) : FnOk P w K mg base (L2.CX P w) 5 A.f_most A.d_most ["self", "r", "wide"] (spMost A) := by
  have G_roll_at : FnOk P w K mg base (L2.CX P w) 4 A.f_roll_at A.d_roll_at _ (spRollAt A) := ok_roll_at T
  have G_ask_range : FnOk P w K mg base (L2.CX P w) 4 A.f_ask_range A.d_ask_range _ (spAskRange A) := ok_ask_range T
  have G_pieces_of : FnOk P w K mg base (L2.CX P w) 4 A.f_pieces_of A.d_pieces_of _ (spPiecesOf A) := ok_pieces_of T
  have G_takes : FnOk P w K mg base CX0 1 A.f_takes A.d_takes _ (spTakes A) := ok_takes T
  refine T.F_most.okX sc_most (fun vs H Q E h => ?_) (fun cdv Ar outer s H vs Q E hr h => ?_)
  · obtain ⟨D, L, x, r, n, rfl, _⟩ := h; rfl
  · obtain ⟨D, L, x, r, n, rfl, hK, hR⟩ := h
    obtain ⟨d0, h0⟩ := hK.de
    obtain ⟨d1, h1⟩ := hK.st.st
    obtain ⟨d2, h2⟩ := hK.st.sl
    refine ⟨_, (pss_cons (ps_set (i := 3) sc_most.nd rfl (Or.inl rfl) (pe_meth (pv 0) T.cl_Desk T.m_roll_at G_roll_at (hr.mono (by decide)) T.b_roll_at .nil psX (pa_cons (pv 1) pa_nil)))
      (pss_cons (ps_expr (pe_call G_ask_range (hr.mono (by decide)) rfl T.g_ask_range T.F_ask_range.kp T.b_ask_range .nil psX (pa_cons (pv 2) (pa_cons (pn 1) (pa_cons (pgn 2000 rfl T.k_WIDEST) pa_nil)))))
      (pss_cons (ps_set (i := 4) sc_most.nd rfl (Or.inl rfl) (pe_op oMul (pe_callB cLen (by rfl) T.z_len PySem.boot_len (pa_cons (pe_meth (pv 0) T.cl_Desk T.m_pieces_of G_pieces_of (hr.mono (by decide)) T.b_pieces_of .nil psX (pa_cons (pe_fld (pv 3) rfl) pa_nil)) pa_nil)) (pe_meth (pe_fld (pe_fld (pv 0) rfl) rfl) T.cl_Slant T.m_takes G_takes (hr.mono (by decide)) T.b_takes .nil pass0 (pa_cons (pv 2) pa_nil))))
      (pss_one (ps_ret (pe_lst (pa_cons (pe_op oDiv (pe_fld (pv 3) rfl) (pv 4)) (pa_cons (pv 4) pa_nil)))))))), ?_⟩
    refine ⟨_, rfl, D, d0, _, rfl, h0, lk_Desk_m_roll_at, _, rfl, D, L, x, r, rfl, hK, fun hp => ?_, fun hp => hR.no hK (Same.refl _) (does_most_no hp)⟩
    obtain ⟨d3, h3⟩ := hK.st.ro r hp
    have hw := hK.wf.ro _ (roll_mem hp)
    refine ⟨_, rfl, n, 1, 2000, rfl, fun hn => ?_, fun hn => hR.no hK (Same.refl _) (does_most_22 hp hn)⟩
    refine ⟨_, rfl, D, d0, _, rfl, h0, lk_Desk_m_pieces_of, _, rfl, L.ra r, A.cRoll, d3, _, _, rfl, h3, T.cl_Roll, T.n_Roll_wide, lk_Roll_wide, D, L, x, (x.roll r).wide, rfl, hK, by have := hw.w1; omega, hw.w2, fun e => hR.no hK (Same.refl _) (does_most_33 hK.wf hp hn e), fun ps e p H1 e1 hpn hpl => ?_⟩
    have hl := ps_len hK.wf hw.w1 e
    have ht := takes_le hK.wf hn.2
    have ht0 := takes_pos hK.wf (n := n) (by omega)
    have c := cutted (x := x) (s := x.piece (x.roll r).wide) (by have := piece_ge hK.wf (x.roll r).wide; have := hw.w1; omega) (by have := hK.wf.r1; omega) hK.wf.s0 e
    have hps : 0 < ps.length := List.length_pos_iff.mpr c.ne
    have hm : ps.length * x.takes n ≤ 20 * 2001000 := Nat.mul_le_mul hl ht
    have hm0 : 0 < ps.length * x.takes n := Nat.mul_pos hps ht0
    exact ⟨p, _, ps.length, rfl, SqL.of hpl, nums_len _, _, rfl, D, A.cDesk, d0, _, _, rfl, (e1 _ _ h0), T.cl_Desk, T.n_Desk_store, lk_Desk_store, L.S, A.cStore, d1, _, _, rfl, (e1 _ _ h1), T.cl_Store, T.n_Store_slant, lk_Store_slant, L.SL, d2, _, rfl, (e1 _ _ h2), lk_Slant_m_takes, _, rfl, L.SL, x, n, rfl, ⟨d2, e1 _ _ h2⟩, hK.wf, _, _, rfl, rfl, .inl (by omega),
      _, rfl, L.ra r, A.cRoll, d3, _, _, rfl, (e1 _ _ h3), T.cl_Roll, T.n_Roll_left, lk_Roll_left, _, rfl, _, _, rfl, rfl, hm0, by omega, _, rfl, sz (by show 2 ≤ 100000; decide), hR.lst hK (does_most hK.wf hp hn e) e1 rfl⟩
theorem ok_piece (T : Txt K mg A) : FnOk P w K mg base (L2.CX P w) 5 A.f_piece A.d_piece ["self", "wide"] (spPiece A) := by
  have G_ask_range : FnOk P w K mg base (L2.CX P w) 4 A.f_ask_range A.d_ask_range _ (spAskRange A) := ok_ask_range T
  have G_pieces_of : FnOk P w K mg base (L2.CX P w) 4 A.f_pieces_of A.d_pieces_of _ (spPiecesOf A) := ok_pieces_of T
  have G_cover : FnOk P w K mg base CX0 1 A.f_cover A.d_cover _ (spCover A) := ok_cover T
  refine T.F_piece.okX sc_piece (fun vs H Q E h => ?_) (fun cdv Ar outer s H vs Q E hr h => ?_)
  · obtain ⟨D, L, x, n, rfl, _⟩ := h; rfl
  · obtain ⟨D, L, x, n, rfl, hK, hR⟩ := h
    obtain ⟨d0, h0⟩ := hK.de
    obtain ⟨d1, h1⟩ := hK.st.st
    obtain ⟨d2, h2⟩ := hK.st.sl
    refine ⟨_, (pss_cons (ps_expr (pe_call G_ask_range (hr.mono (by decide)) rfl T.g_ask_range T.F_ask_range.kp T.b_ask_range .nil psX (pa_cons (pv 1) (pa_cons (pn 1) (pa_cons (pgn 2000 rfl T.k_WIDEST) pa_nil)))))
      (pss_cons (ps_set (i := 2) sc_piece.nd rfl (Or.inl rfl) (pe_meth (pv 0) T.cl_Desk T.m_pieces_of G_pieces_of (hr.mono (by decide)) T.b_pieces_of .nil psX (pa_cons (pv 1) pa_nil)))
      (pss_one (ps_ret (pe_lst (pa_cons (pe_meth (pe_fld (pe_fld (pv 0) rfl) rfl) T.cl_Slant T.m_cover G_cover (hr.mono (by decide)) T.b_cover .nil pass0 (pa_cons (pv 1) pa_nil)) (pa_cons (pe_callB cLen (by rfl) T.z_len PySem.boot_len (pa_cons (pv 2) pa_nil)) (pa_cons (pe_ix ix_list (pv 2) (pe_un un_neg pe_int) (fun _ _ => rfl)) pa_nil)))))))), ?_⟩
    refine ⟨_, rfl, n, 1, 2000, rfl, fun hn => ?_, fun hn => hR.no hK (Same.refl _) (does_piece_22 hn)⟩
    refine ⟨_, rfl, D, d0, _, rfl, h0, lk_Desk_m_pieces_of, _, rfl, D, L, x, n, rfl, hK, by omega, hn.2, fun e => hR.no hK (Same.refl _) (does_piece_33 hK.wf hn e), fun ps e p H1 e1 hpn hpl => ?_⟩
    obtain ⟨q, v, hq, hv⟩ := (cutted (x := x) (s := x.piece n) (by have := piece_ge hK.wf n; omega) (by have := hK.wf.r1; omega) hK.wf.s0 e).last
    have hat : atI (nums ps) (-1) = some (vn v) := by rw [hq, nums_app]; exact atI_last _ _
    exact ⟨_, rfl, D, A.cDesk, d0, _, _, rfl, (e1 _ _ h0), T.cl_Desk, T.n_Desk_store, lk_Desk_store, L.S, A.cStore, d1, _, _, rfl, (e1 _ _ h1), T.cl_Store, T.n_Store_slant, lk_Store_slant, L.SL, d2, _, rfl, (e1 _ _ h2), lk_Slant_m_cover, _, rfl, L.SL, x, n, rfl, ⟨d2, e1 _ _ h2⟩, hK.wf, _, rfl, p, _, ps.length, rfl, SqL.of hpl, nums_len _, _, rfl, _, rfl, p, _, _, _, rfl, rfl, SqL.of hpl, hat,
      sz (by show 3 ≤ 100000; decide), hR.lst hK (does_piece hK.wf hn e) e1 (by rw [hv]; rfl)⟩
theorem lc_rolls {L : Lay} {x : Abs} {H H1 : Hp} {D : Addr} {Qd : Hp → Prop} {te : TE} {σ : L2.St} {vs : List Nat} {i0 : Nat} (f : Roll → Nat) (wf : WF x) (hD : H D = none) (hS : H L.RL = some (.lst (refs x.rolls.length L.ra)))
    (hs : ∀ i H', i < x.rolls.length → Same H H' → ∀ R : V → Hp → Prop, R (vn (f (x.roll i))) H' → wipe ((wipe σ vs).set i0 (some (.ref (L.ra i)))) vs = wipe σ vs ∧ te ((wipe σ vs).set i0 (some (.ref (L.ra i)))) H' R)
    (hd : ∀ H', Same H H' → H' D = some (.lst (nums (x.rolls.map f))) → Qd H') :
    ∃ W : Nat → Nat → Hp → Prop, (∃ m, W 0 m (upd H D (.lst []))) ∧ ∀ i m H, W i m H →
      ((Itl K L.RL).stop i H ∧ Qd H) ∨ ((Itl K L.RL).go i H ∧ ∃ Nx : Hp → Prop, (∀ H', Nx H' → ∃ m', m' < m ∧ W (i + 1) m' H') ∧ ∀ y H', (Itl K L.RL).yld i H y H' → gName i0 y (wipe σ vs) H' fun σ2 H2 => wipe σ2 vs = wipe σ vs ∧ tYes σ2 H2 fun b H3 =>
        if b = true then te σ2 H3 fun y H4 => ∃ acc, H4 D = some (.lst acc) ∧ acc.length < sizeLine ∧ Nx (upd H4 D (.lst (acc ++ [y]))) else Nx H3) :=
  lc_list (xs := refs x.rolls.length L.ra) (fun i H' => Same H H' ∧ H' D = some (.lst (nums ((x.rolls.take i).map f)))) ⟨same_new hD, upd_same⟩ (fun i H' _ p => p.1.seq (SqL.of hS)) (fun i y H' hy p => by
    obtain ⟨hi, rfl⟩ := refs_get hy
    obtain ⟨h1, h2⟩ := hs i H' hi p.1 (fun y H4 => ∃ acc, H4 D = some (.lst acc) ∧ acc.length < sizeLine ∧ Same H (upd H4 D (.lst (acc ++ [y]))) ∧ (upd H4 D (.lst (acc ++ [y]))) D = some (.lst (nums ((x.rolls.take (i + 1)).map f)))) (by
      refine ⟨_, p.2, szl ?_, same_mut p.1 hD, ?_⟩
      · rw [nums_len, List.length_map, List.length_take]; have := wf.rn; omega
      · rw [upd_same, take_succ (roll_get hi), List.map_append, nums_app]; rfl)
    exact ⟨h1, lcYes h2⟩) (fun H' p => hd H' p.1 (by have := p.2; rw [refs_len, List.take_length] at this; exact this))
theorem ok_sums (T : Txt K mg A) : FnOk P w K mg base (L2.CX P w) 5 A.f_sums A.d_sums ["self"] (spSums A) := by
  refine T.F_sums.okX sc_sums (fun vs H Q E h => ?_) (fun cdv Ar outer s H vs Q E hr h => ?_)
  · obtain ⟨D, L, x, rfl, _⟩ := h; rfl
  · obtain ⟨D, L, x, rfl, hK, hR⟩ := h
    obtain ⟨d0, h0⟩ := hK.de
    obtain ⟨d1, h1⟩ := hK.st.st
    refine ⟨_, (pss_cons (ps_set (i := 1) sc_sums.nd rfl (Or.inl rfl) (pe_callB (cSum rfl) (by rfl) T.z_sum (by decide +kernel) (pa_cons (pe_lc (own := [("roll", 3)]) (g := gName 3) (tt := tYes) (te := tFld K (tVar 3) "long") rfl sc_sums.nd (pi_list (pe_fld (pe_fld (pv 0) rfl) rfl)) (blkOk_by (own := [("roll", 3)]) (N := ["self", "long", "left", "roll"]) (sc := defScope s_sums) (by decide +kernel))
          (fun _ _ _ _ _ => pg_name (i := 3) sc_sums.nd rfl (Or.inl rfl)) (fun _ _ _ _ _ => pts_nil) (fun _ _ _ _ _ => pe_fldK rfl (pv 3) rfl)) pa_nil)))
      (pss_cons (ps_set (i := 2) sc_sums.nd rfl (Or.inl rfl) (pe_callB (cSum rfl) (by rfl) T.z_sum (by decide +kernel) (pa_cons (pe_lc (own := [("roll", 3)]) (g := gName 3) (tt := tYes) (te := tFld K (tVar 3) "left") rfl sc_sums.nd (pi_list (pe_fld (pe_fld (pv 0) rfl) rfl)) (blkOk_by (own := [("roll", 3)]) (N := ["self", "long", "left", "roll"]) (sc := defScope s_sums) (by decide +kernel))
          (fun _ _ _ _ _ => pg_name (i := 3) sc_sums.nd rfl (Or.inl rfl)) (fun _ _ _ _ _ => pts_nil) (fun _ _ _ _ _ => pe_fldK rfl (pv 3) rfl)) pa_nil)))
      (pss_one (ps_ret (pe_lst (pa_cons (pn 0) (pa_cons (pv 1) (pa_cons (pv 2) (pa_cons (pe_op oSub (pv 1) (pv 2)) pa_nil))))))))), ?_⟩
    refine ⟨_, rfl, D, A.cDesk, d0, _, _, rfl, h0, T.cl_Desk, T.n_Desk_store, lk_Desk_store, L.S, A.cStore, d1, _, _, rfl, h1, T.cl_Store, T.n_Store_rolls, lk_Store_rolls, L.RL, rfl, ⟨_, SqL.of hK.st.rl⟩, fun D1 hD1 => lc_rolls (K := K) (L := L) (H1 := H) Roll.long hK.wf hD1 hK.st.rl ?_ ?_⟩
    · intro i H' hi e R hR1
      obtain ⟨d3, h3⟩ := hK.st.ro i hi
      exact ⟨rfl, _, rfl, L.ra i, A.cRoll, d3, _, _, rfl, (e _ _ h3), T.cl_Roll, T.n_Roll_long, lk_Roll_long, hR1⟩
    · intro H1 e1 hl1
      refine ⟨D1, _, rfl, SqL.of hl1, ?_⟩
      refine ⟨_, rfl, D, A.cDesk, d0, _, _, rfl, (e1 _ _ h0), T.cl_Desk, T.n_Desk_store, lk_Desk_store, L.S, A.cStore, d1, _, _, rfl, (e1 _ _ h1), T.cl_Store, T.n_Store_rolls, lk_Store_rolls, L.RL, rfl, ⟨_, SqL.of (e1 _ _ hK.st.rl)⟩, fun D2 hD2 => lc_rolls (K := K) (L := L) (H1 := H) Roll.left hK.wf hD2 (e1 _ _ hK.st.rl) ?_ ?_⟩
      · intro i H' hi e R hR1
        obtain ⟨d3, h3⟩ := hK.st.ro i hi
        exact ⟨rfl, _, rfl, L.ra i, A.cRoll, d3, _, _, rfl, ((e1.trans e) _ _ h3), T.cl_Roll, T.n_Roll_left, lk_Roll_left, hR1⟩
      · intro H2 e2 hl2
        have sm := hK.wf.sm
        refine ⟨D2, _, rfl, SqL.of hl2, _, rfl, _, rfl, _, rfl, _, rfl, _, _, rfl, rfl, by omega, sz (by show 4 ≤ 100000; decide), hR.lst hK (does_sums x) (e1.trans e2) ?_⟩
        rw [show (x.rolls.map Roll.long).sum - (x.rolls.map Roll.left).sum = (x.plies.map fun p => p.splices.length * x.takes p.wide).sum by omega]
        rfl
theorem ok_state (T : Txt K mg A) : FnOk P w K mg base (L2.CX P w) 5 A.f_state A.d_state ["self"] (spState A) := by
  have G_laid : FnOk P w K mg base CX0 2 A.f_laid A.d_laid _ (spLaid A) := ok_laid T
  have G_drum_size : FnOk P w K mg base CX0 1 A.f_drum_size A.d_drum_size _ (spDrum A) := ok_drum_size T
  refine T.F_state.okX sc_state (fun vs H Q E h => ?_) (fun cdv Ar outer s H vs Q E hr h => ?_)
  · obtain ⟨D, L, x, rfl, _⟩ := h; rfl
  · obtain ⟨D, L, x, rfl, hK, hR⟩ := h
    obtain ⟨d0, h0⟩ := hK.de
    obtain ⟨d1, h1⟩ := hK.st.st
    obtain ⟨d2, h2⟩ := hK.st.sl
    refine ⟨_, (pss_cons (ps_set (i := 1) sc_state.nd rfl (Or.inl rfl) (pe_fld (pv 0) rfl))
      (pss_cons (ps_set (i := 2) sc_state.nd rfl (Or.inl rfl) (pe_lst (pa_cons (pe_callB cLen (by rfl) T.z_len PySem.boot_len (pa_cons (pe_meth0 (pv 1) T.cl_Store T.m_laid G_laid (hr.mono (by decide)) T.b_laid .nil pass0) pa_nil)) (pa_cons (pe_callB cLen (by rfl) T.z_len PySem.boot_len (pa_cons (pe_fld (pv 1) rfl) pa_nil)) (pa_cons (pe_callB cLen (by rfl) T.z_len PySem.boot_len (pa_cons (pe_fld (pv 1) rfl) pa_nil)) pa_nil)))))
      (pss_one (ps_ret (pe_op op_cat (pv 2) (pe_lst (pa_cons (pe_meth0 (pv 1) T.cl_Store T.m_drum_size G_drum_size (hr.mono (by decide)) T.b_drum_size .nil pass0) (pa_cons (pe_fld (pv 1) rfl) (pa_cons (pe_fld (pe_fld (pv 1) rfl) rfl) pa_nil))))))))), ?_⟩
    refine ⟨_, rfl, D, A.cDesk, d0, _, _, rfl, h0, T.cl_Desk, T.n_Desk_store, lk_Desk_store, _, rfl, L.S, d1, _, rfl, h1, lk_Store_m_laid, L, x, rfl, hK.st, hK.wf, fun p H1 e1 hp hpl => ?_⟩
    refine ⟨p, _, x.laid.length, rfl, SqL.of hpl, nums_len _, _, rfl, L.S, A.cStore, d1, _, _, rfl, (e1 _ _ h1), T.cl_Store, T.n_Store_rolls, lk_Store_rolls, L.RL, _, x.rolls.length, rfl, SqL.of (e1 _ _ hK.st.rl), refs_len _ _, _, rfl, L.S, A.cStore, d1, _, _, rfl, (e1 _ _ h1), T.cl_Store, T.n_Store_plies, lk_Store_plies, L.PL, _, x.plies.length, rfl, SqL.of (e1 _ _ hK.st.pl), refs_len _ _,
      sz (by show 3 ≤ 100000; decide), fun g hg => ?_⟩
    have s2 := e1.trans (same_new (o := .lst [vn x.laid.length, vn x.rolls.length, vn x.plies.length]) hg)
    refine ⟨_, rfl, _, rfl, L.S, d1, _, rfl, (s2 _ _ h1), lk_Store_m_drum_size, L, x, rfl, hK.st.same s2, _, rfl, L.S, A.cStore, d1, _, _, rfl, (s2 _ _ h1), T.cl_Store, T.n_Store_near, lk_Store_near, _, rfl, L.S, A.cStore, d1, _, _, rfl, (s2 _ _ h1), T.cl_Store, T.n_Store_slant, lk_Store_slant, L.SL, A.cSlant, d2, _, _, rfl, (s2 _ _ h2), T.cl_Slant, T.n_Slant_short, lk_Slant_short, sz (by show 3 ≤ 100000; decide), fun f hf => ?_⟩
    exact ⟨g, f, _, _, rfl, rfl, (upd_ne (ne_of_none upd_same hf)).trans upd_same, upd_same, sz (by show 3 + 3 ≤ 100000; decide), hR.lst hK (does_state x) (s2.trans (same_new hf)) rfl⟩
end
end Bp

namespace Bp
open PySem PySem.Spec PyProof.Rows L2
open Su65 (Abs Ply Roll)
/-! # The desk's answers that change something: roll, ply, lay, lift, begin -/
def spPutRoll (A : Ad) : Sp := fun vs H Q E => ∃ (D : Addr) (L : Lay) (x : Abs) (n l : Nat), vs = [.ref D, vn n, vn l] ∧ Dk A H D L x ∧ Res A D H L x (Su65.does x (.roll n l)) Q E
def spPutPly (A : Ad) : Sp := fun vs H Q E => ∃ (D : Addr) (L : Lay) (x : Abs) (r n : Nat), vs = [.ref D, vn r, vn n] ∧ Dk A H D L x ∧ Res A D H L x (Su65.does x (.ply r n)) Q E
def spLay (A : Ad) : Sp := fun vs H Q E => ∃ (D : Addr) (L : Lay) (x : Abs) (p t : Nat), vs = [.ref D, vn p, vn t] ∧ Dk A H D L x ∧ Res A D H L x (Su65.does x (.lay p t)) Q E
def spLift (A : Ad) : Sp := fun vs H Q E => ∃ (D : Addr) (L : Lay) (x : Abs) (p : Nat), vs = [.ref D, vn p] ∧ Dk A H D L x ∧ Res A D H L x (Su65.does x (.lift p)) Q E
/-- a triangle, a drum, as may be begun -/
def BegOk (a b c r d s : Nat) : Prop := ¬ (a = 0 ∨ b = 0 ∨ c = 0 ∨ 1000 < c ∨ a * a + b * b ≠ c * c ∨ r < 100 ∨ 1500 < r ∨ 500 < d ∨ s = 0 ∨ 200 < s)
def spBegin (K : PySem.W.Frag) (A : Ad) : Sp := fun vs H Q E => ∃ (D na dx : Addr) (v : V) (a b c r d s : Nat), vs = [.ref D, .ref na] ∧ H D = some (.ins A.cDesk dx (fDe v)) ∧ SqL K H na (nums [a, b, c, r, d, s]) ∧
  a < 4294967296 ∧ b < 4294967296 ∧ c < 4294967296 ∧ (¬ BegOk a b c r d s → Rf A (-22) E H) ∧
  (BegOk a b c r d s → ∀ H' L p, Dk A H' D L (Su65.new a c r d s) → (∀ b o, H b = some o → b ≠ D → H' b = some o) → (∀ b, Foot L (Su65.new a c r d s) b → H b = none) → H' p = some (.lst (nums [0])) → ¬ FD D L (Su65.new a c r d s) p → (∀ b o, H b = some o → b ≠ D → p ≠ b) → Q (.ref p) H')
theorem does_roll_22 {x : Abs} {n l : Nat} (h : ¬ ((150 ≤ n ∧ n ≤ 2000) ∧ 1 ≤ l ∧ l ≤ 1000000)) : Su65.does x (.roll n l) = (x, Su65.no (-22)) := by
  simp only [Su65.does]; exact if_pos (by omega)
theorem does_roll_28 {x : Abs} {n l : Nat} (h : 150 ≤ n ∧ n ≤ 2000) (h2 : 1 ≤ l ∧ l ≤ 1000000) (h3 : ¬ x.rolls.length < 10) : Su65.does x (.roll n l) = (x, Su65.no (-28)) := by
  simp only [Su65.does]; rw [if_neg (by omega), if_pos (show Su65.ROLLS ≤ x.rolls.length from (by omega : 10 ≤ x.rolls.length))]
theorem does_roll {x : Abs} {n l : Nat} (h : 150 ≤ n ∧ n ≤ 2000) (h2 : 1 ≤ l ∧ l ≤ 1000000) (h3 : x.rolls.length < 10) : Su65.does x (.roll n l) = ({ x with rolls := x.rolls ++ [⟨n, l, l⟩] }, Su65.num x.rolls.length []) := by
  simp only [Su65.does]; rw [if_neg (by omega), if_neg (show ¬ Su65.ROLLS ≤ x.rolls.length from (by omega : ¬ 10 ≤ x.rolls.length))]
theorem does_ply_no {x : Abs} {r n : Nat} (h : ¬ r < x.rolls.length) : Su65.does x (.ply r n) = (x, Su65.no (-2)) := by simp only [Su65.does]; exact if_pos (isR_f h)
theorem does_ply_22 {x : Abs} {r n : Nat} (h : r < x.rolls.length) (h2 : ¬ (1 ≤ n ∧ n ≤ 2000)) : Su65.does x (.ply r n) = (x, Su65.no (-22)) := by simp only [Su65.does]; rw [if_neg (isR_t h), if_pos (wide_no h2)]
theorem does_ply_28 {x : Abs} {r n : Nat} (h : r < x.rolls.length) (h2 : 1 ≤ n ∧ n ≤ 2000) (h3 : ¬ x.plies.length < 12) : Su65.does x (.ply r n) = (x, Su65.no (-28)) := by
  simp only [Su65.does]; rw [if_neg (isR_t h), if_neg (wide_ok h2), if_pos (show Su65.PLIES ≤ x.plies.length from (by omega : 12 ≤ x.plies.length))]
theorem does_ply_33 {x : Abs} (w : WF x) {r n : Nat} (h : r < x.rolls.length) (h2 : 1 ≤ n ∧ n ≤ 2000) (h3 : x.plies.length < 12) (h4 : piecesL x (x.piece (x.roll r).wide) = none) : Su65.does x (.ply r n) = (x, Su65.no (-33)) := by
  simp only [Su65.does]; rw [if_neg (isR_t h), if_neg (wide_ok h2), if_neg (show ¬ Su65.PLIES ≤ x.plies.length from (by omega : ¬ 12 ≤ x.plies.length)), cut_of w (by have := (w.ro _ (roll_mem h)).w1; omega), h4]; rfl
theorem does_ply_12 {x : Abs} (w : WF x) {r n : Nat} (h : r < x.rolls.length) (h2 : 1 ≤ n ∧ n ≤ 2000) (h3 : x.plies.length < 12) {ps : List Nat} (h4 : piecesL x (x.piece (x.roll r).wide) = some ps) (h5 : ¬ ps.length * x.takes n ≤ (x.roll r).left) : Su65.does x (.ply r n) = (x, Su65.no (-12)) := by
  simp only [Su65.does]; rw [if_neg (isR_t h), if_neg (wide_ok h2), if_neg (show ¬ Su65.PLIES ≤ x.plies.length from (by omega : ¬ 12 ≤ x.plies.length)), cut_of w (by have := (w.ro _ (roll_mem h)).w1; omega), h4]
  show (if (x.roll r).left < (beginsL 0 ps).length * x.takes n then (x, Su65.no (-12)) else _) = _
  rw [beginsL_len, if_pos (by omega)]
theorem does_ply {x : Abs} (w : WF x) {r n : Nat} (h : r < x.rolls.length) (h2 : 1 ≤ n ∧ n ≤ 2000) (h3 : x.plies.length < 12) {ps : List Nat} (h4 : piecesL x (x.piece (x.roll r).wide) = some ps) (h5 : ps.length * x.takes n ≤ (x.roll r).left) :
    Su65.does x (.ply r n) = (cutted_ x r n (beginsL 0 ps), Su65.num x.plies.length [ps.length]) := by
  simp only [Su65.does]; rw [if_neg (isR_t h), if_neg (wide_ok h2), if_neg (show ¬ Su65.PLIES ≤ x.plies.length from (by omega : ¬ 12 ≤ x.plies.length)), cut_of w (by have := (w.ro _ (roll_mem h)).w1; omega), h4]
  show (if (x.roll r).left < (beginsL 0 ps).length * x.takes n then (x, Su65.no (-12)) else (cutted_ x r n (beginsL 0 ps), Su65.num x.plies.length [(beginsL 0 ps).length])) = _
  rw [beginsL_len, if_neg (by omega)]
theorem does_lay_no {x : Abs} {p t : Nat} (h : ¬ p < x.plies.length) : Su65.does x (.lay p t) = (x, Su65.no (-2)) := by simp only [Su65.does]; exact if_pos (isP_f h)
theorem does_lay_22 {x : Abs} {p t : Nat} (h : p < x.plies.length) (h2 : ¬ t < x.round_) : Su65.does x (.lay p t) = (x, Su65.no (-22)) := by simp only [Su65.does]; rw [if_neg (isP_t h), if_pos (by omega)]
theorem does_lay_17 {x : Abs} {p t : Nat} (h : p < x.plies.length) (h2 : t < x.round_) (h3 : (x.ply p).turn ≠ 0) : Su65.does x (.lay p t) = (x, Su65.no (-17)) := by simp only [Su65.does]; rw [if_neg (isP_t h), if_neg (by omega), if_pos h3]
theorem does_lay_40 {x : Abs} {p t : Nat} (h : p < x.plies.length) (h2 : t < x.round_) (h3 : (x.ply p).turn = 0) (h4 : ¬ x.apart ≤ x.nearest (x.places p t) (x.others p)) : Su65.does x (.lay p t) = (x, Su65.no (-40)) := by
  simp only [Su65.does]; rw [if_neg (isP_t h), if_neg (by omega), if_neg (by simp [h3]), if_pos (show x.fits p t = false from decide_eq_false h4)]
theorem does_lay {x : Abs} {p t : Nat} (h : p < x.plies.length) (h2 : t < x.round_) (h3 : (x.ply p).turn = 0) (h4 : x.apart ≤ x.nearest (x.places p t) (x.others p)) : Su65.does x (.lay p t) = (x.set p fun z => { z with turn := t + 1 }, Su65.num (x.laid.length + 1) []) := by
  have e : x.fits p t = true := decide_eq_true h4
  simp only [Su65.does]; rw [if_neg (isP_t h), if_neg (by omega), if_neg (by simp [h3]), if_neg (by rw [e]; simp)]
theorem does_lift_no {x : Abs} {p : Nat} (h : ¬ p < x.plies.length) : Su65.does x (.lift p) = (x, Su65.no (-2)) := by simp only [Su65.does]; exact if_pos (isP_f h)
theorem does_lift_6 {x : Abs} {p : Nat} (h : p < x.plies.length) (h2 : (x.ply p).turn = 0) : Su65.does x (.lift p) = (x, Su65.no (-6)) := by simp only [Su65.does]; rw [if_neg (isP_t h), if_pos h2]
theorem does_lift {x : Abs} {p : Nat} (h : p < x.plies.length) (h2 : (x.ply p).turn ≠ 0) : Su65.does x (.lift p) = (x.set p fun z => { z with turn := 0 }, Su65.num ((x.ply p).turn - 1) []) := by simp only [Su65.does]; rw [if_neg (isP_t h), if_neg h2]
theorem laid_more {x : Abs} {p t : Nat} (hp : p < x.plies.length) (h0 : (x.ply p).turn = 0) : (x.set p fun z => { z with turn := t + 1 }).laid.length = x.laid.length + 1 := by
  unfold Abs.laid
  rw [set_len]
  have key : ∀ n, n ≤ x.plies.length → ((List.range n).filter fun q => ((x.set p fun z => { z with turn := t + 1 }).ply q).turn != 0).length = ((List.range n).filter fun q => (x.ply q).turn != 0).length + if p < n then 1 else 0 := by
    intro n
    induction n with
    | zero => intro _; simp
    | succ n ih =>
      intro hn
      have ih' := ih (by omega)
      rw [List.range_succ, List.filter_append, List.length_append, List.filter_append, List.length_append, ih']
      by_cases e : n = p
      · subst e
        have e1 : ((x.set n fun z => { z with turn := t + 1 }).ply n).turn = t + 1 := by rw [set_ply (by omega), if_pos rfl]
        rw [show (if n < n then 1 else 0) = 0 from if_neg (Nat.lt_irrefl n), show (if n < n + 1 then 1 else 0) = 1 from if_pos (Nat.lt_succ_self n)]
        simp only [List.filter_cons, e1, h0, List.filter_nil]
        simp
      · have e1 : ((x.set p fun z => { z with turn := t + 1 }).ply n) = x.ply n := by rw [set_ply (by omega), if_neg e]
        rw [List.filter_cons, List.filter_cons, e1]
        have : (if p < n then 1 else 0) = (if p < n + 1 then 1 else 0) := by split <;> split <;> omega
        rw [this]
        exact Nat.add_right_comm _ _ _
  rw [key _ (Nat.le_refl _), if_pos hp]
theorem putF_turn {a b c d v : V} : putF "turn" v ([("roll", a), ("wide", b), ("splices", c), ("turn", d)] : List (Str × V)) = ([("roll", a), ("wide", b), ("splices", c), ("turn", v)] : List (Str × V)) := by
  rw [put_past (by decide +kernel), put_past (by decide +kernel), put_past (by decide +kernel), put_here]
theorem putF_store {a v : V} : putF "store" v ([("store", a)] : List (Str × V)) = ([("store", v)] : List (Str × V)) := put_here
theorem Dk.turn {A : Ad} {H : Hp} {D : Addr} {L : Lay} {x : Abs} {p t : Nat} {dx : Addr} (k : Dk A H D L x) (hp : p < x.plies.length) (ht : t ≤ x.round_) (hd : H (L.pa p) = some (.ins A.cPly dx (fPl (x.ply p).roll (x.ply p).wide (L.la p) (vt (x.ply p).turn)))) :
    Dk A (upd H (L.pa p) (.ins A.cPly dx (fPl (x.ply p).roll (x.ply p).wide (L.la p) (vt t)))) D L (x.set p fun z => { z with turn := t }) := by
  obtain ⟨d0, h0⟩ := k.de
  exact ⟨⟨d0, by rw [upd_ne (ne_of h0 hd (fld_ne (by decide +kernel)))]; exact h0⟩, k.st.turn hp hd, wf_turn k.wf ht⟩
section
variable {P : Program} {w : World} {K : PySem.W.Frag} {mg : Str → Option Value} {base : Heap} {A : Ad}
theorem ok_put_roll (T : Txt K mg A) : FnOk P w K mg base (L2.CX P w) 5 A.f_put_roll A.d_put_roll ["self", "wide", "long"] (spPutRoll A) := by
  have G_ask : FnOk P w K mg base (L2.CX P w) 3 A.f_ask A.d_ask _ (spAsk A) := ok_ask T
  have G_ask_range : FnOk P w K mg base (L2.CX P w) 4 A.f_ask_range A.d_ask_range _ (spAskRange A) := ok_ask_range T
  have G_Roll_init : FnOk P w K mg base CX0 1 A.f_Roll_init A.d_Roll_init _ (spRollInit A) := ok_Roll_init T
  refine T.F_put_roll.okX sc_put_roll (fun vs H Q E h => ?_) (fun cdv Ar outer s H vs Q E hr h => ?_)
  · obtain ⟨D, L, x, r, n, rfl, _⟩ := h; rfl
  · obtain ⟨D, L, x, n, l, rfl, hK, hR⟩ := h
    obtain ⟨d0, h0⟩ := hK.de
    obtain ⟨d1, h1⟩ := hK.st.st
    refine ⟨_, (pss_cons (ps_expr (pe_call G_ask_range (hr.mono (by decide)) rfl T.g_ask_range T.F_ask_range.kp T.b_ask_range .nil psX (pa_cons (pv 1) (pa_cons (pgn 150 rfl T.k_LEAST_ROLL) (pa_cons (pgn 2000 rfl T.k_WIDEST) pa_nil)))))
      (pss_cons (ps_expr (pe_call G_ask_range (hr.mono (by decide)) rfl T.g_ask_range T.F_ask_range.kp T.b_ask_range .nil psX (pa_cons (pv 2) (pa_cons (pn 1) (pa_cons (pgn 1000000 rfl T.k_LONGEST) pa_nil)))))
      (pss_cons (ps_expr (pe_call G_ask (hr.mono (by decide)) rfl T.g_ask T.F_ask.kp T.b_ask .nil psX (pa_cons (pe_cmpR oLt (pe_callB cLen (by rfl) T.z_len PySem.boot_len (pa_cons (pe_fld (pe_fld (pv 0) rfl) rfl) pa_nil)) (pgn 10 rfl T.k_MOST_ROLLS) (nomark _)) (pa_cons (pgz rfl T.k_TOO_MANY) pa_nil))))
      (pss_cons (ps_expr (pe_bm PySem.F.plainAttrs_list PySem.F.slot_list_append PySem.F.type_list_append mt_append (pe_fld (pe_fld (pv 0) rfl) rfl) (pa_cons (pe_make T.mk_Roll G_Roll_init (hr.mono (by decide)) rfl T.g_Roll T.b_Roll_init .nil pass0 (pa_cons (pv 1) (pa_cons (pv 2) pa_nil))) pa_nil)))
      (pss_one (ps_ret (pe_lst (pa_cons (pe_op oSub (pe_callB cLen (by rfl) T.z_len PySem.boot_len (pa_cons (pe_fld (pe_fld (pv 0) rfl) rfl) pa_nil)) (pn 1)) pa_nil)))))))), ?_⟩
    refine ⟨_, rfl, n, 150, 2000, rfl, fun c1 => ?_, fun c1 => hR.no hK (Same.refl _) (does_roll_22 fun z => c1 z.1)⟩
    refine ⟨_, rfl, l, 1, 1000000, rfl, fun c2 => ?_, fun c2 => hR.no hK (Same.refl _) (does_roll_22 fun z => c2 z.2)⟩
    refine ⟨_, rfl, D, A.cDesk, d0, _, _, rfl, h0, T.cl_Desk, T.n_Desk_store, lk_Desk_store, L.S, A.cStore, d1, _, _, rfl, h1, T.cl_Store, T.n_Store_rolls, lk_Store_rolls, L.RL, _, x.rolls.length, rfl, SqL.of hK.st.rl, refs_len _ _, _, _, rfl, rfl, _, _, rfl, fun c3 => ?_, fun c3 => hR.no hK (Same.refl _) (does_roll_28 c1 c2 (of_decide_eq_false c3))⟩
    have c4 : x.rolls.length < 10 := of_decide_eq_true c3
    refine ⟨_, rfl, D, A.cDesk, d0, _, _, rfl, h0, T.cl_Desk, T.n_Desk_store, lk_Desk_store, L.S, A.cStore, d1, _, _, rfl, h1, T.cl_Store, T.n_Store_rolls, lk_Store_rolls, .inl ⟨rfl, _, SqL.of hK.st.rl⟩, _, rfl, _, rfl, ?_⟩
    intro p dp np ndp nep
    refine ⟨p, dp, n, l, rfl, upd_same, fun H3 h5 k3 => ⟨rfl, ?_⟩⟩
    have e3 : Same H H3 := Same.made np ndp k3
    have hrl3 : H3 L.RL = some (.lst (refs x.rolls.length L.ra)) := e3 _ _ hK.st.rl
    refine ⟨L.RL, _, .ref p, rfl, rfl, hrl3, szl (by rw [refs_len]; omega), ?_⟩
    have sR := hK.st.roll (z := ⟨n, l, l⟩) (p := p) (H' := upd H3 L.RL (.lst (refs x.rolls.length L.ra ++ [.ref p]))) np (fun b o e hb => by rw [upd_ne hb]; exact e3 _ _ e) upd_same ⟨dp, by rw [upd_ne (ne_of hrl3 h5 lst_ne_ins).symm]; exact h5⟩
    obtain ⟨d5, h6⟩ := sR.st
    have hd6 : (upd H3 L.RL (.lst (refs x.rolls.length L.ra ++ [.ref p]))) D = some (.ins A.cDesk d0 (fDe (.ref L.S))) := by rw [upd_ne (ne_of hrl3 (e3 _ _ h0) lst_ne_ins).symm]; exact e3 _ _ h0
    have hlen2 : (refs ({ x with rolls := x.rolls ++ [(⟨n, l, l⟩ : Roll)] } : Abs).rolls.length (L.roll x.rolls.length p).ra).length = x.rolls.length + 1 := by
      rw [refs_len]; show (x.rolls ++ [_]).length = _; rw [List.length_append]; rfl
    refine ⟨_, rfl, D, A.cDesk, d0, _, _, rfl, hd6, T.cl_Desk, T.n_Desk_store, lk_Desk_store, L.S, A.cStore, d5, _, _, rfl, h6, T.cl_Store, T.n_Store_rolls, lk_Store_rolls, L.RL, _, x.rolls.length + 1, rfl, SqL.of sR.rl, hlen2, _, _, rfl, rfl, by omega, sz (by show 1 ≤ 100000; decide), fun g hg => ?_⟩
    have dk : Dk A (upd H3 L.RL (.lst (refs x.rolls.length L.ra ++ [.ref p]))) D (L.roll x.rolls.length p) { x with rolls := x.rolls ++ [⟨n, l, l⟩] } := ⟨⟨d0, hd6⟩, sR, wf_roll hK.wf (by omega) (show ¬ 10 ≤ x.rolls.length by omega)⟩
    have fr : Fr (FD D L x) (FD D (L.roll x.rolls.length p) { x with rolls := x.rolls ++ [⟨n, l, l⟩] }) H (upd H3 L.RL (.lst (refs x.rolls.length L.ra ++ [.ref p]))) := Fr.desk ⟨fun b o e hm => by
      rw [upd_ne (fun z => hm (by rw [z]; exact .inr (.inr (.inl rfl))))]; exact e3 _ _ e, fun b hb => by
      rcases foot_roll hb with h7 | h7
      · exact .inl h7
      · rw [h7]; exact .inr np⟩
    have z := hR.num_ x.rolls.length [] (by rw [does_roll c1 c2 c4]) (upd (upd H3 L.RL (.lst (refs x.rolls.length L.ra ++ [.ref p]))) g (.lst [vn (x.rolls.length + 1 - 1)])) (L.roll x.rolls.length p) g
    rw [does_roll c1 c2 c4] at z
    exact z (dk.same (same_new hg)) (fr.trans (Fr.same (same_new hg))) upd_same (dk.off hg) (fr.new hg)
theorem ok_put_ply (T : Txt K mg A) : FnOk P w K mg base (L2.CX P w) 5 A.f_put_ply A.d_put_ply ["self", "r", "wide"] (spPutPly A) := by
  have G_roll_at : FnOk P w K mg base (L2.CX P w) 4 A.f_roll_at A.d_roll_at _ (spRollAt A) := ok_roll_at T
  have G_ask : FnOk P w K mg base (L2.CX P w) 3 A.f_ask A.d_ask _ (spAsk A) := ok_ask T
  have G_ask_range : FnOk P w K mg base (L2.CX P w) 4 A.f_ask_range A.d_ask_range _ (spAskRange A) := ok_ask_range T
  have G_pieces_of : FnOk P w K mg base (L2.CX P w) 4 A.f_pieces_of A.d_pieces_of _ (spPiecesOf A) := ok_pieces_of T
  have G_takes : FnOk P w K mg base CX0 1 A.f_takes A.d_takes _ (spTakes A) := ok_takes T
  have G_cut : FnOk P w K mg base CX0 3 A.f_cut A.d_cut _ (spCut A) := ok_cut T
  refine T.F_put_ply.okX sc_put_ply (fun vs H Q E h => ?_) (fun cdv Ar outer s H vs Q E hr h => ?_)
  · obtain ⟨D, L, x, r, n, rfl, _⟩ := h; rfl
  · obtain ⟨D, L, x, r, n, rfl, hK, hR⟩ := h
    obtain ⟨d0, h0⟩ := hK.de
    obtain ⟨d1, h1⟩ := hK.st.st
    obtain ⟨d2, h2⟩ := hK.st.sl
    refine ⟨_, (pss_cons (ps_set (i := 3) sc_put_ply.nd rfl (Or.inl rfl) (pe_meth (pv 0) T.cl_Desk T.m_roll_at G_roll_at (hr.mono (by decide)) T.b_roll_at .nil psX (pa_cons (pv 1) pa_nil)))
      (pss_cons (ps_expr (pe_call G_ask_range (hr.mono (by decide)) rfl T.g_ask_range T.F_ask_range.kp T.b_ask_range .nil psX (pa_cons (pv 2) (pa_cons (pn 1) (pa_cons (pgn 2000 rfl T.k_WIDEST) pa_nil)))))
      (pss_cons (ps_expr (pe_call G_ask (hr.mono (by decide)) rfl T.g_ask T.F_ask.kp T.b_ask .nil psX (pa_cons (pe_cmpR oLt (pe_callB cLen (by rfl) T.z_len PySem.boot_len (pa_cons (pe_fld (pe_fld (pv 0) rfl) rfl) pa_nil)) (pgn 12 rfl T.k_MOST_PLIES) (nomark _)) (pa_cons (pgz rfl T.k_TOO_MANY) pa_nil))))
      (pss_cons (ps_set (i := 4) sc_put_ply.nd rfl (Or.inl rfl) (pe_meth (pv 0) T.cl_Desk T.m_pieces_of G_pieces_of (hr.mono (by decide)) T.b_pieces_of .nil psX (pa_cons (pe_fld (pv 3) rfl) pa_nil)))
      (pss_cons (ps_expr (pe_call G_ask (hr.mono (by decide)) rfl T.g_ask T.F_ask.kp T.b_ask .nil psX (pa_cons (pe_cmpR oLe (pe_op oMul (pe_callB cLen (by rfl) T.z_len PySem.boot_len (pa_cons (pv 4) pa_nil)) (pe_meth (pe_fld (pe_fld (pv 0) rfl) rfl) T.cl_Slant T.m_takes G_takes (hr.mono (by decide)) T.b_takes .nil pass0 (pa_cons (pv 2) pa_nil))) (pe_fld (pv 3) rfl) (nomark _)) (pa_cons (pgz rfl T.k_TOO_LITTLE) pa_nil))))
      (pss_one (ps_ret (pe_lst (pa_cons (pe_meth (pe_fld (pv 0) rfl) T.cl_Store T.m_cut G_cut (hr.mono (by decide)) T.b_cut .nil pass0 (pa_cons (pv 1) (pa_cons (pv 2) (pa_cons (pv 4) pa_nil)))) (pa_cons (pe_callB cLen (by rfl) T.z_len PySem.boot_len (pa_cons (pv 4) pa_nil)) pa_nil)))))))))), ?_⟩
    refine ⟨_, rfl, D, d0, _, rfl, h0, lk_Desk_m_roll_at, _, rfl, D, L, x, r, rfl, hK, fun hp => ?_, fun hp => hR.no hK (Same.refl _) (does_ply_no hp)⟩
    obtain ⟨d3, h3⟩ := hK.st.ro r hp
    have hw := hK.wf.ro _ (roll_mem hp)
    refine ⟨_, rfl, n, 1, 2000, rfl, fun hn => ?_, fun hn => hR.no hK (Same.refl _) (does_ply_22 hp hn)⟩
    refine ⟨_, rfl, D, A.cDesk, d0, _, _, rfl, h0, T.cl_Desk, T.n_Desk_store, lk_Desk_store, L.S, A.cStore, d1, _, _, rfl, h1, T.cl_Store, T.n_Store_plies, lk_Store_plies, L.PL, _, x.plies.length, rfl, SqL.of hK.st.pl, refs_len _ _, _, _, rfl, rfl, _, _, rfl, fun c3 => ?_, fun c3 => hR.no hK (Same.refl _) (does_ply_28 hp hn (of_decide_eq_false c3))⟩
    have c4 : x.plies.length < 12 := of_decide_eq_true c3
    refine ⟨_, rfl, D, d0, _, rfl, h0, lk_Desk_m_pieces_of, _, rfl, L.ra r, A.cRoll, d3, _, _, rfl, h3, T.cl_Roll, T.n_Roll_wide, lk_Roll_wide, D, L, x, (x.roll r).wide, rfl, hK, by have := hw.w1; omega, hw.w2, fun e => hR.no hK (Same.refl _) (does_ply_33 hK.wf hp hn c4 e), fun ps e p H1 e1 hpn hpl => ?_⟩
    have hl := ps_len hK.wf hw.w1 e
    refine ⟨_, rfl, p, _, ps.length, rfl, SqL.of hpl, nums_len _, _, rfl, D, A.cDesk, d0, _, _, rfl, (e1 _ _ h0), T.cl_Desk, T.n_Desk_store, lk_Desk_store, L.S, A.cStore, d1, _, _, rfl, (e1 _ _ h1), T.cl_Store, T.n_Store_slant, lk_Store_slant, L.SL, d2, _, rfl, (e1 _ _ h2), lk_Slant_m_takes, _, rfl, L.SL, x, n, rfl, ⟨d2, e1 _ _ h2⟩, hK.wf, _, _, rfl, rfl, .inl (by omega),
      _, rfl, L.ra r, A.cRoll, d3, _, _, rfl, (e1 _ _ h3), T.cl_Roll, T.n_Roll_left, lk_Roll_left, _, _, rfl, rfl, _, _, rfl, fun c5 => ?_, fun c5 => hR.no hK e1 (does_ply_12 hK.wf hp hn c4 e (of_decide_eq_false c5))⟩
    have c6 : ps.length * x.takes n ≤ (x.roll r).left := of_decide_eq_true c5
    refine ⟨_, rfl, D, A.cDesk, d0, _, _, rfl, (e1 _ _ h0), T.cl_Desk, T.n_Desk_store, lk_Desk_store, L.S, d1, _, rfl, (e1 _ _ h1), lk_Store_m_cut, _, rfl, _, rfl, _, rfl, L, x, r, n, p, ps, rfl, hK.st.same e1, hK.wf, hp, hn.2, hpl, fun z => hK.off hpn (.inr z), by omega, c6, fun H2 L2 eS sQ fr hpl2 => ?_⟩
    refine ⟨_, rfl, p, _, ps.length, rfl, SqL.of hpl2, nums_len _, sz (by show 2 ≤ 100000; decide), fun g hg => ?_⟩
    have hD : ¬ Foot L x D := fun f => by
      rcases f with z | z | z | z | ⟨i, hi, z⟩ | ⟨i, hi, z⟩ | ⟨i, hi, z⟩
      · rw [z, h1] at h0; exact fld_ne (by decide +kernel) (Option.some.inj h0)
      · rw [z, h2] at h0; exact fld_ne (by decide +kernel) (Option.some.inj h0)
      · rw [z, hK.st.rl] at h0; exact lst_ne_ins (Option.some.inj h0)
      · rw [z, hK.st.pl] at h0; exact lst_ne_ins (Option.some.inj h0)
      · obtain ⟨dd, hh⟩ := hK.st.ro i hi; rw [z, hh] at h0; exact fld_ne (by decide +kernel) (Option.some.inj h0)
      · obtain ⟨dd, hh⟩ := hK.st.py i hi; rw [z, hh] at h0; exact fld_ne (by decide +kernel) (Option.some.inj h0)
      · rw [z, hK.st.sp i hi] at h0; exact lst_ne_ins (Option.some.inj h0)
    have dk : Dk A H2 D L2 (cutted_ x r n (beginsL 0 ps)) := ⟨⟨d0, by rw [eS]; exact fr.out _ _ (e1 _ _ h0) hD⟩, sQ, by
      have z := wf_does hK.wf (.ply r n)
      rw [does_ply hK.wf hp hn c4 e c6] at z
      exact z⟩
    have fr2 : Fr (FD D L x) (FD D L2 (cutted_ x r n (beginsL 0 ps))) H H2 := Fr.desk ((Fr.same e1).trans fr)
    have z := hR.num_ x.plies.length [ps.length] (by rw [does_ply hK.wf hp hn c4 e c6]) (upd H2 g (.lst [vn x.plies.length, vn ps.length])) L2 g
    rw [does_ply hK.wf hp hn c4 e c6] at z
    exact z (dk.same (same_new hg)) (fr2.trans (Fr.same (same_new hg))) upd_same (dk.off hg) (fr2.new hg)
theorem ok_lay (T : Txt K mg A) : FnOk P w K mg base (L2.CX P w) 5 A.f_lay A.d_lay ["self", "p", "turn"] (spLay A) := by
  have G_ply_at : FnOk P w K mg base (L2.CX P w) 4 A.f_ply_at A.d_ply_at _ (spPlyAt A) := ok_ply_at T
  have G_ask_turn : FnOk P w K mg base (L2.CX P w) 4 A.f_ask_turn A.d_ask_turn _ (spAskTurn A) := ok_ask_turn T
  have G_ask : FnOk P w K mg base (L2.CX P w) 3 A.f_ask A.d_ask _ (spAsk A) := ok_ask T
  have G_is_laid : FnOk P w K mg base CX0 1 A.f_is_laid A.d_is_laid _ (spIsLaid A) := ok_is_laid T
  have G_near_others : FnOk P w K mg base CX0 3 A.f_near_others A.d_near_others _ (spNearOthers A) := ok_near_others T
  have G_nearest : FnOk P w K mg base CX0 2 A.f_nearest A.d_nearest _ (spNearest K) := ok_nearest T
  have G_laid : FnOk P w K mg base CX0 2 A.f_laid A.d_laid _ (spLaid A) := ok_laid T
  refine T.F_lay.okX sc_lay (fun vs H Q E h => ?_) (fun cdv Ar outer s H vs Q E hr h => ?_)
  · obtain ⟨D, L, x, p, t, rfl, _⟩ := h; rfl
  · obtain ⟨D, L, x, p, t, rfl, hK, hR⟩ := h
    obtain ⟨d0, h0⟩ := hK.de
    obtain ⟨d1, h1⟩ := hK.st.st
    refine ⟨_, (pss_cons (ps_set (i := 3) sc_lay.nd rfl (Or.inl rfl) (pe_meth (pv 0) T.cl_Desk T.m_ply_at G_ply_at (hr.mono (by decide)) T.b_ply_at .nil psX (pa_cons (pv 1) pa_nil)))
      (pss_cons (ps_expr (pe_meth (pv 0) T.cl_Desk T.m_ask_turn G_ask_turn (hr.mono (by decide)) T.b_ask_turn .nil psX (pa_cons (pv 2) pa_nil)))
      (pss_cons (ps_expr (pe_call G_ask (hr.mono (by decide)) rfl T.g_ask T.F_ask.kp T.b_ask .nil psX (pa_cons (pe_not (pe_meth0 (pv 3) T.cl_Ply T.m_is_laid G_is_laid (hr.mono (by decide)) T.b_is_laid .nil pass0)) (pa_cons (pgz rfl T.k_ALREADY) pa_nil))))
      (pss_cons (ps_expr (pe_call G_ask (hr.mono (by decide)) rfl T.g_ask T.F_ask.kp T.b_ask .nil psX (pa_cons (pe_cmpR oGe (pe_call G_nearest (hr.mono (by decide)) rfl T.g_nearest T.F_nearest.kp T.b_nearest .nil pass0 (pa_cons (pe_fld (pv 3) rfl) (pa_cons (pv 2) (pa_cons (pe_meth (pe_fld (pv 0) rfl) T.cl_Store T.m_near_others G_near_others (hr.mono (by decide)) T.b_near_others .nil pass0 (pa_cons (pv 1) pa_nil)) pa_nil)))) (pe_fld (pe_fld (pv 0) rfl) rfl) (nomark _)) (pa_cons (pgz rfl T.k_TOO_NEAR) pa_nil))))
      (pss_cons (ps_fld (pv 3) (pv 2) rfl)
      (pss_one (ps_ret (pe_lst (pa_cons (pe_callB cLen (by rfl) T.z_len PySem.boot_len (pa_cons (pe_meth0 (pe_fld (pv 0) rfl) T.cl_Store T.m_laid G_laid (hr.mono (by decide)) T.b_laid .nil pass0) pa_nil)) pa_nil))))))))), ?_⟩
    refine ⟨_, rfl, D, d0, _, rfl, h0, lk_Desk_m_ply_at, _, rfl, D, L, x, p, rfl, hK, fun hp => ?_, fun hp => hR.no hK (Same.refl _) (does_lay_no hp)⟩
    obtain ⟨d3, h3⟩ := hK.st.py p hp
    have hw := hK.wf.py _ (ply_mem hp)
    refine ⟨_, rfl, D, d0, _, rfl, h0, lk_Desk_m_ask_turn, _, rfl, D, L, x, t, rfl, hK, fun ht => ?_, fun ht => hR.no hK (Same.refl _) (does_lay_22 hp ht)⟩
    refine ⟨_, rfl, L.pa p, d3, _, rfl, h3, lk_Ply_m_is_laid, L.pa p, L.la p, x.ply p, rfl, ⟨d3, h3⟩, _, rfl, _, _, rfl, fun c => ?_, fun c => hR.no hK (Same.refl _) (does_lay_17 hp ht (by simpa using c))⟩
    have c1 : (x.ply p).turn = 0 := by simpa using c
    refine ⟨_, rfl, L.pa p, A.cPly, d3, _, _, rfl, h3, T.cl_Ply, T.n_Ply_splices, lk_Ply_splices, _, rfl, _, rfl, D, A.cDesk, d0, _, _, rfl, h0, T.cl_Desk, T.n_Desk_store, lk_Desk_store, L.S, d1, _, rfl, h1, lk_Store_m_near_others, _, rfl, L, x, p, rfl, hK.st, hK.wf, fun f H2 e2 hf hfl => ?_⟩
    refine ⟨L.la p, f, _, _, _, rfl, SqL.of (e2 _ _ (hK.st.sp p hp)), SqL.of hfl, hw.ne, by rw [nearL_len]; have := hK.wf.r1; omega, by have := hw.len; omega, fun H3 e3 => ?_⟩
    rw [nearest_at hK.wf hp (others_lt hK.wf _)]
    have e := e2.trans e3
    refine ⟨_, rfl, D, A.cDesk, d0, _, _, rfl, (e _ _ h0), T.cl_Desk, T.n_Desk_store, lk_Desk_store, L.S, A.cStore, d1, _, _, rfl, (e _ _ h1), T.cl_Store, T.n_Store_near, lk_Store_near, _, _, rfl, rfl, _, _, rfl, fun c2 => ?_, fun c2 => hR.no hK e (does_lay_40 hp ht c1 (of_decide_eq_false c2))⟩
    have c3 : x.apart ≤ x.nearest (x.places p t) (x.others p) := of_decide_eq_true c2
    refine ⟨_, rfl, _, rfl, L.pa p, A.cPly, d3, _, rfl, e _ _ h3, T.cl_Ply, T.n_Ply_turn, by show 4 < 1000; decide, ?_⟩
    rw [putF_turn]
    have dk := (hK.same e).turn (t := t + 1) hp (by omega) (e _ _ h3)
    obtain ⟨d5, h5⟩ := dk.de
    obtain ⟨d6, h6⟩ := dk.st.st
    refine ⟨_, rfl, D, A.cDesk, d5, _, _, rfl, h5, T.cl_Desk, T.n_Desk_store, lk_Desk_store, L.S, d6, _, rfl, h6, lk_Store_m_laid, L, _, rfl, dk.st, dk.wf, fun q H4 e4 hq hql => ⟨q, _, x.laid.length + 1, rfl, SqL.of hql, by rw [nums_len, laid_more hp c1], sz (by show 1 ≤ 100000; decide), fun g hg => ?_⟩⟩
    have fr : Fr (FD D L x) (FD D L (x.set p fun z => { z with turn := t + 1 })) H (upd H3 (L.pa p) (.ins A.cPly d3 (fPl (x.ply p).roll (x.ply p).wide (L.la p) (vt (t + 1))))) := (Fr.same e).trans (Fr.desk (Fr.turn (H0 := H) hp))
    have z := hR.num_ (x.laid.length + 1) [] (by rw [does_lay hp ht c1 c3]) (upd H4 g (.lst [vn (x.laid.length + 1)])) L g
    rw [does_lay hp ht c1 c3] at z
    have s5 := e4.trans (same_new (o := .lst [vn (x.laid.length + 1)]) hg)
    exact z (dk.same s5) (fr.trans (Fr.same s5)) upd_same (dk.off (e4.free hg)) ((fr.trans (Fr.same e4)).new hg)
theorem ok_lift (T : Txt K mg A) : FnOk P w K mg base (L2.CX P w) 5 A.f_lift A.d_lift ["self", "p"] (spLift A) := by
  have G_ply_at : FnOk P w K mg base (L2.CX P w) 4 A.f_ply_at A.d_ply_at _ (spPlyAt A) := ok_ply_at T
  have G_ask : FnOk P w K mg base (L2.CX P w) 3 A.f_ask A.d_ask _ (spAsk A) := ok_ask T
  have G_is_laid : FnOk P w K mg base CX0 1 A.f_is_laid A.d_is_laid _ (spIsLaid A) := ok_is_laid T
  refine T.F_lift.okX sc_lift (fun vs H Q E h => ?_) (fun cdv Ar outer s H vs Q E hr h => ?_)
  · obtain ⟨D, L, x, p, rfl, _⟩ := h; rfl
  · obtain ⟨D, L, x, p, rfl, hK, hR⟩ := h
    obtain ⟨d0, h0⟩ := hK.de
    refine ⟨_, (pss_cons (ps_set (i := 2) sc_lift.nd rfl (Or.inl rfl) (pe_meth (pv 0) T.cl_Desk T.m_ply_at G_ply_at (hr.mono (by decide)) T.b_ply_at .nil psX (pa_cons (pv 1) pa_nil)))
      (pss_cons (ps_expr (pe_call G_ask (hr.mono (by decide)) rfl T.g_ask T.F_ask.kp T.b_ask .nil psX (pa_cons (pe_meth0 (pv 2) T.cl_Ply T.m_is_laid G_is_laid (hr.mono (by decide)) T.b_is_laid .nil pass0) (pa_cons (pgz rfl T.k_NOT_LAID) pa_nil))))
      (pss_cons (ps_set (i := 3) sc_lift.nd rfl (Or.inl rfl) (pe_fld (pv 2) rfl))
      (pss_cons (ps_fld (pv 2) pe_non rfl)
      (pss_one (ps_ret (pe_lst (pa_cons (pv 3) pa_nil)))))))), ?_⟩
    refine ⟨_, rfl, D, d0, _, rfl, h0, lk_Desk_m_ply_at, _, rfl, D, L, x, p, rfl, hK, fun hp => ?_, fun hp => hR.no hK (Same.refl _) (does_lift_no hp)⟩
    obtain ⟨d3, h3⟩ := hK.st.py p hp
    refine ⟨_, rfl, L.pa p, d3, _, rfl, h3, lk_Ply_m_is_laid, L.pa p, L.la p, x.ply p, rfl, ⟨d3, h3⟩, _, _, rfl, fun c => ?_, fun c => hR.no hK (Same.refl _) (does_lift_6 hp (by simpa using c))⟩
    have c1 : (x.ply p).turn ≠ 0 := by simpa using c
    have h4 := h3
    rw [vt_pos c1] at h4
    refine ⟨_, rfl, L.pa p, A.cPly, d3, _, _, rfl, h4, T.cl_Ply, T.n_Ply_turn, lk_Ply_turn, ?_⟩
    refine ⟨_, rfl, L.pa p, A.cPly, d3, _, rfl, h3, T.cl_Ply, T.n_Ply_turn, by show 4 < 1000; decide, ?_⟩
    rw [putF_turn]
    have dk := hK.turn (t := 0) hp (Nat.zero_le _) h3
    refine ⟨_, rfl, sz (by show 1 ≤ 100000; decide), fun g hg => ?_⟩
    have fr : Fr (FD D L x) (FD D L (x.set p fun z => { z with turn := 0 })) H (upd H (L.pa p) (.ins A.cPly d3 (fPl (x.ply p).roll (x.ply p).wide (L.la p) (vt 0)))) := Fr.desk (Fr.turn (H0 := H) hp)
    have z := hR.num_ ((x.ply p).turn - 1) [] (by rw [does_lift hp c1]) (upd (upd H (L.pa p) (.ins A.cPly d3 (fPl (x.ply p).roll (x.ply p).wide (L.la p) (vt 0)))) g (.lst [vn ((x.ply p).turn - 1)])) L g
    rw [does_lift hp c1] at z
    exact z (dk.same (same_new hg)) (fr.trans (Fr.same (same_new hg))) upd_same (dk.off hg) (fr.new hg)
theorem beg_of {a b c r d s : Nat} (h1 : 0 ≤ c ∧ c ≤ 1000) (h2 : 0 < a ∧ 0 < b ∧ a * a + b * b = c * c) (h3 : 100 ≤ r ∧ r ≤ 1500) (h4 : 0 ≤ d ∧ d ≤ 500) (h5 : 1 ≤ s ∧ s ≤ 200) : BegOk a b c r d s := by
  unfold BegOk
  have hc : c ≠ 0 := fun z => by
    subst z
    have := Nat.mul_pos h2.1 h2.1
    have := h2.2.2
    omega
  have := h2.2.2
  omega
theorem ok_begin (T : Txt K mg A) : FnOk P w K mg base (L2.CX P w) 5 A.f_begin A.d_begin ["self", "numbers"] (spBegin K A) := by
  have G_ask : FnOk P w K mg base (L2.CX P w) 3 A.f_ask A.d_ask _ (spAsk A) := ok_ask T
  have G_ask_range : FnOk P w K mg base (L2.CX P w) 4 A.f_ask_range A.d_ask_range _ (spAskRange A) := ok_ask_range T
  have G_is_right : FnOk P w K mg base CX0 1 A.f_is_right A.d_is_right _ spIsRight := ok_is_right T
  have G_new_store : FnOk P w K mg base CX0 3 A.f_new_store A.d_new_store _ (spNewStore A) := ok_new_store T
  refine T.F_begin.okX sc_begin (fun vs H Q E h => ?_) (fun cdv Ar outer s H vs Q E hr h => ?_)
  · obtain ⟨D, na, dx, v, a, b, c, r, d, t, rfl, _⟩ := h; rfl
  · obtain ⟨D, na, dx, v, a, b, c, r, d, t, rfl, h0, hna, ha, hb, hc, q1, q2⟩ := h
    refine ⟨_, (pss_cons (ps_asg (pv 1) (pg_lst rfl (pgs_cons (pg_name (i := 2) sc_begin.nd rfl (Or.inl rfl)) (pgs_cons (pg_name (i := 3) sc_begin.nd rfl (Or.inl rfl)) (pgs_cons (pg_name (i := 4) sc_begin.nd rfl (Or.inl rfl)) (pgs_cons (pg_name (i := 5) sc_begin.nd rfl (Or.inl rfl)) (pgs_cons (pg_name (i := 6) sc_begin.nd rfl (Or.inl rfl)) (pgs_cons (pg_name (i := 7) sc_begin.nd rfl (Or.inl rfl)) pgs_nil))))))))
      (pss_cons (ps_expr (pe_call G_ask_range (hr.mono (by decide)) rfl T.g_ask_range T.F_ask_range.kp T.b_ask_range .nil psX (pa_cons (pv 4) (pa_cons (pn 0) (pa_cons (pgn 1000 rfl T.k_GREATEST_SIDE) pa_nil)))))
      (pss_cons (ps_expr (pe_call G_ask (hr.mono (by decide)) rfl T.g_ask T.F_ask.kp T.b_ask .nil psX (pa_cons (pe_call G_is_right (hr.mono (by decide)) rfl T.g_is_right T.F_is_right.kp T.b_is_right .nil pass0 (pa_cons (pv 2) (pa_cons (pv 3) (pa_cons (pv 4) pa_nil)))) (pa_cons (pgz rfl T.k_OUT_OF_RANGE) pa_nil))))
      (pss_cons (ps_expr (pe_call G_ask_range (hr.mono (by decide)) rfl T.g_ask_range T.F_ask_range.kp T.b_ask_range .nil psX (pa_cons (pv 5) (pa_cons (pgn 100 rfl T.k_LEAST_ROUND) (pa_cons (pgn 1500 rfl T.k_MOST_ROUND) pa_nil)))))
      (pss_cons (ps_expr (pe_call G_ask_range (hr.mono (by decide)) rfl T.g_ask_range T.F_ask_range.kp T.b_ask_range .nil psX (pa_cons (pv 6) (pa_cons (pn 0) (pa_cons (pgn 500 rfl T.k_MOST_NEAR) pa_nil)))))
      (pss_cons (ps_expr (pe_call G_ask_range (hr.mono (by decide)) rfl T.g_ask_range T.F_ask_range.kp T.b_ask_range .nil psX (pa_cons (pv 7) (pa_cons (pn 1) (pa_cons (pgn 200 rfl T.k_MOST_SHORT) pa_nil)))))
      (pss_cons (ps_fld (pv 0) (pe_call G_new_store (hr.mono (by decide)) rfl T.g_new_store T.F_new_store.kp T.b_new_store .nil pass0 (pa_cons (pv 2) (pa_cons (pv 4) (pa_cons (pv 5) (pa_cons (pv 6) (pa_cons (pv 7) pa_nil)))))) rfl)
      (pss_one (ps_ret (pe_lst (pa_cons (pn 0) pa_nil))))))))))), ?_⟩
    refine ⟨_, rfl, na, _, rfl, hna, rfl, _, _, rfl, _, _, rfl, _, _, rfl, _, _, rfl, _, _, rfl, _, _, rfl, rfl, ?_⟩
    refine ⟨_, rfl, c, 0, 1000, rfl, fun c1 => ?_, fun c1 => q1 fun z => z (by omega)⟩
    refine ⟨_, rfl, _, rfl, _, rfl, a, b, c, rfl, ha, hb, hc, _, _, rfl, fun c2 => ?_, fun c2 => q1 fun z => of_decide_eq_false c2 ⟨?_, ?_, ?_⟩⟩
    rotate_left
    · refine Nat.pos_of_ne_zero fun e => z (.inl e)
    · refine Nat.pos_of_ne_zero fun e => z (.inr (.inl e))
    · exact Decidable.byContradiction fun e => z (.inr (.inr (.inr (.inr (.inl e)))))
    have c3 := of_decide_eq_true c2
    refine ⟨_, rfl, r, 100, 1500, rfl, fun c4 => ?_, fun c4 => q1 fun z => z (by omega)⟩
    refine ⟨_, rfl, d, 0, 500, rfl, fun c5 => ?_, fun c5 => q1 fun z => z (by omega)⟩
    refine ⟨_, rfl, t, 1, 200, rfl, fun c6 => ?_, fun c6 => q1 fun z => z (by omega)⟩
    have ok := beg_of c1 c3 c4 c5 c6
    refine ⟨_, rfl, _, rfl, _, rfl, _, rfl, _, rfl, a, c, r, d, t, rfl, fun H1 L e1 fo sT => ?_⟩
    refine ⟨_, rfl, D, A.cDesk, dx, _, rfl, e1 _ _ h0, T.cl_Desk, T.n_Desk_store, by show 1 < 1000; decide, ?_⟩
    rw [putF_store]
    have sT2 : StAt A (upd H1 D (.ins A.cDesk dx (fDe (.ref L.S)))) L (Su65.new a c r d t) := sT.mono fun b o f e => by
      rw [upd_ne (fun z => by rw [z] at f; rw [fo _ f] at h0; cases h0)]; exact e
    have dk : Dk A (upd H1 D (.ins A.cDesk dx (fDe (.ref L.S)))) D L (Su65.new a c r d t) := ⟨⟨dx, upd_same⟩, sT2, wf_new ok⟩
    refine ⟨sz (by show 1 ≤ 100000; decide), fun g hg => q2 ok _ L g (dk.same (same_new hg)) (fun b o e hb => ?_) fo upd_same (dk.off hg) (fun b o e hb => ?_)⟩
    · have e2 : (upd H1 D (.ins A.cDesk dx (fDe (.ref L.S)))) b = some o := by rw [upd_ne hb]; exact e1 _ _ e
      rw [upd_ne (ne_of_none e2 hg)]; exact e2
    · have e2 : (upd H1 D (.ins A.cDesk dx (fDe (.ref L.S)))) b = some o := by rw [upd_ne hb]; exact e1 _ _ e
      exact (ne_of_none e2 hg).symm
end
end Bp

namespace Bp
open PySem PySem.Spec PyProof.Rows L2
open Su65 (Abs Ply Roll)
/-! # A row of plies: laid one behind another, or none -/
/-! ## len(set(xs)): how many different ones -/
def dif (l : List Nat) : Nat := (PyProof.Rows.firstMet (fun i => (l.map fun (n : Nat) => (n : Int)).getD i 0) l.length).length
theorem getD_cast {l : List Nat} {i : Nat} (h : i < l.length) : (l.map fun (n : Nat) => (n : Int)).getD i 0 = ((l[i] : Nat) : Int) := by
  rw [List.getD_eq_getElem?_getD, List.getElem?_map, List.getElem?_eq_getElem h]; rfl
theorem firstMet_dif (l : List Nat) : ∀ i, i ≤ l.length → ((PyProof.Rows.firstMet (fun i => (l.map fun (n : Nat) => (n : Int)).getD i 0) i).length = i ↔ (l.take i).Nodup)
  | 0, _ => by simp [PyProof.Rows.firstMet_zero]
  | i + 1, hi => by
    have hlt : i < l.length := hi
    have ih := firstMet_dif l i (Nat.le_of_lt hlt)
    have hle := PyProof.Rows.firstMet_length_le (fun i => (l.map fun (n : Nat) => (n : Int)).getD i 0) i
    have hany := PyProof.Rows.firstMet_any (fun i => (l.map fun (n : Nat) => (n : Int)).getD i 0) i ((l.map fun (n : Nat) => (n : Int)).getD i 0)
    have hmem : (((List.range i).map fun i => (l.map fun (n : Nat) => (n : Int)).getD i 0).any (· == (l.map fun (n : Nat) => (n : Int)).getD i 0)) = true ↔ l[i] ∈ l.take i := by
      rw [List.any_eq_true]
      constructor
      · rintro ⟨y, hy, e⟩
        obtain ⟨j, hj, rfl⟩ := List.mem_map.mp hy
        have hj' : j < i := List.mem_range.mp hj
        have e2 := eq_of_beq e
        rw [getD_cast hlt, getD_cast (show j < l.length by omega)] at e2
        have e3 : l[j]'(by omega) = l[i] := by omega
        rw [← e3]
        exact List.mem_take_iff_getElem.mpr ⟨j, by omega, rfl⟩
      · intro h
        obtain ⟨j, hj, e⟩ := List.mem_take_iff_getElem.mp h
        refine ⟨_, List.mem_map_of_mem (List.mem_range.mpr (show j < i by omega)), ?_⟩
        rw [getD_cast hlt, getD_cast (show j < l.length by omega), e]
        exact beq_self_eq_true _
    have htake : (l.take (i + 1)).Nodup ↔ (l.take i).Nodup ∧ ¬ l[i] ∈ l.take i := by
      rw [take_succ (List.getElem?_eq_getElem hlt), List.nodup_append]
      constructor
      · rintro ⟨h1, _, h3⟩
        exact ⟨h1, fun z => h3 _ z _ List.mem_cons_self rfl⟩
      · rintro ⟨h1, h2⟩
        refine ⟨h1, by simp, fun a ha b hb e => ?_⟩
        have : b = l[i] := by simpa using hb
        exact h2 (by rw [← this, ← e]; exact ha)
    rw [PyProof.Rows.firstMet_succ, htake, ← ih, ← hmem, ← hany]
    show (if _ then _ else _ : List Int).length = i + 1 ↔ _
    split
    · rename_i c
      constructor
      · intro z; omega
      · rintro ⟨_, z⟩; exact absurd c z
    · rename_i c
      rw [List.length_append]
      show _ + 1 = i + 1 ↔ _
      constructor
      · intro z; exact ⟨by omega, c⟩
      · rintro ⟨z, _⟩; omega
theorem dif_iff (l : List Nat) : dif l = l.length ↔ l.Nodup := by
  have := firstMet_dif l l.length (Nat.le_refl _)
  rw [List.take_length] at this
  exact this
def tLenSetD (K : PySem.W.Frag) (ta : TE) : TE := fun σ H Q => ta σ H fun x H1 => ∃ (a : Addr) (l : List Nat), x = .ref a ∧ SqL K H1 a (nums l) ∧ l.length ≤ 4000 ∧ Q (vn (dif l)) H1
theorem pe_lenSetD {X : Cx} {e : Expr} {ta : TE} {p p2 q pos : Pos} (hg : Gl X "len") (hm : X.mg "len" = none) (hg2 : Gl X "set") (hm2 : X.mg "set" = none) (ha : PE X e ta) (hc : X.calm = true := by rfl)
    (na : starEach [e] X.env = (false, eval e X.env) :: starEach [] X.env := by rfl) : PE X (.Call (.Name "len" p) [.Call (.Name "set" p2) [e] [] q] [] pos) (tLenSetD X.K ta) := by
  refine ⟨fun pins s σ H Q I h => ?_⟩
  refine Call_ (ld_blt I hg hm boot_len ?_)
  refine PyProof.Rows.callWith_builtin1 (PyProof.Rows.args_cons ?_ rfl) rfl rfl
  refine Call_ (ld_blt I hg2 hm2 boot_set ?_)
  refine PyProof.Rows.callWith_type1 (PyProof.Rows.args_cons (thn (ha.run pins s σ H _ I h) fun v s1 ⟨x, H1, I1, r1, q1⟩ => PyProof.Rows.args_nil ?_) na) na rfl
  obtain ⟨a, l, rfl, hq, hl, q1⟩ := q1
  cases r1
  obtain ⟨its, r, pl, hz⟩ := I1.list hq
  have hlen : its.toArray.size = l.length := by rw [List.size_toArray, ← r.length, nums_len]
  refine call_set_list (ns := l.map fun (n : Nat) => (n : Int)) (I1.ok.hd hc) pl.isList (by rw [nums_int] at r; simpa using RZ.intsAre_vals r) (by rw [hlen]; unfold scanBound; omega) fun h' tk hS hk => ?_
  refine PyProof.Rows.args_nil ?_
  rw [hlen] at hS
  have hd : (PyProof.Rows.firstMet (fun i => (l.map fun (n : Nat) => (n : Int)).getD i 0) l.length).length = dif l := rfl
  have hle := PyProof.Rows.firstMet_length_le (fun i => (l.map fun (n : Nat) => (n : Int)).getD i 0) l.length
  rw [hd] at hle
  obtain ⟨o, es, ep, t, ho, hex, hd', _, _, _, hf, hn⟩ := hS
  have I2 : Inv X pins σ H1 { s1 with heap := h', toks := tk } := I1.kept fun b o e => hk b o (Heap.lt_size e) e
  exact call_len_set ho hex hd' hf (by rw [hn, hd] <;> omega) ⟨vn (dif l), H1, I2.tok _, ⟨_, by rw [hn, hd]⟩, q1⟩
/-! ## the row -/
def spLiftAll (K : PySem.W.Frag) (A : Ad) : Sp := fun vs H Q E => ∃ (D : Addr) (L : Lay) (x : Abs) (a : Addr) (l : List Nat), vs = [.ref D, .ref a] ∧ Dk A H D L x ∧ H a = some (.lst (nums l)) ∧ ¬ FD D L x a ∧ (∀ p ∈ l, p < x.plies.length) ∧
  ∀ H', Dk A H' D L (clear l x) → Fr (FD D L x) (FD D L x) H H' → Q .non H'
def spRow (K : PySem.W.Frag) (A : Ad) : Sp := fun vs H Q E => ∃ (D : Addr) (L : Lay) (x : Abs) (a : Addr) (l : List Nat), vs = [.ref D, .ref a] ∧ Dk A H D L x ∧ H a = some (.lst (nums l)) ∧ ¬ FD D L x a ∧ l.length ≤ 4000 ∧ Res A D H L x (Su65.does x (.row l)) Q E
theorem clear_len (l : List Nat) (x : Abs) : (clear l x).plies.length = x.plies.length := by
  induction l generalizing x with
  | nil => rfl
  | cons p l ih => show (clear l (x.set p _)).plies.length = _; rw [ih, set_len]
theorem clear_succ {l : List Nat} {x : Abs} {i p : Nat} (h : l[i]? = some p) : clear (l.take (i + 1)) x = (clear (l.take i) x).set p fun q => { q with turn := 0 } := by
  unfold clear
  rw [take_succ h, List.foldl_append]; rfl
theorem foot_eq {L : Lay} {x y : Abs} (h1 : x.rolls.length = y.rolls.length) (h2 : x.plies.length = y.plies.length) {b : Addr} : Foot L x b ↔ Foot L y b := by
  unfold Foot; rw [h1, h2]
theorem fd_eq {D : Addr} {L : Lay} {x y : Abs} (h1 : x.rolls.length = y.rolls.length) (h2 : x.plies.length = y.plies.length) {b : Addr} : FD D L x b ↔ FD D L y b := by
  unfold FD; rw [foot_eq h1 h2]
theorem fd_fun {D : Addr} {L : Lay} {x y : Abs} (h1 : x.rolls.length = y.rolls.length) (h2 : x.plies.length = y.plies.length) : FD D L x = FD D L y := funext fun _ => propext (fd_eq h1 h2)
/-- a ply's place in the footprint stored anew -/
theorem Fr.at_ {D : Addr} {L : Lay} {x : Abs} {p : Nat} {H : Hp} {o : HO} (hp : p < x.plies.length) : Fr (FD D L x) (FD D L x) H (upd H (L.pa p) o) :=
  ⟨fun b u h hm => by rw [upd_ne (fun z => hm (.inr (.inr (.inr (.inr (.inr (.inr (.inl ⟨p, hp, z⟩))))))))]; exact h, fun b hb => .inl hb⟩
theorem does_row_22 {x : Abs} {l : List Nat} (h : ¬ l.Nodup) : Su65.does x (.row l) = (x, Su65.no (-22)) := by simp only [Su65.does]; exact if_pos h
theorem does_row_2 {x : Abs} {l : List Nat} (h : l.Nodup) {p : Nat} (hp : p ∈ l) (h2 : ¬ p < x.plies.length) : Su65.does x (.row l) = (x, Su65.no (-2)) := by
  simp only [Su65.does]; rw [if_neg (fun z => z h), if_pos (List.any_eq_true.mpr ⟨p, hp, by rw [isP_f h2]; rfl⟩)]
theorem any_no {l : List Nat} {f : Nat → Bool} (h : ∀ p ∈ l, f p = false) : ¬ (l.any f = true) := fun z => by
  obtain ⟨p, hp, e⟩ := List.any_eq_true.mp z
  rw [h p hp] at e; cases e
theorem isP_all {x : Abs} {l : List Nat} (h : ∀ p ∈ l, p < x.plies.length) : ¬ (l.any (fun p => !(x.isP p)) = true) := any_no fun p hp => by
  have : x.isP p = true := decide_eq_true (h p hp)
  rw [this]; rfl
theorem does_row_17 {x : Abs} {l : List Nat} (h : l.Nodup) (h2 : ∀ p ∈ l, p < x.plies.length) {p : Nat} (hp : p ∈ l) (h3 : (x.ply p).turn ≠ 0) : Su65.does x (.row l) = (x, Su65.no (-17)) := by
  simp only [Su65.does]; rw [if_neg (fun z => z h), if_neg (isP_all h2), if_pos (List.any_eq_true.mpr ⟨p, hp, bne_t h3⟩)]
theorem does_row_33 {x : Abs} {l : List Nat} (h : l.Nodup) (h2 : ∀ p ∈ l, p < x.plies.length) (h3 : ∀ p ∈ l, (x.ply p).turn = 0) (h4 : x.row l = none) : Su65.does x (.row l) = (x, Su65.no (-33)) := by
  simp only [Su65.does]; rw [if_neg (fun z => z h), if_neg (isP_all h2), if_neg (any_no fun p hp => bne_f (h3 p hp)), h4]
theorem does_row {x : Abs} {l : List Nat} (h : l.Nodup) (h2 : ∀ p ∈ l, p < x.plies.length) (h3 : ∀ p ∈ l, (x.ply p).turn = 0) {r : Abs × List Nat} (h4 : x.row l = some r) : Su65.does x (.row l) = (r.1, Su65.list r.2) := by
  simp only [Su65.does]; rw [if_neg (fun z => z h), if_neg (isP_all h2), if_neg (any_no fun p hp => bne_f (h3 p hp)), h4]
theorem row_none {x : Abs} {p : Nat} {l : List Nat} (h : x.least p = none) : x.row (p :: l) = none := by
  show (match x.least p with | none => none | some t => ((x.set p fun z => { z with turn := t + 1 }).row l).map fun r => (r.1, t :: r.2)) = none
  rw [h]
theorem row_some {x : Abs} {p t : Nat} {l : List Nat} (h : x.least p = some t) : x.row (p :: l) = ((x.set p fun z => { z with turn := t + 1 }).row l).map fun (r : Abs × List Nat) => (r.1, t :: r.2) := by
  show (match x.least p with | none => none | some t => ((x.set p fun z => { z with turn := t + 1 }).row l).map fun (r : Abs × List Nat) => (r.1, t :: r.2)) = _
  rw [h]
theorem drop_cons {l : List Nat} {i p : Nat} (h : l[i]? = some p) : l.drop i = p :: l.drop (i + 1) := by
  obtain ⟨hi, e⟩ := List.getElem?_eq_some_iff.mp h
  rw [List.drop_eq_getElem_cons hi, e]
theorem mem_take_succ {l : List Nat} {i p q : Nat} (h : l[i]? = some p) (hq : q ∈ l.take (i + 1)) : q ∈ l.take i ∨ q = p := by
  rw [take_succ h] at hq
  rcases List.mem_append.mp hq with z | z
  · exact .inl z
  · exact .inr (by simpa using z)
theorem vo_vt : ∀ o : Option Nat, vo o = vt (match o with | none => 0 | some t => t + 1)
  | none => rfl
  | some t => rfl
/-- what a turn of row's last loop keeps -/
structure Laying (A : Ad) (D : Addr) (L : Lay) (x : Abs) (l : List Nat) (a F : Addr) (H : Hp) (i : Nat) (H' : Hp) : Prop where
  go : ∃ (y : Abs) (ts : List Nat), Dk A H' D L y ∧ y.rolls.length = x.rolls.length ∧ y.plies.length = x.plies.length ∧ y.round_ = x.round_ ∧ clear l y = x ∧ x.row l = (y.row (l.drop i)).map (fun (r : Abs × List Nat) => (r.1, ts ++ r.2)) ∧ ts.length = i ∧ H' F = some (.lst (nums ts))
  fr : Fr (FD D L x) (FD D L x) H H'
  pl : H' a = some (.lst (nums l))
section
variable {P : Program} {w : World} {K : PySem.W.Frag} {mg : Str → Option Value} {base : Heap} {A : Ad}
theorem ok_lift_all (T : Txt K mg A) : FnOk P w K mg base (L2.CX P w) 5 A.f_lift_all A.d_lift_all ["self", "plies"] (spLiftAll K A) := by
  have G_ply_at : FnOk P w K mg base (L2.CX P w) 4 A.f_ply_at A.d_ply_at _ (spPlyAt A) := ok_ply_at T
  refine T.F_lift_all.okX sc_lift_all (fun vs H Q E h => ?_) (fun cdv Ar outer s H vs Q E hr h => ?_)
  · obtain ⟨D, L, x, a, l, rfl, _⟩ := h; rfl
  · obtain ⟨D, L, x, a, l, rfl, hK, ha, hoff, hl, q⟩ := h
    refine ⟨_, pss_one (ps_for (passes_of rfl) rfl (pi_list (pv 1)) (pg_name (i := 2) sc_lift_all.nd rfl (Or.inl rfl)) (pss_cons (ps_set (i := 3) sc_lift_all.nd rfl (Or.inl rfl) (pe_meth (pv 0) T.cl_Desk T.m_ply_at G_ply_at (hr.mono (by decide)) T.b_ply_at .nil psX (pa_cons (pv 2) pa_nil)))
      (pss_one (ps_fld (pv 3) pe_non rfl)))), ?_⟩
    refine ⟨_, rfl, a, rfl, ⟨_, SqL.of ha⟩, for_nums (K := K) (a := a) (l := l) (fun i σ H' => ∃ v2 v3 : Option V, σ = [some (.ref D), some (.ref a), v2, v3] ∧ Dk A H' D L (clear (l.take i) x) ∧ Fr (FD D L x) (FD D L x) H H' ∧ H' a = some (.lst (nums l)))
      ⟨none, none, rfl, hK, Fr.same (Same.refl _), ha⟩ (fun i σ H' ⟨_, _, _, _, _, z⟩ => SqL.of z) ?_ ?_⟩
    · rintro i p σ H1 hp ⟨v2, v3, rfl, k1, f1, a1⟩
      have hlt : p < (clear (l.take i) x).plies.length := by rw [clear_len]; exact hl p (at_mem hp)
      have hlt0 : p < x.plies.length := hl p (at_mem hp)
      obtain ⟨d0, h0⟩ := k1.de
      obtain ⟨d3, h3⟩ := k1.st.py p hlt
      refine ⟨_, rfl, D, d0, _, rfl, h0, lk_Desk_m_ply_at, _, rfl, D, L, _, p, rfl, k1, fun _ => ?_, fun z => absurd hlt z⟩
      refine ⟨_, rfl, L.pa p, A.cPly, d3, _, rfl, h3, T.cl_Ply, T.n_Ply_turn, by show 4 < 1000; decide, ?_⟩
      rw [putF_turn]
      refine ⟨some (vn p), some (.ref (L.pa p)), rfl, ?_, f1.trans (Fr.at_ hlt0), ?_⟩
      · rw [clear_succ hp]; exact k1.turn (t := 0) hlt (Nat.zero_le _) h3
      · rw [upd_ne (fun z => hoff (.inr (.inr (.inr (.inr (.inr (.inr (.inl ⟨p, hlt0, z⟩))))))))]; exact a1
    · rintro σ H1 ⟨v2, v3, rfl, k1, f1, a1⟩
      rw [List.take_length] at k1
      exact q H1 k1 f1
theorem ok_row (T : Txt K mg A) : FnOk P w K mg base (L2.CX P w) 6 A.f_row A.d_row ["self", "plies"] (spRow K A) := by
  have G_ask : FnOk P w K mg base (L2.CX P w) 3 A.f_ask A.d_ask _ (spAsk A) := ok_ask T
  have G_ply_at : FnOk P w K mg base (L2.CX P w) 4 A.f_ply_at A.d_ply_at _ (spPlyAt A) := ok_ply_at T
  have G_is_laid : FnOk P w K mg base CX0 1 A.f_is_laid A.d_is_laid _ (spIsLaid A) := ok_is_laid T
  have G_least_turn : FnOk P w K mg base CX0 3 A.f_least_turn A.d_least_turn _ (spLeastTurn K) := ok_least_turn T
  have G_near_others : FnOk P w K mg base CX0 3 A.f_near_others A.d_near_others _ (spNearOthers A) := ok_near_others T
  have G_lift_all : FnOk P w K mg base (L2.CX P w) 5 A.f_lift_all A.d_lift_all _ (spLiftAll K A) := ok_lift_all T
  have G_Ref_init : FnOk P w K mg base CX0 1 A.f_Ref_init A.d_Ref_init _ (spRefInit A) := ok_Ref_init T
  refine T.F_row.okX sc_row (fun vs H Q E h => ?_) (fun cdv Ar outer s H vs Q E hr h => ?_)
  · obtain ⟨D, L, x, a, l, rfl, _⟩ := h; rfl
  · obtain ⟨D, L, x, a, l, rfl, hK, ha, hoff, hlen, hR⟩ := h
    obtain ⟨d0, h0⟩ := hK.de
    refine ⟨_, (pss_cons (ps_expr (pe_call G_ask (hr.mono (by decide)) rfl T.g_ask T.F_ask.kp T.b_ask .nil psX (pa_cons (pe_cmpR oEq (pe_lenSetD rfl T.z_len rfl T.z_set (pv 1)) (pe_callB cLen (by rfl) T.z_len PySem.boot_len (pa_cons (pv 1) pa_nil)) (nomark _)) (pa_cons (pgz rfl T.k_OUT_OF_RANGE) pa_nil))))
      (pss_cons (ps_for (passes_of rfl) rfl (pi_list (pv 1)) (pg_name (i := 2) sc_row.nd rfl (Or.inl rfl)) (pss_one (ps_expr (pe_meth (pv 0) T.cl_Desk T.m_ply_at G_ply_at (hr.mono (by decide)) T.b_ply_at .nil psX (pa_cons (pv 2) pa_nil)))))
      (pss_cons (ps_for (passes_of rfl) rfl (pi_list (pv 1)) (pg_name (i := 2) sc_row.nd rfl (Or.inl rfl)) (pss_one (ps_expr (pe_call G_ask (hr.mono (by decide)) rfl T.g_ask T.F_ask.kp T.b_ask .nil psX (pa_cons (pe_not (pe_meth0 (pe_meth (pv 0) T.cl_Desk T.m_ply_at G_ply_at (hr.mono (by decide)) T.b_ply_at .nil psX (pa_cons (pv 2) pa_nil)) T.cl_Ply T.m_is_laid G_is_laid (hr.mono (by decide)) T.b_is_laid .nil pass0)) (pa_cons (pgz rfl T.k_ALREADY) pa_nil))))))
      (pss_cons (ps_set (i := 3) sc_row.nd rfl (Or.inl rfl) (pe_lst pa_nil))
      (pss_cons (ps_for (passes_of rfl) rfl (pi_list (pv 1)) (pg_name (i := 2) sc_row.nd rfl (Or.inl rfl)) (pss_cons (ps_set (i := 4) sc_row.nd rfl (Or.inl rfl) (pe_meth (pv 0) T.cl_Desk T.m_ply_at G_ply_at (hr.mono (by decide)) T.b_ply_at .nil psX (pa_cons (pv 2) pa_nil)))
      (pss_cons (ps_fld (pv 4) (pe_call G_least_turn (hr.mono (by decide)) rfl T.g_least_turn T.F_least_turn.kp T.b_least_turn .nil pass0 (pa_cons (pe_fld (pv 4) rfl) (pa_cons (pe_meth (pe_fld (pv 0) rfl) T.cl_Store T.m_near_others G_near_others (hr.mono (by decide)) T.b_near_others .nil pass0 (pa_cons (pv 2) pa_nil)) (pa_cons (pe_fld (pe_fld (pv 0) rfl) rfl) pa_nil)))) rfl)
      (pss_cons (ps_expr (pe_bm PySem.F.plainAttrs_list PySem.F.slot_list_append PySem.F.type_list_append mt_append (pv 3) (pa_cons (pe_fld (pv 4) rfl) pa_nil)))
      (pss_one (ps_if (pt_cmpR op_isN (pe_fld (pv 4) rfl) pe_non (nomark _)) (pss_cons (ps_expr (pe_meth (pv 0) T.cl_Desk T.m_lift_all G_lift_all (hr.mono (by decide)) T.b_lift_all .nil psX (pa_cons (pv 1) pa_nil)))
      (pss_one (ps_raise rfl tkX (pmk_oex T.ox T.iC T.tI G_Ref_init (hr.mono (by decide)) T.b_Ref_init .nil pass0 rfl T.gC (pa_cons (pgz rfl T.k_CANNOT) pa_nil))))) pss_nil))))))
      (pss_one (ps_ret (pe_op op_cat (pe_lst (pa_cons (pe_callB cLen (by rfl) T.z_len PySem.boot_len (pa_cons (pv 3) pa_nil)) pa_nil)) (pv 3))))))))), ?_⟩
    refine ⟨_, rfl, a, l, rfl, SqL.of ha, hlen, _, rfl, a, _, l.length, rfl, SqL.of ha, nums_len _, _, _, rfl, rfl, _, _, rfl, fun c => ?_, fun c => hR.no hK (Same.refl _) (does_row_22 fun z => of_decide_eq_false c ((dif_iff l).mpr z))⟩
    have hnd : l.Nodup := (dif_iff l).mp (of_decide_eq_true c)
    -- each of them is there
    refine ⟨_, rfl, a, rfl, ⟨_, SqL.of ha⟩, for_nums (K := K) (a := a) (l := l) (fun i σ H' => ∃ v2 : Option V, σ = [some (.ref D), some (.ref a), v2, none, none] ∧ H' = H ∧ ∀ p ∈ l.take i, p < x.plies.length)
      ⟨none, rfl, rfl, fun p hp => nomatch hp⟩ (fun i σ H' ⟨_, _, z, _⟩ => by rw [z]; exact SqL.of ha) ?_ ?_⟩
    · rintro i p σ H1 hp ⟨v2, rfl, rfl, hall⟩
      refine ⟨_, rfl, D, d0, _, rfl, h0, lk_Desk_m_ply_at, _, rfl, D, L, x, p, rfl, hK, fun hlt => ⟨some (vn p), rfl, rfl, fun q hq => ?_⟩, fun hlt => hR.no hK (Same.refl _) (does_row_2 hnd (at_mem hp) hlt)⟩
      rcases mem_take_succ hp hq with z | z
      · exact hall q z
      · rw [z]; exact hlt
    rintro σ H1 ⟨v2, rfl, rfl, hall⟩
    rw [List.take_length] at hall
    -- none is laid
    refine ⟨_, rfl, a, rfl, ⟨_, SqL.of ha⟩, for_nums (K := K) (a := a) (l := l) (fun i σ H' => ∃ v2 : Option V, σ = [some (.ref D), some (.ref a), v2, none, none] ∧ H' = H1 ∧ ∀ p ∈ l.take i, (x.ply p).turn = 0)
      ⟨v2, rfl, rfl, fun p hp => nomatch hp⟩ (fun i σ H' ⟨_, _, z, _⟩ => by rw [z]; exact SqL.of ha) ?_ ?_⟩
    · rintro i p σ H2 hp ⟨v2, rfl, rfl, hz⟩
      have hlt := hall p (at_mem hp)
      obtain ⟨d3, h3⟩ := hK.st.py p hlt
      refine ⟨_, rfl, D, d0, _, rfl, h0, lk_Desk_m_ply_at, _, rfl, D, L, x, p, rfl, hK, fun _ => ?_, fun z => absurd hlt z⟩
      refine ⟨L.pa p, d3, _, rfl, h3, lk_Ply_m_is_laid, L.pa p, L.la p, x.ply p, rfl, ⟨d3, h3⟩, _, rfl, _, _, rfl, fun c2 => ⟨some (vn p), rfl, rfl, fun q hq => ?_⟩, fun c2 => hR.no hK (Same.refl _) (does_row_17 hnd hall (at_mem hp) (by simpa using c2))⟩
      rcases mem_take_succ hp hq with z | z
      · exact hz q z
      · rw [z]; simpa using c2
    rintro σ H2 ⟨v2', rfl, rfl, hz⟩
    rw [List.take_length] at hz
    -- laid
    refine ⟨sz (Nat.zero_le _), fun F hF => ?_⟩
    have sF := same_new (o := .lst []) hF
    have hFoff : ¬ FD D L x F := hK.off hF
    have haF : a ≠ F := ne_of_none ha hF
    refine ⟨_, rfl, a, rfl, ⟨_, SqL.of (sF _ _ ha)⟩, for_nums (K := K) (a := a) (l := l) (fun i σ H' => ∃ v2 v4 : Option V, σ = [some (.ref D), some (.ref a), v2, some (.ref F), v4] ∧ Laying A D L x l a F H2 i H')
      ⟨v2', none, rfl, ⟨⟨x, [], hK.same sF, rfl, rfl, rfl, clear_same hz, ?_, rfl, upd_same⟩, Fr.same sF, sF _ _ ha⟩⟩ (fun i σ H' ⟨_, _, _, z⟩ => SqL.of z.pl) ?_ ?_⟩
    · rw [List.drop_zero]
      cases x.row l with
      | none => rfl
      | some r => rfl
    · rintro i p σ H3 hp ⟨v2, v4, rfl, ⟨y, ts, k3, e1, e2, e3, hcl, hrow, hts, hF3⟩, f3, a3⟩
      have hlt0 := hall p (at_mem hp)
      have hlt : p < y.plies.length := by rw [e2]; exact hlt0
      obtain ⟨d0, h0⟩ := k3.de
      obtain ⟨d1, h1⟩ := k3.st.st
      obtain ⟨d3, h3⟩ := k3.st.py p hlt
      have hw := k3.wf.py _ (ply_mem hlt)
      refine ⟨_, rfl, D, d0, _, rfl, h0, lk_Desk_m_ply_at, _, rfl, D, L, y, p, rfl, k3, fun _ => ?_, fun z => absurd hlt z⟩
      refine ⟨_, rfl, L.pa p, A.cPly, d3, _, _, rfl, h3, T.cl_Ply, T.n_Ply_splices, lk_Ply_splices, _, rfl, D, A.cDesk, d0, _, _, rfl, h0, T.cl_Desk, T.n_Desk_store, lk_Desk_store, L.S, d1, _, rfl, h1, lk_Store_m_near_others, _, rfl, L, y, p, rfl, k3.st, k3.wf, fun f H4 e4 hf hfl => ?_⟩
      refine ⟨_, rfl, D, A.cDesk, d0, _, _, rfl, (e4 _ _ h0), T.cl_Desk, T.n_Desk_store, lk_Desk_store, L.S, A.cStore, d1, _, _, rfl, (e4 _ _ h1), T.cl_Store, T.n_Store_near, lk_Store_near, L.la p, f, _, _, _, rfl, SqL.of (e4 _ _ (k3.st.sp p hlt)), SqL.of hfl, hw.ne, by rw [nearL_len]; have := k3.wf.r1; omega, by have := hw.len; omega, by rw [nearL_len]; have := k3.wf.r2; omega, fun H5 e5 => ?_⟩
      rw [least_at k3.wf hlt, vo_vt]
      have e45 := e4.trans e5
      refine ⟨_, rfl, L.pa p, A.cPly, d3, _, rfl, e45 _ _ h3, T.cl_Ply, T.n_Ply_turn, by show 4 < 1000; decide, ?_⟩
      rw [putF_turn]
      have hFpa : F ≠ L.pa p := fun z => hFoff (.inr (.inr (.inr (.inr (.inr (.inr (.inl ⟨p, hlt0, z⟩)))))))
      have hapa : a ≠ L.pa p := fun z => hoff (.inr (.inr (.inr (.inr (.inr (.inr (.inl ⟨p, hlt0, z⟩)))))))
      have fdy : FD D L y = FD D L x := fd_fun e1 e2
      have hF6 : ∀ o, (upd H5 (L.pa p) o) F = some (.lst (nums ts)) := fun o => by rw [upd_ne hFpa]; exact e45 _ _ hF3
      have ha6 : ∀ o, (upd H5 (L.pa p) o) a = some (.lst (nums l)) := fun o => by rw [upd_ne hapa]; exact e45 _ _ a3
      have fr6 : ∀ o, Fr (FD D L x) (FD D L x) H2 (upd H5 (L.pa p) o) := fun o => (f3.trans (Fr.same e45)).trans (Fr.at_ hlt0)
      rw [drop_cons hp] at hrow
      cases hl : y.least p with
      | some t =>
        have ht := (fits_lt hl).1
        have dk := (k3.same e45).turn (t := t + 1) hlt ht (e45 _ _ h3)
        obtain ⟨d5, h5⟩ := dk.st.py p (by rw [set_len]; exact hlt)
        have h5' : (upd H5 (L.pa p) (.ins A.cPly d3 (fPl (y.ply p).roll (y.ply p).wide (L.la p) (vt (t + 1))))) (L.pa p) = some (.ins A.cPly d3 (fPl (y.ply p).roll (y.ply p).wide (L.la p) (vn t))) := upd_same
        refine ⟨_, rfl, .inl ⟨rfl, _, SqL.of (hF6 _)⟩, _, rfl, L.pa p, A.cPly, d3, _, _, rfl, h5', T.cl_Ply, T.n_Ply_turn, lk_Ply_turn, F, _, _, rfl, rfl, hF6 _, szl ?_, ?_⟩
        · rw [nums_len, hts]
          have := (List.getElem?_eq_some_iff.mp hp).1
          omega
        have h7 : (upd (upd H5 (L.pa p) (.ins A.cPly d3 (fPl (y.ply p).roll (y.ply p).wide (L.la p) (vt (t + 1))))) F (.lst (nums ts ++ [vn t]))) (L.pa p) = some (.ins A.cPly d3 (fPl (y.ply p).roll (y.ply p).wide (L.la p) (vn t))) := by rw [upd_ne hFpa.symm]; exact h5'
        refine ⟨_, rfl, L.pa p, A.cPly, d3, _, _, rfl, h7, T.cl_Ply, T.n_Ply_turn, lk_Ply_turn, rfl, _, rfl, iteFa (by simp) ⟨some (vn p), some (.ref (L.pa p)), rfl, ?_⟩⟩
        have foff : ∀ b, FD D L (y.set p fun z => { z with turn := t + 1 }) b → b ≠ F := fun b hb z => hFoff (by
          rw [z] at hb
          rw [← fdy]
          exact (fd_eq (x := y.set p fun z => { z with turn := t + 1 }) (y := y) rfl (set_len y p _)).mp hb)
        refine ⟨⟨y.set p fun z => { z with turn := t + 1 }, ts ++ [t], ?_, e1, by rw [set_len]; exact e2, e3, by rw [clear_set (at_mem hp)]; exact hcl, ?_, by rw [List.length_append, hts]; rfl, ?_⟩, ?_, ?_⟩
        · obtain ⟨d8, h8⟩ := dk.de
          exact ⟨⟨d8, by rw [upd_ne (foff D (.inl rfl))]; exact h8⟩, dk.st.mono fun b o hb e => by rw [upd_ne (foff b (.inr hb))]; exact e, dk.wf⟩
        · rw [hrow, row_some hl]
          cases (y.set p fun z => { z with turn := t + 1 }).row (l.drop (i + 1)) with
          | none => rfl
          | some r => show some (r.1, ts ++ t :: r.2) = some (r.1, (ts ++ [t]) ++ r.2); rw [List.append_assoc]; rfl
        · rw [upd_same, nums_app]; rfl
        · refine ⟨fun b o e hm => ?_, fun b hb => .inl hb⟩
          rw [upd_ne (fun z => by rw [z, hF] at e; cases e)]
          exact (fr6 _).out b o e hm
        · rw [upd_ne haF]; exact ha6 _
      | none =>
        have dk := (k3.same e45).turn (t := 0) hlt (Nat.zero_le _) (e45 _ _ h3)
        have h5' : (upd H5 (L.pa p) (.ins A.cPly d3 (fPl (y.ply p).roll (y.ply p).wide (L.la p) (vt 0)))) (L.pa p) = some (.ins A.cPly d3 (fPl (y.ply p).roll (y.ply p).wide (L.la p) .non)) := upd_same
        refine ⟨_, rfl, .inl ⟨rfl, _, SqL.of (hF6 _)⟩, _, rfl, L.pa p, A.cPly, d3, _, _, rfl, h5', T.cl_Ply, T.n_Ply_turn, lk_Ply_turn, F, _, _, rfl, rfl, hF6 _, szl ?_, ?_⟩
        · rw [nums_len, hts]
          have := (List.getElem?_eq_some_iff.mp hp).1
          omega
        have h7 : (upd (upd H5 (L.pa p) (.ins A.cPly d3 (fPl (y.ply p).roll (y.ply p).wide (L.la p) (vt 0)))) F (.lst (nums ts ++ [.non]))) (L.pa p) = some (.ins A.cPly d3 (fPl (y.ply p).roll (y.ply p).wide (L.la p) .non)) := by rw [upd_ne hFpa.symm]; exact h5'
        refine ⟨_, rfl, L.pa p, A.cPly, d3, _, _, rfl, h7, T.cl_Ply, T.n_Ply_turn, lk_Ply_turn, rfl, _, rfl, iteTr (by simp) ?_⟩
        have foff : ∀ b, FD D L (y.set p fun z => { z with turn := 0 }) b → b ≠ F := fun b hb z => hFoff (by
          rw [z] at hb
          rw [← fdy]
          exact (fd_eq (x := y.set p fun z => { z with turn := 0 }) (y := y) rfl (set_len y p _)).mp hb)
        have dk2 : Dk A (upd (upd H5 (L.pa p) (.ins A.cPly d3 (fPl (y.ply p).roll (y.ply p).wide (L.la p) (vt 0)))) F (.lst (nums ts ++ [.non]))) D L (y.set p fun z => { z with turn := 0 }) := by
          obtain ⟨d8, h8⟩ := dk.de
          exact ⟨⟨d8, by rw [upd_ne (foff D (.inl rfl))]; exact h8⟩, dk.st.mono fun b o hb e => by rw [upd_ne (foff b (.inr hb))]; exact e, dk.wf⟩
        have fr7 : Fr (FD D L x) (FD D L x) H2 (upd (upd H5 (L.pa p) (.ins A.cPly d3 (fPl (y.ply p).roll (y.ply p).wide (L.la p) (vt 0)))) F (.lst (nums ts ++ [.non]))) := by
          refine ⟨fun b o e hm => ?_, fun b hb => .inl hb⟩
          rw [upd_ne (fun z => by rw [z, hF] at e; cases e)]
          exact (fr6 _).out b o e hm
        obtain ⟨d9, h9⟩ := dk2.de
        have fdz : FD D L (y.set p fun z => { z with turn := 0 }) = FD D L x := fd_fun e1 (by rw [set_len]; exact e2)
        refine ⟨_, rfl, D, d9, _, rfl, h9, lk_Desk_m_lift_all, _, rfl, D, L, _, a, l, rfl, dk2, by rw [upd_ne haF]; exact ha6 _, by rw [fdz]; exact hoff, fun q hq => by rw [set_len, e2]; exact hall q hq, fun H8 k8 f8 => ?_⟩
        rw [clear_set (at_mem hp), hcl] at k8
        rw [fdz] at f8
        have f28 := fr7.trans f8
        have hn : x.row l = none := by rw [hrow, row_none hl]; rfl
        refine ⟨by show 1 ≤ 1000; decide, fun ea hea => ⟨ea, _, rfl, upd_same, fun dx g1 g2 => ⟨rfl, dx, _, upd_same, (upd_ne g2).trans upd_same, ?_, ?_⟩⟩⟩
        · rw [upd_ne g2] at g1; exact g1
        · rw [del_upd hea g2]
          rw [upd_ne g2] at g1
          exact hR.no_ (-33) (by decide) (does_row_33 hnd hall hz hn) _ dx (k8.same (same_new g1)) (f28.trans (Fr.same (same_new g1))) (k8.off g1) upd_same
    · rintro σ H3 ⟨v2, v4, rfl, ⟨y, ts, k3, e1, e2, e3, hcl, hrow, hts, hF3⟩, f3, a3⟩
      rw [List.drop_length] at hrow
      have hr2 : x.row l = some (y, ts) := by rw [hrow]; show some (y, ts ++ []) = _; rw [List.append_nil]
      refine ⟨_, rfl, F, _, _, rfl, SqL.of hF3, nums_len _, sz (by show 1 ≤ 100000; decide), fun g hg => ⟨_, rfl, g, F, _, _, rfl, rfl, upd_same, (upd_ne (ne_of_none hF3 hg)).trans hF3, sz ?_, fun g2 hg2 => ?_⟩⟩
      · rw [nums_len, hts]; show 1 + _ ≤ _; omega
      · have z := hR.num_ ts.length ts (by rw [does_row hnd hall hz hr2]; rfl) (upd (upd H3 g (.lst [vn ts.length])) g2 (.lst ([vn ts.length] ++ nums ts))) L g2
        rw [does_row hnd hall hz hr2] at z
        have s9 := (same_new (o := .lst [vn ts.length]) hg).trans (same_new (o := .lst ([vn ts.length] ++ nums ts)) hg2)
        have fdy : FD D L y = FD D L x := fd_fun e1 e2
        refine z (k3.same s9) ?_ upd_same (k3.off ((same_new hg).free hg2)) ((f3.trans (Fr.same (same_new hg))).new hg2)
        show Fr (FD D L x) (FD D L y) _ _
        rw [fdy]
        exact f3.trans (Fr.same s9)
end
end Bp

namespace Bp
open PySem PySem.Spec PyProof.Rows L2
open Su65 (Abs Ply Roll)
/-! # Calls told apart -/
def constN : List Expr → List Nat → Prop
  | [], [] => True
  | (.Constant (.int z) _ _) :: es, n :: ns => z = (n : Int) ∧ constN es ns
  | _, _ => False
theorem pa_const {X : Cx} : ∀ (es : List Expr) (ns : List Nat), constN es ns → PA X es (fun _ H Q => Q (nums ns) H)
  | [], [], _ => pa_nil
  | [], _ :: _, h => h.elim
  | (.Constant (.int z) _ _) :: es, [], h => h.elim
  | (.Constant (.int z) k pos) :: es, n :: ns, h => pa_cons (pn n h.1) (pa_const es ns h.2) rfl
theorem at0 {a : Nat} {l : List Nat} : atI (nums (a :: l)) ((0 : Nat) : Int) = some (vn a) := atI_nat rfl
theorem at1 {a b : Nat} {l : List Nat} : atI (nums (a :: b :: l)) ((1 : Nat) : Int) = some (vn b) := atI_nat rfl
theorem does_splices_no {x : Abs} {p : Nat} (h : ¬ p < x.plies.length) : Su65.does x (.splices p) = (x, Su65.no (-2)) := by simp only [Su65.does]; exact if_pos (isP_f h)
theorem does_splices {x : Abs} {p : Nat} (h : p < x.plies.length) : Su65.does x (.splices p) = (x, Su65.list (x.ply p).splices) := by simp only [Su65.does]; exact if_neg (isP_t h)
def spOfPly (K : PySem.W.Frag) (A : Ad) : Sp := fun vs H Q E => ∃ (D : Addr) (L : Lay) (x : Abs) (k : Nat) (na : Addr) (ns : List Nat) (c : Su65.Call), vs = [.ref D, vn k, .ref na] ∧ Dk A H D L x ∧ SqL K H na (nums ns) ∧ PlyCall k ns c ∧ Res A D H L x (Su65.does x c) Q E
def spOfRoll (K : PySem.W.Frag) (A : Ad) : Sp := fun vs H Q E => ∃ (D : Addr) (L : Lay) (x : Abs) (k : Nat) (na : Addr) (ns : List Nat) (c : Su65.Call), vs = [.ref D, vn k, .ref na] ∧ Dk A H D L x ∧ SqL K H na (nums ns) ∧ RollCall k ns c ∧ Res A D H L x (Su65.does x c) Q E
section
variable {P : Program} {w : World} {K : PySem.W.Frag} {mg : Str → Option Value} {base : Heap} {A : Ad}
theorem ok_of_ply (T : Txt K mg A) : FnOk P w K mg base (L2.CX P w) 6 A.f_of_ply A.d_of_ply ["self", "call", "numbers"] (spOfPly K A) := by
  have G_lay : FnOk P w K mg base (L2.CX P w) 5 A.f_lay A.d_lay _ (spLay A) := ok_lay T
  have G_lift : FnOk P w K mg base (L2.CX P w) 5 A.f_lift A.d_lift _ (spLift A) := ok_lift T
  have G_least : FnOk P w K mg base (L2.CX P w) 5 A.f_least A.d_least _ (spLeast A) := ok_least T
  have G_best : FnOk P w K mg base (L2.CX P w) 5 A.f_best A.d_best _ (spBest A) := ok_best T
  have G_fits : FnOk P w K mg base (L2.CX P w) 5 A.f_fits A.d_fits _ (spFits A) := ok_fits T
  have G_near_two : FnOk P w K mg base (L2.CX P w) 5 A.f_near_two A.d_near_two _ (spNearTwo A) := ok_near_two T
  have G_ply_at : FnOk P w K mg base (L2.CX P w) 4 A.f_ply_at A.d_ply_at _ (spPlyAt A) := ok_ply_at T
  have G_where_ : FnOk P w K mg base (L2.CX P w) 5 A.f_where_ A.d_where_ _ (spWhere A) := ok_where_ T
  have G_look : FnOk P w K mg base (L2.CX P w) 5 A.f_look A.d_look _ (spLook A) := ok_look T
  refine T.F_of_ply.okX sc_of_ply (fun vs H Q E h => ?_) (fun cdv Ar outer s H vs Q E hr h => ?_)
  · obtain ⟨D, L, x, k, na, ns, c, rfl, _⟩ := h; rfl
  · obtain ⟨D, L, x, k, na, ns, c, rfl, hK, hn, hc, hR⟩ := h
    obtain ⟨d0, h0⟩ := hK.de
    refine ⟨_, (pss_cons (ps_if (pt_cmpR oEq (pv 1) (pn 3) (nomark _)) (pss_one (ps_ret (pe_meth (pv 0) T.cl_Desk T.m_lay G_lay (hr.mono (by decide)) T.b_lay .nil psX (pa_cons (pe_ix ix_list (pv 2) (pn 0) (fun _ _ => rfl)) (pa_cons (pe_ix ix_list (pv 2) (pn 1) (fun _ _ => rfl)) pa_nil))))) pss_nil)
      (pss_cons (ps_if (pt_cmpR oEq (pv 1) (pn 4) (nomark _)) (pss_one (ps_ret (pe_meth (pv 0) T.cl_Desk T.m_lift G_lift (hr.mono (by decide)) T.b_lift .nil psX (pa_cons (pe_ix ix_list (pv 2) (pn 0) (fun _ _ => rfl)) pa_nil)))) pss_nil)
      (pss_cons (ps_if (pt_cmpR oEq (pv 1) (pn 6) (nomark _)) (pss_one (ps_ret (pe_meth (pv 0) T.cl_Desk T.m_least G_least (hr.mono (by decide)) T.b_least .nil psX (pa_cons (pe_ix ix_list (pv 2) (pn 0) (fun _ _ => rfl)) pa_nil)))) pss_nil)
      (pss_cons (ps_if (pt_cmpR oEq (pv 1) (pn 7) (nomark _)) (pss_one (ps_ret (pe_meth (pv 0) T.cl_Desk T.m_best G_best (hr.mono (by decide)) T.b_best .nil psX (pa_cons (pe_ix ix_list (pv 2) (pn 0) (fun _ _ => rfl)) pa_nil)))) pss_nil)
      (pss_cons (ps_if (pt_cmpR oEq (pv 1) (pn 8) (nomark _)) (pss_one (ps_ret (pe_meth (pv 0) T.cl_Desk T.m_fits G_fits (hr.mono (by decide)) T.b_fits .nil psX (pa_cons (pe_ix ix_list (pv 2) (pn 0) (fun _ _ => rfl)) (pa_cons (pe_ix ix_list (pv 2) (pn 1) (fun _ _ => rfl)) pa_nil))))) pss_nil)
      (pss_cons (ps_if (pt_cmpR oEq (pv 1) (pn 9) (nomark _)) (pss_one (ps_ret (pe_meth (pv 0) T.cl_Desk T.m_near_two G_near_two (hr.mono (by decide)) T.b_near_two .nil psX (pa_cons (pe_ix ix_list (pv 2) (pn 0) (fun _ _ => rfl)) (pa_cons (pe_ix ix_list (pv 2) (pn 1) (fun _ _ => rfl)) pa_nil))))) pss_nil)
      (pss_cons (ps_if (pt_cmpR oEq (pv 1) (pn 11) (nomark _)) (pss_cons (ps_set (i := 3) sc_of_ply.nd rfl (Or.inl rfl) (pe_fld (pe_meth (pv 0) T.cl_Desk T.m_ply_at G_ply_at (hr.mono (by decide)) T.b_ply_at .nil psX (pa_cons (pe_ix ix_list (pv 2) (pn 0) (fun _ _ => rfl)) pa_nil)) rfl))
      (pss_one (ps_ret (pe_op op_cat (pe_lst (pa_cons (pe_callB cLen (by rfl) T.z_len PySem.boot_len (pa_cons (pv 3) pa_nil)) pa_nil)) (pv 3))))) pss_nil)
      (pss_cons (ps_if (pt_cmpR oEq (pv 1) (pn 12) (nomark _)) (pss_one (ps_ret (pe_meth (pv 0) T.cl_Desk T.m_where_ G_where_ (hr.mono (by decide)) T.b_where_ .nil psX (pa_cons (pe_ix ix_list (pv 2) (pn 0) (fun _ _ => rfl)) pa_nil)))) pss_nil)
      (pss_one (ps_ret (pe_meth (pv 0) T.cl_Desk T.m_look G_look (hr.mono (by decide)) T.b_look .nil psX (pa_cons (pe_ix ix_list (pv 2) (pn 0) (fun _ _ => rfl)) pa_nil)))))))))))), ?_⟩
    cases hc with
    | lay p t =>
      exact ⟨_, rfl, _, _, rfl, rfl, _, rfl, iteTr rfl ⟨_, rfl, D, d0, _, rfl, h0, lk_Desk_m_lay, _, rfl, na, _, _, _, rfl, rfl, hn, at0, _, rfl, na, _, _, _, rfl, rfl, hn, at1, D, L, x, p, t, rfl, hK, hR⟩⟩
    | lift p =>
      refine ⟨_, rfl, _, _, rfl, rfl, _, rfl, iteFa rfl ?_⟩
      exact ⟨_, rfl, _, _, rfl, rfl, _, rfl, iteTr rfl ⟨_, rfl, D, d0, _, rfl, h0, lk_Desk_m_lift, _, rfl, na, _, _, _, rfl, rfl, hn, at0, D, L, x, p, rfl, hK, hR⟩⟩
    | least p =>
      refine ⟨_, rfl, _, _, rfl, rfl, _, rfl, iteFa rfl ?_⟩
      refine ⟨_, rfl, _, _, rfl, rfl, _, rfl, iteFa rfl ?_⟩
      exact ⟨_, rfl, _, _, rfl, rfl, _, rfl, iteTr rfl ⟨_, rfl, D, d0, _, rfl, h0, lk_Desk_m_least, _, rfl, na, _, _, _, rfl, rfl, hn, at0, D, L, x, p, rfl, hK, hR⟩⟩
    | best p =>
      refine ⟨_, rfl, _, _, rfl, rfl, _, rfl, iteFa rfl ?_⟩
      refine ⟨_, rfl, _, _, rfl, rfl, _, rfl, iteFa rfl ?_⟩
      refine ⟨_, rfl, _, _, rfl, rfl, _, rfl, iteFa rfl ?_⟩
      exact ⟨_, rfl, _, _, rfl, rfl, _, rfl, iteTr rfl ⟨_, rfl, D, d0, _, rfl, h0, lk_Desk_m_best, _, rfl, na, _, _, _, rfl, rfl, hn, at0, D, L, x, p, rfl, hK, hR⟩⟩
    | fits p t =>
      refine ⟨_, rfl, _, _, rfl, rfl, _, rfl, iteFa rfl ?_⟩
      refine ⟨_, rfl, _, _, rfl, rfl, _, rfl, iteFa rfl ?_⟩
      refine ⟨_, rfl, _, _, rfl, rfl, _, rfl, iteFa rfl ?_⟩
      refine ⟨_, rfl, _, _, rfl, rfl, _, rfl, iteFa rfl ?_⟩
      exact ⟨_, rfl, _, _, rfl, rfl, _, rfl, iteTr rfl ⟨_, rfl, D, d0, _, rfl, h0, lk_Desk_m_fits, _, rfl, na, _, _, _, rfl, rfl, hn, at0, _, rfl, na, _, _, _, rfl, rfl, hn, at1, D, L, x, p, t, rfl, hK, hR⟩⟩
    | near p q =>
      refine ⟨_, rfl, _, _, rfl, rfl, _, rfl, iteFa rfl ?_⟩
      refine ⟨_, rfl, _, _, rfl, rfl, _, rfl, iteFa rfl ?_⟩
      refine ⟨_, rfl, _, _, rfl, rfl, _, rfl, iteFa rfl ?_⟩
      refine ⟨_, rfl, _, _, rfl, rfl, _, rfl, iteFa rfl ?_⟩
      refine ⟨_, rfl, _, _, rfl, rfl, _, rfl, iteFa rfl ?_⟩
      exact ⟨_, rfl, _, _, rfl, rfl, _, rfl, iteTr rfl ⟨_, rfl, D, d0, _, rfl, h0, lk_Desk_m_near_two, _, rfl, na, _, _, _, rfl, rfl, hn, at0, _, rfl, na, _, _, _, rfl, rfl, hn, at1, D, L, x, p, q, rfl, hK, hR⟩⟩
    | splices p =>
      refine ⟨_, rfl, _, _, rfl, rfl, _, rfl, iteFa rfl ?_⟩
      refine ⟨_, rfl, _, _, rfl, rfl, _, rfl, iteFa rfl ?_⟩
      refine ⟨_, rfl, _, _, rfl, rfl, _, rfl, iteFa rfl ?_⟩
      refine ⟨_, rfl, _, _, rfl, rfl, _, rfl, iteFa rfl ?_⟩
      refine ⟨_, rfl, _, _, rfl, rfl, _, rfl, iteFa rfl ?_⟩
      refine ⟨_, rfl, _, _, rfl, rfl, _, rfl, iteFa rfl ?_⟩
      refine ⟨_, rfl, _, _, rfl, rfl, _, rfl, iteTr rfl ⟨_, rfl, D, d0, _, rfl, h0, lk_Desk_m_ply_at, _, rfl, na, _, _, _, rfl, rfl, hn, at0, D, L, x, p, rfl, hK, fun hp => ?_, fun hp => hR.no hK (Same.refl _) (does_splices_no hp)⟩⟩
      obtain ⟨d3, h3⟩ := hK.st.py p hp
      have hs := hK.st.sp p hp
      refine ⟨L.pa p, A.cPly, d3, _, _, rfl, h3, T.cl_Ply, T.n_Ply_splices, lk_Ply_splices, _, rfl, L.la p, _, _, rfl, SqL.of hs, nums_len _, sz (by show 1 ≤ 100000; decide), fun g hg => ⟨_, rfl, g, L.la p, _, _, rfl, rfl, upd_same, (upd_ne (ne_of_none hs hg)).trans hs, sz ?_, hR.lst hK (does_splices hp) (same_new hg) rfl⟩⟩
      rw [nums_len]
      have := (hK.wf.py _ (ply_mem hp)).len
      show 1 + _ ≤ _
      omega
    | where_ p =>
      refine ⟨_, rfl, _, _, rfl, rfl, _, rfl, iteFa rfl ?_⟩
      refine ⟨_, rfl, _, _, rfl, rfl, _, rfl, iteFa rfl ?_⟩
      refine ⟨_, rfl, _, _, rfl, rfl, _, rfl, iteFa rfl ?_⟩
      refine ⟨_, rfl, _, _, rfl, rfl, _, rfl, iteFa rfl ?_⟩
      refine ⟨_, rfl, _, _, rfl, rfl, _, rfl, iteFa rfl ?_⟩
      refine ⟨_, rfl, _, _, rfl, rfl, _, rfl, iteFa rfl ?_⟩
      refine ⟨_, rfl, _, _, rfl, rfl, _, rfl, iteFa rfl ?_⟩
      exact ⟨_, rfl, _, _, rfl, rfl, _, rfl, iteTr rfl ⟨_, rfl, D, d0, _, rfl, h0, lk_Desk_m_where, _, rfl, na, _, _, _, rfl, rfl, hn, at0, D, L, x, p, rfl, hK, hR⟩⟩
    | look p =>
      refine ⟨_, rfl, _, _, rfl, rfl, _, rfl, iteFa rfl ?_⟩
      refine ⟨_, rfl, _, _, rfl, rfl, _, rfl, iteFa rfl ?_⟩
      refine ⟨_, rfl, _, _, rfl, rfl, _, rfl, iteFa rfl ?_⟩
      refine ⟨_, rfl, _, _, rfl, rfl, _, rfl, iteFa rfl ?_⟩
      refine ⟨_, rfl, _, _, rfl, rfl, _, rfl, iteFa rfl ?_⟩
      refine ⟨_, rfl, _, _, rfl, rfl, _, rfl, iteFa rfl ?_⟩
      refine ⟨_, rfl, _, _, rfl, rfl, _, rfl, iteFa rfl ?_⟩
      refine ⟨_, rfl, _, _, rfl, rfl, _, rfl, iteFa rfl ?_⟩
      exact ⟨_, rfl, D, d0, _, rfl, h0, lk_Desk_m_look, _, rfl, na, _, _, _, rfl, rfl, hn, at0, D, L, x, p, rfl, hK, hR⟩
theorem ok_of_roll (T : Txt K mg A) : FnOk P w K mg base (L2.CX P w) 6 A.f_of_roll A.d_of_roll ["self", "call", "numbers"] (spOfRoll K A) := by
  have G_put_roll : FnOk P w K mg base (L2.CX P w) 5 A.f_put_roll A.d_put_roll _ (spPutRoll A) := ok_put_roll T
  have G_put_ply : FnOk P w K mg base (L2.CX P w) 5 A.f_put_ply A.d_put_ply _ (spPutPly A) := ok_put_ply T
  have G_most : FnOk P w K mg base (L2.CX P w) 5 A.f_most A.d_most _ (spMost A) := ok_most T
  have G_piece : FnOk P w K mg base (L2.CX P w) 5 A.f_piece A.d_piece _ (spPiece A) := ok_piece T
  have G_rest : FnOk P w K mg base (L2.CX P w) 5 A.f_rest A.d_rest _ (spRest A) := ok_rest T
  refine T.F_of_roll.okX sc_of_roll (fun vs H Q E h => ?_) (fun cdv Ar outer s H vs Q E hr h => ?_)
  · obtain ⟨D, L, x, k, na, ns, c, rfl, _⟩ := h; rfl
  · obtain ⟨D, L, x, k, na, ns, c, rfl, hK, hn, hc, hR⟩ := h
    obtain ⟨d0, h0⟩ := hK.de
    refine ⟨_, (pss_cons (ps_if (pt_cmpR oEq (pv 1) (pn 1) (nomark _)) (pss_one (ps_ret (pe_meth (pv 0) T.cl_Desk T.m_put_roll G_put_roll (hr.mono (by decide)) T.b_put_roll .nil psX (pa_cons (pe_ix ix_list (pv 2) (pn 0) (fun _ _ => rfl)) (pa_cons (pe_ix ix_list (pv 2) (pn 1) (fun _ _ => rfl)) pa_nil))))) pss_nil)
      (pss_cons (ps_if (pt_cmpR oEq (pv 1) (pn 2) (nomark _)) (pss_one (ps_ret (pe_meth (pv 0) T.cl_Desk T.m_put_ply G_put_ply (hr.mono (by decide)) T.b_put_ply .nil psX (pa_cons (pe_ix ix_list (pv 2) (pn 0) (fun _ _ => rfl)) (pa_cons (pe_ix ix_list (pv 2) (pn 1) (fun _ _ => rfl)) pa_nil))))) pss_nil)
      (pss_cons (ps_if (pt_cmpR oEq (pv 1) (pn 13) (nomark _)) (pss_one (ps_ret (pe_meth (pv 0) T.cl_Desk T.m_most G_most (hr.mono (by decide)) T.b_most .nil psX (pa_cons (pe_ix ix_list (pv 2) (pn 0) (fun _ _ => rfl)) (pa_cons (pe_ix ix_list (pv 2) (pn 1) (fun _ _ => rfl)) pa_nil))))) pss_nil)
      (pss_cons (ps_if (pt_cmpR oEq (pv 1) (pn 14) (nomark _)) (pss_one (ps_ret (pe_meth (pv 0) T.cl_Desk T.m_piece G_piece (hr.mono (by decide)) T.b_piece .nil psX (pa_cons (pe_ix ix_list (pv 2) (pn 0) (fun _ _ => rfl)) pa_nil)))) pss_nil)
      (pss_one (ps_ret (pe_meth (pv 0) T.cl_Desk T.m_rest G_rest (hr.mono (by decide)) T.b_rest .nil psX (pa_cons (pe_ix ix_list (pv 2) (pn 0) (fun _ _ => rfl)) pa_nil)))))))), ?_⟩
    cases hc with
    | roll a b =>
      exact ⟨_, rfl, _, _, rfl, rfl, _, rfl, iteTr rfl ⟨_, rfl, D, d0, _, rfl, h0, lk_Desk_m_put_roll, _, rfl, na, _, _, _, rfl, rfl, hn, at0, _, rfl, na, _, _, _, rfl, rfl, hn, at1, D, L, x, a, b, rfl, hK, hR⟩⟩
    | ply a b =>
      refine ⟨_, rfl, _, _, rfl, rfl, _, rfl, iteFa rfl ?_⟩
      exact ⟨_, rfl, _, _, rfl, rfl, _, rfl, iteTr rfl ⟨_, rfl, D, d0, _, rfl, h0, lk_Desk_m_put_ply, _, rfl, na, _, _, _, rfl, rfl, hn, at0, _, rfl, na, _, _, _, rfl, rfl, hn, at1, D, L, x, a, b, rfl, hK, hR⟩⟩
    | most a b =>
      refine ⟨_, rfl, _, _, rfl, rfl, _, rfl, iteFa rfl ?_⟩
      refine ⟨_, rfl, _, _, rfl, rfl, _, rfl, iteFa rfl ?_⟩
      exact ⟨_, rfl, _, _, rfl, rfl, _, rfl, iteTr rfl ⟨_, rfl, D, d0, _, rfl, h0, lk_Desk_m_most, _, rfl, na, _, _, _, rfl, rfl, hn, at0, _, rfl, na, _, _, _, rfl, rfl, hn, at1, D, L, x, a, b, rfl, hK, hR⟩⟩
    | piece a =>
      refine ⟨_, rfl, _, _, rfl, rfl, _, rfl, iteFa rfl ?_⟩
      refine ⟨_, rfl, _, _, rfl, rfl, _, rfl, iteFa rfl ?_⟩
      refine ⟨_, rfl, _, _, rfl, rfl, _, rfl, iteFa rfl ?_⟩
      exact ⟨_, rfl, _, _, rfl, rfl, _, rfl, iteTr rfl ⟨_, rfl, D, d0, _, rfl, h0, lk_Desk_m_piece, _, rfl, na, _, _, _, rfl, rfl, hn, at0, D, L, x, a, rfl, hK, hR⟩⟩
    | rest a =>
      refine ⟨_, rfl, _, _, rfl, rfl, _, rfl, iteFa rfl ?_⟩
      refine ⟨_, rfl, _, _, rfl, rfl, _, rfl, iteFa rfl ?_⟩
      refine ⟨_, rfl, _, _, rfl, rfl, _, rfl, iteFa rfl ?_⟩
      refine ⟨_, rfl, _, _, rfl, rfl, _, rfl, iteFa rfl ?_⟩
      exact ⟨_, rfl, D, d0, _, rfl, h0, lk_Desk_m_rest, _, rfl, na, _, _, _, rfl, rfl, hn, at0, D, L, x, a, rfl, hK, hR⟩
end
end Bp

namespace Bp
open PySem PySem.Spec PyProof.Rows L2
open Su65 (Abs Ply Roll)
/-! # Any call, answered or refused -/
/-- what was begun, and the addresses that belong to it -/
def DS (A : Ad) (H : Hp) (D : Addr) (M : Addr → Prop) : Option Abs → Prop
  | none => (∃ dx, H D = some (.ins A.cDesk dx (fDe .non))) ∧ M = fun b => b = D
  | some x => ∃ L, Dk A H D L x ∧ M = FD D L x
theorem DS.same {A : Ad} {H H' : Hp} {D : Addr} {M : Addr → Prop} : ∀ {s : Option Abs}, DS A H D M s → Same H H' → DS A H' D M s
  | none, ⟨⟨dx, h⟩, e⟩, k => ⟨⟨dx, k _ _ h⟩, e⟩
  | some x, ⟨L, h, e⟩, k => ⟨L, h.same k, e⟩
theorem DS.off {A : Ad} {H : Hp} {D : Addr} {M : Addr → Prop} {b : Addr} : ∀ {s : Option Abs}, DS A H D M s → H b = none → ¬ M b
  | none, ⟨⟨dx, h⟩, e⟩, k => fun z => by rw [e] at z; rw [show b = D from z, h] at k; cases k
  | some x, ⟨L, h, e⟩, k => fun z => by rw [e] at z; exact h.off k z
theorem DS.desk {A : Ad} {H : Hp} {D : Addr} {M : Addr → Prop} : ∀ {s : Option Abs}, DS A H D M s → (∃ dx v, H D = some (.ins A.cDesk dx (fDe v)) ∧ (s = none → v = .non) ∧ (s ≠ none → v ≠ .non)) ∧ M D
  | none, ⟨⟨dx, h⟩, e⟩ => ⟨⟨dx, _, h, fun _ => rfl, fun z => absurd rfl z⟩, by rw [e]⟩
  | some x, ⟨L, h, e⟩ => by
    obtain ⟨dx, h0⟩ := h.de
    exact ⟨⟨dx, _, h0, (fun z => absurd z (by simp)), (fun _ z => by cases z)⟩, by rw [e]; exact .inl rfl⟩
/-- changed elsewhere, a store's parts stand -/
theorem DS.mono {A : Ad} {H H' : Hp} {D : Addr} {M : Addr → Prop} (k : ∀ b o, M b → H b = some o → H' b = some o) : ∀ {s : Option Abs}, DS A H D M s → DS A H' D M s
  | none, ⟨⟨dx, h⟩, e⟩ => ⟨⟨dx, k _ _ (by rw [e]) h⟩, e⟩
  | some x, ⟨L, h, e⟩ => by
    obtain ⟨dx, h0⟩ := h.de
    exact ⟨L, ⟨⟨dx, k _ _ (by rw [e]; exact .inl rfl) h0⟩, h.st.mono fun b o f g => k b o (by rw [e]; exact .inr f) g, h.wf⟩, e⟩
structure ResS (A : Ad) (D : Addr) (H : Hp) (M : Addr → Prop) (s : Option Abs) (r : Option Abs × Su65.Ans) (Q : VK) (E : XK) : Prop where
  no_ : ∀ v : Int, v < 0 → r = (s, Su65.no v) → ∀ H' d, DS A H' D M s → Fr M M H H' → ¬ M d → H' d = some (.xd [("refusal", .int v)]) → E (.ref A.cRef) (some d) H'
  num_ : ∀ n l, r.2 = Su65.num n l → ∀ H' M' p, DS A H' D M' r.1 → Fr M M' H H' → H' p = some (.lst (nums (n :: l))) → ¬ M' p → (∀ b o, H b = some o → ¬ M b → p ≠ b) → Q (.ref p) H'
theorem ResS.res {A : Ad} {D : Addr} {H : Hp} {L : Lay} {x : Abs} {c : Su65.Call} {Q : VK} {E : XK} (z : ResS A D H (FD D L x) (some x) (Su65.step (some x) c) Q E) : Res A D H L x (Su65.does x c) Q E := by
  have e : Su65.step (some x) c = (some (Su65.does x c).1, (Su65.does x c).2) := rfl
  rw [e] at z
  refine ⟨fun v hv er H' d k f hd hl => ?_, fun n l er H' L' p k f hp hd nw => ?_⟩
  · exact z.no_ v hv (by rw [er]) H' d ⟨L, k, rfl⟩ f hd hl
  · exact z.num_ n l er H' (FD D L' (Su65.does x c).1) p ⟨L', k, rfl⟩ f hp hd nw
theorem ResS.no {A : Ad} {D : Addr} {H : Hp} {M : Addr → Prop} {s : Option Abs} {r : Option Abs × Su65.Ans} {Q : VK} {E : XK} (z : ResS A D H M s r Q E) {v : Int} (k : DS A H D M s) (er : r = (s, Su65.no v)) (hv : v < 0 := by decide) : Rf A v E H := fun d hd =>
  z.no_ v hv er _ d (k.same (same_new hd)) (Fr.same (same_new hd)) (k.off hd) upd_same
theorem step_none {k : Nat} {ns l : List Nat} {c : Su65.Call} (h : AnyCall k ns l c) (h0 : k ≠ 0) : Su65.step none c = (none, Su65.no (-11)) := by
  cases h with
  | begin_ => exact absurd rfl h0
  | ply h => cases h <;> rfl
  | roll h => cases h <;> rfl
  | row => rfl
  | all => rfl
  | at_ => rfl
  | sums => rfl
  | state => rfl
theorem step_beg_no {s : Option Abs} {a b c r d t : Nat} (h : ¬ BegOk a b c r d t) : Su65.step s (.begin_ a b c r d t) = (s, Su65.no (-22)) := by
  have h' := Decidable.not_not.mp h
  have e : ∀ x, Su65.does x (.begin_ a b c r d t) = (x, Su65.no (-22)) := fun x => by simp only [Su65.does]; exact if_pos h'
  cases s with
  | none =>
    show (let x := Su65.does (Su65.new 1 1 100 0 1) (.begin_ a b c r d t); (if x.2.value < 0 then none else some x.1, x.2)) = _
    rw [e]; rfl
  | some x =>
    show (some (Su65.does x (.begin_ a b c r d t)).1, (Su65.does x (.begin_ a b c r d t)).2) = _
    rw [e]
theorem step_beg {s : Option Abs} {a b c r d t : Nat} (h : BegOk a b c r d t) : Su65.step s (.begin_ a b c r d t) = (some (Su65.new a c r d t), Su65.no 0) := by
  have e : ∀ x, Su65.does x (.begin_ a b c r d t) = (Su65.new a c r d t, Su65.no 0) := fun x => by simp only [Su65.does]; exact if_neg h
  cases s with
  | none =>
    show (let x := Su65.does (Su65.new 1 1 100 0 1) (.begin_ a b c r d t); (if x.2.value < 0 then none else some x.1, x.2)) = _
    rw [e]; rfl
  | some x =>
    show (some (Su65.does x (.begin_ a b c r d t)).1, (Su65.does x (.begin_ a b c r d t)).2) = _
    rw [e]
theorem does_all (x : Abs) : Su65.does x .all = (x, Su65.num x.least2 x.laid) := rfl
def spAnswer (K : PySem.W.Frag) (A : Ad) : Sp := fun vs H Q E => ∃ (D : Addr) (M : Addr → Prop) (s : Option Abs) (k : Nat) (na pa : Addr) (ns l : List Nat) (c : Su65.Call), vs = [.ref D, vn k, .ref na, .ref pa] ∧ DS A H D M s ∧ SqL K H na (nums ns) ∧ H pa = some (.lst (nums l)) ∧ ¬ M pa ∧
  AnyCall k ns l c ∧ ResS A D H M s (Su65.step s c) Q E
def spAnswered (K : PySem.W.Frag) (A : Ad) : Sp := fun vs H Q E => ∃ (D : Addr) (M : Addr → Prop) (s : Option Abs) (k : Nat) (na pa : Addr) (ns l : List Nat) (c : Su65.Call), vs = [.ref D, vn k, .ref na, .ref pa] ∧ DS A H D M s ∧ SqL K H na (nums ns) ∧ H pa = some (.lst (nums l)) ∧ ¬ M pa ∧
  AnyCall k ns l c ∧ ∀ H' M' p, DS A H' D M' (Su65.step s c).1 → Fr M M' H H' → H' p = some (.lst ((ansL (Su65.step s c).2).map V.int)) → ¬ M' p → (∀ b o, H b = some o → ¬ M b → p ≠ b) → Q (.ref p) H'
/-- o.m(e, ..) of a method that may raise, within a try: what it raises is wished for at the slots as they stand -/
def tMethE (C : Addr) (m : Str) (sp : Sp) (E : L2.St → XK) (ta : TE) (t : TA) : TE := fun σ H Q => ta σ H fun x H1 => ∃ a dx fs, x = .ref a ∧ H1 a = some (.ins C dx fs) ∧ fs.lookup m = none ∧ t σ H1 fun vs H2 => sp (x :: vs) H2 Q (E σ)
theorem pe_methE {X : Cx} {CX : CXT} {k : Nat} {f C : Addr} {fd : FuncData} {ps : List Str} {sp : Sp} {E : L2.St → XK} {m : Str} {pos apos : Pos} {e o : Expr} {es : List Expr} {ta : TE} {t : TA} {pl : Sem Bool} (ho : PE X o ta) (hC : Cls X.K C) (hM : Meth X.K C m f)
    (hF : FnOk X.prog X.w X.K X.mg X.base CX k f fd ps sp) (hr : Room k X.A) (hb : Binds X.K fd ps []) (hx : ∀ σ, PassesAt CX X σ (E σ)) (hA : PA X (e :: es) t)
    (hst : starEach (e :: es) X.env = (false, eval e X.env) :: starEach es X.env := by rfl) (hpl : (backTo pos (starEach es X.env)).any (·.1) = false := by rfl)
    (hev : eval (.Call (.Attribute o m apos) (e :: es) [] pos) X.env = (do
      let ov ← eval o X.env
      standAt apos.atName
      let (f, first) ← holding [ov] (getMethod ov m pl)
      callWith pos f first (backTo pos (starEach (e :: es) X.env)) (backToKw pos (keywordEach [] X.env))) := by rfl) :
    PE X (.Call (.Attribute o m apos) (e :: es) [] pos) (tMethE C m sp E ta t) := by
  refine ⟨fun pins s σ H Q I h => ?_⟩
  refine PySem.W.methodCall_KW (pl := pl) (thn (ho.run pins s σ H _ I h) fun u s1 ⟨x, H1, I1, rx, a, dx, fs, ex, ea, l, q⟩ => ?_) hev
  subst ex
  obtain rfl : u = Value.ref a := rx
  refine getmeth_ok I1 ea hC hM l ?_
  refine PySem.W.callWith_K (first := [.ref a]) (h₀ := X.base) I.ok.mod.kin hM.kp (thn (hA.run pos pins s1 σ H1 _ I1 q) fun us s2 hh => ?_) hst hpl
  obtain ⟨vs, H2, I2, r, q2⟩ := hh
  exact ⟨I2.kIn, run_fnS (us := .ref a :: us) (vs := .ref a :: vs) hF hr hb (hx σ) I2 (.cons rfl r) q2⟩
theorem inPly {k : Nat} {ns : List Nat} {c : Su65.Call} (h : PlyCall k ns c) : inV (vn k) (nums [3, 4, 6, 7, 8, 9, 11, 12, 15]) = true := by cases h <;> rfl
theorem notPly {k : Nat} {ns : List Nat} {c : Su65.Call} (h : RollCall k ns c) : inV (vn k) (nums [3, 4, 6, 7, 8, 9, 11, 12, 15]) = false := by cases h <;> rfl
theorem inRoll {k : Nat} {ns : List Nat} {c : Su65.Call} (h : RollCall k ns c) : inV (vn k) (nums [1, 2, 13, 14, 16]) = true := by cases h <;> rfl
theorem ply_ne {k : Nat} {ns : List Nat} {c : Su65.Call} (h : PlyCall k ns c) : k ≠ 0 := by cases h <;> decide
theorem roll_ne {k : Nat} {ns : List Nat} {c : Su65.Call} (h : RollCall k ns c) : k ≠ 0 := by cases h <;> decide
section
variable {P : Program} {w : World} {K : PySem.W.Frag} {mg : Str → Option Value} {base : Heap} {A : Ad}
theorem ok_answer (T : Txt K mg A) : FnOk P w K mg base (L2.CX P w) 7 A.f_answer A.d_answer ["self", "call", "numbers", "plies"] (spAnswer K A) := by
  have G_begin : FnOk P w K mg base (L2.CX P w) 5 A.f_begin A.d_begin _ (spBegin K A) := ok_begin T
  have G_ask : FnOk P w K mg base (L2.CX P w) 3 A.f_ask A.d_ask _ (spAsk A) := ok_ask T
  have G_of_ply : FnOk P w K mg base (L2.CX P w) 6 A.f_of_ply A.d_of_ply _ (spOfPly K A) := ok_of_ply T
  have G_of_roll : FnOk P w K mg base (L2.CX P w) 6 A.f_of_roll A.d_of_roll _ (spOfRoll K A) := ok_of_roll T
  have G_row : FnOk P w K mg base (L2.CX P w) 6 A.f_row A.d_row _ (spRow K A) := ok_row T
  have G_nearest_of_all : FnOk P w K mg base CX0 4 A.f_nearest_of_all A.d_nearest_of_all _ (spNearestAll A) := ok_nearest_of_all T
  have G_laid : FnOk P w K mg base CX0 2 A.f_laid A.d_laid _ (spLaid A) := ok_laid T
  have G_at_place : FnOk P w K mg base (L2.CX P w) 5 A.f_at_place A.d_at_place _ (spAtPlace A) := ok_at_place T
  have G_sums : FnOk P w K mg base (L2.CX P w) 5 A.f_sums A.d_sums _ (spSums A) := ok_sums T
  have G_state : FnOk P w K mg base (L2.CX P w) 5 A.f_state A.d_state _ (spState A) := ok_state T
  refine T.F_answer.okX sc_answer (fun vs H Q E h => ?_) (fun cdv Ar outer s H vs Q E hr h => ?_)
  · obtain ⟨D, M, s, k, na, pa, ns, l, c, rfl, _⟩ := h; rfl
  · obtain ⟨D, M, s, k, na, pa, ns, l, c, rfl, hS, hn, hp, hoff, hc, hR⟩ := h
    obtain ⟨⟨d0, v0, h0, hv1, hv2⟩, hMD⟩ := hS.desk
    refine ⟨_, (pss_cons (ps_if (pt_cmpR oEq (pv 1) (pn 0) (nomark _)) (pss_one (ps_ret (pe_meth (pv 0) T.cl_Desk T.m_begin G_begin (hr.mono (by decide)) T.b_begin .nil psX (pa_cons (pv 2) pa_nil)))) pss_nil)
      (pss_cons (ps_expr (pe_call G_ask (hr.mono (by decide)) rfl T.g_ask T.F_ask.kp T.b_ask .nil psX (pa_cons (pe_cmpR op_notN (pe_fld (pv 0) rfl) pe_non (nomark _)) (pa_cons (pgz rfl T.k_NOT_BEGUN) pa_nil))))
      (pss_cons (ps_if (pt_cmpR op_in_seq (pv 1) (pe_tup (pa_const _ [3, 4, 6, 7, 8, 9, 11, 12, 15] ⟨rfl, rfl, rfl, rfl, rfl, rfl, rfl, rfl, rfl, trivial⟩)) (by rfl)) (pss_one (ps_ret (pe_meth (pv 0) T.cl_Desk T.m_of_ply G_of_ply (hr.mono (by decide)) T.b_of_ply .nil psX (pa_cons (pv 1) (pa_cons (pv 2) pa_nil))))) pss_nil)
      (pss_cons (ps_if (pt_cmpR op_in_seq (pv 1) (pe_tup (pa_const _ [1, 2, 13, 14, 16] ⟨rfl, rfl, rfl, rfl, rfl, trivial⟩)) (by rfl)) (pss_one (ps_ret (pe_meth (pv 0) T.cl_Desk T.m_of_roll G_of_roll (hr.mono (by decide)) T.b_of_roll .nil psX (pa_cons (pv 1) (pa_cons (pv 2) pa_nil))))) pss_nil)
      (pss_cons (ps_if (pt_cmpR oEq (pv 1) (pgn 5 rfl T.k_ROW) (nomark _)) (pss_one (ps_ret (pe_meth (pv 0) T.cl_Desk T.m_row G_row (hr.mono (by decide)) T.b_row .nil psX (pa_cons (pv 3) pa_nil)))) pss_nil)
      (pss_cons (ps_if (pt_cmpR oEq (pv 1) (pn 10) (nomark _)) (pss_one (ps_ret (pe_op op_cat (pe_lst (pa_cons (pe_meth0 (pe_fld (pv 0) rfl) T.cl_Store T.m_nearest_of_all G_nearest_of_all (hr.mono (by decide)) T.b_nearest_of_all .nil pass0) pa_nil)) (pe_meth0 (pe_fld (pv 0) rfl) T.cl_Store T.m_laid G_laid (hr.mono (by decide)) T.b_laid .nil pass0)))) pss_nil)
      (pss_cons (ps_if (pt_cmpR oEq (pv 1) (pn 17) (nomark _)) (pss_one (ps_ret (pe_meth (pv 0) T.cl_Desk T.m_at_place G_at_place (hr.mono (by decide)) T.b_at_place .nil psX (pa_cons (pe_ix ix_list (pv 2) (pn 0) (fun _ _ => rfl)) (pa_cons (pe_ix ix_list (pv 2) (pn 1) (fun _ _ => rfl)) pa_nil))))) pss_nil)
      (pss_cons (ps_if (pt_cmpR oEq (pv 1) (pn 18) (nomark _)) (pss_one (ps_ret (pe_meth0 (pv 0) T.cl_Desk T.m_sums G_sums (hr.mono (by decide)) T.b_sums .nil psX))) pss_nil)
      (pss_one (ps_ret (pe_meth0 (pv 0) T.cl_Desk T.m_state G_state (hr.mono (by decide)) T.b_state .nil psX))))))))))), ?_⟩
    refine ⟨_, rfl, _, _, rfl, rfl, _, rfl, ?_⟩
    by_cases hk0 : k = 0
    · refine iteTr (decide_eq_true hk0) ?_
      cases hc with
      | begin_ a b c r d t ha hb hcc =>
        refine ⟨_, rfl, D, d0, _, rfl, h0, lk_Desk_m_begin, _, rfl, D, na, d0, v0, a, b, c, r, d, t, rfl, h0, hn, ha, hb, hcc, fun hno => hR.no hS (step_beg_no hno), fun hok H' L p dk kp fo hpl hpoff nw => ?_⟩
        rw [step_beg hok] at hR
        refine hR.num_ 0 [] rfl H' (FD D L (Su65.new a c r d t)) p ⟨L, dk, rfl⟩ ⟨fun b o e hm => kp b o e fun z => hm (by rw [z]; exact hMD), fun b hb => ?_⟩ hpl hpoff (fun b o hb hm => nw b o hb fun z => hm (by rw [z]; exact hMD))
        rcases hb with hb | hb
        · rw [hb]; exact .inl hMD
        · exact .inr (fo b hb)
      | ply h => exact absurd hk0 (ply_ne h)
      | roll h => exact absurd hk0 (roll_ne h)
      | row => exact absurd hk0 (by decide)
      | all => exact absurd hk0 (by decide)
      | at_ => exact absurd hk0 (by decide)
      | sums => exact absurd hk0 (by decide)
      | state => exact absurd hk0 (by decide)
    refine iteFa (decide_eq_false hk0) ?_
    refine ⟨_, rfl, D, A.cDesk, d0, _, _, rfl, h0, T.cl_Desk, T.n_Desk_store, lk_Desk_store, rfl, _, _, rfl, fun hz => ?_, fun hz => ?_⟩
    rotate_left
    · cases s with
      | none => exact hR.no hS (step_none hc hk0)
      | some x => exact absurd hz (by simp [hv2 (by simp)])
    obtain ⟨x, rfl⟩ : ∃ x, s = some x := by
      cases s with
      | none => exact absurd hz (by simp [hv1 rfl])
      | some x => exact ⟨x, rfl⟩
    obtain ⟨L, hK, rfl⟩ := hS
    have hR2 := hR.res
    obtain ⟨d0, h0⟩ := hK.de
    obtain ⟨d1, h1⟩ := hK.st.st
    refine ⟨_, rfl, sz (by show 9 ≤ 100000; decide), fun t1 ht1 => ⟨t1, _, rfl, .inr (SqT.of upd_same), rfl, rfl, _, rfl, ?_⟩⟩
    have s1 := same_new (o := .tup (nums [3, 4, 6, 7, 8, 9, 11, 12, 15])) ht1
    have hK1 := hK.same s1
    have hR3 : Res A D (upd H t1 (.tup (nums [3, 4, 6, 7, 8, 9, 11, 12, 15]))) L x (Su65.does x c) Q E := ⟨fun v hv er H' d k f hd hl => hR2.no_ v hv er H' d k ((Fr.same s1).trans f) hd hl, fun n l er H' L' p k f hp hd nw => hR2.num_ n l er H' L' p k ((Fr.same s1).trans f) hp hd fun b o hb hm => nw b o (s1 b o hb) hm⟩
    have h01 := s1 _ _ h0
    have h11 := s1 _ _ h1
    cases hc with
    | begin_ => exact absurd rfl hk0
    | ply h => exact iteTr (inPly h) ⟨_, rfl, D, d0, _, rfl, h01, lk_Desk_m_of_ply, _, rfl, _, rfl, D, L, x, k, na, ns, c, rfl, hK1, s1.seq hn, h, hR3⟩
    | roll h =>
      refine iteFa (notPly h) ?_
      refine ⟨_, rfl, sz (by show 5 ≤ 100000; decide), fun t2 ht2 => ⟨t2, _, rfl, .inr (SqT.of upd_same), rfl, rfl, _, rfl, iteTr (inRoll h) ?_⟩⟩
      have s2 := same_new (o := .tup (nums [1, 2, 13, 14, 16])) ht2
      exact ⟨_, rfl, D, d0, _, rfl, s2 _ _ h01, lk_Desk_m_of_roll, _, rfl, _, rfl, D, L, x, k, na, ns, c, rfl, hK1.same s2, s2.seq (s1.seq hn), h, ⟨fun v hv er H' d k f hd hl => hR3.no_ v hv er H' d k ((Fr.same s2).trans f) hd hl, fun n l er H' L' p k f hp hd nw => hR3.num_ n l er H' L' p k ((Fr.same s2).trans f) hp hd fun b o hb hm => nw b o (s2 b o hb) hm⟩⟩
    | row l hl =>
      refine iteFa rfl ?_
      refine ⟨_, rfl, sz (by show 5 ≤ 100000; decide), fun t2 ht2 => ⟨t2, _, rfl, .inr (SqT.of upd_same), rfl, rfl, _, rfl, iteFa rfl ?_⟩⟩
      have s2 := same_new (o := .tup (nums [1, 2, 13, 14, 16])) ht2
      exact ⟨_, rfl, _, _, rfl, rfl, _, rfl, iteTr rfl ⟨_, rfl, D, d0, _, rfl, s2 _ _ h01, lk_Desk_m_row, _, rfl, D, L, x, pa, l, rfl, hK1.same s2, s2 _ _ (s1 _ _ hp), hoff, by omega, ⟨fun v hv er H' d k f hd hl => hR3.no_ v hv er H' d k ((Fr.same s2).trans f) hd hl, fun n l er H' L' p k f hp hd nw => hR3.num_ n l er H' L' p k ((Fr.same s2).trans f) hp hd fun b o hb hm => nw b o (s2 b o hb) hm⟩⟩⟩
    | all =>
      refine iteFa rfl ?_
      refine ⟨_, rfl, sz (by show 5 ≤ 100000; decide), fun t2 ht2 => ⟨t2, _, rfl, .inr (SqT.of upd_same), rfl, rfl, _, rfl, iteFa rfl ?_⟩⟩
      have s2 := same_new (o := .tup (nums [1, 2, 13, 14, 16])) ht2
      have s12 := s1.trans s2
      refine ⟨_, rfl, _, _, rfl, rfl, _, rfl, iteFa rfl ?_⟩
      refine ⟨_, rfl, _, _, rfl, rfl, _, rfl, iteTr rfl ⟨_, rfl, D, A.cDesk, d0, _, _, rfl, s12 _ _ h0, T.cl_Desk, T.n_Desk_store, lk_Desk_store, L.S, d1, _, rfl, s12 _ _ h1, lk_Store_m_nearest_of_all, L, x, rfl, hK.st.same s12, hK.wf, fun H3 e3 => ⟨sz (by show 1 ≤ 100000; decide), fun g hg => ?_⟩⟩⟩
      have s13 := s12.trans e3
      have s14 := s13.trans (same_new (o := .lst [vn x.least2]) hg)
      refine ⟨_, rfl, D, A.cDesk, d0, _, _, rfl, s14 _ _ h0, T.cl_Desk, T.n_Desk_store, lk_Desk_store, L.S, d1, _, rfl, s14 _ _ h1, lk_Store_m_laid, L, x, rfl, hK.st.same s14, hK.wf, fun q H4 e4 hq hql => ⟨g, q, _, _, rfl, rfl, e4 _ _ upd_same, hql, sz ?_, hR2.lst hK (does_all x) (s14.trans e4) rfl⟩⟩
      rw [nums_len]
      have := laid_len hK.wf
      show 1 + _ ≤ _
      omega
    | at_ i n =>
      refine iteFa rfl ?_
      refine ⟨_, rfl, sz (by show 5 ≤ 100000; decide), fun t2 ht2 => ⟨t2, _, rfl, .inr (SqT.of upd_same), rfl, rfl, _, rfl, iteFa rfl ?_⟩⟩
      have s2 := same_new (o := .tup (nums [1, 2, 13, 14, 16])) ht2
      have s12 := s1.trans s2
      refine ⟨_, rfl, _, _, rfl, rfl, _, rfl, iteFa rfl ?_⟩
      refine ⟨_, rfl, _, _, rfl, rfl, _, rfl, iteFa rfl ?_⟩
      exact ⟨_, rfl, _, _, rfl, rfl, _, rfl, iteTr rfl ⟨_, rfl, D, d0, _, rfl, s12 _ _ h0, lk_Desk_m_at_place, _, rfl, na, _, _, _, rfl, rfl, s12.seq hn, at0, _, rfl, na, _, _, _, rfl, rfl, s12.seq hn, at1, D, L, x, i, n, rfl, hK.same s12, ⟨fun v hv er H' d k f hd hl => hR3.no_ v hv er H' d k ((Fr.same s2).trans f) hd hl, fun n l er H' L' p k f hp hd nw => hR3.num_ n l er H' L' p k ((Fr.same s2).trans f) hp hd fun b o hb hm => nw b o (s2 b o hb) hm⟩⟩⟩
    | sums =>
      refine iteFa rfl ?_
      refine ⟨_, rfl, sz (by show 5 ≤ 100000; decide), fun t2 ht2 => ⟨t2, _, rfl, .inr (SqT.of upd_same), rfl, rfl, _, rfl, iteFa rfl ?_⟩⟩
      have s2 := same_new (o := .tup (nums [1, 2, 13, 14, 16])) ht2
      have s12 := s1.trans s2
      refine ⟨_, rfl, _, _, rfl, rfl, _, rfl, iteFa rfl ?_⟩
      refine ⟨_, rfl, _, _, rfl, rfl, _, rfl, iteFa rfl ?_⟩
      refine ⟨_, rfl, _, _, rfl, rfl, _, rfl, iteFa rfl ?_⟩
      exact ⟨_, rfl, _, _, rfl, rfl, _, rfl, iteTr rfl ⟨_, rfl, D, d0, _, rfl, s12 _ _ h0, lk_Desk_m_sums, D, L, x, rfl, hK.same s12, ⟨fun v hv er H' d k f hd hl => hR3.no_ v hv er H' d k ((Fr.same s2).trans f) hd hl, fun n l er H' L' p k f hp hd nw => hR3.num_ n l er H' L' p k ((Fr.same s2).trans f) hp hd fun b o hb hm => nw b o (s2 b o hb) hm⟩⟩⟩
    | state =>
      refine iteFa rfl ?_
      refine ⟨_, rfl, sz (by show 5 ≤ 100000; decide), fun t2 ht2 => ⟨t2, _, rfl, .inr (SqT.of upd_same), rfl, rfl, _, rfl, iteFa rfl ?_⟩⟩
      have s2 := same_new (o := .tup (nums [1, 2, 13, 14, 16])) ht2
      have s12 := s1.trans s2
      refine ⟨_, rfl, _, _, rfl, rfl, _, rfl, iteFa rfl ?_⟩
      refine ⟨_, rfl, _, _, rfl, rfl, _, rfl, iteFa rfl ?_⟩
      refine ⟨_, rfl, _, _, rfl, rfl, _, rfl, iteFa rfl ?_⟩
      refine ⟨_, rfl, _, _, rfl, rfl, _, rfl, iteFa rfl ?_⟩
      exact ⟨_, rfl, D, d0, _, rfl, s12 _ _ h0, lk_Desk_m_state, D, L, x, rfl, hK.same s12, ⟨fun v hv er H' d k f hd hl => hR3.no_ v hv er H' d k ((Fr.same s2).trans f) hd hl, fun n l er H' L' p k f hp hd nw => hR3.num_ n l er H' L' p k ((Fr.same s2).trans f) hp hd fun b o hb hm => nw b o (s2 b o hb) hm⟩⟩
theorem ans_no {s : Option Abs} {c : Su65.Call} {v : Int} (h : Su65.step s c = (s, Su65.no v)) : (ansL (Su65.step s c).2).map V.int = [V.int v] := by rw [h]; rfl
theorem ans_num {s : Option Abs} {c : Su65.Call} {n : Nat} {l : List Nat} (h : (Su65.step s c).2 = Su65.num n l) : (ansL (Su65.step s c).2).map V.int = nums (n :: l) := by
  rw [h, nums_int]; rfl
theorem ok_answered (T : Txt K mg A) : FnOk P w K mg base CX0 8 A.f_answered A.d_answered ["desk", "call", "numbers", "plies"] (spAnswered K A) := by
  have G_answer : FnOk P w K mg base (L2.CX P w) 7 A.f_answer A.d_answer _ (spAnswer K A) := ok_answer T
  refine T.F_answered.ok sc_answered (fun vs H Q E h => ?_) (fun cdv Ar outer s H vs Q E hr h => ?_)
  · obtain ⟨D, M, s, k, na, pa, ns, l, c, rfl, _⟩ := h; rfl
  · obtain ⟨D, M, s, k, na, pa, ns, l, c, rfl, hS, hn, hp, hoff, hc, hR⟩ := h
    obtain ⟨⟨d0, v0, h0, hv1, hv2⟩, hMD⟩ := hS.desk
    refine ⟨_, pss_one (ps_try_as (i := 4) (tb := fun W => tRet (tMethE A.cDesk "answer" (spAnswer K A) (WE W) (tVar 0) (tCons (tVar 1) (tCons (tVar 2) (tCons (tVar 3) tNil))))) (ts := fun a cls d => tRet (tLst (tCons (tXf a cls d A.cRef "refusal" (tVar 4)) tNil))) (Wout := fun _ _ _ _ => False)
      rfl rfl sc_answered.nd rfl rfl ⟨rfl, by decide, Or.inl T.gC⟩ takes0
      (fun W pn xe tk _ => pss_one (ps_ret (by exact (pe_methE (pv 0) T.cl_Desk T.m_answer G_answer (hr.mono (by decide)) T.b_answer (fun σ => passAt tk σ) (by exact (pa_cons (pv 1) (pa_cons (pv 2) (pa_cons (pv 3) pa_nil))))))))
      (fun a oe cls d pn hz hf => pss_one (ps_ret (pe_lst (pa_cons (pe_xf T.xf T.nx hz hf (pv 4)) pa_nil))))), ?_⟩
    refine ⟨_, rfl, D, d0, _, rfl, h0, lk_Desk_m_answer, _, rfl, _, rfl, _, rfl, D, M, s, k, na, pa, ns, l, c, rfl, hS, hn, hp, hoff, hc, fun v hv er H' d k' f hd hl => ?_, fun n m er H' M' p k' f hpl hd nw => ?_⟩
    · refine ⟨true, T.te, fun _ a0 ha0 => ?_, fun q => Bool.noConfusion q⟩
      refine ⟨_, rfl, rfl, rfl, d, _, _, rfl, hl, lk_here, sz (by show 1 ≤ 100000; decide), fun g hg => ?_⟩
      have e1 : (Su65.step s c).1 = s := by rw [er]
      exact hR _ M g (by rw [e1]; exact k'.same (same_new hg)) (f.trans (Fr.same (same_new hg))) (by rw [upd_same, ans_no er]) (k'.off hg) (f.new hg)
    · exact hR H' M' p k' f (by rw [ans_num er]; exact hpl) hd nw
end
end Bp

namespace Bp
open PySem PySem.Spec PyProof.Rows L2
open Su65 (Abs Ply Roll)
/-! # All calls, one behind another -/
theorem cut_nums {l : List Nat} {i j : Nat} (h : i ≤ j) (h2 : j ≤ l.length) : cutV (nums l) (some (i : Int)) (some (j : Int)) = nums ((l.drop i).take (j - i)) := by
  have e1 : min i l.length = i := Nat.min_eq_left (by omega)
  have e2 : min j l.length = j := Nat.min_eq_left h2
  unfold cutV
  rw [nums_len, HT.sIx_nat, HT.sIx_nat, e1, e2]
  unfold nums
  rw [List.map_take, List.map_drop]
def MANYL : List Nat := [6, 2, 2, 2, 1, 0, 1, 1, 2, 2, 0, 1, 1, 2, 1, 1, 1, 2, 0, 0]
theorem many_at {k : Nat} {ns l : List Nat} {c : Su65.Call} (h : AnyCall k ns l c) : atI (nums MANYL) ((k : Nat) : Int) = some (vn ns.length) := by
  cases h with
  | begin_ => exact atI_nat rfl
  | ply h => cases h <;> exact atI_nat rfl
  | roll h => cases h <;> exact atI_nat rfl
  | row => exact atI_nat rfl
  | all => exact atI_nat rfl
  | at_ => exact atI_nat rfl
  | sums => exact atI_nat rfl
  | state => exact atI_nat rfl
theorem call_row {k : Nat} {ns l : List Nat} {c : Su65.Call} (h : AnyCall k ns l c) : (k = 5 ∧ ns = [] ∧ l.length ≤ 16) ∨ (k ≠ 5 ∧ l = []) := by
  cases h with
  | begin_ => exact .inr ⟨by decide, rfl⟩
  | ply h => exact .inr ⟨by cases h <;> decide, rfl⟩
  | roll h => exact .inr ⟨by cases h <;> decide, rfl⟩
  | row l hl => exact .inl ⟨rfl, rfl, hl⟩
  | all => exact .inr ⟨by decide, rfl⟩
  | at_ => exact .inr ⟨by decide, rfl⟩
  | sums => exact .inr ⟨by decide, rfl⟩
  | state => exact .inr ⟨by decide, rfl⟩
theorem ans_len {A : Ad} {H : Hp} {D : Addr} {M : Addr → Prop} {s : Option Abs} (hS : DS A H D M s) {k : Nat} {ns l : List Nat} {c : Su65.Call} (h : AnyCall k ns l c) : (ansL (Su65.step s c).2).length ≤ 21 := by
  unfold ansL toI
  rw [List.length_cons, List.length_map]
  cases s with
  | some x =>
    obtain ⟨L, hK, _⟩ := hS
    have := out_len hK.wf h
    show (Su65.does x c).2.out.length + 1 ≤ 21
    omega
  | none =>
    by_cases h0 : k = 0
    · cases h with
      | begin_ a b c r d t =>
        by_cases hb : BegOk a b c r d t
        · rw [step_beg hb]; show 0 + 1 ≤ 21; decide
        · rw [step_beg_no hb]; show 0 + 1 ≤ 21; decide
      | ply h => exact absurd h0 (ply_ne h)
      | roll h => exact absurd h0 (roll_ne h)
      | row => exact absurd h0 (by decide)
      | all => exact absurd h0 (by decide)
      | at_ => exact absurd h0 (by decide)
      | sums => exact absurd h0 (by decide)
      | state => exact absurd h0 (by decide)
    · rw [step_none h h0]; show 0 + 1 ≤ 21; decide
/-- the list that's handed in: it stands where it stood -/
def Inp (K : PySem.W.Frag) (a : Addr) (xs : List V) (F : Addr) (H : Hp) (M : Addr → Prop) : Prop := (∀ H' : Hp, SqL K H' a xs) ∨ ∃ o, H a = some o ∧ ¬ M a ∧ a ≠ F ∧ ∀ H' : Hp, H' a = some o → SqL K H' a xs
theorem inp_of {K : PySem.W.Frag} {a : Addr} {xs : List V} {H : Hp} (h : SqL K H a xs) : (∀ H' : Hp, SqL K H' a xs) ∨ ∃ o, H a = some o ∧ ∀ H' : Hp, H' a = some o → SqL K H' a xs := by
  rcases h with (h | ⟨o, h⟩) | h
  · exact .inr ⟨_, h, fun H' z => .inl (.inl z)⟩
  · exact .inr ⟨_, h, fun H' z => .inl (.inr ⟨o, z⟩)⟩
  · exact .inl fun _ => .inr h
section
variable {K : PySem.W.Frag} {a F : Addr} {xs : List V} {H H' : Hp} {M M' : Addr → Prop}
theorem Inp.seq (h : Inp K a xs F H M) : SqL K H a xs := by
  rcases h with h | ⟨o, h1, _, _, h3⟩
  · exact h H
  · exact h3 H h1
theorem Inp.fr (h : Inp K a xs F H M) (f : Fr M M' H H') : Inp K a xs F H' M' := by
  rcases h with h | ⟨o, h1, h2, h4, h3⟩
  · exact .inl h
  · refine .inr ⟨o, f.out a o h1 h2, fun z => ?_, h4, h3⟩
    rcases f.foot a z with e | e
    · exact h2 e
    · rw [h1] at e; cases e
theorem Inp.same (h : Inp K a xs F H M) (e : Same H H') : Inp K a xs F H' M := h.fr (Fr.same e)
theorem Inp.at_ {o : HO} (h : Inp K a xs F H M) : Inp K a xs F (upd H F o) M := by
  rcases h with h | ⟨u, h1, h2, h4, h3⟩
  · exact .inl h
  · exact .inr ⟨u, by rw [upd_ne h4]; exact h1, h2, h4, h3⟩
end
theorem vints_app (l m : List Int) : (l ++ m).map V.int = l.map V.int ++ m.map V.int := List.map_append
/-- what stands behind a call's reading: it's answered, the answer is put behind those before -/
def tTail (K : PySem.W.Frag) (A : Ad) : TS :=
  tSeq (tAsg (tVar 5) (gName 3)) (tSeq (tAsg (tCall (spAnswered K A) [] E0 (tCons (tVar 1) (tCons (tVar 4) (tCons (tVar 6) (tCons (tVar 7) tNil))))) (gName 8))
    (tSeq (tDrop (tBM K "list" rAppend (tVar 2) (tCons (tCB (rLe K) (tCons (tVar 8) tNil)) tNil))) (tDrop (tBM K "list" rExtend (tVar 2) (tCons (tVar 8) tNil)))))
theorem tail_ok {K : PySem.W.Frag} {A : Ad} {D F a na pa : Addr} {xs : List V} {H2 H4 : Hp} {M : Addr → Prop} {s : Option Abs} {fd : List Int} {k i2 : Nat} {nn l : List Nat} {c : Su65.Call} {v3 v8 : Option V} {Dn : Ends}
    (hS : DS A H2 D M s) (hFM : ¬ M F) (hF2 : H2 F = some (.lst (fd.map V.int))) (hI : Inp K a xs F H2 M) (hc : AnyCall k nn l c) (e4 : Same H2 H4) (hna : SqL K H4 na (nums nn)) (hpa : H4 pa = some (.lst (nums l))) (hpa2 : H2 pa = none) (hsz : fd.length ≤ 8800)
    (hN : ∀ (H' : Hp) (M' : Addr → Prop) (v : Option V), DS A H' D M' (Su65.step s c).1 → ¬ M' F → H' F = some (.lst ((fd ++ (((ansL (Su65.step s c).2).length : Int) :: ansL (Su65.step s c).2)).map V.int)) → Inp K a xs F H' M' →
      Dn.nx [some (.ref a), some (.ref D), some (.ref F), some (vn i2), some (vn k), some (vn i2), some (.ref na), some (.ref pa), v] H') :
    tTail K A Dn [some (.ref a), some (.ref D), some (.ref F), v3, some (vn k), some (vn i2), some (.ref na), some (.ref pa), v8] H4 := by
  refine ⟨_, rfl, _, rfl, _, rfl, _, rfl, _, rfl, D, M, s, k, na, pa, nn, l, c, rfl, hS.same e4, hna, hpa, hS.off hpa2, hc, fun H5 M' p k5 f5 hp5 hoff5 nw => ?_⟩
  have h21 := ans_len hS hc
  generalize hA : ansL (Su65.step s c).2 = an at hp5 h21 hN
  have hF4 := e4 _ _ hF2
  have hF5 := f5.out F _ hF4 hFM
  have hpF : p ≠ F := nw F _ hF4 hFM
  have hFM' : ¬ M' F := fun z => by
    rcases f5.foot F z with e | e
    · exact hFM e
    · rw [hF4] at e; cases e
  refine ⟨_, rfl, .inl ⟨rfl, _, SqL.of hF5⟩, _, rfl, p, _, an.length, rfl, SqL.of hp5, List.length_map _, F, _, _, rfl, rfl, hF5, szl (by rw [List.length_map]; omega), ?_⟩
  refine ⟨_, rfl, .inl ⟨rfl, _, SqL.of upd_same⟩, _, rfl, F, p, _, _, rfl, rfl, upd_same, (upd_ne hpF).trans hp5, sz ?_, ?_⟩
  · rw [List.length_append, List.length_map, List.length_map]; show fd.length + 1 + _ ≤ _; omega
  rw [upd_upd]
  refine hN _ M' _ (k5.mono fun b o hb e => by rw [upd_ne (fun z => hFM' (by rw [← z]; exact hb))]; exact e) hFM' ?_ (((hI.same e4).fr f5).at_)
  rw [upd_same, vints_app, List.map_cons, List.append_assoc]; rfl
def spAnswers (K : PySem.W.Frag) : Sp := fun vs H Q _ => ∃ (a : Addr) (ns : List Nat) (cs : List Su65.Call), vs = [.ref a] ∧ SqL K H a (nums ns) ∧ Parsed ns cs ∧ cs.length ≤ 400 ∧ ns.length ≤ 100000 ∧ ∀ H' p, H' p = some (.lst ((outL none cs).map V.int)) → Q (.ref p) H'
theorem parsed_drop {ns rest : List Nat} {i k : Nat} {ms : List Nat} (h : ns.drop i = k :: (ms ++ rest)) : ns[i]? = some k ∧ ns.drop (i + 1) = ms ++ rest ∧ i + 1 + ms.length + rest.length = ns.length := by
  have h1 : i < ns.length := by
    have := congrArg List.length h
    rw [List.length_drop, List.length_cons] at this
    omega
  have h2 := List.drop_eq_getElem_cons h1
  rw [h] at h2
  injection h2 with h3 h4
  refine ⟨by rw [List.getElem?_eq_getElem h1, h3], h4.symm, ?_⟩
  have := congrArg List.length h
  rw [List.length_drop, List.length_cons, List.length_append] at this
  omega
section
variable {P : Program} {w : World} {K : PySem.W.Frag} {mg : Str → Option Value} {base : Heap} {A : Ad}
theorem ok_answers (T : Txt K mg A) : FnOk P w K mg base CX0 9 A.f_answers A.d_answers ["calls"] (spAnswers K) := by
  have G_Desk_init : FnOk P w K mg base CX0 1 A.f_Desk_init A.d_Desk_init _ (spDeskInit A) := ok_Desk_init T
  have G_answered : FnOk P w K mg base CX0 8 A.f_answered A.d_answered _ (spAnswered K A) := ok_answered T
  obtain ⟨mp, hm, hmT⟩ := T.many
  refine T.F_answers.ok sc_answers (fun vs H Q E h => ?_) (fun cdv Ar outer s0 H vs Q E hr h => ?_)
  · obtain ⟨a, ns, cs, rfl, _⟩ := h; rfl
  · obtain ⟨a, ns, cs0, rfl, hin, hP, hlen, hnl, q⟩ := h
    refine ⟨_, (pss_cons (ps_set (i := 1) sc_answers.nd rfl (Or.inl rfl) (pe_make0 T.mk_Desk G_Desk_init (hr.mono (by decide)) rfl T.g_Desk T.b_Desk_init .nil pass0))
      (pss_cons (ps_set (i := 2) sc_answers.nd rfl (Or.inl rfl) (pe_lst pa_nil))
      (pss_cons (ps_set (i := 3) sc_answers.nd rfl (Or.inl rfl) (pn 0))
      (pss_cons (ps_while PassesOwn.never (pt_cmpR oLt (pv 3) (pe_callB cLen (by rfl) T.z_len PySem.boot_len (pa_cons (pv 0) pa_nil)) (nomark _)) (pss_cons (ps_set (i := 4) sc_answers.nd rfl (Or.inl rfl) (pe_ix ix_list (pv 0) (pv 3) (fun _ _ => rfl)))
      (pss_cons (ps_set (i := 5) sc_answers.nd rfl (Or.inl rfl) (pe_op oAdd (pe_op oAdd (pv 3) (pn 1)) (pe_ix ix_tup (pe_glob (v := .ref mp) rfl hm rfl) (pv 4) (fun _ _ => rfl))))
      (pss_cons (ps_set (i := 6) sc_answers.nd rfl (Or.inl rfl) (pe_slice sl_list (pv 0) (po_some (pe_op oAdd (pv 3) (pn 1))) (po_some (pv 5))))
      (pss_cons (ps_set (i := 7) sc_answers.nd rfl (Or.inl rfl) (pe_lst pa_nil))
      (pss_cons (ps_if (pt_cmpR oEq (pv 4) (pgn 5 rfl T.k_ROW) (nomark _)) (pss_cons (ps_set (i := 7) sc_answers.nd rfl (Or.inl rfl) (pe_slice sl_list (pv 0) (po_some (pe_op oAdd (pv 5) (pn 1))) (po_some (pe_op oAdd (pe_op oAdd (pv 5) (pn 1)) (pe_ix ix_list (pv 0) (pv 5) (fun _ _ => rfl))))))
      (pss_one (ps_aug (i := 5) sc_answers.nd rfl (Or.inl rfl) (pe_op oAdd (pn 1) (pe_ix ix_list (pv 0) (pv 5) (fun _ _ => rfl))) iAdd))) pss_nil)
      (pss_cons (ps_set (i := 3) sc_answers.nd rfl (Or.inl rfl) (pv 5))
      (pss_cons (ps_set (i := 8) sc_answers.nd rfl (Or.inl rfl) (pe_call G_answered (hr.mono (by decide)) rfl T.g_answered T.F_answered.kp T.b_answered .nil pass0 (pa_cons (pv 1) (pa_cons (pv 4) (pa_cons (pv 6) (pa_cons (pv 7) pa_nil))))))
      (pss_cons (ps_expr (pe_bm PySem.F.plainAttrs_list PySem.F.slot_list_append PySem.F.type_list_append mt_append (pv 2) (pa_cons (pe_callB cLen (by rfl) T.z_len PySem.boot_len (pa_cons (pv 8) pa_nil)) pa_nil)))
      (pss_one (ps_expr (pe_bm PySem.F.plainAttrs_list PySem.F.slot_list_extend PySem.F.type_list_extend mt_extend (pv 2) (pa_cons (pv 8) pa_nil)))))))))))))
      (pss_one (ps_ret (pv 2))))))), ?_⟩
    intro D dD nD ndD neD
    refine ⟨D, dD, rfl, upd_same, fun H1 hD1 k1 => ⟨rfl, ?_⟩⟩
    have s1 : Same H H1 := Same.made nD ndD k1
    refine ⟨sz (Nat.zero_le _), fun F hF => ?_⟩
    have s2 := s1.trans (same_new (o := .lst []) hF)
    have hFD : F ≠ D := fun e => by rw [e, hD1] at hF; cases hF
    refine ⟨fun m σ H' => ∃ (i : Nat) (cs : List Su65.Call) (s : Option Abs) (M : Addr → Prop) (fd : List Int) (v4 v5 v6 v7 v8 : Option V), m = cs.length ∧ σ = [some (.ref a), some (.ref D), some (.ref F), some (vn i), v4, v5, v6, v7, v8] ∧
        Parsed (ns.drop i) cs ∧ i ≤ ns.length ∧ fd ++ outL s cs = outL none cs0 ∧ fd.length + 22 * cs.length ≤ 8800 ∧ DS A H' D M s ∧ ¬ M F ∧ H' F = some (.lst (fd.map V.int)) ∧ Inp K a (nums ns) F H' M,
      ⟨cs0.length, 0, cs0, none, fun b => b = D, [], none, none, none, none, none, rfl, rfl, hP, Nat.zero_le _, rfl, by show 0 + 22 * cs0.length ≤ 8800; omega, ?_, hFD, upd_same, ?_⟩, ?_⟩
    · exact ⟨⟨dD, (same_new hF) _ _ hD1⟩, rfl⟩
    · rcases inp_of hin with z | ⟨o, z1, z2⟩
      · exact .inl z
      · exact .inr ⟨o, s2 _ _ z1, (fun e => by rw [show a = D from e, nD] at z1; cases z1), ne_of_none (s1 _ _ z1) hF, z2⟩
    · rintro m σ H2 ⟨i, cs, s, M, fd, v4, v5, v6, v7, v8, rfl, rfl, hPi, hi, hout, hsz, hS, hFM, hF2, hI⟩
      refine ⟨_, rfl, _, rfl, a, _, ns.length, rfl, hI.seq, nums_len _, _, _, rfl, rfl, _, rfl, ?_⟩
      by_cases hlt : i < ns.length
      · refine iteTr (decide_eq_true hlt) ?_
        generalize hrest : ns.drop i = rs at hPi
        cases hPi with
        | nil =>
          have := congrArg List.length hrest
          rw [List.length_drop] at this
          simp at this
          omega
        | cons hc hP2 =>
          rename_i k nn l rest c cs
          rw [List.length_cons] at hsz
          have hMT : ∀ H' : Hp, SqT K H' mp (nums MANYL) := hmT
          refine ⟨fun σ' H' => ∃ (i : Nat) (s' : Option Abs) (M' : Addr → Prop) (fd' : List Int) (v4 v5 v6 v7 v8 : Option V), σ' = [some (.ref a), some (.ref D), some (.ref F), some (vn i), v4, v5, v6, v7, v8] ∧
            Parsed (ns.drop i) cs ∧ i ≤ ns.length ∧ fd' ++ outL s' cs = outL none cs0 ∧ fd'.length + 22 * cs.length ≤ 8800 ∧ DS A H' D M' s' ∧ ¬ M' F ∧ H' F = some (.lst (fd'.map V.int)) ∧ Inp K a (nums ns) F H' M', ?_, ?_⟩
          · rintro σ' H' ⟨i, s', M', fd', u4, u5, u6, u7, u8, rfl, g1, g2, g3, g4, g5, g6, g7, g8⟩
            exact ⟨cs.length, by rw [List.length_cons]; omega, i, cs, s', M', fd', u4, u5, u6, u7, u8, rfl, rfl, g1, g2, g3, g4, g5, g6, g7, g8⟩
          have h21 := ans_len hS hc
          have hfin : (fd ++ (((ansL (Su65.step s c).2).length : Int) :: ansL (Su65.step s c).2)) ++ outL (Su65.step s c).1 cs = outL none cs0 := by
            rw [← hout, List.append_assoc]; rfl
          have hfl : (fd ++ (((ansL (Su65.step s c).2).length : Int) :: ansL (Su65.step s c).2)).length + 22 * cs.length ≤ 8800 := by
            rw [List.length_append, List.length_cons]; omega
          rcases call_row hc with ⟨rfl, rfl, hl16⟩ | ⟨hk5, rfl⟩
          · -- a row
            have hr5 : ns.drop i = 5 :: ((l.length :: l) ++ rest) := hrest
            obtain ⟨a1, a2, a3⟩ := parsed_drop hr5
            obtain ⟨b1, b2, b3⟩ := parsed_drop (ms := l) (rest := rest) a2
            rw [List.length_cons] at a3
            refine ⟨_, rfl, _, rfl, a, _, (i : Int), _, rfl, rfl, hI.seq, atI_nat (nums_at a1), ?_⟩
            refine ⟨_, rfl, _, _, rfl, rfl, _, rfl, mp, _, ((5 : Nat) : Int), _, rfl, rfl, hMT _, many_at hc, _, _, rfl, rfl, ?_⟩
            refine ⟨_, rfl, _, rfl, _, _, rfl, rfl, _, rfl, _, rfl, _, rfl, a, _, rfl, hI.seq, fun na hna => ?_⟩
            have e1 : Same H2 (upd H2 na (.lst (cutV (nums ns) (some ((i + 1 : Nat) : Int)) (some ((i + 1 + ([] : List Nat).length : Nat) : Int))))) := same_new hna
            refine ⟨sz (Nat.zero_le _), fun pe hpe => ?_⟩
            have e2 := e1.trans (same_new (o := .lst []) hpe)
            refine ⟨_, rfl, _, _, rfl, rfl, _, rfl, iteTr rfl ?_⟩
            have hI2 := (hI.same e2).seq
            refine ⟨_, rfl, _, rfl, _, _, rfl, rfl, _, rfl, _, rfl, _, _, rfl, rfl, _, rfl, _, rfl, a, _, ((i + 1 : Nat) : Int), _, rfl, rfl, hI2, atI_nat (nums_at b1), _, _, rfl, rfl, _, rfl, a, _, rfl, hI2, fun pa hpa => ?_⟩
            have e3 := e2.trans (same_new (o := .lst (cutV (nums ns) (some ((i + 1 + 1 : Nat) : Int)) (some ((i + 1 + 1 + l.length : Nat) : Int)))) hpa)
            have hI3 := (hI.same e3).seq
            refine ⟨_, rfl, _, rfl, _, rfl, a, _, ((i + 1 : Nat) : Int), _, rfl, rfl, hI3, atI_nat (nums_at b1), _, _, rfl, rfl, _, _, rfl, rfl, ?_⟩
            refine tail_ok (nn := []) (l := l) hS hFM hF2 hI hc e3 ?_ ?_ (e2.free hpa) (by omega) fun H' M' v k1 k2 k3 k4 => ⟨_, _, M', _, _, _, _, _, _, rfl, ?_, ?_, hfin, hfl, k1, k2, k3, k4⟩
            · refine SqL.of ?_
              rw [upd_ne (ne_of_none ((same_new hpe) _ _ upd_same) hpa), upd_ne (ne_of_none upd_same hpe), upd_same]
              show some (HO.lst (cutV (nums ns) (some ((i + 1 : Nat) : Int)) (some ((i + 1 : Nat) : Int)))) = _
              rw [cut_nums (Nat.le_refl _) (by omega), Nat.sub_self]
              rfl
            · rw [upd_same]
              show some (HO.lst (cutV (nums ns) (some ((i + 1 + 1 : Nat) : Int)) (some ((i + 1 + 1 + l.length : Nat) : Int)))) = _
              rw [cut_nums (by omega) (by omega), b2]
              have : i + 1 + 1 + l.length - (i + 1 + 1) = l.length := by omega
              rw [this, List.take_left]
            · have : ns.drop (i + 1 + (1 + l.length)) = rest := by
                rw [show i + 1 + (1 + l.length) = (i + 1 + 1) + l.length by omega, ← List.drop_drop, b2, List.drop_left]
              show Parsed (ns.drop (i + 1 + (1 + l.length))) cs
              rw [this]; exact hP2
            · show i + 1 + (1 + l.length) ≤ ns.length
              omega
          · -- no row
            have hr5 : ns.drop i = k :: (nn ++ rest) := by rw [hrest]; unfold chunk; rw [if_neg hk5]; rfl
            obtain ⟨a1, a2, a3⟩ := parsed_drop hr5
            refine ⟨_, rfl, _, rfl, a, _, (i : Int), _, rfl, rfl, hI.seq, atI_nat (nums_at a1), ?_⟩
            refine ⟨_, rfl, _, _, rfl, rfl, _, rfl, mp, _, ((k : Nat) : Int), _, rfl, rfl, hMT _, many_at hc, _, _, rfl, rfl, ?_⟩
            refine ⟨_, rfl, _, rfl, _, _, rfl, rfl, _, rfl, _, rfl, _, rfl, a, _, rfl, hI.seq, fun na hna => ?_⟩
            have e1 : Same H2 (upd H2 na (.lst (cutV (nums ns) (some ((i + 1 : Nat) : Int)) (some ((i + 1 + nn.length : Nat) : Int))))) := same_new hna
            refine ⟨sz (Nat.zero_le _), fun pe hpe => ?_⟩
            have e2 := e1.trans (same_new (o := .lst []) hpe)
            refine ⟨_, rfl, _, _, rfl, rfl, _, rfl, iteFa (decide_eq_false hk5) ?_⟩
            refine tail_ok (nn := nn) (l := []) hS hFM hF2 hI hc e2 ?_ upd_same (e1.free hpe) (by omega) fun H' M' v k1 k2 k3 k4 => ⟨_, _, M', _, _, _, _, _, _, rfl, ?_, ?_, hfin, hfl, k1, k2, k3, k4⟩
            · refine SqL.of ?_
              rw [upd_ne (ne_of_none upd_same hpe), upd_same, cut_nums (by omega) (by omega), a2]
              have : i + 1 + nn.length - (i + 1) = nn.length := by omega
              rw [this, List.take_left]
            · have : ns.drop (i + 1 + nn.length) = rest := by
                rw [← List.drop_drop, a2, List.drop_left]
              show Parsed (ns.drop (i + 1 + nn.length)) cs
              rw [this]; exact hP2
            · show i + 1 + nn.length ≤ ns.length
              omega
      · refine iteFa (decide_eq_false hlt) ?_
        have hcs : cs = [] := by
          have h0 : ns.drop i = [] := List.drop_eq_nil_of_le (by omega)
          rw [h0] at hPi
          generalize hz : ([] : List Nat) = z at hPi
          cases hPi with
          | nil => rfl
          | cons h r =>
            rename_i k nn l rest c cs
            unfold chunk at hz
            split at hz <;> cases hz
        subst hcs
        refine ⟨_, rfl, q H2 F ?_⟩
        rw [hF2, ← hout]
        show _ = some (HO.lst ((fd ++ []).map V.int))
        rw [List.append_nil]
end
end Bp

namespace Bp
open PySem PySem.Spec PyProof.Rows L2
open Su65 (Abs Ply Roll)
def DefAt (K : PySem.W.Frag) (x qual : Str) (st : Stmt) (f : Addr) : Prop := ∃ fd, Fun K x qual st f fd
def TupOf (o : Obj) (xs : List V) : Prop := o.cls = .type "tuple" ∧ ∃ (its : Array Value) (n : Nat), o.data = .seq its n ∧ its.size ≤ 1000 ∧ Vals xs its.toList
theorem exm_own {K : PySem.W.Frag} {S : Addr} (h1 : PySem.W.subIn K (.ref S) (.type "BaseException") = some true) (h2 : PySem.W.isClsIn K S = true) (h3 : PySem.W.typeIn K (.ref S) = some (.type "type")) (h4 : PySem.W.subIn K (.ref S) (.ref S) = some true) :
    PySem.W.exmOne K (.ref S) (.ref S) = some true := by
  have a1 : (PySem.W.subIn K (.ref S) (.type "BaseException") == some true) = true := by rw [h1] <;> rfl
  have a2 : ((PySem.W.clsIn K S).isSome && PySem.W.typeIn K (.ref S) == some (.type "type")) = true := by
    have z : (PySem.W.clsIn K S).isSome = true := h2
    rw [z, h3] <;> rfl
  show (if (PySem.W.subIn K (.ref S) (.type "BaseException") == some true) = true then (if ((PySem.W.clsIn K S).isSome && PySem.W.typeIn K (.ref S) == some (.type "type")) = true then PySem.W.subIn K (.ref S) (.ref S) else none) else none) = some true
  rw [if_pos a1, if_pos a2]
  exact h4
theorem all_mk {P : Program} {w : World} {K : PySem.W.Frag} {h : Heap} {mg : Str → Option Value} {fa cSlant cRoll cPly cStore cDesk cRef f_apart f_with_turn f_nearness f_nearest f_least_turn f_best_turn f_Slant_init f_cover f_takes f_pieces f_begins f_Roll_init f_Ply_init f_is_laid f_Store_init f_drum_size f_laid f_places f_near_others f_between f_nearest_of_all f_cut f_is_right f_new_store f_Ref_init f_ask f_ask_range f_Desk_init f_begin f_roll_at f_ply_at f_ask_turn f_put_roll f_pieces_of f_put_ply f_lay f_lift f_row f_lift_all f_least f_best f_fits f_near_two f_where_ f_at_place f_most f_piece f_look f_rest f_sums f_state f_of_ply f_of_roll f_answer f_answered f_answers : Addr}
    {nm qn : Str} {NN : Addr} {bs : List Value} {sn : List Str} {sub : List Value} {ab : Bool} {col : Option Bool} {dd : Option Addr} {m0 m1 m2 m3 m5 : Option Value} {mp : Addr} {oM : Obj} {t_GREATEST_SIDE t_LEAST_ROUND t_MOST_ROUND t_MOST_NEAR t_MOST_SHORT t_LEAST_ROLL t_WIDEST t_LONGEST t_MOST_ROLLS t_MOST_PLIES t_NONE_SUCH t_NOT_LAID t_NOT_BEGUN t_TOO_LITTLE t_ALREADY t_OUT_OF_RANGE t_TOO_MANY t_CANNOT t_TOO_NEAR t_ROW : Tok}
    (X : K.In h) (G : h.Ns mainGlobals mg) (hfa : mg "answers" = some (.ref fa))
    (gC_Slant : PySem.W.nsIn K mainGlobals "Slant" = some (some (.ref cSlant)))
    (pg_Slant : PySem.W.plainGet K cSlant Str.empty = true)
    (hd_Slant : PySem.W.hasDictIn K cSlant = true)
    (po_Slant : PySem.W.plainOver K cSlant = true)
    (sa_Slant : PySem.W.findIn K (.ref cSlant) "__setattr__" = some (some (.builtin "object.__setattr__")))
    (mk_Slant : PySem.W.makesIn K cSlant = true)
    (kc_Slant : PySem.W.keepIn K (.ref cSlant) = true)
    (n_Slant_a : PySem.W.findIn K (.ref cSlant) "a" = some none)
    (n_Slant_c : PySem.W.findIn K (.ref cSlant) "c" = some none)
    (n_Slant_round_drum : PySem.W.findIn K (.ref cSlant) "round_drum" = some none)
    (n_Slant_short : PySem.W.findIn K (.ref cSlant) "short" = some none)
    (gC_Roll : PySem.W.nsIn K mainGlobals "Roll" = some (some (.ref cRoll)))
    (pg_Roll : PySem.W.plainGet K cRoll Str.empty = true)
    (hd_Roll : PySem.W.hasDictIn K cRoll = true)
    (po_Roll : PySem.W.plainOver K cRoll = true)
    (sa_Roll : PySem.W.findIn K (.ref cRoll) "__setattr__" = some (some (.builtin "object.__setattr__")))
    (mk_Roll : PySem.W.makesIn K cRoll = true)
    (kc_Roll : PySem.W.keepIn K (.ref cRoll) = true)
    (n_Roll_wide : PySem.W.findIn K (.ref cRoll) "wide" = some none)
    (n_Roll_long : PySem.W.findIn K (.ref cRoll) "long" = some none)
    (n_Roll_left : PySem.W.findIn K (.ref cRoll) "left" = some none)
    (gC_Ply : PySem.W.nsIn K mainGlobals "Ply" = some (some (.ref cPly)))
    (pg_Ply : PySem.W.plainGet K cPly Str.empty = true)
    (hd_Ply : PySem.W.hasDictIn K cPly = true)
    (po_Ply : PySem.W.plainOver K cPly = true)
    (sa_Ply : PySem.W.findIn K (.ref cPly) "__setattr__" = some (some (.builtin "object.__setattr__")))
    (mk_Ply : PySem.W.makesIn K cPly = true)
    (kc_Ply : PySem.W.keepIn K (.ref cPly) = true)
    (n_Ply_roll : PySem.W.findIn K (.ref cPly) "roll" = some none)
    (n_Ply_wide : PySem.W.findIn K (.ref cPly) "wide" = some none)
    (n_Ply_splices : PySem.W.findIn K (.ref cPly) "splices" = some none)
    (n_Ply_turn : PySem.W.findIn K (.ref cPly) "turn" = some none)
    (gC_Store : PySem.W.nsIn K mainGlobals "Store" = some (some (.ref cStore)))
    (pg_Store : PySem.W.plainGet K cStore Str.empty = true)
    (hd_Store : PySem.W.hasDictIn K cStore = true)
    (po_Store : PySem.W.plainOver K cStore = true)
    (sa_Store : PySem.W.findIn K (.ref cStore) "__setattr__" = some (some (.builtin "object.__setattr__")))
    (mk_Store : PySem.W.makesIn K cStore = true)
    (kc_Store : PySem.W.keepIn K (.ref cStore) = true)
    (n_Store_slant : PySem.W.findIn K (.ref cStore) "slant" = some none)
    (n_Store_near : PySem.W.findIn K (.ref cStore) "near" = some none)
    (n_Store_rolls : PySem.W.findIn K (.ref cStore) "rolls" = some none)
    (n_Store_plies : PySem.W.findIn K (.ref cStore) "plies" = some none)
    (gC_Desk : PySem.W.nsIn K mainGlobals "Desk" = some (some (.ref cDesk)))
    (pg_Desk : PySem.W.plainGet K cDesk Str.empty = true)
    (hd_Desk : PySem.W.hasDictIn K cDesk = true)
    (po_Desk : PySem.W.plainOver K cDesk = true)
    (sa_Desk : PySem.W.findIn K (.ref cDesk) "__setattr__" = some (some (.builtin "object.__setattr__")))
    (mk_Desk : PySem.W.makesIn K cDesk = true)
    (kc_Desk : PySem.W.keepIn K (.ref cDesk) = true)
    (n_Desk_store : PySem.W.findIn K (.ref cDesk) "store" = some none)
    (gC_Ref : PySem.W.nsIn K mainGlobals "Refused" = some (some (.ref cRef)))
    (xL : K.lookup cRef = some (excClassObj nm qn cRef NN bs [.type "ValueError", .type "Exception", .type "BaseException", .type "object"] true sn sub ab col dd m0 m1 m2 m3 m5 "ValueError.__new__"))
    (sa_Ref : PySem.W.findIn K (.ref cRef) "__setattr__" = some (some (.builtin "object.__setattr__")))
    (ga_Ref : PySem.W.findIn K (.ref cRef) "__getattribute__" = some (some (.builtin "BaseException.__getattribute__")))
    (gg_Ref : PySem.W.findIn K (.ref cRef) "__getattr__" = some none)
    (nx_Ref : PySem.W.findIn K (.ref cRef) "refusal" = some none)
    (kc_Ref : PySem.W.keepIn K (.ref cRef) = true)
    (eC_Ref : PySem.W.subIn K (.ref cRef) (.type "BaseException") = some true)
    (tC_Ref : PySem.W.typeIn K (.ref cRef) = some (.type "type"))
    (hC_Ref : PySem.W.hasDictIn K cRef = true)
    (iC_Ref : PySem.W.isClsIn K cRef = true)
    (sC_Ref : PySem.W.subIn K (.ref cRef) (.ref cRef) = some true)
    (a_apart : PySem.W.nsIn K mainGlobals "apart" = some (some (.ref f_apart)))
    (d_apart : DefAt K "apart" "apart" s_apart f_apart)
    (a_with_turn : PySem.W.nsIn K mainGlobals "with_turn" = some (some (.ref f_with_turn)))
    (d_with_turn : DefAt K "with_turn" "with_turn" s_with_turn f_with_turn)
    (a_nearness : PySem.W.nsIn K mainGlobals "nearness" = some (some (.ref f_nearness)))
    (d_nearness : DefAt K "nearness" "nearness" s_nearness f_nearness)
    (a_nearest : PySem.W.nsIn K mainGlobals "nearest" = some (some (.ref f_nearest)))
    (d_nearest : DefAt K "nearest" "nearest" s_nearest f_nearest)
    (a_least_turn : PySem.W.nsIn K mainGlobals "least_turn" = some (some (.ref f_least_turn)))
    (d_least_turn : DefAt K "least_turn" "least_turn" s_least_turn f_least_turn)
    (a_best_turn : PySem.W.nsIn K mainGlobals "best_turn" = some (some (.ref f_best_turn)))
    (d_best_turn : DefAt K "best_turn" "best_turn" s_best_turn f_best_turn)
    (a_Slant_init : PySem.W.findIn K (.ref cSlant) "__init__" = some (some (.ref f_Slant_init)))
    (i_Slant_init : PySem.W.isFn K (.ref f_Slant_init) = true)
    (d_Slant_init : DefAt K "__init__" "Slant.__init__" s_Slant_init f_Slant_init)
    (a_cover : PySem.W.findIn K (.ref cSlant) "cover" = some (some (.ref f_cover)))
    (i_cover : PySem.W.isFn K (.ref f_cover) = true)
    (d_cover : DefAt K "cover" "Slant.cover" s_cover f_cover)
    (a_takes : PySem.W.findIn K (.ref cSlant) "takes" = some (some (.ref f_takes)))
    (i_takes : PySem.W.isFn K (.ref f_takes) = true)
    (d_takes : DefAt K "takes" "Slant.takes" s_takes f_takes)
    (a_pieces : PySem.W.findIn K (.ref cSlant) "pieces" = some (some (.ref f_pieces)))
    (i_pieces : PySem.W.isFn K (.ref f_pieces) = true)
    (d_pieces : DefAt K "pieces" "Slant.pieces" s_pieces f_pieces)
    (a_begins : PySem.W.nsIn K mainGlobals "begins" = some (some (.ref f_begins)))
    (d_begins : DefAt K "begins" "begins" s_begins f_begins)
    (a_Roll_init : PySem.W.findIn K (.ref cRoll) "__init__" = some (some (.ref f_Roll_init)))
    (i_Roll_init : PySem.W.isFn K (.ref f_Roll_init) = true)
    (d_Roll_init : DefAt K "__init__" "Roll.__init__" s_Roll_init f_Roll_init)
    (a_Ply_init : PySem.W.findIn K (.ref cPly) "__init__" = some (some (.ref f_Ply_init)))
    (i_Ply_init : PySem.W.isFn K (.ref f_Ply_init) = true)
    (d_Ply_init : DefAt K "__init__" "Ply.__init__" s_Ply_init f_Ply_init)
    (a_is_laid : PySem.W.findIn K (.ref cPly) "is_laid" = some (some (.ref f_is_laid)))
    (i_is_laid : PySem.W.isFn K (.ref f_is_laid) = true)
    (d_is_laid : DefAt K "is_laid" "Ply.is_laid" s_is_laid f_is_laid)
    (a_Store_init : PySem.W.findIn K (.ref cStore) "__init__" = some (some (.ref f_Store_init)))
    (i_Store_init : PySem.W.isFn K (.ref f_Store_init) = true)
    (d_Store_init : DefAt K "__init__" "Store.__init__" s_Store_init f_Store_init)
    (a_drum_size : PySem.W.findIn K (.ref cStore) "drum_size" = some (some (.ref f_drum_size)))
    (i_drum_size : PySem.W.isFn K (.ref f_drum_size) = true)
    (d_drum_size : DefAt K "drum_size" "Store.drum_size" s_drum_size f_drum_size)
    (a_laid : PySem.W.findIn K (.ref cStore) "laid" = some (some (.ref f_laid)))
    (i_laid : PySem.W.isFn K (.ref f_laid) = true)
    (d_laid : DefAt K "laid" "Store.laid" s_laid f_laid)
    (a_places : PySem.W.findIn K (.ref cStore) "places" = some (some (.ref f_places)))
    (i_places : PySem.W.isFn K (.ref f_places) = true)
    (d_places : DefAt K "places" "Store.places" s_places f_places)
    (a_near_others : PySem.W.findIn K (.ref cStore) "near_others" = some (some (.ref f_near_others)))
    (i_near_others : PySem.W.isFn K (.ref f_near_others) = true)
    (d_near_others : DefAt K "near_others" "Store.near_others" s_near_others f_near_others)
    (a_between : PySem.W.findIn K (.ref cStore) "between" = some (some (.ref f_between)))
    (i_between : PySem.W.isFn K (.ref f_between) = true)
    (d_between : DefAt K "between" "Store.between" s_between f_between)
    (a_nearest_of_all : PySem.W.findIn K (.ref cStore) "nearest_of_all" = some (some (.ref f_nearest_of_all)))
    (i_nearest_of_all : PySem.W.isFn K (.ref f_nearest_of_all) = true)
    (d_nearest_of_all : DefAt K "nearest_of_all" "Store.nearest_of_all" s_nearest_of_all f_nearest_of_all)
    (a_cut : PySem.W.findIn K (.ref cStore) "cut" = some (some (.ref f_cut)))
    (i_cut : PySem.W.isFn K (.ref f_cut) = true)
    (d_cut : DefAt K "cut" "Store.cut" s_cut f_cut)
    (a_is_right : PySem.W.nsIn K mainGlobals "is_right" = some (some (.ref f_is_right)))
    (d_is_right : DefAt K "is_right" "is_right" s_is_right f_is_right)
    (a_new_store : PySem.W.nsIn K mainGlobals "new_store" = some (some (.ref f_new_store)))
    (d_new_store : DefAt K "new_store" "new_store" s_new_store f_new_store)
    (a_Ref_init : PySem.W.findIn K (.ref cRef) "__init__" = some (some (.ref f_Ref_init)))
    (i_Ref_init : PySem.W.typeIn K (.ref f_Ref_init) = some (.type "function"))
    (d_Ref_init : DefAt K "__init__" "Refused.__init__" s_Ref_init f_Ref_init)
    (a_ask : PySem.W.nsIn K mainGlobals "ask" = some (some (.ref f_ask)))
    (d_ask : DefAt K "ask" "ask" s_ask f_ask)
    (a_ask_range : PySem.W.nsIn K mainGlobals "ask_range" = some (some (.ref f_ask_range)))
    (d_ask_range : DefAt K "ask_range" "ask_range" s_ask_range f_ask_range)
    (a_Desk_init : PySem.W.findIn K (.ref cDesk) "__init__" = some (some (.ref f_Desk_init)))
    (i_Desk_init : PySem.W.isFn K (.ref f_Desk_init) = true)
    (d_Desk_init : DefAt K "__init__" "Desk.__init__" s_Desk_init f_Desk_init)
    (a_begin : PySem.W.findIn K (.ref cDesk) "begin" = some (some (.ref f_begin)))
    (i_begin : PySem.W.isFn K (.ref f_begin) = true)
    (d_begin : DefAt K "begin" "Desk.begin" s_begin f_begin)
    (a_roll_at : PySem.W.findIn K (.ref cDesk) "roll_at" = some (some (.ref f_roll_at)))
    (i_roll_at : PySem.W.isFn K (.ref f_roll_at) = true)
    (d_roll_at : DefAt K "roll_at" "Desk.roll_at" s_roll_at f_roll_at)
    (a_ply_at : PySem.W.findIn K (.ref cDesk) "ply_at" = some (some (.ref f_ply_at)))
    (i_ply_at : PySem.W.isFn K (.ref f_ply_at) = true)
    (d_ply_at : DefAt K "ply_at" "Desk.ply_at" s_ply_at f_ply_at)
    (a_ask_turn : PySem.W.findIn K (.ref cDesk) "ask_turn" = some (some (.ref f_ask_turn)))
    (i_ask_turn : PySem.W.isFn K (.ref f_ask_turn) = true)
    (d_ask_turn : DefAt K "ask_turn" "Desk.ask_turn" s_ask_turn f_ask_turn)
    (a_put_roll : PySem.W.findIn K (.ref cDesk) "put_roll" = some (some (.ref f_put_roll)))
    (i_put_roll : PySem.W.isFn K (.ref f_put_roll) = true)
    (d_put_roll : DefAt K "put_roll" "Desk.put_roll" s_put_roll f_put_roll)
    (a_pieces_of : PySem.W.findIn K (.ref cDesk) "pieces_of" = some (some (.ref f_pieces_of)))
    (i_pieces_of : PySem.W.isFn K (.ref f_pieces_of) = true)
    (d_pieces_of : DefAt K "pieces_of" "Desk.pieces_of" s_pieces_of f_pieces_of)
    (a_put_ply : PySem.W.findIn K (.ref cDesk) "put_ply" = some (some (.ref f_put_ply)))
    (i_put_ply : PySem.W.isFn K (.ref f_put_ply) = true)
    (d_put_ply : DefAt K "put_ply" "Desk.put_ply" s_put_ply f_put_ply)
    (a_lay : PySem.W.findIn K (.ref cDesk) "lay" = some (some (.ref f_lay)))
    (i_lay : PySem.W.isFn K (.ref f_lay) = true)
    (d_lay : DefAt K "lay" "Desk.lay" s_lay f_lay)
    (a_lift : PySem.W.findIn K (.ref cDesk) "lift" = some (some (.ref f_lift)))
    (i_lift : PySem.W.isFn K (.ref f_lift) = true)
    (d_lift : DefAt K "lift" "Desk.lift" s_lift f_lift)
    (a_row : PySem.W.findIn K (.ref cDesk) "row" = some (some (.ref f_row)))
    (i_row : PySem.W.isFn K (.ref f_row) = true)
    (d_row : DefAt K "row" "Desk.row" s_row f_row)
    (a_lift_all : PySem.W.findIn K (.ref cDesk) "lift_all" = some (some (.ref f_lift_all)))
    (i_lift_all : PySem.W.isFn K (.ref f_lift_all) = true)
    (d_lift_all : DefAt K "lift_all" "Desk.lift_all" s_lift_all f_lift_all)
    (a_least : PySem.W.findIn K (.ref cDesk) "least" = some (some (.ref f_least)))
    (i_least : PySem.W.isFn K (.ref f_least) = true)
    (d_least : DefAt K "least" "Desk.least" s_least f_least)
    (a_best : PySem.W.findIn K (.ref cDesk) "best" = some (some (.ref f_best)))
    (i_best : PySem.W.isFn K (.ref f_best) = true)
    (d_best : DefAt K "best" "Desk.best" s_best f_best)
    (a_fits : PySem.W.findIn K (.ref cDesk) "fits" = some (some (.ref f_fits)))
    (i_fits : PySem.W.isFn K (.ref f_fits) = true)
    (d_fits : DefAt K "fits" "Desk.fits" s_fits f_fits)
    (a_near_two : PySem.W.findIn K (.ref cDesk) "near_two" = some (some (.ref f_near_two)))
    (i_near_two : PySem.W.isFn K (.ref f_near_two) = true)
    (d_near_two : DefAt K "near_two" "Desk.near_two" s_near_two f_near_two)
    (a_where_ : PySem.W.findIn K (.ref cDesk) "where" = some (some (.ref f_where_)))
    (i_where_ : PySem.W.isFn K (.ref f_where_) = true)
    (d_where_ : DefAt K "where" "Desk.where" s_where_ f_where_)
    (a_at_place : PySem.W.findIn K (.ref cDesk) "at_place" = some (some (.ref f_at_place)))
    (i_at_place : PySem.W.isFn K (.ref f_at_place) = true)
    (d_at_place : DefAt K "at_place" "Desk.at_place" s_at_place f_at_place)
    (a_most : PySem.W.findIn K (.ref cDesk) "most" = some (some (.ref f_most)))
    (i_most : PySem.W.isFn K (.ref f_most) = true)
    (d_most : DefAt K "most" "Desk.most" s_most f_most)
    (a_piece : PySem.W.findIn K (.ref cDesk) "piece" = some (some (.ref f_piece)))
    (i_piece : PySem.W.isFn K (.ref f_piece) = true)
    (d_piece : DefAt K "piece" "Desk.piece" s_piece f_piece)
    (a_look : PySem.W.findIn K (.ref cDesk) "look" = some (some (.ref f_look)))
    (i_look : PySem.W.isFn K (.ref f_look) = true)
    (d_look : DefAt K "look" "Desk.look" s_look f_look)
    (a_rest : PySem.W.findIn K (.ref cDesk) "rest" = some (some (.ref f_rest)))
    (i_rest : PySem.W.isFn K (.ref f_rest) = true)
    (d_rest : DefAt K "rest" "Desk.rest" s_rest f_rest)
    (a_sums : PySem.W.findIn K (.ref cDesk) "sums" = some (some (.ref f_sums)))
    (i_sums : PySem.W.isFn K (.ref f_sums) = true)
    (d_sums : DefAt K "sums" "Desk.sums" s_sums f_sums)
    (a_state : PySem.W.findIn K (.ref cDesk) "state" = some (some (.ref f_state)))
    (i_state : PySem.W.isFn K (.ref f_state) = true)
    (d_state : DefAt K "state" "Desk.state" s_state f_state)
    (a_of_ply : PySem.W.findIn K (.ref cDesk) "of_ply" = some (some (.ref f_of_ply)))
    (i_of_ply : PySem.W.isFn K (.ref f_of_ply) = true)
    (d_of_ply : DefAt K "of_ply" "Desk.of_ply" s_of_ply f_of_ply)
    (a_of_roll : PySem.W.findIn K (.ref cDesk) "of_roll" = some (some (.ref f_of_roll)))
    (i_of_roll : PySem.W.isFn K (.ref f_of_roll) = true)
    (d_of_roll : DefAt K "of_roll" "Desk.of_roll" s_of_roll f_of_roll)
    (a_answer : PySem.W.findIn K (.ref cDesk) "answer" = some (some (.ref f_answer)))
    (i_answer : PySem.W.isFn K (.ref f_answer) = true)
    (d_answer : DefAt K "answer" "Desk.answer" s_answer f_answer)
    (a_answered : PySem.W.nsIn K mainGlobals "answered" = some (some (.ref f_answered)))
    (d_answered : DefAt K "answered" "answered" s_answered f_answered)
    (a_answers : PySem.W.nsIn K mainGlobals "answers" = some (some (.ref f_answers)))
    (d_answers : DefAt K "answers" "answers" s_answers f_answers)
    (k_GREATEST_SIDE : PySem.W.nsIn K mainGlobals "GREATEST_SIDE" = some (some (.int (1000) t_GREATEST_SIDE)))
    (k_LEAST_ROUND : PySem.W.nsIn K mainGlobals "LEAST_ROUND" = some (some (.int (100) t_LEAST_ROUND)))
    (k_MOST_ROUND : PySem.W.nsIn K mainGlobals "MOST_ROUND" = some (some (.int (1500) t_MOST_ROUND)))
    (k_MOST_NEAR : PySem.W.nsIn K mainGlobals "MOST_NEAR" = some (some (.int (500) t_MOST_NEAR)))
    (k_MOST_SHORT : PySem.W.nsIn K mainGlobals "MOST_SHORT" = some (some (.int (200) t_MOST_SHORT)))
    (k_LEAST_ROLL : PySem.W.nsIn K mainGlobals "LEAST_ROLL" = some (some (.int (150) t_LEAST_ROLL)))
    (k_WIDEST : PySem.W.nsIn K mainGlobals "WIDEST" = some (some (.int (2000) t_WIDEST)))
    (k_LONGEST : PySem.W.nsIn K mainGlobals "LONGEST" = some (some (.int (1000000) t_LONGEST)))
    (k_MOST_ROLLS : PySem.W.nsIn K mainGlobals "MOST_ROLLS" = some (some (.int (10) t_MOST_ROLLS)))
    (k_MOST_PLIES : PySem.W.nsIn K mainGlobals "MOST_PLIES" = some (some (.int (12) t_MOST_PLIES)))
    (k_NONE_SUCH : PySem.W.nsIn K mainGlobals "NONE_SUCH" = some (some (.int (-2) t_NONE_SUCH)))
    (k_NOT_LAID : PySem.W.nsIn K mainGlobals "NOT_LAID" = some (some (.int (-6) t_NOT_LAID)))
    (k_NOT_BEGUN : PySem.W.nsIn K mainGlobals "NOT_BEGUN" = some (some (.int (-11) t_NOT_BEGUN)))
    (k_TOO_LITTLE : PySem.W.nsIn K mainGlobals "TOO_LITTLE" = some (some (.int (-12) t_TOO_LITTLE)))
    (k_ALREADY : PySem.W.nsIn K mainGlobals "ALREADY" = some (some (.int (-17) t_ALREADY)))
    (k_OUT_OF_RANGE : PySem.W.nsIn K mainGlobals "OUT_OF_RANGE" = some (some (.int (-22) t_OUT_OF_RANGE)))
    (k_TOO_MANY : PySem.W.nsIn K mainGlobals "TOO_MANY" = some (some (.int (-28) t_TOO_MANY)))
    (k_CANNOT : PySem.W.nsIn K mainGlobals "CANNOT" = some (some (.int (-33) t_CANNOT)))
    (k_TOO_NEAR : PySem.W.nsIn K mainGlobals "TOO_NEAR" = some (some (.int (-40) t_TOO_NEAR)))
    (k_ROW : PySem.W.nsIn K mainGlobals "ROW" = some (some (.int (5) t_ROW)))
    (aM : PySem.W.nsIn K mainGlobals "MANY_NUMBERS" = some (some (.ref mp)))
    (lM : K.lookup mp = some oM)
    (oM_ : TupOf oM ([.int 6, .int 2, .int 2, .int 2, .int 1, .int 0, .int 1, .int 1, .int 2, .int 2, .int 0, .int 1, .int 1, .int 2, .int 1, .int 1, .int 1, .int 2, .int 0, .int 0] : List V))
    (z_len : PySem.W.nsIn K mainGlobals "len" = some none)
    (z_min : PySem.W.nsIn K mainGlobals "min" = some none)
    (z_range : PySem.W.nsIn K mainGlobals "range" = some none)
    (z_enumerate : PySem.W.nsIn K mainGlobals "enumerate" = some none)
    (z_set : PySem.W.nsIn K mainGlobals "set" = some none)
    (z_int : PySem.W.nsIn K mainGlobals "int" = some none)
    (z_list : PySem.W.nsIn K mainGlobals "list" = some none)
    (z_sum : PySem.W.nsIn K mainGlobals "sum" = some none)
    : ∃ fd : FuncData, (∀ (s : Shared) (us : List Value), us.length = (["calls"] : List Str).length → BindsTo s fd ⟨us, []⟩ ((["calls"] : List Str).zip us)) ∧ ∀ base : Heap, K.In base → base.Ns mainGlobals mg → FnOk P w K mg base CX0 9 fa fd ["calls"] (spAnswers K) := by
  have e := hfa.symm.trans (PySem.W.mg_of X G a_answers)
  cases e
  obtain ⟨e_apart, F_apart⟩ := d_apart
  obtain ⟨e_with_turn, F_with_turn⟩ := d_with_turn
  obtain ⟨e_nearness, F_nearness⟩ := d_nearness
  obtain ⟨e_nearest, F_nearest⟩ := d_nearest
  obtain ⟨e_least_turn, F_least_turn⟩ := d_least_turn
  obtain ⟨e_best_turn, F_best_turn⟩ := d_best_turn
  obtain ⟨e_Slant_init, F_Slant_init⟩ := d_Slant_init
  obtain ⟨e_cover, F_cover⟩ := d_cover
  obtain ⟨e_takes, F_takes⟩ := d_takes
  obtain ⟨e_pieces, F_pieces⟩ := d_pieces
  obtain ⟨e_begins, F_begins⟩ := d_begins
  obtain ⟨e_Roll_init, F_Roll_init⟩ := d_Roll_init
  obtain ⟨e_Ply_init, F_Ply_init⟩ := d_Ply_init
  obtain ⟨e_is_laid, F_is_laid⟩ := d_is_laid
  obtain ⟨e_Store_init, F_Store_init⟩ := d_Store_init
  obtain ⟨e_drum_size, F_drum_size⟩ := d_drum_size
  obtain ⟨e_laid, F_laid⟩ := d_laid
  obtain ⟨e_places, F_places⟩ := d_places
  obtain ⟨e_near_others, F_near_others⟩ := d_near_others
  obtain ⟨e_between, F_between⟩ := d_between
  obtain ⟨e_nearest_of_all, F_nearest_of_all⟩ := d_nearest_of_all
  obtain ⟨e_cut, F_cut⟩ := d_cut
  obtain ⟨e_is_right, F_is_right⟩ := d_is_right
  obtain ⟨e_new_store, F_new_store⟩ := d_new_store
  obtain ⟨e_Ref_init, F_Ref_init⟩ := d_Ref_init
  obtain ⟨e_ask, F_ask⟩ := d_ask
  obtain ⟨e_ask_range, F_ask_range⟩ := d_ask_range
  obtain ⟨e_Desk_init, F_Desk_init⟩ := d_Desk_init
  obtain ⟨e_begin, F_begin⟩ := d_begin
  obtain ⟨e_roll_at, F_roll_at⟩ := d_roll_at
  obtain ⟨e_ply_at, F_ply_at⟩ := d_ply_at
  obtain ⟨e_ask_turn, F_ask_turn⟩ := d_ask_turn
  obtain ⟨e_put_roll, F_put_roll⟩ := d_put_roll
  obtain ⟨e_pieces_of, F_pieces_of⟩ := d_pieces_of
  obtain ⟨e_put_ply, F_put_ply⟩ := d_put_ply
  obtain ⟨e_lay, F_lay⟩ := d_lay
  obtain ⟨e_lift, F_lift⟩ := d_lift
  obtain ⟨e_row, F_row⟩ := d_row
  obtain ⟨e_lift_all, F_lift_all⟩ := d_lift_all
  obtain ⟨e_least, F_least⟩ := d_least
  obtain ⟨e_best, F_best⟩ := d_best
  obtain ⟨e_fits, F_fits⟩ := d_fits
  obtain ⟨e_near_two, F_near_two⟩ := d_near_two
  obtain ⟨e_where_, F_where_⟩ := d_where_
  obtain ⟨e_at_place, F_at_place⟩ := d_at_place
  obtain ⟨e_most, F_most⟩ := d_most
  obtain ⟨e_piece, F_piece⟩ := d_piece
  obtain ⟨e_look, F_look⟩ := d_look
  obtain ⟨e_rest, F_rest⟩ := d_rest
  obtain ⟨e_sums, F_sums⟩ := d_sums
  obtain ⟨e_state, F_state⟩ := d_state
  obtain ⟨e_of_ply, F_of_ply⟩ := d_of_ply
  obtain ⟨e_of_roll, F_of_roll⟩ := d_of_roll
  obtain ⟨e_answer, F_answer⟩ := d_answer
  obtain ⟨e_answered, F_answered⟩ := d_answered
  obtain ⟨e_answers, F_answers⟩ := d_answers
  have T : Txt K mg { cSlant := cSlant, cRoll := cRoll, cPly := cPly, cStore := cStore, cDesk := cDesk, cRef := cRef, f_apart := f_apart, d_apart := e_apart, f_with_turn := f_with_turn, d_with_turn := e_with_turn, f_nearness := f_nearness, d_nearness := e_nearness, f_nearest := f_nearest, d_nearest := e_nearest, f_least_turn := f_least_turn, d_least_turn := e_least_turn, f_best_turn := f_best_turn, d_best_turn := e_best_turn, f_Slant_init := f_Slant_init, d_Slant_init := e_Slant_init, f_cover := f_cover, d_cover := e_cover, f_takes := f_takes, d_takes := e_takes, f_pieces := f_pieces, d_pieces := e_pieces, f_begins := f_begins, d_begins := e_begins, f_Roll_init := f_Roll_init, d_Roll_init := e_Roll_init, f_Ply_init := f_Ply_init, d_Ply_init := e_Ply_init, f_is_laid := f_is_laid, d_is_laid := e_is_laid, f_Store_init := f_Store_init, d_Store_init := e_Store_init, f_drum_size := f_drum_size, d_drum_size := e_drum_size, f_laid := f_laid, d_laid := e_laid, f_places := f_places, d_places := e_places, f_near_others := f_near_others, d_near_others := e_near_others, f_between := f_between, d_between := e_between, f_nearest_of_all := f_nearest_of_all, d_nearest_of_all := e_nearest_of_all, f_cut := f_cut, d_cut := e_cut, f_is_right := f_is_right, d_is_right := e_is_right, f_new_store := f_new_store, d_new_store := e_new_store, f_Ref_init := f_Ref_init, d_Ref_init := e_Ref_init, f_ask := f_ask, d_ask := e_ask, f_ask_range := f_ask_range, d_ask_range := e_ask_range, f_Desk_init := f_Desk_init, d_Desk_init := e_Desk_init, f_begin := f_begin, d_begin := e_begin, f_roll_at := f_roll_at, d_roll_at := e_roll_at, f_ply_at := f_ply_at, d_ply_at := e_ply_at, f_ask_turn := f_ask_turn, d_ask_turn := e_ask_turn, f_put_roll := f_put_roll, d_put_roll := e_put_roll, f_pieces_of := f_pieces_of, d_pieces_of := e_pieces_of, f_put_ply := f_put_ply, d_put_ply := e_put_ply, f_lay := f_lay, d_lay := e_lay, f_lift := f_lift, d_lift := e_lift, f_row := f_row, d_row := e_row, f_lift_all := f_lift_all, d_lift_all := e_lift_all, f_least := f_least, d_least := e_least, f_best := f_best, d_best := e_best, f_fits := f_fits, d_fits := e_fits, f_near_two := f_near_two, d_near_two := e_near_two, f_where_ := f_where_, d_where_ := e_where_, f_at_place := f_at_place, d_at_place := e_at_place, f_most := f_most, d_most := e_most, f_piece := f_piece, d_piece := e_piece, f_look := f_look, d_look := e_look, f_rest := f_rest, d_rest := e_rest, f_sums := f_sums, d_sums := e_sums, f_state := f_state, d_state := e_state, f_of_ply := f_of_ply, d_of_ply := e_of_ply, f_of_roll := f_of_roll, d_of_roll := e_of_roll, f_answer := f_answer, d_answer := e_answer, f_answered := f_answered, d_answered := e_answered, f_answers := fa, d_answers := e_answers } :=
    { F_apart := F_apart
      b_apart := F_apart.binds (ps := ["one", "other", "round_drum"]) fun _ _ _ _ _ _ us hl => match us, hl with | [_, _, _], _ => rfl
      g_apart := PySem.W.mg_of X G a_apart
      F_with_turn := F_with_turn
      b_with_turn := F_with_turn.binds (ps := ["splices", "turn", "round_drum"]) fun _ _ _ _ _ _ us hl => match us, hl with | [_, _, _], _ => rfl
      g_with_turn := PySem.W.mg_of X G a_with_turn
      F_nearness := F_nearness
      b_nearness := F_nearness.binds (ps := ["places", "round_drum"]) fun _ _ _ _ _ _ us hl => match us, hl with | [_, _], _ => rfl
      g_nearness := PySem.W.mg_of X G a_nearness
      F_nearest := F_nearest
      b_nearest := F_nearest.binds (ps := ["splices", "turn", "near"]) fun _ _ _ _ _ _ us hl => match us, hl with | [_, _, _], _ => rfl
      g_nearest := PySem.W.mg_of X G a_nearest
      F_least_turn := F_least_turn
      b_least_turn := F_least_turn.binds (ps := ["splices", "near", "bound"]) fun _ _ _ _ _ _ us hl => match us, hl with | [_, _, _], _ => rfl
      g_least_turn := PySem.W.mg_of X G a_least_turn
      F_best_turn := F_best_turn
      b_best_turn := F_best_turn.binds (ps := ["splices", "near"]) fun _ _ _ _ _ _ us hl => match us, hl with | [_, _], _ => rfl
      g_best_turn := PySem.W.mg_of X G a_best_turn
      F_Slant_init := F_Slant_init
      b_Slant_init := F_Slant_init.binds (ps := ["self", "a", "c", "round_drum", "short"]) fun _ _ _ _ _ _ us hl => match us, hl with | [_, _, _, _, _], _ => rfl
      F_cover := F_cover
      b_cover := F_cover.binds (ps := ["self", "wide"]) fun _ _ _ _ _ _ us hl => match us, hl with | [_, _], _ => rfl
      m_cover := ⟨a_cover, i_cover, F_cover.kp⟩
      F_takes := F_takes
      b_takes := F_takes.binds (ps := ["self", "wide"]) fun _ _ _ _ _ _ us hl => match us, hl with | [_, _], _ => rfl
      m_takes := ⟨a_takes, i_takes, F_takes.kp⟩
      F_pieces := F_pieces
      b_pieces := F_pieces.binds (ps := ["self", "wide"]) fun _ _ _ _ _ _ us hl => match us, hl with | [_, _], _ => rfl
      m_pieces := ⟨a_pieces, i_pieces, F_pieces.kp⟩
      F_begins := F_begins
      b_begins := F_begins.binds (ps := ["pieces"]) fun _ _ _ _ _ _ us hl => match us, hl with | [_], _ => rfl
      g_begins := PySem.W.mg_of X G a_begins
      F_Roll_init := F_Roll_init
      b_Roll_init := F_Roll_init.binds (ps := ["self", "wide", "long"]) fun _ _ _ _ _ _ us hl => match us, hl with | [_, _, _], _ => rfl
      F_Ply_init := F_Ply_init
      b_Ply_init := F_Ply_init.binds (ps := ["self", "roll", "wide", "splices"]) fun _ _ _ _ _ _ us hl => match us, hl with | [_, _, _, _], _ => rfl
      F_is_laid := F_is_laid
      b_is_laid := F_is_laid.binds (ps := ["self"]) fun _ _ _ _ _ _ us hl => match us, hl with | [_], _ => rfl
      m_is_laid := ⟨a_is_laid, i_is_laid, F_is_laid.kp⟩
      F_Store_init := F_Store_init
      b_Store_init := F_Store_init.binds (ps := ["self", "slant", "near"]) fun _ _ _ _ _ _ us hl => match us, hl with | [_, _, _], _ => rfl
      F_drum_size := F_drum_size
      b_drum_size := F_drum_size.binds (ps := ["self"]) fun _ _ _ _ _ _ us hl => match us, hl with | [_], _ => rfl
      m_drum_size := ⟨a_drum_size, i_drum_size, F_drum_size.kp⟩
      F_laid := F_laid
      b_laid := F_laid.binds (ps := ["self"]) fun _ _ _ _ _ _ us hl => match us, hl with | [_], _ => rfl
      m_laid := ⟨a_laid, i_laid, F_laid.kp⟩
      F_places := F_places
      b_places := F_places.binds (ps := ["self", "k"]) fun _ _ _ _ _ _ us hl => match us, hl with | [_, _], _ => rfl
      m_places := ⟨a_places, i_places, F_places.kp⟩
      F_near_others := F_near_others
      b_near_others := F_near_others.binds (ps := ["self", "k"]) fun _ _ _ _ _ _ us hl => match us, hl with | [_, _], _ => rfl
      m_near_others := ⟨a_near_others, i_near_others, F_near_others.kp⟩
      F_between := F_between
      b_between := F_between.binds (ps := ["self", "one", "other"]) fun _ _ _ _ _ _ us hl => match us, hl with | [_, _, _], _ => rfl
      m_between := ⟨a_between, i_between, F_between.kp⟩
      F_nearest_of_all := F_nearest_of_all
      b_nearest_of_all := F_nearest_of_all.binds (ps := ["self"]) fun _ _ _ _ _ _ us hl => match us, hl with | [_], _ => rfl
      m_nearest_of_all := ⟨a_nearest_of_all, i_nearest_of_all, F_nearest_of_all.kp⟩
      F_cut := F_cut
      b_cut := F_cut.binds (ps := ["self", "number", "wide", "pieces"]) fun _ _ _ _ _ _ us hl => match us, hl with | [_, _, _, _], _ => rfl
      m_cut := ⟨a_cut, i_cut, F_cut.kp⟩
      F_is_right := F_is_right
      b_is_right := F_is_right.binds (ps := ["a", "b", "c"]) fun _ _ _ _ _ _ us hl => match us, hl with | [_, _, _], _ => rfl
      g_is_right := PySem.W.mg_of X G a_is_right
      F_new_store := F_new_store
      b_new_store := F_new_store.binds (ps := ["a", "c", "round_drum", "near", "short"]) fun _ _ _ _ _ _ us hl => match us, hl with | [_, _, _, _, _], _ => rfl
      g_new_store := PySem.W.mg_of X G a_new_store
      F_Ref_init := F_Ref_init
      b_Ref_init := F_Ref_init.binds (ps := ["self", "refusal"]) fun _ _ _ _ _ _ us hl => match us, hl with | [_, _], _ => rfl
      F_ask := F_ask
      b_ask := F_ask.binds (ps := ["good", "refusal"]) fun _ _ _ _ _ _ us hl => match us, hl with | [_, _], _ => rfl
      g_ask := PySem.W.mg_of X G a_ask
      F_ask_range := F_ask_range
      b_ask_range := F_ask_range.binds (ps := ["number", "least", "most"]) fun _ _ _ _ _ _ us hl => match us, hl with | [_, _, _], _ => rfl
      g_ask_range := PySem.W.mg_of X G a_ask_range
      F_Desk_init := F_Desk_init
      b_Desk_init := F_Desk_init.binds (ps := ["self"]) fun _ _ _ _ _ _ us hl => match us, hl with | [_], _ => rfl
      F_begin := F_begin
      b_begin := F_begin.binds (ps := ["self", "numbers"]) fun _ _ _ _ _ _ us hl => match us, hl with | [_, _], _ => rfl
      m_begin := ⟨a_begin, i_begin, F_begin.kp⟩
      F_roll_at := F_roll_at
      b_roll_at := F_roll_at.binds (ps := ["self", "r"]) fun _ _ _ _ _ _ us hl => match us, hl with | [_, _], _ => rfl
      m_roll_at := ⟨a_roll_at, i_roll_at, F_roll_at.kp⟩
      F_ply_at := F_ply_at
      b_ply_at := F_ply_at.binds (ps := ["self", "p"]) fun _ _ _ _ _ _ us hl => match us, hl with | [_, _], _ => rfl
      m_ply_at := ⟨a_ply_at, i_ply_at, F_ply_at.kp⟩
      F_ask_turn := F_ask_turn
      b_ask_turn := F_ask_turn.binds (ps := ["self", "turn"]) fun _ _ _ _ _ _ us hl => match us, hl with | [_, _], _ => rfl
      m_ask_turn := ⟨a_ask_turn, i_ask_turn, F_ask_turn.kp⟩
      F_put_roll := F_put_roll
      b_put_roll := F_put_roll.binds (ps := ["self", "wide", "long"]) fun _ _ _ _ _ _ us hl => match us, hl with | [_, _, _], _ => rfl
      m_put_roll := ⟨a_put_roll, i_put_roll, F_put_roll.kp⟩
      F_pieces_of := F_pieces_of
      b_pieces_of := F_pieces_of.binds (ps := ["self", "wide"]) fun _ _ _ _ _ _ us hl => match us, hl with | [_, _], _ => rfl
      m_pieces_of := ⟨a_pieces_of, i_pieces_of, F_pieces_of.kp⟩
      F_put_ply := F_put_ply
      b_put_ply := F_put_ply.binds (ps := ["self", "r", "wide"]) fun _ _ _ _ _ _ us hl => match us, hl with | [_, _, _], _ => rfl
      m_put_ply := ⟨a_put_ply, i_put_ply, F_put_ply.kp⟩
      F_lay := F_lay
      b_lay := F_lay.binds (ps := ["self", "p", "turn"]) fun _ _ _ _ _ _ us hl => match us, hl with | [_, _, _], _ => rfl
      m_lay := ⟨a_lay, i_lay, F_lay.kp⟩
      F_lift := F_lift
      b_lift := F_lift.binds (ps := ["self", "p"]) fun _ _ _ _ _ _ us hl => match us, hl with | [_, _], _ => rfl
      m_lift := ⟨a_lift, i_lift, F_lift.kp⟩
      F_row := F_row
      b_row := F_row.binds (ps := ["self", "plies"]) fun _ _ _ _ _ _ us hl => match us, hl with | [_, _], _ => rfl
      m_row := ⟨a_row, i_row, F_row.kp⟩
      F_lift_all := F_lift_all
      b_lift_all := F_lift_all.binds (ps := ["self", "plies"]) fun _ _ _ _ _ _ us hl => match us, hl with | [_, _], _ => rfl
      m_lift_all := ⟨a_lift_all, i_lift_all, F_lift_all.kp⟩
      F_least := F_least
      b_least := F_least.binds (ps := ["self", "p"]) fun _ _ _ _ _ _ us hl => match us, hl with | [_, _], _ => rfl
      m_least := ⟨a_least, i_least, F_least.kp⟩
      F_best := F_best
      b_best := F_best.binds (ps := ["self", "p"]) fun _ _ _ _ _ _ us hl => match us, hl with | [_, _], _ => rfl
      m_best := ⟨a_best, i_best, F_best.kp⟩
      F_fits := F_fits
      b_fits := F_fits.binds (ps := ["self", "p", "turn"]) fun _ _ _ _ _ _ us hl => match us, hl with | [_, _, _], _ => rfl
      m_fits := ⟨a_fits, i_fits, F_fits.kp⟩
      F_near_two := F_near_two
      b_near_two := F_near_two.binds (ps := ["self", "p", "q"]) fun _ _ _ _ _ _ us hl => match us, hl with | [_, _, _], _ => rfl
      m_near_two := ⟨a_near_two, i_near_two, F_near_two.kp⟩
      F_where_ := F_where_
      b_where_ := F_where_.binds (ps := ["self", "p"]) fun _ _ _ _ _ _ us hl => match us, hl with | [_, _], _ => rfl
      m_where_ := ⟨a_where_, i_where_, F_where_.kp⟩
      F_at_place := F_at_place
      b_at_place := F_at_place.binds (ps := ["self", "place", "far"]) fun _ _ _ _ _ _ us hl => match us, hl with | [_, _, _], _ => rfl
      m_at_place := ⟨a_at_place, i_at_place, F_at_place.kp⟩
      F_most := F_most
      b_most := F_most.binds (ps := ["self", "r", "wide"]) fun _ _ _ _ _ _ us hl => match us, hl with | [_, _, _], _ => rfl
      m_most := ⟨a_most, i_most, F_most.kp⟩
      F_piece := F_piece
      b_piece := F_piece.binds (ps := ["self", "wide"]) fun _ _ _ _ _ _ us hl => match us, hl with | [_, _], _ => rfl
      m_piece := ⟨a_piece, i_piece, F_piece.kp⟩
      F_look := F_look
      b_look := F_look.binds (ps := ["self", "p"]) fun _ _ _ _ _ _ us hl => match us, hl with | [_, _], _ => rfl
      m_look := ⟨a_look, i_look, F_look.kp⟩
      F_rest := F_rest
      b_rest := F_rest.binds (ps := ["self", "r"]) fun _ _ _ _ _ _ us hl => match us, hl with | [_, _], _ => rfl
      m_rest := ⟨a_rest, i_rest, F_rest.kp⟩
      F_sums := F_sums
      b_sums := F_sums.binds (ps := ["self"]) fun _ _ _ _ _ _ us hl => match us, hl with | [_], _ => rfl
      m_sums := ⟨a_sums, i_sums, F_sums.kp⟩
      F_state := F_state
      b_state := F_state.binds (ps := ["self"]) fun _ _ _ _ _ _ us hl => match us, hl with | [_], _ => rfl
      m_state := ⟨a_state, i_state, F_state.kp⟩
      F_of_ply := F_of_ply
      b_of_ply := F_of_ply.binds (ps := ["self", "call", "numbers"]) fun _ _ _ _ _ _ us hl => match us, hl with | [_, _, _], _ => rfl
      m_of_ply := ⟨a_of_ply, i_of_ply, F_of_ply.kp⟩
      F_of_roll := F_of_roll
      b_of_roll := F_of_roll.binds (ps := ["self", "call", "numbers"]) fun _ _ _ _ _ _ us hl => match us, hl with | [_, _, _], _ => rfl
      m_of_roll := ⟨a_of_roll, i_of_roll, F_of_roll.kp⟩
      F_answer := F_answer
      b_answer := F_answer.binds (ps := ["self", "call", "numbers", "plies"]) fun _ _ _ _ _ _ us hl => match us, hl with | [_, _, _, _], _ => rfl
      m_answer := ⟨a_answer, i_answer, F_answer.kp⟩
      F_answered := F_answered
      b_answered := F_answered.binds (ps := ["desk", "call", "numbers", "plies"]) fun _ _ _ _ _ _ us hl => match us, hl with | [_, _, _, _], _ => rfl
      g_answered := PySem.W.mg_of X G a_answered
      F_answers := F_answers
      b_answers := F_answers.binds (ps := ["calls"]) fun _ _ _ _ _ _ us hl => match us, hl with | [_], _ => rfl
      g_answers := PySem.W.mg_of X G a_answers
      cl_Slant := ⟨pg_Slant, hd_Slant, po_Slant, sa_Slant⟩
      mk_Slant := ⟨mk_Slant, a_Slant_init, i_Slant_init, kc_Slant⟩
      g_Slant := PySem.W.mg_of X G gC_Slant
      n_Slant_a := n_Slant_a
      n_Slant_c := n_Slant_c
      n_Slant_round_drum := n_Slant_round_drum
      n_Slant_short := n_Slant_short
      cl_Roll := ⟨pg_Roll, hd_Roll, po_Roll, sa_Roll⟩
      mk_Roll := ⟨mk_Roll, a_Roll_init, i_Roll_init, kc_Roll⟩
      g_Roll := PySem.W.mg_of X G gC_Roll
      n_Roll_wide := n_Roll_wide
      n_Roll_long := n_Roll_long
      n_Roll_left := n_Roll_left
      cl_Ply := ⟨pg_Ply, hd_Ply, po_Ply, sa_Ply⟩
      mk_Ply := ⟨mk_Ply, a_Ply_init, i_Ply_init, kc_Ply⟩
      g_Ply := PySem.W.mg_of X G gC_Ply
      n_Ply_roll := n_Ply_roll
      n_Ply_wide := n_Ply_wide
      n_Ply_splices := n_Ply_splices
      n_Ply_turn := n_Ply_turn
      cl_Store := ⟨pg_Store, hd_Store, po_Store, sa_Store⟩
      mk_Store := ⟨mk_Store, a_Store_init, i_Store_init, kc_Store⟩
      g_Store := PySem.W.mg_of X G gC_Store
      n_Store_slant := n_Store_slant
      n_Store_near := n_Store_near
      n_Store_rolls := n_Store_rolls
      n_Store_plies := n_Store_plies
      cl_Desk := ⟨pg_Desk, hd_Desk, po_Desk, sa_Desk⟩
      mk_Desk := ⟨mk_Desk, a_Desk_init, i_Desk_init, kc_Desk⟩
      g_Desk := PySem.W.mg_of X G gC_Desk
      n_Desk_store := n_Desk_store
      ox := ⟨⟨_, _, _, _, _, _, _, _, _, _, _, _, _, _, _, xL, by decide +kernel⟩, sa_Ref, eC_Ref, tC_Ref, kc_Ref⟩
      xf := ⟨ga_Ref, gg_Ref, eC_Ref, hC_Ref⟩
      nx := nx_Ref
      iC := a_Ref_init
      tI := i_Ref_init
      gC := PySem.W.mg_of X G gC_Ref
      te := exm_own eC_Ref iC_Ref tC_Ref sC_Ref
      k_GREATEST_SIDE := ⟨_, PySem.W.mg_of X G k_GREATEST_SIDE⟩
      k_LEAST_ROUND := ⟨_, PySem.W.mg_of X G k_LEAST_ROUND⟩
      k_MOST_ROUND := ⟨_, PySem.W.mg_of X G k_MOST_ROUND⟩
      k_MOST_NEAR := ⟨_, PySem.W.mg_of X G k_MOST_NEAR⟩
      k_MOST_SHORT := ⟨_, PySem.W.mg_of X G k_MOST_SHORT⟩
      k_LEAST_ROLL := ⟨_, PySem.W.mg_of X G k_LEAST_ROLL⟩
      k_WIDEST := ⟨_, PySem.W.mg_of X G k_WIDEST⟩
      k_LONGEST := ⟨_, PySem.W.mg_of X G k_LONGEST⟩
      k_MOST_ROLLS := ⟨_, PySem.W.mg_of X G k_MOST_ROLLS⟩
      k_MOST_PLIES := ⟨_, PySem.W.mg_of X G k_MOST_PLIES⟩
      k_NONE_SUCH := ⟨_, PySem.W.mg_of X G k_NONE_SUCH⟩
      k_NOT_LAID := ⟨_, PySem.W.mg_of X G k_NOT_LAID⟩
      k_NOT_BEGUN := ⟨_, PySem.W.mg_of X G k_NOT_BEGUN⟩
      k_TOO_LITTLE := ⟨_, PySem.W.mg_of X G k_TOO_LITTLE⟩
      k_ALREADY := ⟨_, PySem.W.mg_of X G k_ALREADY⟩
      k_OUT_OF_RANGE := ⟨_, PySem.W.mg_of X G k_OUT_OF_RANGE⟩
      k_TOO_MANY := ⟨_, PySem.W.mg_of X G k_TOO_MANY⟩
      k_CANNOT := ⟨_, PySem.W.mg_of X G k_CANNOT⟩
      k_TOO_NEAR := ⟨_, PySem.W.mg_of X G k_TOO_NEAR⟩
      k_ROW := ⟨_, PySem.W.mg_of X G k_ROW⟩
      many := ⟨mp, PySem.W.mg_of X G aM, fun H => by
        obtain ⟨h1, its, n, h2, h3, h4⟩ := oM_
        exact .inr ⟨oM, its, n, lM, h1, h2, Nat.le_trans h3 (by decide), h4⟩⟩
      z_len := PySem.W.mg_none_of X G z_len
      z_min := PySem.W.mg_none_of X G z_min
      z_range := PySem.W.mg_none_of X G z_range
      z_enumerate := PySem.W.mg_none_of X G z_enumerate
      z_set := PySem.W.mg_none_of X G z_set
      z_int := PySem.W.mg_none_of X G z_int
      z_list := PySem.W.mg_none_of X G z_list
      z_sum := PySem.W.mg_none_of X G z_sum }
  obtain ⟨oc, od, kV, doc, pm, an, cdv, ct, osl, e2, lk, hcd⟩ := F_answers.ex
  exact ⟨e_answers, fun s us hu => match us, hu with | [_], _ => by rw [e2]; exact .of_eq rfl, fun base _ _ => ok_answers T⟩
end Bp
open PySem PySem.W PyProof.Rows
set_option maxRecDepth 100000 in
set_option maxHeartbeats 8000000 in
theorem PySem.Challenge.cw_biasplies_s01_answers_holds : PySem.Challenge.rw_biasplies_s01_answers.Holds := by
  w_on; k_headS; (case hw => exact ⟨[.list [.int 19]], by decide +kernel, by decide +kernel⟩)
  k_fillS
  refine L2.walk_specK (r := PySem.Challenge.rw_biasplies_s01_answers) (k := 9) (CX := L2.CX0) (ps := ["calls"]) (sp := Bp.spAnswers) (by decide +kernel) rfl rfl ⟨rfl, by decide, by decide⟩ (fun w h Y => PySem.W.kIn_of Y) ?F ?S (fun _ _ _ _ z => z)
  case F =>
    intro w mg fa h Y KX G hmg
    refine' Bp.all_mk KX G hmg ?gC_Slant ?pg_Slant ?hd_Slant ?po_Slant ?sa_Slant ?mk_Slant ?kc_Slant ?n_Slant_a ?n_Slant_c ?n_Slant_round_drum ?n_Slant_short ?gC_Roll ?pg_Roll ?hd_Roll ?po_Roll ?sa_Roll ?mk_Roll ?kc_Roll ?n_Roll_wide ?n_Roll_long ?n_Roll_left ?gC_Ply ?pg_Ply ?hd_Ply ?po_Ply ?sa_Ply ?mk_Ply ?kc_Ply ?n_Ply_roll ?n_Ply_wide ?n_Ply_splices ?n_Ply_turn ?gC_Store ?pg_Store ?hd_Store ?po_Store ?sa_Store ?mk_Store ?kc_Store ?n_Store_slant ?n_Store_near ?n_Store_rolls ?n_Store_plies ?gC_Desk ?pg_Desk ?hd_Desk ?po_Desk ?sa_Desk ?mk_Desk ?kc_Desk ?n_Desk_store ?gC_Ref ?xL ?sa_Ref ?ga_Ref ?gg_Ref ?nx_Ref ?kc_Ref ?eC_Ref ?tC_Ref ?hC_Ref ?iC_Ref ?sC_Ref ?a_apart ?d_apart ?a_with_turn ?d_with_turn ?a_nearness ?d_nearness ?a_nearest ?d_nearest ?a_least_turn ?d_least_turn ?a_best_turn ?d_best_turn ?a_Slant_init ?i_Slant_init ?d_Slant_init ?a_cover ?i_cover ?d_cover ?a_takes ?i_takes ?d_takes ?a_pieces ?i_pieces ?d_pieces ?a_begins ?d_begins ?a_Roll_init ?i_Roll_init ?d_Roll_init ?a_Ply_init ?i_Ply_init ?d_Ply_init ?a_is_laid ?i_is_laid ?d_is_laid ?a_Store_init ?i_Store_init ?d_Store_init ?a_drum_size ?i_drum_size ?d_drum_size ?a_laid ?i_laid ?d_laid ?a_places ?i_places ?d_places ?a_near_others ?i_near_others ?d_near_others ?a_between ?i_between ?d_between ?a_nearest_of_all ?i_nearest_of_all ?d_nearest_of_all ?a_cut ?i_cut ?d_cut ?a_is_right ?d_is_right ?a_new_store ?d_new_store ?a_Ref_init ?i_Ref_init ?d_Ref_init ?a_ask ?d_ask ?a_ask_range ?d_ask_range ?a_Desk_init ?i_Desk_init ?d_Desk_init ?a_begin ?i_begin ?d_begin ?a_roll_at ?i_roll_at ?d_roll_at ?a_ply_at ?i_ply_at ?d_ply_at ?a_ask_turn ?i_ask_turn ?d_ask_turn ?a_put_roll ?i_put_roll ?d_put_roll ?a_pieces_of ?i_pieces_of ?d_pieces_of ?a_put_ply ?i_put_ply ?d_put_ply ?a_lay ?i_lay ?d_lay ?a_lift ?i_lift ?d_lift ?a_row ?i_row ?d_row ?a_lift_all ?i_lift_all ?d_lift_all ?a_least ?i_least ?d_least ?a_best ?i_best ?d_best ?a_fits ?i_fits ?d_fits ?a_near_two ?i_near_two ?d_near_two ?a_where_ ?i_where_ ?d_where_ ?a_at_place ?i_at_place ?d_at_place ?a_most ?i_most ?d_most ?a_piece ?i_piece ?d_piece ?a_look ?i_look ?d_look ?a_rest ?i_rest ?d_rest ?a_sums ?i_sums ?d_sums ?a_state ?i_state ?d_state ?a_of_ply ?i_of_ply ?d_of_ply ?a_of_roll ?i_of_roll ?d_of_roll ?a_answer ?i_answer ?d_answer ?a_answered ?d_answered ?a_answers ?d_answers ?k_GREATEST_SIDE ?k_LEAST_ROUND ?k_MOST_ROUND ?k_MOST_NEAR ?k_MOST_SHORT ?k_LEAST_ROLL ?k_WIDEST ?k_LONGEST ?k_MOST_ROLLS ?k_MOST_PLIES ?k_NONE_SUCH ?k_NOT_LAID ?k_NOT_BEGUN ?k_TOO_LITTLE ?k_ALREADY ?k_OUT_OF_RANGE ?k_TOO_MANY ?k_CANNOT ?k_TOO_NEAR ?k_ROW ?aM ?lM ?oM_ ?z_len ?z_min ?z_range ?z_enumerate ?z_set ?z_int ?z_list ?z_sum
    (case gC_Slant => k_is)
    (case pg_Slant => k_is)
    (case hd_Slant => k_is)
    (case po_Slant => k_is)
    (case sa_Slant => k_is)
    (case mk_Slant => k_is)
    (case kc_Slant => k_is)
    (case n_Slant_a => k_is)
    (case n_Slant_c => k_is)
    (case n_Slant_round_drum => k_is)
    (case n_Slant_short => k_is)
    (case gC_Roll => k_is)
    (case pg_Roll => k_is)
    (case hd_Roll => k_is)
    (case po_Roll => k_is)
    (case sa_Roll => k_is)
    (case mk_Roll => k_is)
    (case kc_Roll => k_is)
    (case n_Roll_wide => k_is)
    (case n_Roll_long => k_is)
    (case n_Roll_left => k_is)
    (case gC_Ply => k_is)
    (case pg_Ply => k_is)
    (case hd_Ply => k_is)
    (case po_Ply => k_is)
    (case sa_Ply => k_is)
    (case mk_Ply => k_is)
    (case kc_Ply => k_is)
    (case n_Ply_roll => k_is)
    (case n_Ply_wide => k_is)
    (case n_Ply_splices => k_is)
    (case n_Ply_turn => k_is)
    (case gC_Store => k_is)
    (case pg_Store => k_is)
    (case hd_Store => k_is)
    (case po_Store => k_is)
    (case sa_Store => k_is)
    (case mk_Store => k_is)
    (case kc_Store => k_is)
    (case n_Store_slant => k_is)
    (case n_Store_near => k_is)
    (case n_Store_rolls => k_is)
    (case n_Store_plies => k_is)
    (case gC_Desk => k_is)
    (case pg_Desk => k_is)
    (case hd_Desk => k_is)
    (case po_Desk => k_is)
    (case sa_Desk => k_is)
    (case mk_Desk => k_is)
    (case kc_Desk => k_is)
    (case n_Desk_store => k_is)
    (case gC_Ref => k_is)
    (case xL => k_is)
    (case sa_Ref => k_is)
    (case ga_Ref => k_is)
    (case gg_Ref => k_is)
    (case nx_Ref => k_is)
    (case kc_Ref => k_is)
    (case eC_Ref => k_is)
    (case tC_Ref => k_is)
    (case hC_Ref => k_is)
    (case iC_Ref => k_is)
    (case sC_Ref => first | rfl | k_is)
    (case a_apart => k_is)
    (case d_apart => exact ⟨_, L2.fun_mk (by k_is) (by k_is) (by k_is)⟩)
    (case a_with_turn => k_is)
    (case d_with_turn => exact ⟨_, L2.fun_mk (by k_is) (by k_is) (by k_is)⟩)
    (case a_nearness => k_is)
    (case d_nearness => exact ⟨_, L2.fun_mk (by k_is) (by k_is) (by k_is)⟩)
    (case a_nearest => k_is)
    (case d_nearest => exact ⟨_, L2.fun_mk (by k_is) (by k_is) (by k_is)⟩)
    (case a_least_turn => k_is)
    (case d_least_turn => exact ⟨_, L2.fun_mk (by k_is) (by k_is) (by k_is)⟩)
    (case a_best_turn => k_is)
    (case d_best_turn => exact ⟨_, L2.fun_mk (by k_is) (by k_is) (by k_is)⟩)
    (case a_Slant_init => k_is)
    (case i_Slant_init => k_is)
    (case d_Slant_init => exact ⟨_, L2.fun_mk (by k_is) (by k_is) (by k_is)⟩)
    (case a_cover => k_is)
    (case i_cover => k_is)
    (case d_cover => exact ⟨_, L2.fun_mk (by k_is) (by k_is) (by k_is)⟩)
    (case a_takes => k_is)
    (case i_takes => k_is)
    (case d_takes => exact ⟨_, L2.fun_mk (by k_is) (by k_is) (by k_is)⟩)
    (case a_pieces => k_is)
    (case i_pieces => k_is)
    (case d_pieces => exact ⟨_, L2.fun_mk (by k_is) (by k_is) (by k_is)⟩)
    (case a_begins => k_is)
    (case d_begins => exact ⟨_, L2.fun_mk (by k_is) (by k_is) (by k_is)⟩)
    (case a_Roll_init => k_is)
    (case i_Roll_init => k_is)
    (case d_Roll_init => exact ⟨_, L2.fun_mk (by k_is) (by k_is) (by k_is)⟩)
    (case a_Ply_init => k_is)
    (case i_Ply_init => k_is)
    (case d_Ply_init => exact ⟨_, L2.fun_mk (by k_is) (by k_is) (by k_is)⟩)
    (case a_is_laid => k_is)
    (case i_is_laid => k_is)
    (case d_is_laid => exact ⟨_, L2.fun_mk (by k_is) (by k_is) (by k_is)⟩)
    (case a_Store_init => k_is)
    (case i_Store_init => k_is)
    (case d_Store_init => exact ⟨_, L2.fun_mk (by k_is) (by k_is) (by k_is)⟩)
    (case a_drum_size => k_is)
    (case i_drum_size => k_is)
    (case d_drum_size => exact ⟨_, L2.fun_mk (by k_is) (by k_is) (by k_is)⟩)
    (case a_laid => k_is)
    (case i_laid => k_is)
    (case d_laid => exact ⟨_, L2.fun_mk (by k_is) (by k_is) (by k_is)⟩)
    (case a_places => k_is)
    (case i_places => k_is)
    (case d_places => exact ⟨_, L2.fun_mk (by k_is) (by k_is) (by k_is)⟩)
    (case a_near_others => k_is)
    (case i_near_others => k_is)
    (case d_near_others => exact ⟨_, L2.fun_mk (by k_is) (by k_is) (by k_is)⟩)
    (case a_between => k_is)
    (case i_between => k_is)
    (case d_between => exact ⟨_, L2.fun_mk (by k_is) (by k_is) (by k_is)⟩)
    (case a_nearest_of_all => k_is)
    (case i_nearest_of_all => k_is)
    (case d_nearest_of_all => exact ⟨_, L2.fun_mk (by k_is) (by k_is) (by k_is)⟩)
    (case a_cut => k_is)
    (case i_cut => k_is)
    (case d_cut => exact ⟨_, L2.fun_mk (by k_is) (by k_is) (by k_is)⟩)
    (case a_is_right => k_is)
    (case d_is_right => exact ⟨_, L2.fun_mk (by k_is) (by k_is) (by k_is)⟩)
    (case a_new_store => k_is)
    (case d_new_store => exact ⟨_, L2.fun_mk (by k_is) (by k_is) (by k_is)⟩)
    (case a_Ref_init => k_is)
    (case i_Ref_init => k_is)
    (case d_Ref_init => exact ⟨_, L2.fun_mk (by k_is) (by k_is) (by k_is)⟩)
    (case a_ask => k_is)
    (case d_ask => exact ⟨_, L2.fun_mk (by k_is) (by k_is) (by k_is)⟩)
    (case a_ask_range => k_is)
    (case d_ask_range => exact ⟨_, L2.fun_mk (by k_is) (by k_is) (by k_is)⟩)
    (case a_Desk_init => k_is)
    (case i_Desk_init => k_is)
    (case d_Desk_init => exact ⟨_, L2.fun_mk (by k_is) (by k_is) (by k_is)⟩)
    (case a_begin => k_is)
    (case i_begin => k_is)
    (case d_begin => exact ⟨_, L2.fun_mk (by k_is) (by k_is) (by k_is)⟩)
    (case a_roll_at => k_is)
    (case i_roll_at => k_is)
    (case d_roll_at => exact ⟨_, L2.fun_mk (by k_is) (by k_is) (by k_is)⟩)
    (case a_ply_at => k_is)
    (case i_ply_at => k_is)
    (case d_ply_at => exact ⟨_, L2.fun_mk (by k_is) (by k_is) (by k_is)⟩)
    (case a_ask_turn => k_is)
    (case i_ask_turn => k_is)
    (case d_ask_turn => exact ⟨_, L2.fun_mk (by k_is) (by k_is) (by k_is)⟩)
    (case a_put_roll => k_is)
    (case i_put_roll => k_is)
    (case d_put_roll => exact ⟨_, L2.fun_mk (by k_is) (by k_is) (by k_is)⟩)
    (case a_pieces_of => k_is)
    (case i_pieces_of => k_is)
    (case d_pieces_of => exact ⟨_, L2.fun_mk (by k_is) (by k_is) (by k_is)⟩)
    (case a_put_ply => k_is)
    (case i_put_ply => k_is)
    (case d_put_ply => exact ⟨_, L2.fun_mk (by k_is) (by k_is) (by k_is)⟩)
    (case a_lay => k_is)
    (case i_lay => k_is)
    (case d_lay => exact ⟨_, L2.fun_mk (by k_is) (by k_is) (by k_is)⟩)
    (case a_lift => k_is)
    (case i_lift => k_is)
    (case d_lift => exact ⟨_, L2.fun_mk (by k_is) (by k_is) (by k_is)⟩)
    (case a_row => k_is)
    (case i_row => k_is)
    (case d_row => exact ⟨_, L2.fun_mk (by k_is) (by k_is) (by k_is)⟩)
    (case a_lift_all => k_is)
    (case i_lift_all => k_is)
    (case d_lift_all => exact ⟨_, L2.fun_mk (by k_is) (by k_is) (by k_is)⟩)
    (case a_least => k_is)
    (case i_least => k_is)
    (case d_least => exact ⟨_, L2.fun_mk (by k_is) (by k_is) (by k_is)⟩)
    (case a_best => k_is)
    (case i_best => k_is)
    (case d_best => exact ⟨_, L2.fun_mk (by k_is) (by k_is) (by k_is)⟩)
    (case a_fits => k_is)
    (case i_fits => k_is)
    (case d_fits => exact ⟨_, L2.fun_mk (by k_is) (by k_is) (by k_is)⟩)
    (case a_near_two => k_is)
    (case i_near_two => k_is)
    (case d_near_two => exact ⟨_, L2.fun_mk (by k_is) (by k_is) (by k_is)⟩)
    (case a_where_ => k_is)
    (case i_where_ => k_is)
    (case d_where_ => exact ⟨_, L2.fun_mk (by k_is) (by k_is) (by k_is)⟩)
    (case a_at_place => k_is)
    (case i_at_place => k_is)
    (case d_at_place => exact ⟨_, L2.fun_mk (by k_is) (by k_is) (by k_is)⟩)
    (case a_most => k_is)
    (case i_most => k_is)
    (case d_most => exact ⟨_, L2.fun_mk (by k_is) (by k_is) (by k_is)⟩)
    (case a_piece => k_is)
    (case i_piece => k_is)
    (case d_piece => exact ⟨_, L2.fun_mk (by k_is) (by k_is) (by k_is)⟩)
    (case a_look => k_is)
    (case i_look => k_is)
    (case d_look => exact ⟨_, L2.fun_mk (by k_is) (by k_is) (by k_is)⟩)
    (case a_rest => k_is)
    (case i_rest => k_is)
    (case d_rest => exact ⟨_, L2.fun_mk (by k_is) (by k_is) (by k_is)⟩)
    (case a_sums => k_is)
    (case i_sums => k_is)
    (case d_sums => exact ⟨_, L2.fun_mk (by k_is) (by k_is) (by k_is)⟩)
    (case a_state => k_is)
    (case i_state => k_is)
    (case d_state => exact ⟨_, L2.fun_mk (by k_is) (by k_is) (by k_is)⟩)
    (case a_of_ply => k_is)
    (case i_of_ply => k_is)
    (case d_of_ply => exact ⟨_, L2.fun_mk (by k_is) (by k_is) (by k_is)⟩)
    (case a_of_roll => k_is)
    (case i_of_roll => k_is)
    (case d_of_roll => exact ⟨_, L2.fun_mk (by k_is) (by k_is) (by k_is)⟩)
    (case a_answer => k_is)
    (case i_answer => k_is)
    (case d_answer => exact ⟨_, L2.fun_mk (by k_is) (by k_is) (by k_is)⟩)
    (case a_answered => k_is)
    (case d_answered => exact ⟨_, L2.fun_mk (by k_is) (by k_is) (by k_is)⟩)
    (case a_answers => k_is)
    (case d_answers => exact ⟨_, L2.fun_mk (by k_is) (by k_is) (by k_is)⟩)
    (case k_GREATEST_SIDE => k_is)
    (case k_LEAST_ROUND => k_is)
    (case k_MOST_ROUND => k_is)
    (case k_MOST_NEAR => k_is)
    (case k_MOST_SHORT => k_is)
    (case k_LEAST_ROLL => k_is)
    (case k_WIDEST => k_is)
    (case k_LONGEST => k_is)
    (case k_MOST_ROLLS => k_is)
    (case k_MOST_PLIES => k_is)
    (case k_NONE_SUCH => k_is)
    (case k_NOT_LAID => k_is)
    (case k_NOT_BEGUN => k_is)
    (case k_TOO_LITTLE => k_is)
    (case k_ALREADY => k_is)
    (case k_OUT_OF_RANGE => k_is)
    (case k_TOO_MANY => k_is)
    (case k_CANNOT => k_is)
    (case k_TOO_NEAR => k_is)
    (case k_ROW => k_is)
    (case aM => k_is)
    (case lM => k_is)
    (case oM_ => exact ⟨rfl, _, _, rfl, by decide, .cons ⟨_, rfl⟩ (.cons ⟨_, rfl⟩ (.cons ⟨_, rfl⟩ (.cons ⟨_, rfl⟩ (.cons ⟨_, rfl⟩ (.cons ⟨_, rfl⟩ (.cons ⟨_, rfl⟩ (.cons ⟨_, rfl⟩ (.cons ⟨_, rfl⟩ (.cons ⟨_, rfl⟩ (.cons ⟨_, rfl⟩ (.cons ⟨_, rfl⟩ (.cons ⟨_, rfl⟩ (.cons ⟨_, rfl⟩ (.cons ⟨_, rfl⟩ (.cons ⟨_, rfl⟩ (.cons ⟨_, rfl⟩ (.cons ⟨_, rfl⟩ (.cons ⟨_, rfl⟩ (.cons ⟨_, rfl⟩ (.nil))))))))))))))))))))⟩)
    (case z_len => k_is)
    (case z_min => k_is)
    (case z_range => k_is)
    (case z_enumerate => k_is)
    (case z_set => k_is)
    (case z_int => k_is)
    (case z_list => k_is)
    (case z_sum => k_is)
  case S =>
    intro K H xs a hO hwi hask hx
    cases hx with
    | cons h1 h2 =>
      cases h2
      cases h1 with
      | lst hs ha =>
        have e := L2.ints_dw a.1 _ ha
        subst e
        have q : ((Codec.inLen 0 31000 a.1 && a.1.all (Codec.inInt 0 4294967295)) && true) = true := hwi
        rw [Bool.and_eq_true, Bool.and_eq_true] at q
        have hlen := (Codec.inNat_iff.mp q.1.1).2
        obtain ⟨ns, cs, e1, hP, hl, ho⟩ := Bp.asked_of (l := a.1) hask
        have e2 : a.1.map L2.V.int = Bp.nums ns := by rw [e1, Bp.nums_int]; rfl
        rw [e2] at hs
        have hlen2 : ns.length = a.1.length := by rw [e1]; exact (List.length_map _).symm
        refine ⟨_, ns, cs, rfl, hs, hP, hl, by omega, fun H' p hp => ?_⟩
        rw [← ho] at hp
        exact .lst (L2.SqL.of hp) (L2.dw_ints _)
#print axioms PySem.Challenge.cw_biasplies_s01_answers_holds

